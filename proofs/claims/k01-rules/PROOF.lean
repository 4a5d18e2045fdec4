import PyProof.Rows.All
import Wide.All
import OpenK.AllK
import Wide.FinOn
import PySem.PyData
import KE.DataEq
import PyProof.ReprReads
import HandS.ForMost
import HandS.ForExc
import HandS.Wide
import HandS.IsInst
import HandS.Flow
import HandS.TupAny
import HandS.Style
import HandS.Conv
import HandS.SortInts
import HandS.RaiseMore
import PyProof.ReprRoads
import HandS.Ends
import HandS.TupMul
import HandS.TryOnly
import HandS.Zip
import HandS.Iter
import HandS.More
import HandS.WideBits
import KE.KDictPairs
import HandS.SetBool
import HandS.Strs
import HandS.Zip0
import PyProof.ReprBulk
import PyProof.FitsInt
import HandS.Codes
import PySem.Challenge.RW_nearadds_k01_rules_put_together
set_option Elab.async false
section
set_option linter.all false
set_option autoImplicit true
/-! A small functional semantics over data, without a heap. -/
namespace MP
open PySem

abbrev D := PyData

/-- what a mutable object holds -/
inductive Cell where
  | lst (xs : List D)
  | dct (kvs : List (D × D))

/-- what a slot holds, what an expression gives: data that never changes; an object of its own (in a slot: only that slot knows it; as a result: new); a parameter that the caller owns; the object of a slot; an error; a def -/
inductive SV where
  | d (x : D)
  | own (c : Cell)
  | ref (c : Cell)
  | pk (i : Nat)
  | exc (c : Str) (x : D)
  | fn (n : Str)

abbrev En := List (Option SV)

inductive Out (α : Type) where
  | ok (a : α) (ρ : En)
  | raise (c : Str) (x : D) (ρ : En)
  | stuck

def Out.bind {α β : Type} (o : Out α) (f : α → En → Out β) : Out β :=
  match o with
  | .ok a ρ => f a ρ
  | .raise c x ρ => .raise c x ρ
  | .stuck => .stuck
@[simp] theorem Out.bind_ok {α β : Type} {a : α} {ρ : En} {f : α → En → Out β} : (Out.ok a ρ).bind f = f a ρ := rfl
@[simp] theorem Out.bind_raise {α β : Type} {c : Str} {x : D} {ρ : En} {f : α → En → Out β} : (Out.raise c x ρ : Out α).bind f = .raise c x ρ := rfl
@[simp] theorem Out.bind_stuck {α β : Type} {f : α → En → Out β} : (Out.stuck : Out α).bind f = .stuck := rfl

abbrev ME := En → Out SV
abbrev MT := En → Out Bool
abbrev MI := En → Out (List D)

def Cell.py : Cell → D
  | .lst xs => .list xs
  | .dct kvs => .dict kvs
@[simp] theorem Cell.py_lst {xs : List D} : (Cell.lst xs).py = .list xs := rfl
@[simp] theorem Cell.py_dct {xs : List (D × D)} : (Cell.dct xs).py = .dict xs := rfl

/-- the cell that a slot owns or borrows -/
def cellAt (ρ : En) (i : Nat) : Option Cell :=
  match ρ[i]? with
  | some (some (.own c)) => some c
  | some (some (.ref c)) => some c
  | _ => none
/-- as data to be kept -/
def toD : SV → Option D
  | .d x => some x
  | .own c => some c.py
  | _ => none
@[simp] theorem toD_d {x : D} : toD (.d x) = some x := rfl
@[simp] theorem toD_own {c : Cell} : toD (.own c) = some c.py := rfl
/-- as data to be looked at -/
def view (ρ : En) : SV → Option D
  | .d x => some x
  | .own c => some c.py
  | .pk i => (cellAt ρ i).map Cell.py
  | _ => none
@[simp] theorem view_d {ρ : En} {x : D} : view ρ (.d x) = some x := rfl
@[simp] theorem view_own {ρ : En} {c : Cell} : view ρ (.own c) = some c.py := rfl
@[simp] theorem view_pk {ρ : En} {i : Nat} : view ρ (.pk i) = (cellAt ρ i).map Cell.py := rfl

def opt {α : Type} (o : Option α) (ρ : En) : Out α :=
  match o with
  | some v => .ok v ρ
  | none => .stuck
@[simp] theorem opt_some {α : Type} {v : α} {ρ : En} : opt (some v) ρ = .ok v ρ := rfl
@[simp] theorem opt_none {α : Type} {ρ : En} : opt (none : Option α) ρ = .stuck := rfl

def viewB {β : Type} (ρ : En) (v : SV) (f : D → Out β) : Out β :=
  match view ρ v with
  | some x => f x
  | none => .stuck
def toB {β : Type} (v : SV) (f : D → Out β) : Out β :=
  match toD v with
  | some x => f x
  | none => .stuck
@[simp] theorem viewB_d {β : Type} {ρ : En} {x : D} {f : D → Out β} : viewB ρ (.d x) f = f x := rfl
@[simp] theorem viewB_own {β : Type} {ρ : En} {c : Cell} {f : D → Out β} : viewB ρ (.own c) f = f c.py := rfl
@[simp] theorem toB_d {β : Type} {x : D} {f : D → Out β} : toB (.d x) f = f x := rfl
@[simp] theorem toB_own {β : Type} {c : Cell} {f : D → Out β} : toB (.own c) f = f c.py := rfl

/-! ### expressions -/
def mC (x : D) : ME := fun ρ => .ok (.d x) ρ
def mV (i : Nat) : ME := fun ρ =>
  match ρ[i]? with
  | some (some (.d x)) => .ok (.d x) ρ
  | some (some (.own _)) => .ok (.pk i) ρ
  | some (some (.ref _)) => .ok (.pk i) ρ
  | some (some (.exc c x)) => .ok (.exc c x) ρ
  | some (some (.fn n)) => .ok (.fn n) ρ
  | _ => .stuck
/-- an operation upon one value, upon two -/
def m1 (f : D → Option SV) (a : ME) : ME := fun ρ => (a ρ).bind fun v ρ1 => viewB ρ1 v fun x => opt (f x) ρ1
def m2 (f : D → D → Option SV) (a b : ME) : ME := fun ρ => (a ρ).bind fun v ρ1 => (b ρ1).bind fun w ρ2 => viewB ρ2 v fun x => viewB ρ2 w fun y => opt (f x y) ρ2
def mArgs : List ME → En → Out (List SV)
  | [], ρ => .ok [] ρ
  | m :: ms, ρ => (m ρ).bind fun v ρ1 => (mArgs ms ρ1).bind fun vs ρ2 => .ok (v :: vs) ρ2
@[simp] theorem mArgs_nil {ρ : En} : mArgs [] ρ = .ok [] ρ := rfl
@[simp] theorem mArgs_cons {m : ME} {ms : List ME} {ρ : En} : mArgs (m :: ms) ρ = (m ρ).bind fun v ρ1 => (mArgs ms ρ1).bind fun vs ρ2 => .ok (v :: vs) ρ2 := rfl
def allD : List SV → Option (List D)
  | [] => some []
  | v :: vs => (toD v).bind fun x => (allD vs).map fun xs => x :: xs
@[simp] theorem allD_nil : allD [] = some [] := rfl
@[simp] theorem allD_cons {v : SV} {vs : List SV} : allD (v :: vs) = (toD v).bind fun x => (allD vs).map fun xs => x :: xs := rfl
def allV (ρ : En) : List SV → Option (List D)
  | [] => some []
  | v :: vs => (view ρ v).bind fun x => (allV ρ vs).map fun xs => x :: xs
@[simp] theorem allV_nil {ρ : En} : allV ρ [] = some [] := rfl
@[simp] theorem allV_cons {ρ : En} {v : SV} {vs : List SV} : allV ρ (v :: vs) = (view ρ v).bind fun x => (allV ρ vs).map fun xs => x :: xs := rfl
def mTup (ms : List ME) : ME := fun ρ => (mArgs ms ρ).bind fun vs ρ1 => opt ((allD vs).map fun xs => SV.d (.tuple xs)) ρ1
def mLst (ms : List ME) : ME := fun ρ => (mArgs ms ρ).bind fun vs ρ1 => opt ((allD vs).map fun xs => SV.own (.lst xs)) ρ1
/-- a built-in function of its arguments -/
def mB (f : List D → Option SV) (ms : List ME) : ME := fun ρ => (mArgs ms ρ).bind fun vs ρ1 => opt ((allV ρ1 vs).bind f) ρ1

/-! ### tests -/
def truth : D → Option Bool
  | .none => some false
  | .bool b => some b
  | .int i => some (i != 0)
  | .str x => if x.length ≤ 16777216 then some ((x.length : Int) != 0) else none
  | .list xs => some (!xs.isEmpty)
  | .tuple xs => some (!xs.isEmpty)
  | .dict _ => none
@[simp] theorem truth_bool {b : Bool} : truth (.bool b) = some b := rfl
@[simp] theorem truth_int {i : Int} : truth (.int i) = some (i != 0) := rfl
@[simp] theorem truth_list {xs : List D} : truth (.list xs) = some (!xs.isEmpty) := rfl
@[simp] theorem truth_tuple {xs : List D} : truth (.tuple xs) = some (!xs.isEmpty) := rfl
/-- an expression as a test -/
def mTr (a : ME) : MT := fun ρ => (a ρ).bind fun v ρ1 => viewB ρ1 v fun x => opt (truth x) ρ1
def kAnd (a b : MT) : MT := fun ρ => (a ρ).bind fun c ρ1 => if c = true then b ρ1 else .ok false ρ1
def kOr (a b : MT) : MT := fun ρ => (a ρ).bind fun c ρ1 => if c = true then .ok true ρ1 else b ρ1
def kNot (a : MT) : MT := fun ρ => (a ρ).bind fun c ρ1 => .ok (!c) ρ1
/-- tests as values; and, or of any values that are data -/
def mAnd (a b : ME) : ME := fun ρ => (a ρ).bind fun v ρ1 => toB v fun x => (opt (truth x) ρ1).bind fun c ρ2 => if c = true then b ρ2 else .ok (.d x) ρ2
def mOr (a b : ME) : ME := fun ρ => (a ρ).bind fun v ρ1 => toB v fun x => (opt (truth x) ρ1).bind fun c ρ2 => if c = true then .ok (.d x) ρ2 else b ρ2
def mNot (a : ME) : ME := fun ρ => (mTr a ρ).bind fun c ρ1 => .ok (.d (.bool (!c))) ρ1
def mIf (t : MT) (a b : ME) : ME := fun ρ => (t ρ).bind fun c ρ1 => if c = true then a ρ1 else b ρ1
/-- a < b < c -/
def boolOf : SV → Option Bool
  | .d (.bool b) => some b
  | _ => none
@[simp] theorem boolOf_d {b : Bool} : boolOf (.d (.bool b)) = some b := rfl
def mCh (f g : D → D → Option SV) (a b c : ME) : ME := fun ρ => (a ρ).bind fun u ρ1 => (b ρ1).bind fun v ρ2 => toB u fun x => toB v fun y => (opt ((f x y).bind boolOf) ρ2).bind fun k ρ3 =>
  if k = true then (c ρ3).bind fun w ρ4 => toB w fun z => opt (((g y z).bind boolOf).map fun q => SV.d (.bool q)) ρ4 else .ok (.d (.bool false)) ρ3

/-! ### targets -/
inductive Tg where
  | n (i : Nat)
  | t (ts : List Tg)
def free (ρ : En) (i : Nat) : Bool :=
  match ρ[i]? with
  | some (some (.ref _)) => false
  | some _ => true
  | none => false
mutual
def tgSet : Tg → D → En → Option En
  | .n i, x, ρ => if free ρ i = true then some (ρ.set i (some (.d x))) else none
  | .t ts, .tuple xs, ρ => tgSets ts xs ρ
  | .t ts, _, _ => none
def tgSets : List Tg → List D → En → Option En
  | [], [], ρ => some ρ
  | t :: ts, x :: xs, ρ => (tgSet t x ρ).bind fun ρ1 => tgSets ts xs ρ1
  | _, _, _ => none
end
mutual
def Tg.slots : Tg → List Nat
  | .n i => [i]
  | .t ts => tgSlots ts
def tgSlots : List Tg → List Nat
  | [] => []
  | t :: ts => t.slots ++ tgSlots ts
end

/-! ### comprehensions -/
def wipeE (ρ : En) : List Nat → En
  | [] => ρ
  | v :: vs => (wipeE ρ vs).set v none
/-- the slots vs as they were -/
def back (ρ : En) (ρ' : En) : List Nat → En
  | [] => ρ'
  | v :: vs => (back ρ ρ' vs).set v (ρ[v]?.getD none)
def noRaise {α β : Type} (o : Out α) (f : α → En → Out β) : Out β :=
  match o with
  | .ok a ρ => f a ρ
  | _ => .stuck
@[simp] theorem noRaise_ok {α β : Type} {a : α} {ρ : En} {f : α → En → Out β} : noRaise (Out.ok a ρ) f = f a ρ := rfl
def mYes : MT := fun ρ => .ok true ρ
def compGo (vs : List Nat) (tg : Tg) (t : MT) (e : ME) : List D → List D → En → Out SV
  | [], acc, ρ => .ok (.own (.lst acc)) ρ
  | x :: xs, acc, ρ =>
    match tgSet tg x (wipeE ρ vs) with
    | none => .stuck
    | some ρa => noRaise (t ρa) fun c ρb =>
      if c = true then noRaise (e ρb) fun v ρc => toB v fun y => compGo vs tg t e xs (acc ++ [y]) (back ρ ρc vs)
      else compGo vs tg t e xs acc (back ρ ρb vs)
/-- no slot of vs owns -/
def plainAt (ρ : En) (vs : List Nat) : Bool := vs.all fun i => (cellAt ρ i).isNone && decide (i < ρ.length)
/-- the target's slots are among vs -/
def tgIn (tg : Tg) (vs : List Nat) : Bool := tg.slots.all fun i => vs.contains i
def mComp (vs : List Nat) (tg : Tg) (it : MI) (t : MT) (e : ME) : ME := fun ρ => (it ρ).bind fun xs ρ1 => if (plainAt ρ1 vs && tgIn tg vs && decide (xs.length ≤ 16777216)) = true then compGo vs tg t e xs [] ρ1 else .stuck
/-! ### what is walked -/
def iterD : D → Option (List D)
  | .list xs => some xs
  | .tuple xs => some xs
  | .str x => some (x.cps.toList.map fun c => PyData.str ⟨#[c]⟩)
  | .dict kvs => some (kvs.map (·.1))
  | _ => none
@[simp] theorem iterD_list {xs : List D} : iterD (.list xs) = some xs := rfl
@[simp] theorem iterD_tuple {xs : List D} : iterD (.tuple xs) = some xs := rfl
def seqD : D → Option (List D)
  | .list xs => some xs
  | .tuple xs => some xs
  | _ => none
@[simp] theorem seqD_list {xs : List D} : seqD (.list xs) = some xs := rfl
@[simp] theorem seqD_tuple {xs : List D} : seqD (.tuple xs) = some xs := rfl
def i1 (f : D → Option (List D)) (a : ME) : MI := fun ρ => (a ρ).bind fun v ρ1 => toB v fun x => opt (f x) ρ1
def i2 (f : D → D → Option (List D)) (a b : ME) : MI := fun ρ => (a ρ).bind fun v ρ1 => (b ρ1).bind fun w ρ2 => toB v fun x => toB w fun y => opt (f x y) ρ2
def small62 (i : Int) : Bool := decide (i.natAbs < 4611686018427387904)
theorem small62_iff {i : Int} (h : small62 i = true) : -(2 ^ 62) ≤ i ∧ i < 2 ^ 62 := by
  unfold small62 at h
  rw [decide_eq_true_eq] at h
  omega
theorem small62_mk {i : Int} (h : i.natAbs < 4611686018427387904) : small62 i = true := by
  unfold small62
  exact decide_eq_true h
def intsD (lo : Int) (n : Nat) : List D := (List.range n).map fun k => PyData.int (lo + (k : Nat))
def range1 : D → Option (List D)
  | .int n => if small62 n = true then some (intsD 0 n.toNat) else none
  | _ => none
def range2 : D → D → Option (List D)
  | .int a, .int b => if small62 a && small62 b then some (intsD a (b - a).toNat) else none
  | _, _ => none
def enumFrom (k : Int) : List D → List D
  | [] => []
  | x :: xs => .tuple [.int k, x] :: enumFrom (k + 1) xs
def enumD : D → Option (List D)
  | .list xs => some (enumFrom 0 xs)
  | _ => none

/-! ### calls -/
inductive FRes where
  | ok (v : SV) (outs : List Cell)
  | raise (c : Str) (x : D) (outs : List Cell)
  | stuck
abbrev F := List SV → FRes
/-- as an argument -/
def argOf (ρ : En) : SV → Option SV
  | .d x => some (.d x)
  | .own c => some (.d c.py)
  | .pk i => (cellAt ρ i).map SV.ref
  | .exc c x => some (.exc c x)
  | .fn n => some (.fn n)
  | .ref _ => none
def argsOf (ρ : En) : List SV → Option (List SV)
  | [] => some []
  | v :: vs => (argOf ρ v).bind fun x => (argsOf ρ vs).map fun xs => x :: xs
@[simp] theorem argsOf_nil {ρ : En} : argsOf ρ [] = some [] := rfl
@[simp] theorem argsOf_cons {ρ : En} {v : SV} {vs : List SV} : argsOf ρ (v :: vs) = (argOf ρ v).bind fun x => (argsOf ρ vs).map fun xs => x :: xs := rfl
@[simp] theorem argOf_d {ρ : En} {x : D} : argOf ρ (.d x) = some (.d x) := rfl
@[simp] theorem argOf_own {ρ : En} {c : Cell} : argOf ρ (.own c) = some (.d c.py) := rfl
@[simp] theorem argOf_pk {ρ : En} {i : Nat} : argOf ρ (.pk i) = (cellAt ρ i).map SV.ref := rfl
def refIx : List SV → List Nat
  | [] => []
  | .pk i :: vs => i :: refIx vs
  | _ :: vs => refIx vs
/-- a new content in the same slot -/
def putCell (ρ : En) (i : Nat) (c : Cell) : En :=
  match ρ[i]? with
  | some (some (.own _)) => ρ.set i (some (.own c))
  | some (some (.ref _)) => ρ.set i (some (.ref c))
  | _ => ρ
def putCells (ρ : En) : List Nat → List Cell → Option En
  | [], [] => some ρ
  | i :: is, c :: cs => putCells (putCell ρ i c) is cs
  | _, _ => none
/-- data or a new object -/
def isRes : SV → Bool
  | .d _ => true
  | .own _ => true
  | _ => false
@[simp] theorem isRes_d {x : D} : isRes (.d x) = true := rfl
@[simp] theorem isRes_own {x : Cell} : isRes (.own x) = true := rfl
def callEnd (ρ1 : En) (is : List Nat) : FRes → Out SV
  | .ok v outs => if isRes v = true then (match putCells ρ1 is outs with | some ρ2 => .ok v ρ2 | none => .stuck) else .stuck
  | .raise c x outs => (match putCells ρ1 is outs with | some ρ2 => .raise c x ρ2 | none => .stuck)
  | .stuck => .stuck
def mCallGo (f : F) (vs : List SV) (ρ1 : En) : Out SV :=
  match argsOf ρ1 vs with
  | none => .stuck
  | some as => if (refIx vs).Nodup then callEnd ρ1 (refIx vs) (f as) else .stuck
/-- a def's call -/
def mCall (f : F) (ms : List ME) : ME := fun ρ => (mArgs ms ρ).bind fun vs ρ1 => mCallGo f vs ρ1
/-- with keywords: the values as they are written; perm brings them into the parameters' order -/
def mCallK (f : F) (perm : List Nat) (ms : List ME) : ME := fun ρ => (mArgs ms ρ).bind fun vs ρ1 => mCallGo f (perm.map fun j => vs[j]?.getD (.d .none)) ρ1

/-! ### statements -/
inductive SOut where
  | next (ρ : En)
  | ret (v : SV) (ρ : En)
  | brk (ρ : En)
  | cont (ρ : En)
  | raise (c : Str) (x : D) (ρ : En)
  | stuck
abbrev MS := En → SOut
def Out.st {α : Type} (o : Out α) (f : α → En → SOut) : SOut :=
  match o with
  | .ok a ρ => f a ρ
  | .raise c x ρ => .raise c x ρ
  | .stuck => .stuck
@[simp] theorem Out.st_ok {α : Type} {a : α} {ρ : En} {f : α → En → SOut} : (Out.ok a ρ).st f = f a ρ := rfl
@[simp] theorem Out.st_raise {α : Type} {c : Str} {x : D} {ρ : En} {f : α → En → SOut} : (Out.raise c x ρ : Out α).st f = .raise c x ρ := rfl
@[simp] theorem Out.st_stuck {α : Type} {f : α → En → SOut} : (Out.stuck : Out α).st f = .stuck := rfl
def SOut.seq (o : SOut) (f : En → SOut) : SOut :=
  match o with
  | .next ρ => f ρ
  | o => o
@[simp] theorem SOut.seq_next {ρ : En} {f : En → SOut} : (SOut.next ρ).seq f = f ρ := rfl
@[simp] theorem SOut.seq_ret {ρ : En} {v : SV} {f : En → SOut} : (SOut.ret v ρ).seq f = .ret v ρ := rfl
@[simp] theorem SOut.seq_brk {ρ : En} {f : En → SOut} : (SOut.brk ρ).seq f = .brk ρ := rfl
@[simp] theorem SOut.seq_cont {ρ : En} {f : En → SOut} : (SOut.cont ρ).seq f = .cont ρ := rfl
@[simp] theorem SOut.seq_raise {ρ : En} {c : Str} {x : D} {f : En → SOut} : (SOut.raise c x ρ).seq f = .raise c x ρ := rfl
@[simp] theorem SOut.seq_stuck {f : En → SOut} : SOut.stuck.seq f = .stuck := rfl
def sNext : MS := fun ρ => .next ρ
def sBreak : MS := fun ρ => .brk ρ
def sCont : MS := fun ρ => .cont ρ
def sNever : MS := fun _ => .stuck
def sSeq (a b : MS) : MS := fun ρ => (a ρ).seq b
def sExpr (m : ME) : MS := fun ρ => (m ρ).st fun _ ρ1 => .next ρ1
def sRet (m : ME) : MS := fun ρ => (m ρ).st fun v ρ1 => .ret v ρ1
def sRetN : MS := fun ρ => .ret (.d .none) ρ
def sIf (t : MT) (a b : MS) : MS := fun ρ => (t ρ).st fun c ρ1 => if c = true then a ρ1 else b ρ1
/-- as what a slot keeps; k: an object of its own stays one -/
def kept (k : Bool) : SV → Option SV
  | .d x => some (.d x)
  | .own c => some (if k = true then .own c else .d c.py)
  | .exc c x => some (.exc c x)
  | .fn n => some (.fn n)
  | _ => none
@[simp] theorem kept_d {k : Bool} {x : D} : kept k (.d x) = some (.d x) := rfl
@[simp] theorem kept_own_t {c : Cell} : kept true (.own c) = some (.own c) := rfl
@[simp] theorem kept_own_f {c : Cell} : kept false (.own c) = some (.d c.py) := rfl
def setS (k : Bool) (i : Nat) (v : SV) (ρ : En) : SOut :=
  if free ρ i = true then match kept k v with
    | some w => .next (ρ.set i (some w))
    | none => .stuck
  else .stuck
def sSet (k : Bool) (i : Nat) (m : ME) : MS := fun ρ => (m ρ).st fun v ρ1 => setS k i v ρ1
/-- a, b = e: e a tuple -/
def sUnp (tg : Tg) (m : ME) : MS := fun ρ => (m ρ).st fun v ρ1 => match toD v with
  | some x => (match tgSet tg x ρ1 with | some ρ2 => .next ρ2 | none => .stuck)
  | none => .stuck
/-- a, b = x, y; stored from the right -/
def sPar2 (k i l j : Nat) (a b : ME) : MS := fun ρ => (a ρ).st fun v ρ1 => (b ρ1).st fun w ρ2 => (setS (l == 1) j w ρ2).seq fun ρ3 => setS (k == 1) i v ρ3
def sPar3 (k i l j m h : Nat) (a b c : ME) : MS := fun ρ => (a ρ).st fun u ρ1 => (b ρ1).st fun v ρ2 => (c ρ2).st fun w ρ3 => (setS (m == 1) h w ρ3).seq fun ρ4 => (setS (l == 1) j v ρ4).seq fun ρ5 => setS (k == 1) i u ρ5
def sAug (i : Nat) (f : D → D → Option SV) (m : ME) : MS := fun ρ => match ρ[i]? with
  | some (some (.d x)) => (m ρ).st fun w ρ1 => match view ρ1 w with
    | some y => (match (f x y).bind toD with | some z => .next (ρ1.set i (some (.d z))) | none => .stuck)
    | none => .stuck
  | _ => .stuck
/-- the slots' own objects become data that never changes -/
def frz1 (ρ : En) (i : Nat) : En :=
  match ρ[i]? with
  | some (some (.own c)) => ρ.set i (some (.d c.py))
  | _ => ρ
def frz (ρ : En) : List Nat → En
  | [] => ρ
  | i :: is => frz (frz1 ρ i) is
@[simp] theorem frz_nil {ρ : En} : frz ρ [] = ρ := rfl
@[simp] theorem frz_cons {ρ : En} {i : Nat} {is : List Nat} : frz ρ (i :: is) = frz (frz1 ρ i) is := rfl
def sFrz (is : List Nat) (a : MS) : MS := fun ρ => a (frz ρ is)
def forGo (tg : Tg) (b : MS) : List D → En → SOut
  | [], ρ => .next ρ
  | x :: xs, ρ => match tgSet tg x ρ with
    | none => .stuck
    | some ρ1 => match b ρ1 with
      | .next ρ2 => forGo tg b xs ρ2
      | .cont ρ2 => forGo tg b xs ρ2
      | .brk ρ2 => .next ρ2
      | .ret v ρ2 => .ret v ρ2
      | .raise c x ρ2 => .raise c x ρ2
      | .stuck => .stuck
def sFor (tg : Tg) (it : MI) (b : MS) : MS := fun ρ => (it ρ).st fun xs ρ1 => forGo tg b xs ρ1
def whileGo (t : MT) (b : MS) : Nat → En → SOut
  | 0, _ => .stuck
  | n + 1, ρ => (t ρ).st fun c ρ1 => if c = true then (match b ρ1 with
      | .next ρ2 => whileGo t b n ρ2
      | .cont ρ2 => whileGo t b n ρ2
      | .brk ρ2 => .next ρ2
      | .ret v ρ2 => .ret v ρ2
      | .raise c x ρ2 => .raise c x ρ2
      | .stuck => .stuck) else .next ρ1
def sWhile (fuel : En → Nat) (t : MT) (b : MS) : MS := fun ρ => whileGo t b (fuel ρ) ρ

/-! ### changes of a slot's own object -/
def cellB {β : Type} (ρ : En) (i : Nat) (f : Cell → Out β) : Out β :=
  match cellAt ρ i with
  | some c => f c
  | none => .stuck
def line : Nat := 16777216
/-- it is a list, a dict -/
def isL (ρ : En) (i : Nat) : Bool :=
  match cellAt ρ i with
  | some (.lst _) => true
  | _ => false
def isK (ρ : En) (i : Nat) : Bool :=
  match cellAt ρ i with
  | some (.dct _) => true
  | _ => false
/-- x.m(e): g the new content and the value -/
def mCell1 (i : Nat) (g : Cell → D → Option (Cell × D)) (a : ME) : ME := fun ρ => if isL ρ i = true then (a ρ).bind fun v ρ1 => toB v fun x => cellB ρ1 i fun c => match g c x with
  | some (c', r) => .ok (.d r) (putCell ρ1 i c')
  | none => .stuck
  else .stuck
def mCell0 (i : Nat) (g : Cell → Option (Cell × D)) : ME := fun ρ => if isL ρ i = true then cellB ρ i fun c => match g c with
  | some (c', r) => .ok (.d r) (putCell ρ i c')
  | none => .stuck
  else .stuck
def gApp : Cell → D → Option (Cell × D)
  | .lst xs, x => if xs.length < line then some (.lst (xs ++ [x]), .none) else none
  | _, _ => none
def gPop : Cell → Option (Cell × D)
  | .lst xs => (xs[xs.length - 1]?).map fun y => (.lst xs.dropLast, y)
  | _ => none
/-- x.extend(a new list) -/
def extGo (i : Nat) (ys : List D) (ρ1 : En) : Out SV := cellB ρ1 i fun c => match c with
    | .lst xs => if xs.length + ys.length ≤ line then .ok (.d .none) (putCell ρ1 i (.lst (xs ++ ys))) else .stuck
    | _ => .stuck
def mExt (i : Nat) (a : ME) : ME := fun ρ => if isL ρ i = true then (a ρ).bind fun v ρ1 => match v with
  | .own (.lst ys) => extGo i ys ρ1
  | _ => .stuck
  else .stuck
def ix (n : Nat) (i : Int) : Option Nat := if 0 ≤ i then (if i < n then some i.toNat else none) else if -(n : Int) ≤ i then some (i + n).toNat else none
def atD (xs : List D) (i : Int) : Option D := (ix xs.length i).bind fun j => xs[j]?
/-- x[k] = v, x a list of a slot -/
def itemGo (i : Nat) (w k : SV) (ρ2 : En) : SOut := match toD w, k, cellAt ρ2 i with
  | some y, .d (.int k), some (.lst xs) => (match ix xs.length k with | some j => .next (putCell ρ2 i (.lst (xs.set j y))) | none => .stuck)
  | _, _, _ => .stuck
def sItem (i : Nat) (a v : ME) : MS := fun ρ => (v ρ).st fun w ρ1 => if isL ρ1 i = true then (a ρ1).st fun k ρ2 => itemGo i w k ρ2 else .stuck
theorem itemGo_inv {i : Nat} {w k : SV} {ρ : En} : itemGo i w k ρ = .stuck ∨ ∃ y n xs j, toD w = some y ∧ k = .d (.int n) ∧ cellAt ρ i = some (.lst xs) ∧ ix xs.length n = some j ∧ itemGo i w k ρ = .next (putCell ρ i (.lst (xs.set j y))) := by
  unfold itemGo
  split
  · rename_i y n xs h1 h2
    cases h : ix xs.length n with
    | none => exact .inl rfl
    | some j => exact .inr ⟨y, n, xs, j, h1, rfl, h2, h, rfl⟩
  · exact .inl rfl
/-- x[k] op= v -/
def augGet (i : Nat) (k : SV) (ρ : En) : Option D := match k, cellAt ρ i with
  | .d (.int k), some (.lst xs) => atD xs k
  | _, _ => none
def augGo (i : Nat) (f : D → D → Option SV) (x : D) (k w : SV) (ρ : En) : SOut := match view ρ w with
  | some y => (match (f x y).bind toD with
    | some z => itemGo i (.d z) k ρ
    | none => .stuck)
  | none => .stuck
def sAugI (i : Nat) (f : D → D → Option SV) (a v : ME) : MS := fun ρ => if isL ρ i = true then (a ρ).st fun k ρ1 => match augGet i k ρ1 with
  | some x => (v ρ1).st fun w ρ2 => augGo i f x k w ρ2
  | none => .stuck
  else .stuck
theorem augGet_inv {i : Nat} {k : SV} {ρ : En} {x : D} (h : augGet i k ρ = some x) : ∃ n xs, k = .d (.int n) ∧ cellAt ρ i = some (.lst xs) ∧ atD xs n = some x := by
  unfold augGet at h
  split at h
  · exact ⟨_, _, rfl, by assumption, h⟩
  · cases h
/-- the arguments, the borrowed ones with what they hold now -/
def putRefs : List SV → List Cell → Option En
  | [], [] => some []
  | [], _ :: _ => none
  | a :: as, cs => match a with
    | .ref _ => (match cs with
      | c :: cs => (putRefs as cs).map fun r => some (.ref c) :: r
      | [] => none)
    | a => (putRefs as cs).map fun r => some a :: r
/-! ### a def -/
def outsOf : List SV → En → Option (List Cell)
  | [], _ => some []
  | a :: as, ρ => match a with
    | .ref _ => (match ρ with
      | some (.ref c) :: r => (outsOf as r).map fun cs => c :: cs
      | _ => none)
    | _ => outsOf as ρ.tail
def resOf (ρ : En) : SV → Option SV
  | .d x => some (.d x)
  | .own c => some (.own c)
  | .pk i => (match ρ[i]? with | some (some (.own c)) => some (.own c) | _ => none)
  | .exc c x => some (.exc c x)
  | .fn n => some (.fn n)
  | .ref _ => none
def finish (as : List SV) (v : SV) (ρ : En) : FRes :=
  match resOf ρ v, outsOf as ρ with
  | some w, some outs => .ok w outs
  | _, _ => .stuck
def semDef (n : Nat) (b : MS) : F := fun as =>
  match b (as.map some ++ List.replicate (n - as.length) none) with
  | .ret v ρ => finish as v ρ
  | .next ρ => finish as (.d .none) ρ
  | .raise c x ρ => (match outsOf as ρ with | some outs => .raise c x outs | none => .stuck)
  | _ => .stuck

/-! ### operations -/
def mulOk (i j : Int) : Bool := decide (i.natAbs < 2 ^ 64) || decide (j.natAbs < 2 ^ 64) || decide (i.natAbs.log2 + j.natAbs.log2 < 60000000)
def bAdd : D → D → Option SV
  | .int i, .int j => some (.d (.int (i + j)))
  | .str x, .str y => if x.length + y.length ≤ line then some (.d (.str (x ++ y))) else none
  | .list xs, .list ys => if xs.length + ys.length ≤ line then some (.own (.lst (xs ++ ys))) else none
  | .tuple xs, .tuple ys => if xs.length + ys.length ≤ line then some (.d (.tuple (xs ++ ys))) else none
  | _, _ => none
def bSub : D → D → Option SV
  | .int i, .int j => some (.d (.int (i - j)))
  | _, _ => none
def bMulI : D → D → Option SV
  | .int i, .int j => if mulOk i j = true then some (.d (.int (i * j))) else none
  | _, _ => none
/-- [..] * n -/
def mRep (a b : ME) : ME := fun ρ => (a ρ).bind fun v ρ1 => (b ρ1).bind fun w ρ2 => match v with
  | .own (.lst xs) => (match w with
    | .d (.int k) => if (small62 k && decide (xs.length * k.toNat ≤ line)) = true then .ok (.own (.lst ((List.replicate k.toNat xs).flatten))) ρ2 else .stuck
    | _ => .stuck)
  | _ => .stuck
def bDiv : D → D → Option SV
  | .int i, .int j => if 0 < j ∧ j.natAbs.log2 < 9000 then some (.d (.int (i / j))) else none
  | _, _ => none
def bMod : D → D → Option SV
  | .int i, .int j => if 0 < j then some (.d (.int (i % j))) else none
  | _, _ => none
def bPow : D → D → Option SV
  | .int i, .int j => if 0 ≤ j ∧ (i.natAbs.log2 + 1) * j.toNat ≤ 134217728 then some (.d (.int (i ^ j.toNat))) else none
  | _, _ => none
def uNeg : D → Option SV
  | .int i => some (.d (.int (-i)))
  | _ => none
def cLt : D → D → Option SV
  | .int i, .int j => some (.d (.bool (decide (i < j))))
  | _, _ => none
def cLe : D → D → Option SV
  | .int i, .int j => some (.d (.bool (decide (i ≤ j))))
  | _, _ => none
def cGt : D → D → Option SV
  | .int i, .int j => some (.d (.bool (decide (j < i))))
  | _, _ => none
def cGe : D → D → Option SV
  | .int i, .int j => some (.d (.bool (decide (j ≤ i))))
  | _, _ => none
def bIdx : D → D → Option SV
  | .list xs, .int i => (atD xs i).map SV.d
  | .tuple xs, .int i => (atD xs i).map SV.d
  | .str x, .int i => if x.length ≤ line then (ix x.length i).bind fun j => (x.cps.toList[j]?).map fun c => SV.d (.str ⟨#[c]⟩) else none
  | _, _ => none
def lenD : List D → Option SV
  | [.list xs] => some (.d (.int (xs.length : Nat)))
  | [.tuple xs] => some (.d (.int (xs.length : Nat)))
  | [.str x] => if x.length ≤ line then some (.d (.int (x.length : Nat))) else none
  | _ => none
end MP
namespace MP
open PySem
/-! ### slices -/
def clampI (n : Nat) (v : Int) : Nat := if 0 ≤ v then min v.toNat n else (v + (n : Int)).toNat
def cutLo (n : Nat) (lo : Option Int) : Nat := lo.elim 0 (clampI n)
def cutHi (n : Nat) (hi : Option Int) : Nat := hi.elim n (clampI n)
def cutD {α : Type} (xs : List α) (lo hi : Option Int) : List α := (xs.drop (cutLo xs.length lo)).take (cutHi xs.length hi - cutLo xs.length lo)
def slD : D → Option Int → Option Int → Option SV
  | .list xs, lo, hi => some (.own (.lst (cutD xs lo hi)))
  | .tuple xs, lo, hi => some (.d (.tuple (cutD xs lo hi)))
  | _, _, _ => none
def intB {β : Type} (v : SV) (f : Int → Out β) : Out β :=
  match v with
  | .d (.int i) => f i
  | _ => .stuck
@[simp] theorem intB_d {β : Type} {i : Int} {f : Int → Out β} : intB (.d (.int i)) f = f i := rfl
def mPart : Option ME → En → Out (Option Int)
  | none, ρ => .ok none ρ
  | some m, ρ => (m ρ).bind fun v ρ1 => intB v fun i => .ok (some i) ρ1
@[simp] theorem mPart_none {ρ : En} : mPart none ρ = .ok none ρ := rfl
@[simp] theorem mPart_some {m : ME} {ρ : En} : mPart (some m) ρ = (m ρ).bind fun v ρ1 => intB v fun i => .ok (some i) ρ1 := rfl
def mSl (a : ME) (lo hi : Option ME) : ME := fun ρ => (a ρ).bind fun v ρ1 => (mPart lo ρ1).bind fun l ρ2 => (mPart hi ρ2).bind fun h ρ3 => viewB ρ3 v fun x => opt (slD x l h) ρ3
/-- x[::-1] -/
def revD : D → Option SV
  | .list xs => some (.own (.lst xs.reverse))
  | .tuple xs => some (.d (.tuple xs.reverse))
  | _ => none
/-- the type's name of plain data -/
def tyD : D → String
  | .none => "NoneType"
  | .bool _ => "bool"
  | .int _ => "int"
  | .str _ => "str"
  | .list _ => "list"
  | .tuple _ => "tuple"
  | .dict _ => "dict"
def subTy (t u : String) : Bool := t == u || (t == "bool" && u == "int")
def isinst (T : String) (x : D) : Option SV := some (.d (.bool (subTy (tyD x) T)))
end MP

namespace MP
open PySem
/-! ### == and in -/
def noItem : D → D → Bool
  | .tuple xs, .tuple ys => xs.isEmpty || ys.isEmpty
  | _, _ => false
def eqOk (x y : D) : Bool := noItem x y || (x.plain && y.plain && decide (min x.depth y.depth ≤ 64))
def cEq (x y : D) : Option SV := if eqOk x y = true then some (.d (.bool (PyData.eqv x y))) else none
def cNe (x y : D) : Option SV := if eqOk x y = true then some (.d (.bool (!PyData.eqv x y))) else none
def inOk (x : D) (xs : List D) : Bool := x.plain && PyData.plainAll xs && decide (min (PyData.depthAll xs) x.depth ≤ 64)
def cIn : D → D → Option SV
  | x, .list xs => if inOk x xs = true then some (.d (.bool (xs.any fun y => PyData.eqv y x))) else none
  | x, .tuple xs => if inOk x xs = true then some (.d (.bool (xs.any fun y => PyData.eqv y x))) else none
  | _, _ => none
def cNotIn : D → D → Option SV
  | x, .list xs => if inOk x xs = true then some (.d (.bool (!xs.any fun y => PyData.eqv y x))) else none
  | x, .tuple xs => if inOk x xs = true then some (.d (.bool (!xs.any fun y => PyData.eqv y x))) else none
  | _, _ => none
def isN : D → Bool
  | .none => true
  | _ => false
@[simp] theorem isN_none : isN .none = true := rfl
@[simp] theorem isN_int {i : Int} : isN (.int i) = false := rfl
@[simp] theorem isN_tuple {i : List D} : isN (.tuple i) = false := rfl
@[simp] theorem isN_list {i : List D} : isN (.list i) = false := rfl
def cIsN (x : D) : Option SV := some (.d (.bool (isN x)))
def cNotN (x : D) : Option SV := some (.d (.bool (!isN x)))
end MP

namespace MP
open PySem
/-- in a table of the module, int keys -/
def cInT (ks : List Int) : D → Option SV
  | .int i => some (.d (.bool (ks.contains i)))
  | _ => none
def mDct0 : ME := fun ρ => .ok (.own (.dct [])) ρ
def mDct1 (i j : Int) : ME := fun ρ => .ok (.own (.dct [(.int i, .int j)])) ρ
end MP
end

section
set_option Elab.async false
set_option linter.all false
set_option maxRecDepth 100000
set_option maxHeartbeats 4000000
set_option autoImplicit false
namespace MP
open PySem PySem.Spec L2

abbrev Fg := PySem.W.Frag
def keyD : Key → D
  | .inl i => .int i
  | .inr x => .str x

/-- a tuple all of whose parts are pairs -/
def pairy : List D → Bool
  | [] => true
  | .tuple [_, _] :: r => pairy r
  | _ => false
/-- a tuple on which nothing else hangs -/
def Sure (H : Hp) (a : Addr) (xs : List V) : Prop := ∃ o : Obj, H a = some (.frz o (.tup xs)) ∧ o.dict = none
def SqU (K : Fg) (H : Hp) (a : Addr) (xs : List V) (ds : List D) : Prop := SqT K H a xs ∧ (pairy ds = true → Sure H a xs)
mutual
/-- v stands for the data d in the heap H -/
inductive Rp (K : Fg) (H : Hp) : V → D → Prop
  | non : Rp K H .non .none
  | bl (b : Bool) : Rp K H (.bl b) (.bool b)
  | int (i : Int) : Rp K H (.int i) (.int i)
  | str (x : Str) : Rp K H (.str x) (.str x)
  | lst {a : Addr} {xs : List V} {ds : List D} : SqL K H a xs → RpAll K H xs ds → Rp K H (.ref a) (.list ds)
  | tup {a : Addr} {xs : List V} {ds : List D} : SqU K H a xs ds → RpAll K H xs ds → Rp K H (.ref a) (.tuple ds)
  | dic {a : Addr} {xs : List (Key × V)} {ds : List (D × D)} : Rd H a (.dK xs) → RpKv K H xs ds → Rp K H (.ref a) (.dict ds)
inductive RpAll (K : Fg) (H : Hp) : List V → List D → Prop
  | nil : RpAll K H [] []
  | cons {v : V} {vs : List V} {d : D} {ds : List D} : Rp K H v d → RpAll K H vs ds → RpAll K H (v :: vs) (d :: ds)
inductive RpKv (K : Fg) (H : Hp) : List (Key × V) → List (D × D) → Prop
  | nil : RpKv K H [] []
  | cons {k : Key} {v : V} {vs : List (Key × V)} {d : D} {ds : List (D × D)} : Rp K H v d → RpKv K H vs ds → RpKv K H ((k, v) :: vs) ((keyD k, d) :: ds)
end

/-- all that H knows H' knows -/
def Grow (H H' : Hp) : Prop := ∀ a o, H a = some o → H' a = some o
theorem Grow.refl (H : Hp) : Grow H H := fun _ _ h => h
theorem Grow.trans {H H1 H2 : Hp} (a : Grow H H1) (b : Grow H1 H2) : Grow H H2 := fun x o h => b x o (a x o h)
theorem Grow.new {H : Hp} {p : Addr} {o : HO} (h : H p = none) : Grow H (upd H p o) := fun a u e => by
  rw [upd_ne (ne_of_none e h)]
  exact e
theorem Grow.rd {H H' : Hp} (e : Grow H H') {a : Addr} {u : HO} (h : Rd H a u) : Rd H' a u := by
  rcases h with h | ⟨o, h⟩
  · exact .inl (e a _ h)
  · exact .inr ⟨o, e a _ h⟩
theorem Grow.sl {K : Fg} {H H' : Hp} (e : Grow H H') {a : Addr} {xs : List V} (h : SqL K H a xs) : SqL K H' a xs := by
  rcases h with h | h
  · exact .inl (e.rd h)
  · exact .inr h
theorem Grow.st {K : Fg} {H H' : Hp} (e : Grow H H') {a : Addr} {xs : List V} (h : SqT K H a xs) : SqT K H' a xs := by
  rcases h with h | h
  · exact .inl (e.rd h)
  · exact .inr h
theorem Grow.su {K : Fg} {H H' : Hp} (e : Grow H H') {a : Addr} {xs : List V} {ds : List D} (h : SqU K H a xs ds) : SqU K H' a xs ds := ⟨e.st h.1, fun z => let ⟨o, q, n⟩ := h.2 z; ⟨o, e a _ q, n⟩⟩
mutual
theorem Rp.grow {K : Fg} {H H' : Hp} (e : Grow H H') : ∀ {v : V} {d : D}, Rp K H v d → Rp K H' v d
  | _, _, .non => .non
  | _, _, .bl b => .bl b
  | _, _, .int b => .int b
  | _, _, .str b => .str b
  | _, _, .lst h r => .lst (e.sl h) (RpAll.grow e r)
  | _, _, .tup h r => .tup (e.su h) (RpAll.grow e r)
  | _, _, .dic h r => .dic (e.rd h) (RpKv.grow e r)
theorem RpAll.grow {K : Fg} {H H' : Hp} (e : Grow H H') : ∀ {v : List V} {d : List D}, RpAll K H v d → RpAll K H' v d
  | _, _, .nil => .nil
  | _, _, .cons h r => .cons (Rp.grow e h) (RpAll.grow e r)
theorem RpKv.grow {K : Fg} {H H' : Hp} (e : Grow H H') : ∀ {v : List (Key × V)} {d : List (D × D)}, RpKv K H v d → RpKv K H' v d
  | _, _, .nil => .nil
  | _, _, .cons h r => .cons (Rp.grow e h) (RpKv.grow e r)
end
theorem RpAll.length {K : Fg} {H : Hp} : ∀ {v : List V} {d : List D}, RpAll K H v d → v.length = d.length
  | _, _, .nil => rfl
  | _, _, .cons _ r => congrArg (· + 1) (RpAll.length r)
theorem RpKv.length {K : Fg} {H : Hp} : ∀ {v : List (Key × V)} {d : List (D × D)}, RpKv K H v d → v.length = d.length
  | _, _, .nil => rfl
  | _, _, .cons _ r => congrArg (· + 1) (RpKv.length r)
theorem RpAll.get {K : Fg} {H : Hp} : ∀ {vs : List V} {ds : List D} {i : Nat} {d : D}, RpAll K H vs ds → ds[i]? = some d → ∃ v, vs[i]? = some v ∧ Rp K H v d
  | _, _, _, _, .nil, h => by simp at h
  | _, _, 0, _, .cons h r, e => by
    simp at e
    subst e
    exact ⟨_, rfl, h⟩
  | _, _, i + 1, _, .cons h r, e => by
    obtain ⟨v, q, w⟩ := RpAll.get (i := i) r (by simpa using e)
    exact ⟨v, by simpa using q, w⟩
theorem RpAll.get' {K : Fg} {H : Hp} : ∀ {vs : List V} {ds : List D} {i : Nat} {v : V}, RpAll K H vs ds → vs[i]? = some v → ∃ d, ds[i]? = some d ∧ Rp K H v d
  | _, _, _, _, .nil, h => by simp at h
  | _, _, 0, _, .cons h r, e => by
    simp at e
    subst e
    exact ⟨_, rfl, h⟩
  | _, _, i + 1, _, .cons h r, e => by
    obtain ⟨v, q, w⟩ := RpAll.get' (i := i) r (by simpa using e)
    exact ⟨v, by simpa using q, w⟩
theorem RpAll.append {K : Fg} {H : Hp} : ∀ {vs ws : List V} {ds es : List D}, RpAll K H vs ds → RpAll K H ws es → RpAll K H (vs ++ ws) (ds ++ es)
  | _, _, _, _, .nil, q => q
  | _, _, _, _, .cons h r, q => .cons h (RpAll.append r q)
theorem RpAll.take {K : Fg} {H : Hp} : ∀ {vs : List V} {ds : List D} (n : Nat), RpAll K H vs ds → RpAll K H (vs.take n) (ds.take n)
  | _, _, 0, _ => .nil
  | _, _, _ + 1, .nil => .nil
  | _, _, n + 1, .cons h r => .cons h (RpAll.take n r)
theorem RpAll.drop {K : Fg} {H : Hp} : ∀ {vs : List V} {ds : List D} (n : Nat), RpAll K H vs ds → RpAll K H (vs.drop n) (ds.drop n)
  | _, _, 0, q => q
  | _, _, _ + 1, .nil => .nil
  | _, _, n + 1, .cons h r => RpAll.drop n r
theorem RpAll.set {K : Fg} {H : Hp} {v : V} {d : D} (q : Rp K H v d) : ∀ {vs : List V} {ds : List D} (n : Nat), RpAll K H vs ds → RpAll K H (vs.set n v) (ds.set n d)
  | _, _, _, .nil => .nil
  | _, _, 0, .cons h r => .cons q r
  | _, _, n + 1, .cons h r => .cons h (RpAll.set q n r)
theorem RpAll.reverse {K : Fg} {H : Hp} : ∀ {vs : List V} {ds : List D}, RpAll K H vs ds → RpAll K H vs.reverse ds.reverse
  | _, _, .nil => .nil
  | _, _, .cons h r => by
    rw [List.reverse_cons, List.reverse_cons]
    exact RpAll.append (RpAll.reverse r) (.cons h .nil)
theorem RpAll.dropLast {K : Fg} {H : Hp} {vs : List V} {ds : List D} (h : RpAll K H vs ds) : RpAll K H vs.dropLast ds.dropLast := by
  rw [List.dropLast_eq_take, List.dropLast_eq_take, h.length]
  exact h.take _

/-! ### hiding -/
open Classical in
noncomputable def hid (P : Addr → Prop) (H : Hp) : Hp := fun a => if P a then none else H a
theorem hid_some {P : Addr → Prop} {H : Hp} {a : Addr} {o : HO} : hid P H a = some o ↔ ¬ P a ∧ H a = some o := by
  unfold hid
  by_cases h : P a
  · rw [if_pos h]
    exact ⟨fun e => (nomatch e), fun e => absurd h e.1⟩
  · rw [if_neg h]
    exact ⟨fun e => ⟨h, e⟩, fun e => e.2⟩
theorem hid_le {P : Addr → Prop} {H : Hp} : Grow (hid P H) H := fun a o e => (hid_some.mp e).2
theorem hid_grow {P P' : Addr → Prop} {H H' : Hp} (h : ∀ a o, ¬ P a → H a = some o → ¬ P' a ∧ H' a = some o) : Grow (hid P H) (hid P' H') := fun a o e => hid_some.mpr (h a o (hid_some.mp e).1 (hid_some.mp e).2)

/-- what a cell holds, at a -/
def CellR (K : Fg) (Hh H : Hp) (a : Addr) : Cell → Prop
  | .lst ds => ∃ xs, H a = some (.lst xs) ∧ RpAll K Hh xs ds
  | .dct ds => ∃ xs, H a = some (.dK xs) ∧ RpKv K Hh xs ds
theorem CellR.some {K : Fg} {Hh H : Hp} {a : Addr} {c : Cell} (h : CellR K Hh H a c) : ∃ o, H a = some o := by
  cases c with
  | lst ds => obtain ⟨xs, e, _⟩ := h; exact ⟨_, e⟩
  | dct ds => obtain ⟨xs, e, _⟩ := h; exact ⟨_, e⟩
theorem CellR.mono {K : Fg} {Hh H Hh' H' : Hp} {a : Addr} {c : Cell} (h : CellR K Hh H a c) (e : Grow Hh Hh') (ea : H' a = H a) : CellR K Hh' H' a c := by
  cases c with
  | lst ds => obtain ⟨xs, q, r⟩ := h; exact ⟨xs, ea.trans q, r.grow e⟩
  | dct ds => obtain ⟨xs, q, r⟩ := h; exact ⟨xs, ea.trans q, r.grow e⟩

/-! ### slots -/
def Own (σ : St) (ρ : En) (a : Addr) : Prop := ∃ i c, cellAt ρ i = some c ∧ σ[i]? = some (some (.ref a))
structure Gh where
  Pm : Addr → Prop
  rf : Nat → Option Addr
/-- what stands outside the frozen part -/
def Out' (g : Gh) (σ : St) (ρ : En) (a : Addr) : Prop := g.Pm a ∨ Own σ ρ a
structure Rep (K : Fg) (g : Gh) (H : Hp) (σ : St) (ρ : En) : Prop where
  len : σ.length = ρ.length
  d : ∀ (i : Nat) (x : D), ρ[i]? = some (some (SV.d x)) → ∃ v, σ[i]? = some (some v) ∧ Rp K (hid (Out' g σ ρ) H) v x
  cell : ∀ (i : Nat) (c : Cell), cellAt ρ i = some c → ∃ a, σ[i]? = some (some (.ref a)) ∧ ¬ g.Pm a ∧ CellR K (hid (Out' g σ ρ) H) H a c
  inj : ∀ (i j : Nat) (c c' : Cell) (a : Addr), cellAt ρ i = some c → cellAt ρ j = some c' → σ[i]? = some (some (.ref a)) → σ[j]? = some (some (.ref a)) → i = j
  pm : ∀ a, g.Pm a → ∃ o, H a = some o
  rf : ∀ (i : Nat) (c : Cell), ρ[i]? = some (some (SV.ref c)) → ∃ a, g.rf i = some a ∧ σ[i]? = some (some (.ref a))
  rfs : ∀ (i : Nat) (a : Addr), g.rf i = some a → ∃ c, ρ[i]? = some (some (SV.ref c))
  noexc : ∀ (i : Nat) (c : Str) (x : D), ρ[i]? ≠ some (some (SV.exc c x))
  nofn : ∀ (i : Nat) (n : Str), ρ[i]? ≠ some (some (SV.fn n))
def SameC (ρ ρ' : En) : Prop := ∀ i, (cellAt ρ' i).isSome = (cellAt ρ i).isSome
theorem SameC.refl (ρ : En) : SameC ρ ρ := fun _ => rfl
theorem SameC.trans {ρ ρ1 ρ2 : En} (a : SameC ρ ρ1) (b : SameC ρ1 ρ2) : SameC ρ ρ2 := fun i => (b i).trans (a i)
theorem SameC.symm {ρ ρ1 : En} (a : SameC ρ ρ1) : SameC ρ1 ρ := fun i => (a i).symm
theorem SameC.get {ρ ρ' : En} (h : SameC ρ ρ') {i : Nat} {c : Cell} (e : cellAt ρ i = some c) : ∃ c', cellAt ρ' i = some c' := by
  have q := h i
  rw [e] at q
  exact Option.isSome_iff_exists.mp q
theorem SameC.own {ρ ρ' : En} (h : SameC ρ ρ') {σ : St} {a : Addr} (e : Own σ ρ a) : Own σ ρ' a := by
  obtain ⟨i, c, h1, h2⟩ := e
  obtain ⟨c', q⟩ := h.get h1
  exact ⟨i, c', q, h2⟩
theorem SameC.out {ρ ρ' : En} (h : SameC ρ ρ') {g : Gh} {σ : St} {a : Addr} (e : Out' g σ ρ a) : Out' g σ ρ' a := e.imp id fun q => h.own q

/-- the heap behind: what is not owned is kept; nothing is forgotten -/
structure FrE (H : Hp) (M : Addr → Prop) (H' : Hp) : Prop where
  keep : ∀ a o, H a = some o → ¬ M a → H' a = some o
  stay : ∀ a o, H a = some o → ∃ o', H' a = some o'
theorem FrE.refl (H : Hp) (M : Addr → Prop) : FrE H M H := ⟨fun _ _ h _ => h, fun _ o h => ⟨o, h⟩⟩
theorem FrE.trans {H H1 H2 : Hp} {M M1 : Addr → Prop} (a : FrE H M H1) (b : FrE H1 M1 H2) (h : ∀ x, M1 x → M x) : FrE H M H2 :=
  ⟨fun x o e n => b.keep x o (a.keep x o e n) (fun q => n (h x q)), fun x o e => let ⟨_, q⟩ := a.stay x o e; b.stay x _ q⟩
theorem FrE.of_grow {H H' : Hp} {M : Addr → Prop} (h : Grow H H') : FrE H M H' := ⟨fun a o e _ => h a o e, fun a o e => ⟨o, h a o e⟩⟩
theorem FrE.back {H H' : Hp} {M : Addr → Prop} (h : FrE H M H') {a : Addr} (e : H' a = none) : H a = none := by
  cases q : H a with
  | none => rfl
  | some o =>
    obtain ⟨o', q'⟩ := h.stay a o q
    rw [e] at q'
    cases q'

/-- v is what an expression gave -/
def RV0 (K : Fg) (g : Gh) (H0 H : Hp) (σ : St) (ρ : En) (v : V) : SV → Prop
  | .d x => Rp K (hid (Out' g σ ρ) H) v x
  | .own c => ∃ p, v = .ref p ∧ H0 p = none ∧ ¬ Out' g σ ρ p ∧ CellR K (hid (fun a => Out' g σ ρ a ∨ a = p) H) H p c
  | .pk i => ∃ c, cellAt ρ i = some c ∧ σ[i]? = some (some v)
  | .ref _ => False
  | .exc _ _ => False
  | .fn _ => False

section
variable {K : Fg} {g : Gh} {H0 H H1 H' : Hp} {σ : St} {ρ ρ' : En} {v : V} {sv : SV}
/-- later: the frozen part has grown -/
theorem hid_later (s : SameC ρ ρ') (f : FrE H (Own σ ρ) H') : Grow (hid (Out' g σ ρ) H) (hid (Out' g σ ρ') H') :=
  hid_grow fun a o n e => ⟨fun q => n (s.symm.out q), f.keep a o e fun q => n (.inr q)⟩
theorem RV0.later (r : RV0 K g H0 H σ ρ v sv) (s : SameC ρ ρ') (f : FrE H (Own σ ρ) H') : RV0 K g H0 H' σ ρ' v sv := by
  cases sv with
  | d x => exact Rp.grow (hid_later s f) r
  | own c =>
    obtain ⟨p, e, n, no, q⟩ := r
    obtain ⟨o, eo⟩ := q.some
    refine ⟨p, e, n, fun z => no (s.symm.out z), q.mono (hid_grow fun a o n e => ⟨fun z => n (z.imp (s.symm.out) id), f.keep a o e fun z => n (.inl (.inr z))⟩) ?_⟩
    rw [f.keep p o eo fun z => no (.inr z), eo]
  | pk i =>
    obtain ⟨c, e, q⟩ := r
    obtain ⟨c', e'⟩ := s.get e
    exact ⟨c', e', q⟩
  | ref _ => exact r
  | exc _ _ => exact r
  | fn _ => exact r
theorem RV0.older (r : RV0 K g H1 H σ ρ v sv) (h : ∀ p, H1 p = none → H0 p = none) : RV0 K g H0 H σ ρ v sv := by
  cases sv with
  | own c =>
    obtain ⟨p, e, n, q⟩ := r
    exact ⟨p, e, h p n, q⟩
  | _ => exact r
theorem Rep.grow (r : Rep K g H σ ρ) (e : Grow H H') : Rep K g H' σ ρ := by
  have gr : Grow (hid (Out' g σ ρ) H) (hid (Out' g σ ρ) H') := hid_grow fun a o n q => ⟨n, e a o q⟩
  refine ⟨r.len, fun i x h => ?_, fun i c h => ?_, r.inj, fun a h => ?_, r.rf, r.rfs, r.noexc, r.nofn⟩
  · obtain ⟨v, h1, h2⟩ := r.d i x h
    exact ⟨v, h1, h2.grow gr⟩
  · obtain ⟨a, h1, h2, h3⟩ := r.cell i c h
    obtain ⟨o, eo⟩ := h3.some
    exact ⟨a, h1, h2, h3.mono gr (by rw [e a o eo, eo])⟩
  · obtain ⟨o, q⟩ := r.pm a h
    exact ⟨o, e a o q⟩
end

/-! ### a value with its top in H and its parts in the frozen part -/
def Top (K : Fg) (Hh H : Hp) (v : V) : D → Prop
  | .none => v = .non
  | .bool b => v = .bl b
  | .int i => v = .int i
  | .str x => v = .str x
  | .list ds => ∃ a xs, v = .ref a ∧ SqL K H a xs ∧ RpAll K Hh xs ds
  | .tuple ds => ∃ a xs, v = .ref a ∧ SqU K Hh a xs ds ∧ RpAll K Hh xs ds
  | .dict ds => ∃ a xs, v = .ref a ∧ Rd H a (.dK xs) ∧ RpKv K Hh xs ds
theorem Rp.top {K : Fg} {Hh H : Hp} {v : V} {x : D} (h : Rp K Hh v x) (e : Grow Hh H) : Top K Hh H v x := by
  cases h with
  | non => rfl
  | bl b => rfl
  | int i => rfl
  | str x => rfl
  | lst h r => exact ⟨_, _, rfl, e.sl h, r⟩
  | tup h r => exact ⟨_, _, rfl, h, r⟩
  | dic h r => exact ⟨_, _, rfl, e.rd h, r⟩
theorem Top.rp {K : Fg} {Hh H : Hp} {v : V} {x : D} (h : Top K Hh H v x) (e : Grow Hh H) : Rp K H v x := by
  cases x with
  | none => cases h; exact .non
  | bool b => cases h; exact .bl b
  | int b => cases h; exact .int b
  | str b => cases h; exact .str b
  | list ds => obtain ⟨a, xs, rfl, q, r⟩ := h; exact .lst q (r.grow e)
  | tuple ds => obtain ⟨a, xs, rfl, q, r⟩ := h; exact .tup (e.su q) (r.grow e)
  | dict ds => obtain ⟨a, xs, rfl, q, r⟩ := h; exact .dic q (r.grow e)
theorem Top.grow {K : Fg} {Hh H Hh' H' : Hp} {v : V} {x : D} (h : Top K Hh H v x) (e : Grow Hh Hh') (e' : Grow H H') : Top K Hh' H' v x := by
  cases x with
  | none => exact h
  | bool b => exact h
  | int b => exact h
  | str b => exact h
  | list ds => obtain ⟨a, xs, q1, q2, q3⟩ := h; exact ⟨a, xs, q1, e'.sl q2, q3.grow e⟩
  | tuple ds => obtain ⟨a, xs, q1, q2, q3⟩ := h; exact ⟨a, xs, q1, e.su q2, q3.grow e⟩
  | dict ds => obtain ⟨a, xs, q1, q2, q3⟩ := h; exact ⟨a, xs, q1, e'.rd q2, q3.grow e⟩
theorem CellR.top {K : Fg} {Hh H : Hp} {a : Addr} {c : Cell} (h : CellR K Hh H a c) : Top K Hh H (.ref a) c.py := by
  cases c with
  | lst ds => obtain ⟨xs, e, r⟩ := h; exact ⟨a, xs, rfl, .of e, r⟩
  | dct ds => obtain ⟨xs, e, r⟩ := h; exact ⟨a, xs, rfl, .inl e, r⟩
section
variable {K : Fg} {g : Gh} {H0 H H1 H' : Hp} {σ : St} {ρ ρ' : En} {v : V} {sv : SV} {x : D}
theorem RV0.top (r : RV0 K g H0 H σ ρ v sv) (rp : Rep K g H σ ρ) (h : view ρ sv = some x) : Top K (hid (Out' g σ ρ) H) H v x := by
  cases sv with
  | d y =>
    have e : y = x := Option.some.inj h
    subst e
    exact Rp.top r hid_le
  | own c =>
    have e : c.py = x := Option.some.inj h
    subst e
    obtain ⟨p, rfl, n, no, q⟩ := r
    exact (CellR.top q).grow (hid_grow fun a o n e => ⟨fun z => n (.inl z), e⟩) (Grow.refl _)
  | pk i =>
    obtain ⟨c, e, q⟩ := r
    have h' : (cellAt ρ i).map Cell.py = some x := h
    rw [e] at h'
    have e2 : c.py = x := Option.some.inj h'
    subst e2
    obtain ⟨a, q1, q2, q3⟩ := rp.cell i c e
    rw [q] at q1
    cases q1
    exact q3.top
  | ref _ => exact r.elim
  | exc _ _ => exact r.elim
  | fn _ => exact r.elim
/-- as data to be kept -/
theorem RV0.keep (r : RV0 K g H0 H σ ρ v sv) (h : toD sv = some x) : Rp K (hid (Out' g σ ρ) H) v x := by
  cases sv with
  | d y =>
    have e : y = x := Option.some.inj h
    subst e
    exact r
  | own c =>
    have e : c.py = x := Option.some.inj h
    subst e
    obtain ⟨p, rfl, n, no, q⟩ := r
    have gr : Grow (hid (fun a => Out' g σ ρ a ∨ a = p) H) (hid (Out' g σ ρ) H) := hid_grow fun a o n e => ⟨fun z => n (.inl z), e⟩
    cases c with
    | lst ds =>
      obtain ⟨xs, q1, q2⟩ := q
      exact .lst (.of (hid_some.mpr ⟨no, q1⟩)) (q2.grow gr)
    | dct ds =>
      obtain ⟨xs, q1, q2⟩ := q
      exact .dic (.inl (hid_some.mpr ⟨no, q1⟩)) (q2.grow gr)
  | pk i => cases h
  | ref _ => exact r.elim
  | exc _ _ => exact r.elim
  | fn _ => exact r.elim
end
/-! ### more is protected -/
def Gh.add (g : Gh) (p : Addr) : Gh := ⟨fun a => g.Pm a ∨ a = p, g.rf⟩
structure Gh.le (g g' : Gh) : Prop where
  pm : ∀ a, g.Pm a → g'.Pm a
  rf : g'.rf = g.rf
theorem Gh.le_refl (g : Gh) : g.le g := ⟨fun _ h => h, rfl⟩
theorem Gh.le_add (g : Gh) (p : Addr) : g.le (g.add p) := ⟨fun _ h => .inl h, rfl⟩
theorem Gh.add_mono {g g' : Gh} (h : g.le g') (p : Addr) : (g.add p).le (g'.add p) := ⟨fun a q => q.imp (h.pm a) id, h.rf⟩
section
variable {K : Fg} {g g' : Gh} {H0 H H1 H' : Hp} {σ : St} {ρ ρ' : En} {v : V} {sv : SV} {x : D}
theorem Gh.le.out (h : g.le g') {a : Addr} (q : Out' g σ ρ a) : Out' g' σ ρ a := q.imp (h.pm a) id
theorem Gh.le.hid (h : g.le g') : Grow (hid (Out' g' σ ρ) H) (hid (Out' g σ ρ) H) := hid_grow fun a o n e => ⟨fun z => n (h.out z), e⟩
theorem Rep.less (r : Rep K g' H σ ρ) (h : g.le g') : Rep K g H σ ρ := by
  refine ⟨r.len, fun i x e => ?_, fun i c e => ?_, r.inj, fun a q => r.pm a (h.pm a q), fun i c e => ?_, fun i a e => r.rfs i a (by rw [h.rf]; exact e), r.noexc, r.nofn⟩
  · obtain ⟨v, h1, h2⟩ := r.d i x e
    exact ⟨v, h1, h2.grow h.hid⟩
  · obtain ⟨a, h1, h2, h3⟩ := r.cell i c e
    exact ⟨a, h1, fun z => h2 (h.pm a z), h3.mono h.hid rfl⟩
  · obtain ⟨a, h1, h2⟩ := r.rf i c e
    exact ⟨a, by rw [← h.rf]; exact h1, h2⟩
theorem RV0.less (r : RV0 K g' H0 H σ ρ v sv) (h : g.le g') : RV0 K g H0 H σ ρ v sv := by
  cases sv with
  | d x => exact Rp.grow h.hid r
  | own c =>
    obtain ⟨p, e, n, no, q⟩ := r
    exact ⟨p, e, n, fun z => no (h.out z), q.mono (hid_grow fun a o n e => ⟨fun z => n (z.imp h.out id), e⟩) rfl⟩
  | pk i => exact r
  | ref _ => exact r
  | exc _ _ => exact r
  | fn _ => exact r
/-- a new object is known to no slot -/
theorem Rep.add_new {p : Addr} (r : Rep K g H σ ρ) (hp : H p = none) (e : Grow H H') (hp' : ∃ o, H' p = some o) : Rep K (g.add p) H' σ ρ := by
  have no : ∀ {a o}, H a = some o → a ≠ p := fun q => ne_of_none q hp
  have own : ¬ Own σ ρ p := fun ⟨i, c, h1, h2⟩ => by
    obtain ⟨a, q1, _, q3⟩ := r.cell i c h1
    rw [h2] at q1
    cases q1
    obtain ⟨o, eo⟩ := q3.some
    rw [hp] at eo
    cases eo
  have gr : Grow (MP.hid (Out' g σ ρ) H) (MP.hid (Out' (g.add p) σ ρ) H') := hid_grow fun a o n q => ⟨fun z => z.elim (fun z => z.elim (fun z => n (.inl z)) (no q)) fun z => n (.inr z), e a o q⟩
  refine ⟨r.len, fun i x h => ?_, fun i c h => ?_, r.inj, fun a h => ?_, r.rf, r.rfs, r.noexc, r.nofn⟩
  · obtain ⟨v, h1, h2⟩ := r.d i x h
    exact ⟨v, h1, h2.grow gr⟩
  · obtain ⟨a, h1, h2, h3⟩ := r.cell i c h
    obtain ⟨o, eo⟩ := h3.some
    exact ⟨a, h1, fun z => z.elim h2 (no eo), h3.mono gr (by rw [e a o eo, eo])⟩
  · rcases h with h | h
    · obtain ⟨o, q⟩ := r.pm a h
      exact ⟨o, e a o q⟩
    · rw [h]
      exact hp'
/-- no slot knows the new object -/
def RVX (K : Fg) (g : Gh) (H : Hp) (σ : St) (ρ : En) (v : V) : SV → Prop
  | .own _ => ∀ p, v = .ref p → Rep K (g.add p) H σ ρ
  | _ => True
structure RV (K : Fg) (g : Gh) (H0 H : Hp) (σ : St) (ρ : En) (v : V) (sv : SV) : Prop where
  b : RV0 K g H0 H σ ρ v sv
  x : RVX K g H σ ρ v sv
theorem RV.later (r : RV K g H0 H σ ρ v sv) (s : SameC ρ ρ') (f : FrE H (Own σ ρ) H') : RV0 K g H0 H' σ ρ' v sv := r.b.later s f
theorem RV.older (r : RV K g H1 H σ ρ v sv) (h : ∀ p, H1 p = none → H0 p = none) : RV K g H0 H σ ρ v sv := ⟨r.b.older h, r.x⟩
theorem RV.top (r : RV K g H0 H σ ρ v sv) (rp : Rep K g H σ ρ) (h : view ρ sv = some x) : Top K (MP.hid (Out' g σ ρ) H) H v x := r.b.top rp h
theorem RV.keep (r : RV K g H0 H σ ρ v sv) (h : toD sv = some x) : Rp K (MP.hid (Out' g σ ρ) H) v x := r.b.keep h
theorem RV.d {x : D} (h : Rp K (MP.hid (Out' g σ ρ) H) v x) : RV K g H0 H σ ρ v (.d x) := ⟨h, trivial⟩
theorem RV.less (r : RV K g' H0 H σ ρ v sv) (h : g.le g') : RV K g H0 H σ ρ v sv := by
  refine ⟨r.b.less h, ?_⟩
  have := r.x
  cases sv with
  | own c => exact fun p e => (this p e).less (Gh.add_mono h p)
  | _ => trivial
/-- what is protected from here on -/
def gadd (g : Gh) (v : V) : SV → Gh
  | .own _ => (match v with | .ref p => g.add p | _ => g)
  | _ => g
theorem le_gadd (g : Gh) (v : V) (sv : SV) : g.le (gadd g v sv) := by
  unfold gadd
  split
  · split
    · exact g.le_add _
    · exact g.le_refl
  · exact g.le_refl
theorem RV.gadd (r : RV K g H0 H σ ρ v sv) (rp : Rep K g H σ ρ) : Rep K (MP.gadd g v sv) H σ ρ := by
  have hx := r.x
  have hb := r.b
  cases sv with
  | own c =>
    obtain ⟨p, rfl, _⟩ := hb
    exact hx p rfl
  | _ => exact rp
theorem RV.is_int {i : Int} (h : RV K g H0 H σ ρ v (.d (.int i))) : v = .int i := by
  cases (show Rp _ _ v (.int i) from h.b)
  rfl
theorem RV.is_bl {i : Bool} (h : RV K g H0 H σ ρ v (.d (.bool i))) : v = .bl i := by
  cases (show Rp _ _ v (.bool i) from h.b)
  rfl
end
end MP
end

section
set_option Elab.async false
set_option linter.all false
set_option maxRecDepth 100000
set_option maxHeartbeats 4000000
set_option autoImplicit false
namespace MP
open PySem PySem.Spec L2

/-- the written part; where the error classes stand -/
structure Pk where
  K : Fg
  CA : Str → Addr

section
variable {P : Pk} {E : St → XK} {g : Gh} {σ : St} {ρ ρ1 : En} {H H1 : Hp}

def RX (P : Pk) (E : St → XK) (g : Gh) (σ : St) (ρ : En) (H : Hp) (c : Str) (x : D) (ρ' : En) : Prop :=
  ∀ d v H', Rep P.K g H' σ ρ' → SameC ρ ρ' → FrE H (Own σ ρ) H' → H' d = some (.xd [("value", v)]) → Rp P.K (hid (Out' g σ ρ') H') v x → E σ (.ref (P.CA c)) (some d) H'
/-- what an outcome promises to what follows; new objects are new to H0 -/
def PostG {α β : Type} (R : Gh → Hp → Hp → St → En → β → α → Prop) (P : Pk) (E : St → XK) (g : Gh) (σ : St) (ρ : En) (H0 H : Hp) (Q : β → Hp → Prop) : Out α → Prop
  | .ok a ρ' => ∀ v H', Rep P.K g H' σ ρ' → SameC ρ ρ' → FrE H (Own σ ρ) H' → R g H0 H' σ ρ' v a → Q v H'
  | .raise c x ρ' => RX P E g σ ρ H c x ρ'
  | .stuck => False
abbrev RVP (P : Pk) : Gh → Hp → Hp → St → En → V → SV → Prop := fun g H0 H σ ρ v s => RV P.K g H0 H σ ρ v s
abbrev RB : Gh → Hp → Hp → St → En → Bool → Bool → Prop := fun _ _ _ _ _ v b => v = b
inductive RVs (K : Fg) : Gh → Hp → Hp → St → En → List V → List SV → Prop
  | nil {g : Gh} {H0 H : Hp} {σ : St} {ρ : En} : RVs K g H0 H σ ρ [] []
  | cons {g : Gh} {H0 H : Hp} {σ : St} {ρ : En} {v : V} {vs : List V} {s : SV} {ss : List SV} : RV K g H0 H σ ρ v s → RVs K (gadd g v s) H0 H σ ρ vs ss → RVs K g H0 H σ ρ (v :: vs) (s :: ss)
abbrev RAP (P : Pk) : Gh → Hp → Hp → St → En → List V → List SV → Prop := fun g H0 H σ ρ vs ss => RVs P.K g H0 H σ ρ vs ss
abbrev PostE (P : Pk) := PostG (RVP P) P
abbrev PostA (P : Pk) := PostG (RAP P) P
abbrev PostT (P : Pk) := PostG RB P
def tM (P : Pk) (E : St → XK) (m : ME) : TE := fun σ H Q => ∃ g ρ, Rep P.K g H σ ρ ∧ PostE P E g σ ρ H H Q (m ρ)
def tAs (P : Pk) (E : St → XK) (ms : List ME) : TA := fun σ H Q => ∃ g ρ, Rep P.K g H σ ρ ∧ PostA P E g σ ρ H H Q (mArgs ms ρ)
def tT (P : Pk) (E : St → XK) (t : MT) : TT := fun σ H Q => ∃ g ρ, Rep P.K g H σ ρ ∧ PostT P E g σ ρ H H Q (t ρ)
/-- new to H1 is new to H0 -/
def Free (H0 H1 : Hp) : Prop := ∀ p, H1 p = none → H0 p = none
theorem Free.refl (H : Hp) : Free H H := fun _ h => h
theorem Free.trans {H0 H1 H2 : Hp} (a : Free H0 H1) (b : Free H1 H2) : Free H0 H2 := fun p h => a p (b p h)
theorem FrE.free {M : Addr → Prop} {H H1 : Hp} (f : FrE H M H1) : Free H H1 := fun _ h => f.back h
def Old {α β : Type} (R : Gh → Hp → Hp → St → En → β → α → Prop) : Prop := ∀ g H0 H1 H σ ρ v a, R g H1 H σ ρ v a → Free H0 H1 → R g H0 H σ ρ v a
theorem old_V {P : Pk} : Old (RVP P) := fun _ _ _ _ _ _ _ _ r h => r.older h
theorem old_B : Old RB := fun _ _ _ _ _ _ _ _ r _ => r
theorem RVs.older {K : Fg} {H0 : Hp} {vs : List V} {ss : List SV} (r : RVs K g H1 H σ ρ vs ss) (h : ∀ p, H1 p = none → H0 p = none) : RVs K g H0 H σ ρ vs ss := by
  induction r with
  | nil => exact .nil
  | cons q _ ih => exact .cons (q.older h) (ih h)
theorem old_A {P : Pk} : Old (RAP P) := fun _ _ _ _ _ _ _ _ r h => r.older h
theorem gadd_mono {g g' : Gh} (h : g.le g') (v : V) (s : SV) : (gadd g v s).le (gadd g' v s) := by
  unfold gadd
  split
  · split
    · exact Gh.add_mono h _
    · exact h
  · exact h
theorem RVs.less {K : Fg} {g' : Gh} {H0 : Hp} {vs : List V} {ss : List SV} (r : RVs K g' H0 H σ ρ vs ss) (h : g.le g') : RVs K g H0 H σ ρ vs ss := by
  induction r generalizing g with
  | nil => exact .nil
  | cons q _ ih => exact .cons (q.less h) (ih (gadd_mono h _ _))
def Less {α β : Type} (R : Gh → Hp → Hp → St → En → β → α → Prop) : Prop := ∀ g g' H0 H σ ρ v a, R g' H0 H σ ρ v a → g.le g' → R g H0 H σ ρ v a
theorem less_V {P : Pk} : Less (RVP P) := fun _ _ _ _ _ _ _ _ r h => r.less h
theorem less_B : Less RB := fun _ _ _ _ _ _ _ _ r _ => r
theorem less_A {P : Pk} : Less (RAP P) := fun _ _ _ _ _ _ _ _ r h => r.less h
theorem RX.step {c : Str} {x : D} {ρ' : En} (h : RX P E g σ ρ H c x ρ') (s : SameC ρ ρ1) (f : FrE H (Own σ ρ) H1) : RX P E g σ ρ1 H1 c x ρ' :=
  fun d v H' r s' f' e q => h d v H' r (s.trans s') (f.trans f' fun _ z => s.symm.own z) e q
theorem PostG.step {α β : Type} {R : Gh → Hp → Hp → St → En → β → α → Prop} {Q : β → Hp → Prop} {o : Out α} {H0 : Hp} (h : PostG R P E g σ ρ H0 H Q o) (s : SameC ρ ρ1) (f : FrE H (Own σ ρ) H1) : PostG R P E g σ ρ1 H0 H1 Q o := by
  cases o with
  | ok a ρ' => exact fun v H' r s' f' rv => h v H' r (s.trans s') (f.trans f' fun _ z => s.symm.own z) rv
  | raise c x ρ' => exact RX.step h s f
  | stuck => exact h
theorem PostG.based {α β : Type} {R : Gh → Hp → Hp → St → En → β → α → Prop} (old : Old R) {Q : β → Hp → Prop} {o : Out α} {H0 : Hp} (h : PostG R P E g σ ρ H0 H Q o) (f : Free H0 H1) : PostG R P E g σ ρ H1 H Q o := by
  cases o with
  | ok a ρ' => exact fun v H' r s' f' rv => h v H' r s' f' (old _ _ _ _ _ _ _ _ rv f)
  | raise c x ρ' => exact h
  | stuck => exact h

theorem PostG.more {α β : Type} {R : Gh → Hp → Hp → St → En → β → α → Prop} (ls : Less R) {Q : β → Hp → Prop} {o : Out α} {H0 : Hp} {g' : Gh} (h : PostG R P E g σ ρ H0 H Q o) (le : g.le g') : PostG R P E g' σ ρ H0 H Q o := by
  cases o with
  | ok a ρ' => exact fun v H' r s' f' rv => h v H' (r.less le) s' f' (ls _ _ _ _ _ _ _ _ rv le)
  | raise c x ρ' => exact fun d v H' r s f e q => h d v H' (r.less le) s f e (q.grow le.hid)
  | stuck => exact h
/-- one part after another: f goes on with what o gave; h is what is known of the whole -/
theorem bindG {α β α' β' : Type} {R : Gh → Hp → Hp → St → En → β → α → Prop} {R' : Gh → Hp → Hp → St → En → β' → α' → Prop}
    {Q : β' → Hp → Prop} {o : Out α} {f : α → En → Out α'} {Q' : β → Hp → Prop} {H0 : Hp} (h : PostG R' P E g σ ρ H0 H Q (o.bind f))
    (k : ∀ a ρ1 v H1, Rep P.K g H1 σ ρ1 → SameC ρ ρ1 → FrE H (Own σ ρ) H1 → R g H H1 σ ρ1 v a → PostG R' P E g σ ρ1 H0 H1 Q (f a ρ1) → Q' v H1) : PostG R P E g σ ρ H H Q' o := by
  cases o with
  | ok a ρ' => exact fun v H' r s fr rv => k a ρ' v H' r s fr rv (PostG.step h s fr)
  | raise c x ρ' => exact h
  | stuck => exact h
theorem Rep.out_some {K : Fg} (r : Rep K g H σ ρ) {a : Addr} (h : Out' g σ ρ a) : ∃ o, H a = some o := by
  rcases h with h | ⟨i, c, h1, h2⟩
  · exact r.pm a h
  · obtain ⟨b, q1, _, q3⟩ := r.cell i c h1
    rw [h2] at q1
    cases q1
    exact q3.some
/-- what an operation on values gives -/
def Res (K : Fg) (Pr : Addr → Prop) (H0 H : Hp) (v : V) : SV → Prop
  | .d x => Rp K (hid Pr H) v x
  | .own c => ∃ p, v = .ref p ∧ H0 p = none ∧ CellR K (hid (fun a => Pr a ∨ a = p) H) H p c
  | _ => False
theorem Rep.res {K : Fg} {H' : Hp} {v : V} {sv : SV} (r : Rep K g H σ ρ) (e : Grow H H') (h : Res K (Out' g σ ρ) H H' v sv) : RV K g H H' σ ρ v sv := by
  cases sv with
  | d x => exact ⟨h, trivial⟩
  | own c =>
    obtain ⟨p, ev, n, q⟩ := h
    refine ⟨⟨p, ev, n, fun z => ?_, q⟩, fun p' ep => ?_⟩
    · obtain ⟨o, eo⟩ := r.out_some z
      rw [n] at eo
      cases eo
    · rw [ev] at ep
      cases ep
      exact r.add_new n e q.some
  | _ => exact h.elim
/-- the end of an operation -/
theorem post_res {Q : VK} {sv : SV} {v : V} {H' : Hp} (r : Rep P.K g H σ ρ) {H0 : Hp} (f : Free H0 H) (h : PostE P E g σ ρ H0 H Q (.ok sv ρ)) (e : Grow H H') (q : Res P.K (Out' g σ ρ) H H' v sv) : Q v H' :=
  h v H' (r.grow e) (.refl _) (.of_grow e) ((r.res e q).older f)
def Tracked (H : Hp) (Pr : Addr → Prop) : Prop := ∀ a, Pr a → ∃ o, H a = some o
/-- an operation on two values, on one, on a list of them -/
def OpG (r : R2) (K : Fg) (f : D → D → Option SV) : Prop := ∀ (Pr : Addr → Prop) (H : Hp) (v w : V) (x y : D) (sv : SV) (Q : VK), Tracked H Pr → Top K (hid Pr H) H v x → Top K (hid Pr H) H w y → f x y = some sv →
  (∀ v' H', Grow H H' → Res K Pr H H' v' sv → Q v' H') → r v w H Q
def OpG1 (r : V → Hp → VK → Prop) (K : Fg) (f : D → Option SV) : Prop := ∀ (Pr : Addr → Prop) (H : Hp) (v : V) (x : D) (sv : SV) (Q : VK), Tracked H Pr → Top K (hid Pr H) H v x → f x = some sv →
  (∀ v' H', Grow H H' → Res K Pr H H' v' sv → Q v' H') → r v H Q
inductive TopAll (K : Fg) (Hh H : Hp) : List V → List D → Prop
  | nil : TopAll K Hh H [] []
  | cons {v : V} {vs : List V} {x : D} {xs : List D} : Top K Hh H v x → TopAll K Hh H vs xs → TopAll K Hh H (v :: vs) (x :: xs)
def CallG (r : List V → Hp → VK → Prop) (K : Fg) (f : List D → Option SV) : Prop := ∀ (Pr : Addr → Prop) (H : Hp) (vs : List V) (xs : List D) (sv : SV) (Q : VK), Tracked H Pr → TopAll K (hid Pr H) H vs xs → f xs = some sv →
  (∀ v' H', Grow H H' → Res K Pr H H' v' sv → Q v' H') → r vs H Q

theorem viewB_some {β : Type} {R : Gh → Hp → Hp → St → En → β → SV → Prop} {Q : β → Hp → Prop} {sv : SV} {f : D → Out SV} {ρ2 : En} {H0 : Hp} (h : PostG R P E g σ ρ H0 H Q (viewB ρ2 sv f)) : ∃ x, view ρ2 sv = some x ∧ PostG R P E g σ ρ H0 H Q (f x) := by
  unfold viewB at h
  split at h
  · exact ⟨_, by assumption, h⟩
  · exact h.elim
theorem viewB_some' {β α : Type} {R : Gh → Hp → Hp → St → En → β → α → Prop} {Q : β → Hp → Prop} {sv : SV} {f : D → Out α} {ρ2 : En} {H0 : Hp} (h : PostG R P E g σ ρ H0 H Q (viewB ρ2 sv f)) : ∃ x, view ρ2 sv = some x ∧ PostG R P E g σ ρ H0 H Q (f x) := by
  unfold viewB at h
  split at h
  · exact ⟨_, by assumption, h⟩
  · exact h.elim
theorem toB_some {β α : Type} {R : Gh → Hp → Hp → St → En → β → α → Prop} {Q : β → Hp → Prop} {sv : SV} {f : D → Out α} {H0 : Hp} (h : PostG R P E g σ ρ H0 H Q (toB sv f)) : ∃ x, toD sv = some x ∧ PostG R P E g σ ρ H0 H Q (f x) := by
  unfold toB at h
  split at h
  · exact ⟨_, by assumption, h⟩
  · exact h.elim
theorem opt_of {β α : Type} {R : Gh → Hp → Hp → St → En → β → α → Prop} {Q : β → Hp → Prop} {o : Option α} {ρ2 : En} {H0 : Hp} (h : PostG R P E g σ ρ H0 H Q (opt o ρ2)) : ∃ a, o = some a ∧ PostG R P E g σ ρ H0 H Q (.ok a ρ2) := by
  cases o with
  | some a => exact ⟨a, rfl, h⟩
  | none => exact h.elim
end

theorem PE.imp {X : Cx} {e : Expr} {t t' : TE} (h : PE X e t) (k : ∀ σ H Q, t' σ H Q → t σ H Q) : PE X e t' := ⟨fun pins s σ H Q I q => h.run pins s σ H Q I (k σ H Q q)⟩
theorem PT.imp {X : Cx} {e : Expr} {t t' : TT} (h : PT X e t) (k : ∀ σ H Q, t' σ H Q → t σ H Q) : PT X e t' := ⟨fun pins s σ H Q I q => h.run pins s σ H Q I (k σ H Q q)⟩
theorem PA.imp {X : Cx} {e : List Expr} {t t' : TA} (h : PA X e t) (k : ∀ σ H Q, t' σ H Q → t σ H Q) : PA X e t' := ⟨fun pos pins s σ H Q I q => h.run pos pins s σ H Q I (k σ H Q q)⟩
theorem PS.imp {X : Cx} {e : Stmt} {t t' : TS} (h : PS X e t) (k : ∀ D σ H, t' D σ H → t D σ H) : PS X e t' := ⟨fun pins s σ H D I q => h.run pins s σ H D I (k D σ H q)⟩

section
variable {X : Cx} {P : Pk} {E : St → XK} {a b : Expr} {ma mb : ME} {pos : Pos}

/-! ### constants and names -/
theorem tM_c {x : D} {v : V} (hv : ∀ K H, Rp K H v x) : ∀ σ H Q, tM P E (mC x) σ H Q → tC v σ H Q := fun σ H Q ⟨g, ρ, r, h⟩ => h v H r (.refl _) (.refl _ _) (.d (hv _ _))
theorem s_int {i : Int} {j} : PE X (.Constant (.int i) j pos) (tM P E (mC (.int i))) := PE.imp pe_int (tM_c fun _ _ => .int i)
theorem s_bl {i : Bool} {j} : PE X (.Constant (.bool i) j pos) (tM P E (mC (.bool i))) := PE.imp pe_bl (tM_c fun _ _ => .bl i)
theorem s_non {j} : PE X (.Constant .none j pos) (tM P E (mC .none)) := PE.imp pe_non (tM_c fun _ _ => .non)
theorem s_str {x : Str} {j} : PE X (.Constant (.str x) j pos) (tM P E (mC (.str x))) := PE.imp pe_str (tM_c fun _ _ => .str x)
theorem cellAt_own {ρ : En} {i : Nat} {c : Cell} (h : ρ[i]? = some (some (.own c))) : cellAt ρ i = some c := by unfold cellAt; rw [h]
theorem cellAt_ref {ρ : En} {i : Nat} {c : Cell} (h : ρ[i]? = some (some (.ref c))) : cellAt ρ i = some c := by unfold cellAt; rw [h]
theorem s_v (i : Nat) {x : Str} (hN : X.N[i]? = some x := by rfl) (hv : Vis X.env.scope x := by first | exact Or.inl rfl | exact Or.inr (Or.inl rfl) | exact Or.inr (Or.inr rfl)) (hd : (x == ("__debug__" : Str)) = false := by decide)
    (hcd : (x == ("__classdict__" : Str)) = false := by decide) : PE X (.Name x pos) (tM P E (mV i)) := by
  refine PE.imp (pe_var hN hv hd hcd) fun σ H Q ⟨g, ρ, r, h⟩ => ?_
  unfold mV at h
  split at h
  · rename_i x e
    obtain ⟨v, q1, q2⟩ := r.d i x e
    exact ⟨v, q1, h v H r (.refl _) (.refl _ _) (.d q2)⟩
  · rename_i c e
    obtain ⟨p, q1, q2, q3⟩ := r.cell i c (cellAt_own e)
    exact ⟨.ref p, q1, h (.ref p) H r (.refl _) (.refl _ _) ⟨⟨c, cellAt_own e, q1⟩, trivial⟩⟩
  · rename_i c e
    obtain ⟨p, q1, q2, q3⟩ := r.cell i c (cellAt_ref e)
    exact ⟨.ref p, q1, h (.ref p) H r (.refl _) (.refl _ _) ⟨⟨c, cellAt_ref e, q1⟩, trivial⟩⟩
  · exact (r.noexc _ _ _ (by assumption)).elim
  · exact (r.nofn _ _ (by assumption)).elim
  · exact h.elim

/-! ### lists of expressions -/
theorem s_nil : PA X [] (tAs P E []) := PA.imp pa_nil fun σ H Q ⟨g, ρ, r, h⟩ => h [] H r (.refl _) (.refl _ _) .nil
theorem RV.later_own {K : Fg} {g : Gh} {H0 H H' : Hp} {σ : St} {ρ ρ' : En} {v : V} {sv : SV} (r : RV K g H0 H σ ρ v sv) (s : SameC ρ ρ') (f : FrE H (Own σ ρ) H') (rp : Rep K (MP.gadd g v sv) H' σ ρ') : RV K g H0 H' σ ρ' v sv := by
  refine ⟨r.b.later s f, ?_⟩
  have hb := r.b
  cases sv with
  | own c =>
    obtain ⟨p, rfl, _⟩ := hb
    intro p' e
    cases e
    exact rp
  | _ => trivial
theorem s_cons {es : List Expr} {m : ME} {ms : List ME} (ha : PE X a (tM P E m)) (hr : PA X es (tAs P E ms)) (hs : starEach (a :: es) X.env = (false, eval a X.env) :: starEach es X.env := by rfl) : PA X (a :: es) (tAs P E (m :: ms)) := by
  refine PA.imp (pa_cons ha hr hs) fun σ H Q ⟨g, ρ, r, h⟩ => ?_
  refine ⟨g, ρ, r, bindG (R := RVP P) (R' := RAP P) (f := fun v ρ1 => (mArgs ms ρ1).bind fun vs ρ2 => .ok (v :: vs) ρ2) h fun sv ρ1 v H1 r1 s1 f1 q1 h1 => ?_⟩
  have h1' := PostG.more less_A h1 (le_gadd g v sv)
  refine ⟨gadd g v sv, ρ1, q1.gadd r1, ?_⟩
  cases e : mArgs ms ρ1 with
  | ok ss ρ2 =>
    rw [e] at h1
    intro vs H2 r2 s2 f2 q2
    exact h1 (v :: vs) H2 (r2.less (le_gadd g v sv)) s2 f2 (.cons (q1.later_own s2 f2 r2) (q2.older f1.free))
  | raise c x ρ2 =>
    rw [e] at h1'
    exact h1'
  | stuck =>
    rw [e] at h1'
    exact h1'
end
end MP
end

section
set_option Elab.async false
set_option linter.all false
set_option maxRecDepth 100000
set_option maxHeartbeats 4000000
set_option autoImplicit false
namespace MP
open PySem PySem.Spec L2

theorem line_eq : line = sizeLine := by decide
/-! ### either rule -/
theorem opOr {X : Cx} {f : Value → Value → Sem Value} {r r' : R2} (a : OpR X f r) (b : OpR X f r') : OpR X f (fun x y H Q => r x y H Q ∨ r' x y H Q) :=
  fun pins s σ H x y v u Q I rx ry h => h.elim (a pins s σ H x y v u Q I rx ry) (b pins s σ H x y v u Q I rx ry)
theorem callOr {X : Cx} {f : Value} {r r' : List V → Hp → VK → Prop} (a : CallR X f r) (b : CallR X f r') : CallR X f (fun xs H Q => r xs H Q ∨ r' xs H Q) :=
  fun pins s σ H xs us Q I rx h => h.elim (a pins s σ H xs us Q I rx) (b pins s σ H xs us Q I rx)

section
variable {X : Cx} {P : Pk} {E : St → XK} {a b : Expr} {ma mb : ME} {pos : Pos}
theorem bin_of {r : R2} {f : D → D → Option SV} (hg : OpG r P.K f) : ∀ σ H Q, tM P E (m2 f ma mb) σ H Q → tOp r (tM P E ma) (tM P E mb) σ H Q := fun σ H Q ⟨g, ρ, rp, h⟩ => by
  refine ⟨g, ρ, rp, bindG (R := RVP P) (R' := RVP P) h fun sv ρ1 v H1 r1 s1 f1 q1 h1 => ?_⟩
  refine ⟨g, ρ1, r1, bindG (R := RVP P) (R' := RVP P) h1 fun sw ρ2 w H2 r2 s2 f2 q2 h2 => ?_⟩
  obtain ⟨x, ex, h2⟩ := viewB_some' h2
  obtain ⟨y, ey, h2⟩ := viewB_some' h2
  obtain ⟨z, ez, h2⟩ := opt_of h2
  exact hg (Out' g σ ρ2) H2 v w x y z Q (fun a h => r2.out_some h) ((q1.later s2 f2).top r2 ex) (q2.top r2 ey) ez fun v' H' gr rs => post_res r2 (f1.free.trans f2.free) h2 gr rs
theorem s_bin {op : Operator} {r : R2} {f : D → D → Option SV} (ho : OpR X (binaryOp op) r) (hg : OpG r P.K f) (ha : PE X a (tM P E ma)) (hb : PE X b (tM P E mb)) : PE X (.BinOp a op b pos) (tM P E (m2 f ma mb)) :=
  PE.imp (pe_op ho ha hb) (bin_of hg)
theorem s_cmp {op : CmpOp} {r : R2} {f : D → D → Option SV} (ho : OpR X (compareOp op) r) (hg : OpG r P.K f) (ha : PE X a (tM P E ma)) (hb : PE X b (tM P E mb)) (hm : behindInMarks op b = false) : PE X (.Compare a [op] [b] pos) (tM P E (m2 f ma mb)) :=
  PE.imp (pe_cmpR ho ha hb hm) (bin_of hg)
theorem s_un {op : UnaryOp} {r : V → Hp → VK → Prop} {f : D → Option SV} (ho : UnR X (unaryOp op) r) (hg : OpG1 r P.K f) (ha : PE X a (tM P E ma)) : PE X (.UnaryOp op a pos) (tM P E (m1 f ma)) := by
  refine PE.imp (pe_un ho ha) fun σ H Q ⟨g, ρ, rp, h⟩ => ?_
  refine ⟨g, ρ, rp, bindG (R := RVP P) (R' := RVP P) h fun sv ρ1 v H1 r1 s1 f1 q1 h1 => ?_⟩
  obtain ⟨x, ex, h1⟩ := viewB_some' h1
  obtain ⟨z, ez, h1⟩ := opt_of h1
  exact hg (Out' g σ ρ1) H1 v x z Q (fun a h => r1.out_some h) (q1.top r1 ex) ez fun v' H' gr rs => post_res r1 f1.free h1 gr rs
theorem s_ix {r : R2} {f : D → D → Option SV} (ho : IxR X r) (hg : OpG r P.K f) (ha : PE X a (tM P E ma)) (hb : PE X b (tM P E mb)) (hs : PlainIx b := by exact fun _ _ => rfl) : PE X (.Subscript a b pos) (tM P E (m2 f ma mb)) :=
  PE.imp (pe_ix ho ha hb hs) (bin_of hg)
end

/-! ### the operations -/
theorem res_int {K : Fg} {Pr : Addr → Prop} {H0 H : Hp} {i : Int} : Res K Pr H0 H (.int i) (.d (.int i)) := Rp.int i
theorem res_bool {K : Fg} {Pr : Addr → Prop} {H0 H : Hp} {i : Bool} : Res K Pr H0 H (.bl i) (.d (.bool i)) := Rp.bl i
theorem res_str {K : Fg} {Pr : Addr → Prop} {H0 H : Hp} {i : Str} : Res K Pr H0 H (.str i) (.d (.str i)) := Rp.str i
theorem res_non {K : Fg} {Pr : Addr → Prop} {H0 H : Hp} : Res K Pr H0 H .non (.d .none) := Rp.non
theorem ne_new {H : Hp} {p a : Addr} {o : HO} (e : H a = some o) (hp : H p = none) : a ≠ p := ne_of_none e hp
theorem hid_new {Pr : Addr → Prop} {H : Hp} {p : Addr} {o : HO} (hp : H p = none) : Grow (hid Pr H) (hid (fun a => Pr a ∨ a = p) (upd H p o)) :=
  hid_grow fun a u n e => ⟨fun z => z.elim n (ne_new e hp), (upd_ne (ne_new e hp)).trans e⟩
theorem hid_newT {Pr : Addr → Prop} {H : Hp} {p : Addr} {o : HO} (hp : H p = none) : Grow (hid Pr H) (hid Pr (upd H p o)) :=
  hid_grow fun a u n e => ⟨n, (upd_ne (ne_new e hp)).trans e⟩
theorem not_tr {Pr : Addr → Prop} {H : Hp} {p : Addr} (tr : Tracked H Pr) (hp : H p = none) : ¬ Pr p := fun z => by
  obtain ⟨o, e⟩ := tr p z
  rw [hp] at e
  cases e
theorem res_lst {K : Fg} {Pr : Addr → Prop} {H : Hp} {p : Addr} {xs : List V} {ds : List D} (hp : H p = none) (r : RpAll K (hid Pr H) xs ds) : Res K Pr H (upd H p (.lst xs)) (.ref p) (.own (.lst ds)) :=
  ⟨p, rfl, hp, xs, upd_same, r.grow (hid_new hp)⟩
theorem res_tup {K : Fg} {Pr : Addr → Prop} {H : Hp} {p : Addr} {xs : List V} {ds : List D} (tr : Tracked H Pr) (hp : H p = none) (r : RpAll K (hid Pr H) xs ds) (hn : pairy ds = false) : Res K Pr H (upd H p (.tup xs)) (.ref p) (.d (.tuple ds)) :=
  Rp.tup ⟨.of (hid_some.mpr ⟨not_tr tr hp, upd_same⟩), fun z => by rw [hn] at z; cases z⟩ (r.grow (hid_newT hp))
theorem res_tupF {K : Fg} {Pr : Addr → Prop} {H : Hp} {p : Addr} {o : Obj} {xs : List V} {ds : List D} (tr : Tracked H Pr) (hp : H p = none) (ho : o.dict = none) (r : RpAll K (hid Pr H) xs ds) : Res K Pr H (upd H p (.frz o (.tup xs))) (.ref p) (.d (.tuple ds)) :=
  have e : hid Pr (upd H p (.frz o (.tup xs))) p = some (.frz o (.tup xs)) := hid_some.mpr ⟨not_tr tr hp, upd_same⟩
  Rp.tup ⟨.inl (.inr ⟨o, e⟩), fun _ => ⟨o, e, ho⟩⟩ (r.grow (hid_newT hp))
/-- a list, a tuple that is not empty is a proper object -/
theorem top_len {K : Fg} {H : Hp} {a : Addr} {xs : List V} {ds : List D} {Hh : Hp} (r : RpAll K Hh xs ds) : xs.length = ds.length := r.length

/-! ### + -/
def rCatL (K : Fg) : R2 := fun x y H Q => ∃ l b xs zs, x = .ref l ∧ y = .ref b ∧ SqL K H l xs ∧ SqL K H b zs ∧ xs.length + zs.length ≤ sizeLine ∧ ∀ p, H p = none → Q (.ref p) (upd H p (.lst (xs ++ zs)))
theorem op_catL {X : Cx} : OpR X (binaryOp .Add) (rCatL X.K) := by
  intro pins s σ H x y v u Q I rx ry h
  obtain ⟨l, b, xs, zs, rfl, rfl, hH, hB, hz, q⟩ := h
  cases rx
  cases ry
  obtain ⟨its, r, ⟨⟨cls, dd, data, sl⟩, n, ho, hc, hd, hs⟩, z1⟩ := I.list hH
  obtain ⟨its2, r2, ⟨⟨cls2, dd2, data2, sl2⟩, n2, ho2, hc2, hd2, hs2⟩, z2⟩ := I.list hB
  simp only at hc hs hc2 hs2
  subst hc hs hc2 hs2
  have hl := r.length
  have hl2 := r2.length
  refine concat_meets ⟨_, ho, rfl⟩ ⟨_, ho2, rfl⟩ noFill_list_add seq_list_add F.slot_list_add F.entry_list_add (F.args_list_add_2 _ _) (PyProof.Rows.list_addW l b its.toArray its2.toArray n n2 dd dd2 sl sl2 (by rw [List.size_toArray, List.size_toArray]; omega)) ⟨ho, ho2, ?_⟩
  have ea : its.toArray ++ its2.toArray = (its ++ its2).toArray := by simp
  rw [ea]
  exact ⟨.ref _, _, I.lnew (t' := s.toks) (r.append r2) (by rw [List.length_append]; omega), rfl, q _ I.fresh⟩
/-! a new tuple is frozen at once: nothing hangs on it -/
abbrev tObj (its : List Value) : Obj := { cls := .type "tuple", data := .seq its.toArray }
theorem tupF_ok {P : Program} {w : World} {H : Hp} {h : Heap} {its : List Value} {xs : List V} (hz : xs.length ≤ sizeLine) (r : Vals xs its) : ObjOk P w H (h.push (tObj its)) h.objs.size (.frz (tObj its) (.tup xs)) :=
  ⟨Heap.get?_push_size _ rfl, hz, its, r, PyProof.Rows.IsTup.new _ _⟩
def QF (Q : VK) (H : Hp) (xs : List V) : Prop := ∀ (p : Addr) (o : Obj), o.dict = none → H p = none → Q (.ref p) (upd H p (.frz o (.tup xs)))
def rCatF (K : Fg) : R2 := fun x y H Q => ∃ a b xs ys, x = .ref a ∧ y = .ref b ∧ SqT K H a xs ∧ SqT K H b ys ∧ xs.length + ys.length ≤ sizeLine ∧
  (xs = [] → Q (.ref b) H) ∧ (xs ≠ [] → ys = [] → Q (.ref a) H) ∧ (xs ≠ [] → ys ≠ [] → QF Q H (xs ++ ys))
theorem op_catF {X : Cx} : OpR X (binaryOp .Add) (rCatF X.K) := by
  intro pins s σ H x y v u Q I rx ry h
  obtain ⟨a, b, xs, ys, rfl, rfl, ha, hb, hz, q0, q1, q2⟩ := h
  cases rx
  cases ry
  obtain ⟨its, r1, p1, _⟩ := I.tuple ha
  obtain ⟨its2, r2, p2, _⟩ := I.tuple hb
  by_cases hx : xs = []
  · subst hx
    cases r1
    exact cat_tup0 p1 p2 ⟨.ref b, H, I, rfl, q0 rfl⟩
  · refine HT.cat_tup p1 p2 (fun z => hx (r1.nil_iff.mp z)) (fun z => ⟨.ref a, H, I, rfl, q1 hx (r2.nil_iff.mp z)⟩) (fun z => ?_) (by rw [← r1.length, ← r2.length]; exact hz)
    exact ⟨.ref s.heap.objs.size, _, I.laid (t' := s.toks) (o := .frz (tObj (its ++ its2)) (.tup (xs ++ ys))) (fun b ob q => Heap.get?_push_of_some _ q) (Nat.le_refl _) (tupF_ok (by rw [List.length_append]; exact hz) (r1.append r2)), rfl, q2 hx (fun w => z (r2.nil_iff.mpr w)) _ _ rfl (I.hok.fresh (Nat.le_refl _))⟩
def rStrAdd : R2 := fun x y H Q => ∃ i j, x = .str i ∧ y = .str j ∧ i.length + j.length ≤ sizeLine ∧ Q (.str (i ++ j)) H
def rAddA (K : Fg) : R2 := fun x y H Q => (rI0 (fun i j => .int (i + j)) x y H Q ∨ rStrAdd x y H Q) ∨ (rCatL K x y H Q ∨ rCatF K x y H Q)
theorem op_addA {X : Cx} : OpR X (binaryOp .Add) (rAddA X.K) := opOr (opOr op_add op_add_str) (opOr op_catL op_catF)
theorem og_add {K : Fg} : OpG (rAddA K) K bAdd := by
  intro Pr H v w x y sv Q tr hv hw e k
  unfold bAdd at e
  split at e
  · cases e
    cases hv
    cases hw
    exact .inl (.inl ⟨_, _, rfl, rfl, k _ _ (.refl _) res_int⟩)
  · split at e
    · cases e
      cases hv
      cases hw
      exact .inl (.inr ⟨_, _, rfl, rfl, by rw [← line_eq]; assumption, k _ _ (.refl _) res_str⟩)
    · cases e
  · split at e
    · cases e
      obtain ⟨a, xs, rfl, h1, r1⟩ := hv
      obtain ⟨b, ys, rfl, h2, r2⟩ := hw
      exact .inr (.inl ⟨a, b, xs, ys, rfl, rfl, h1, h2, by rw [r1.length, r2.length, ← line_eq]; assumption, fun p hp => k _ _ (.new hp) (res_lst hp (r1.append r2))⟩)
    · cases e
  · split at e
    · cases e
      obtain ⟨a, xs, rfl, h1, r1⟩ := hv
      obtain ⟨b, ys, rfl, h2, r2⟩ := hw
      refine .inr (.inr ⟨a, b, xs, ys, rfl, rfl, hid_le.st h1.1, hid_le.st h2.1, by rw [r1.length, r2.length, ← line_eq]; assumption, fun z => ?_, fun _ z => ?_, fun _ _ p o ho hp => k _ _ (.new hp) (res_tupF tr hp ho (r1.append r2))⟩)
      · subst z
        cases r1
        exact k _ _ (.refl _) (Rp.tup h2 r2)
      · subst z
        cases r2
        rw [List.append_nil] at k
        exact k _ _ (.refl _) (Rp.tup h1 r1)
    · cases e
  · cases e

/-! ### the other operations of numbers -/
theorem og_I0 {K : Fg} {r : R2} {f : D → D → Option SV} {g : Int → Int → V} {g' : Int → Int → D} (hg : ∀ Hh i j, Rp K Hh (g i j) (g' i j)) (hr : ∀ i j H Q, Q (g i j) H → r (.int i) (.int j) H Q) (hf : ∀ x y sv, f x y = some sv → ∃ i j, x = .int i ∧ y = .int j ∧ sv = .d (g' i j)) : OpG r K f := by
  intro Pr H v w x y sv Q tr hv hw e k
  obtain ⟨i, j, rfl, rfl, rfl⟩ := hf x y sv e
  cases hv
  cases hw
  exact hr i j H Q (k _ _ (.refl _) (hg _ i j))
theorem og_IC {K : Fg} {r : R2} {f : D → D → Option SV} {g : Int → Int → V} {g' : Int → Int → D} {C : Int → Int → Prop} (hg : ∀ Hh i j, Rp K Hh (g i j) (g' i j)) (hr : ∀ i j H Q, C i j → Q (g i j) H → r (.int i) (.int j) H Q) (hf : ∀ x y sv, f x y = some sv → ∃ i j, x = .int i ∧ y = .int j ∧ sv = .d (g' i j) ∧ C i j) : OpG r K f := by
  intro Pr H v w x y sv Q tr hv hw e k
  obtain ⟨i, j, rfl, rfl, rfl, c⟩ := hf x y sv e
  cases hv
  cases hw
  exact hr i j H Q c (k _ _ (.refl _) (hg _ i j))
def f2 (g : Int → Int → D) : D → D → Option SV
  | .int i, .int j => some (.d (g i j))
  | _, _ => none
theorem f2_inv {g : Int → Int → D} {x y : D} {sv : SV} (h : f2 g x y = some sv) : ∃ i j, x = .int i ∧ y = .int j ∧ sv = .d (g i j) := by
  unfold f2 at h
  split at h
  · cases h
    exact ⟨_, _, rfl, rfl, rfl⟩
  · cases h
theorem og_sub {K : Fg} : OpG (rI0 fun i j => .int (i - j)) K bSub := og_I0 (g := fun i j => .int (i - j)) (g' := fun i j => .int (i - j)) (fun _ _ _ => .int _) (fun i j H Q q => ⟨i, j, rfl, rfl, q⟩) fun x y sv e => by
  unfold bSub at e
  split at e
  · cases e; exact ⟨_, _, rfl, rfl, rfl⟩
  · cases e
theorem og_lt {K : Fg} : OpG (rI0 fun i j => .bl (decide (i < j))) K cLt := og_I0 (g := fun i j => .bl (decide (i < j))) (g' := fun i j => .bool (decide (i < j))) (fun _ _ _ => .bl _) (fun i j H Q q => ⟨i, j, rfl, rfl, q⟩) fun x y sv e => by
  unfold cLt at e
  split at e
  · cases e; exact ⟨_, _, rfl, rfl, rfl⟩
  · cases e
theorem og_le {K : Fg} : OpG (rI0 fun i j => .bl (decide (i ≤ j))) K cLe := og_I0 (g := fun i j => .bl (decide (i ≤ j))) (g' := fun i j => .bool (decide (i ≤ j))) (fun _ _ _ => .bl _) (fun i j H Q q => ⟨i, j, rfl, rfl, q⟩) fun x y sv e => by
  unfold cLe at e
  split at e
  · cases e; exact ⟨_, _, rfl, rfl, rfl⟩
  · cases e
theorem og_gt {K : Fg} : OpG (rI0 fun i j => .bl (decide (j < i))) K cGt := og_I0 (g := fun i j => .bl (decide (j < i))) (g' := fun i j => .bool (decide (j < i))) (fun _ _ _ => .bl _) (fun i j H Q q => ⟨i, j, rfl, rfl, q⟩) fun x y sv e => by
  unfold cGt at e
  split at e
  · cases e; exact ⟨_, _, rfl, rfl, rfl⟩
  · cases e
theorem og_ge {K : Fg} : OpG (rI0 fun i j => .bl (decide (j ≤ i))) K cGe := og_I0 (g := fun i j => .bl (decide (j ≤ i))) (g' := fun i j => .bool (decide (j ≤ i))) (fun _ _ _ => .bl _) (fun i j H Q q => ⟨i, j, rfl, rfl, q⟩) fun x y sv e => by
  unfold cGe at e
  split at e
  · cases e; exact ⟨_, _, rfl, rfl, rfl⟩
  · cases e
theorem og_mod {K : Fg} : OpG (rI (fun _ j => 0 < j) fun i j => .int (i % j)) K bMod := og_IC (g := fun i j => .int (i % j)) (g' := fun i j => .int (i % j)) (C := fun _ j => 0 < j) (fun _ _ _ => .int _) (fun i j H Q c q => ⟨i, j, rfl, rfl, c, q⟩) fun x y sv e => by
  unfold bMod at e
  split at e
  · split at e
    · cases e; exact ⟨_, _, rfl, rfl, rfl, by assumption⟩
    · cases e
  · cases e
theorem og_div {K : Fg} : OpG (rI CDivW fun i j => .int (i / j)) K bDiv := og_IC (g := fun i j => .int (i / j)) (g' := fun i j => .int (i / j)) (C := CDivW) (fun _ _ _ => .int _) (fun i j H Q c q => ⟨i, j, rfl, rfl, c, q⟩) fun x y sv e => by
  unfold bDiv at e
  split at e
  · split at e
    · cases e; exact ⟨_, _, rfl, rfl, rfl, by assumption⟩
    · cases e
  · cases e
theorem mulOk_ok {i j : Int} (h : mulOk i j = true) : IntMulOk i j := by
  unfold mulOk at h
  rw [Bool.or_eq_true, Bool.or_eq_true, decide_eq_true_eq, decide_eq_true_eq, decide_eq_true_eq] at h
  have b : ∀ x : Int, Builtin.Int.intBits x ≤ x.natAbs.log2 + 1 := fun x => by
    unfold Builtin.Int.intBits
    split <;> omega
  have c : ∀ x : Int, x.natAbs < 2 ^ 64 → Builtin.Int.intBits x ≤ 64 := fun x hx => by
    have := PySem.Flt.log2_lt_of (by decide : 0 < 64) hx
    have := b x
    omega
  rcases h with (h | h) | h
  · exact .of_left (c _ h)
  · exact .of_right (c _ h)
  · have h1 := b i
    have h2 := b j
    have e : bitsLine = 134217728 := by decide
    unfold IntMulOk
    intro z
    rw [Bool.and_eq_true] at z
    have z2 := z.2
    unfold Builtin.Int.intTooBig at z2
    have z3 := of_decide_eq_true z2
    rw [e] at z3
    omega
theorem op_mulA {X : Cx} : OpR X (binaryOp .Mult) (rI IntMulOk fun i j => .int (i * j)) := opI fun _ _ _ _ _ _ _ hc q => PyProof.Rows.mul_int q hc
theorem og_mul {K : Fg} : OpG (rI IntMulOk fun i j => .int (i * j)) K bMulI := og_IC (g := fun i j => .int (i * j)) (g' := fun i j => .int (i * j)) (C := IntMulOk) (fun _ _ _ => .int _) (fun i j H Q c q => ⟨i, j, rfl, rfl, c, q⟩) fun x y sv e => by
  unfold bMulI at e
  split at e
  · split at e
    · cases e; exact ⟨_, _, rfl, rfl, rfl, mulOk_ok (by assumption)⟩
    · cases e
  · cases e
def CPowA (i j : Int) : Prop := 0 ≤ j ∧ (i.natAbs.log2 + 1) * j.toNat ≤ 134217728
theorem op_powA {X : Cx} : OpR X (binaryOp .Pow) (rI CPowA fun i j => .int (i ^ j.toNat)) := opI fun i j _ _ _ _ _ hc q => PyProof.Rows.pow_int hc.1 (by
  have b : (Builtin.Int.intBits i : Int) ≤ i.natAbs.log2 + 1 := by
    unfold Builtin.Int.intBits
    split <;> omega
  have e : ((j.toNat : Nat) : Int) = j := Int.toNat_of_nonneg hc.1
  have h2 : ((i.natAbs.log2 + 1 : Nat) : Int) * ((j.toNat : Nat) : Int) ≤ ((134217728 : Nat) : Int) := by exact_mod_cast hc.2
  rw [e] at h2
  exact Int.le_trans (Int.mul_le_mul_of_nonneg_right b hc.1) (by simpa using h2)) q
theorem og_pow {K : Fg} : OpG (rI CPowA fun i j => .int (i ^ j.toNat)) K bPow := og_IC (g := fun i j => .int (i ^ j.toNat)) (g' := fun i j => .int (i ^ j.toNat)) (C := CPowA) (fun _ _ _ => .int _) (fun i j H Q c q => ⟨i, j, rfl, rfl, c, q⟩) fun x y sv e => by
  unfold bPow at e
  split at e
  · split at e
    · cases e; exact ⟨_, _, rfl, rfl, rfl, by assumption⟩
    · cases e
  · cases e
theorem og_neg {K : Fg} : OpG1 (rU fun i => .int (-i)) K uNeg := by
  intro Pr H v x sv Q tr hv e k
  unfold uNeg at e
  split at e
  · cases e
    cases hv
    exact ⟨_, rfl, k _ _ (.refl _) res_int⟩
  · cases e
/-- [..] * n -/
theorem s_rep {X : Cx} {P : Pk} {E : St → XK} {a b : Expr} {ma mb : ME} {pos : Pos} (ha : PE X a (tM P E ma)) (hb : PE X b (tM P E mb)) : PE X (.BinOp a .Mult b pos) (tM P E (mRep ma mb)) := by
  refine PE.imp (pe_op op_rep ha hb) fun σ H Q ⟨g, ρ, rp, h⟩ => ?_
  refine ⟨g, ρ, rp, bindG (R := RVP P) (R' := RVP P) h fun sv ρ1 v H1 r1 s1 f1 q1 h1 => ?_⟩
  refine ⟨g, ρ1, r1, bindG (R := RVP P) (R' := RVP P) h1 fun sw ρ2 w H2 r2 s2 f2 q2 h2 => ?_⟩
  split at h2
  · rename_i xs
    split at h2
    · rename_i n
      split at h2
      · rename_i hc
        rw [Bool.and_eq_true, decide_eq_true_eq] at hc
        obtain ⟨p, rfl, n0, no, xs', e1, e2⟩ := q1.later s2 f2
        have e3 : w = .int n := q2.is_int
        subst e3
        have hs := small62_iff hc.1
        have gr : Grow (hid (fun a => Out' g σ ρ2 a ∨ a = p) H2) (hid (Out' g σ ρ2) H2) := hid_grow fun a o n e => ⟨fun z => n (.inl z), e⟩
        refine ⟨p, n, xs', rfl, rfl, e1, by omega, by omega, by rw [e2.length, ← line_eq]; exact hc.2, fun q hq => ?_⟩
        refine post_res r2 (f1.free.trans f2.free) h2 (.new hq) (res_lst hq ?_)
        clear h2 hc
        generalize n.toNat = m
        induction m with
        | zero => exact .nil
        | succ m ih =>
          rw [List.replicate_succ, List.replicate_succ, List.flatten_cons, List.flatten_cons]
          exact (e2.grow gr).append ih
      · exact h2.elim
    · exact h2.elim
  · exact h2.elim
end MP
end

section
set_option Elab.async false
set_option linter.all false
set_option maxRecDepth 100000
set_option maxHeartbeats 4000000
set_option autoImplicit false
namespace MP
open PySem PySem.Spec L2

/-! ### an item -/
theorem ix_atI {α : Type} {xs : List α} {i : Int} {j : Nat} (h : ix xs.length i = some j) : ixN xs.length i = some j := h
theorem atD_of {K : Fg} {Hh : Hp} {vs : List V} {xs : List D} {i : Int} {x : D} (r : RpAll K Hh vs xs) (h : atD xs i = some x) : ∃ v, atI vs i = some v ∧ Rp K Hh v x := by
  unfold atD at h
  cases e : ix xs.length i with
  | none => rw [e] at h; cases h
  | some j =>
    rw [e] at h
    obtain ⟨v, q1, q2⟩ := r.get h
    refine ⟨v, ?_, q2⟩
    unfold atI
    have e' : ixN vs.length i = some j := by
      rw [r.length]
      exact e
    rw [e']
    exact q1
theorem og_idx {K : Fg} : OpG (rIx K) K bIdx := by
  intro Pr H v w x y sv Q tr hv hw e k
  unfold bIdx at e
  split at e
  · obtain ⟨a, xs, rfl, h1, r1⟩ := hv
    cases hw
    rename_i ds i
    cases e2 : atD ds i with
    | none => rw [e2] at e; cases e
    | some z =>
      rw [e2] at e
      cases e
      obtain ⟨v, q1, q2⟩ := atD_of r1 e2
      exact .inl ⟨a, xs, i, v, rfl, rfl, h1, q1, k _ _ (.refl _) q2⟩
  · obtain ⟨a, xs, rfl, h1, r1⟩ := hv
    cases hw
    rename_i ds i
    cases e2 : atD ds i with
    | none => rw [e2] at e; cases e
    | some z =>
      rw [e2] at e
      cases e
      obtain ⟨v, q1, q2⟩ := atD_of r1 e2
      exact .inr (.inl ⟨a, xs, i, v, rfl, rfl, hid_le.st h1.1, q1, k _ _ (.refl _) q2⟩)
  · cases hv
    cases hw
    rename_i z i
    split at e
    · rename_i hz
      cases e1 : ix z.length i with
      | none => rw [e1] at e; cases e
      | some j =>
        rw [e1] at e
        cases e2 : z.cps.toList[j]? with
        | none =>
          rw [show ((some j).bind fun j => (z.cps.toList[j]?).map fun c => SV.d (.str ⟨#[c]⟩)) = (z.cps.toList[j]?).map fun c => SV.d (.str ⟨#[c]⟩) from rfl, e2] at e
          cases e
        | some c =>
          rw [show ((some j).bind fun j => (z.cps.toList[j]?).map fun c => SV.d (.str ⟨#[c]⟩)) = (z.cps.toList[j]?).map fun c => SV.d (.str ⟨#[c]⟩) from rfl, e2] at e
          cases e
          refine .inr (.inr ⟨z, i, c, rfl, rfl, by rw [← line_eq]; exact hz, ?_, k _ _ (.refl _) res_str⟩)
          unfold atI
          have e' : ixN z.cps.toList.length i = some j := by
            rw [Array.length_toList]
            exact e1
          rw [e']
          exact e2
    · cases e
  · cases e

/-! ### slices -/
theorem clamp_lo (n d : Nat) (o : Option Int) : HT.sIx n 0 o = cutLo n o := by
  cases o with
  | none => rfl
  | some v =>
    show (if v < 0 then (v + (n : Int)).toNat else min v.toNat n) = if 0 ≤ v then min v.toNat n else (v + (n : Int)).toNat
    by_cases h : v < 0
    · rw [if_pos h, if_neg (by omega)]
    · rw [if_neg h, if_pos (by omega)]
theorem clamp_hi (n : Nat) (o : Option Int) : HT.sIx n n o = cutHi n o := by
  cases o with
  | none => rfl
  | some v =>
    show (if v < 0 then (v + (n : Int)).toNat else min v.toNat n) = if 0 ≤ v then min v.toNat n else (v + (n : Int)).toNat
    by_cases h : v < 0
    · rw [if_pos h, if_neg (by omega)]
    · rw [if_neg h, if_pos (by omega)]
theorem cut_rp {K : Fg} {Hh : Hp} {vs : List V} {xs : List D} (r : RpAll K Hh vs xs) (lo hi : Option Int) : RpAll K Hh (cutV vs lo hi) (cutD xs lo hi) := by
  unfold cutV cutD
  rw [clamp_lo _ 0, clamp_hi, r.length]
  exact (r.drop _).take _
theorem cut_whole {α : Type} {xs : List α} {lo hi : Option Int} (h1 : HT.sIx xs.length 0 lo = 0) (h2 : HT.sIx xs.length xs.length hi = xs.length) : cutD xs lo hi = xs := by
  unfold cutD
  rw [← clamp_lo _ 0, ← clamp_hi, h1, h2]
  simp
section
variable {X : Cx} {P : Pk} {E : St → XK} {a b : Expr} {ma mb : ME} {pos : Pos}
def tO (P : Pk) (E : St → XK) (m : Option ME) : TO := fun σ H Q => ∃ g ρ, Rep P.K g H σ ρ ∧ PostG (fun _ _ _ _ _ v b => v = b) P E g σ ρ H H Q (mPart m ρ)
theorem PO.imp {e : Option Expr} {t t' : TO} (h : PO X e t) (k : ∀ σ H Q, t' σ H Q → t σ H Q) : PO X e t' := ⟨fun pins s σ H Q I q => h.run pins s σ H Q I (k σ H Q q)⟩
theorem so_n : PO X none (tO P E none) := PO.imp po_none fun σ H Q ⟨g, ρ, r, h⟩ => h none H r (.refl _) (.refl _ _) rfl
theorem intB_some {β α : Type} {R : Gh → Hp → Hp → St → En → β → α → Prop} {g : Gh} {σ : St} {ρ : En} {H0 H : Hp} {Q : β → Hp → Prop} {sv : SV} {f : Int → Out α} (h : PostG R P E g σ ρ H0 H Q (intB sv f)) : ∃ i, sv = .d (.int i) ∧ PostG R P E g σ ρ H0 H Q (f i) := by
  unfold intB at h
  split at h
  · exact ⟨_, rfl, h⟩
  · exact h.elim
theorem so_s (ha : PE X a (tM P E ma)) : PO X (some a) (tO P E (some ma)) := by
  refine PO.imp (po_some ha) fun σ H Q ⟨g, ρ, r, h⟩ => ?_
  refine ⟨g, ρ, r, bindG (R := RVP P) (R' := fun _ _ _ _ _ v b => v = b) h fun sv ρ1 v H1 r1 s1 f1 q1 h1 => ?_⟩
  obtain ⟨i, rfl, h1⟩ := intB_some h1
  have e : v = .int i := q1.is_int
  exact ⟨i, e, h1 (some i) H1 r1 (.refl _) (.refl _ _) rfl⟩
def rSlF (K : Fg) : V → Option Int → Option Int → Hp → VK → Prop := fun x lo hi H Q => ∃ a xs, x = .ref a ∧ SqT K H a xs ∧
  (HT.sIx xs.length 0 lo = 0 ∧ HT.sIx xs.length xs.length hi = xs.length → Q (.ref a) H) ∧ (¬ (HT.sIx xs.length 0 lo = 0 ∧ HT.sIx xs.length xs.length hi = xs.length) → QF Q H (cutV xs lo hi))
theorem sl_tupF : SlR X (rSlF X.K) := by
  intro pins s σ H x v vl vu lo hi sl Q I rx hs pl pu h
  obtain ⟨a, xs, rfl, hx, q1, q2⟩ := h
  cases rx
  obtain ⟨its, r, ht, hz⟩ := I.tuple hx
  have hlen : its.toArray.size = xs.length := by rw [List.size_toArray]; exact r.length.symm
  refine ⟨"tuple", _, PyProof.Rows.slot_tuple_getitem.lookup, ht.typeIs, ?_⟩
  by_cases hw : HT.sIx xs.length 0 lo = 0 ∧ HT.sIx xs.length xs.length hi = xs.length
  · exact getItem_tuple_whole ht hs pl pu (by rw [hlen]; exact hw) ⟨.ref a, H, I, rfl, q1 hw⟩
  · refine HT.getItem_tuple_cut ht hs pl pu (by rw [hlen]; exact hw) ?_ (by rw [hlen]; exact hz)
    rw [hlen]
    exact ⟨.ref s.heap.objs.size, _, I.laid (t' := s.toks) (o := .frz (tObj ((its.drop (HT.sIx xs.length 0 lo)).take (HT.sIx xs.length xs.length hi - HT.sIx xs.length 0 lo))) (.tup (cutV xs lo hi))) (fun b ob q => Heap.get?_push_of_some _ q) (Nat.le_refl _)
      (tupF_ok (Nat.le_trans (cutV_length xs lo hi) hz) ((r.drop (HT.sIx xs.length 0 lo)).take (HT.sIx xs.length xs.length hi - HT.sIx xs.length 0 lo))), rfl, q2 hw _ _ rfl (I.hok.fresh (Nat.le_refl _))⟩
def rSlAll (K : Fg) : V → Option Int → Option Int → Hp → VK → Prop := fun x lo hi H Q => rSlL K x lo hi H Q ∨ rSlF K x lo hi H Q
theorem s_sl {lo hi : Option Expr} {ml mh : Option ME} {p2 : Pos} (ha : PE X a (tM P E ma)) (hl : PO X lo (tO P E ml)) (hh : PO X hi (tO P E mh)) (hK : X.K = P.K := by rfl) : PE X (.Subscript a (.Slice lo hi none p2) pos) (tM P E (mSl ma ml mh)) := by
  obtain ⟨K, CA⟩ := P
  subst hK
  refine PE.imp (pe_slice (SlR.or sl_list sl_tupF) ha hl hh) fun σ H Q ⟨g, ρ, rp, h⟩ => ?_
  refine ⟨g, ρ, rp, bindG (R := RVP _) (R' := RVP _) h fun sv ρ1 v H1 r1 s1 f1 q1 h1 => ?_⟩
  refine ⟨g, ρ1, r1, bindG (R := fun _ _ _ _ _ v b => v = b) (R' := RVP _) h1 fun l ρ2 l' H2 r2 s2 f2 el h2 => ?_⟩
  refine ⟨g, ρ2, r2, bindG (R := fun _ _ _ _ _ v b => v = b) (R' := RVP _) h2 fun u ρ3 u' H3 r3 s3 f3 eu h3 => ?_⟩
  subst el eu
  obtain ⟨x, ex, h3⟩ := viewB_some' h3
  obtain ⟨z, ez, h3⟩ := opt_of h3
  have tp := (((q1.later s2 f2).later s3 f3)).top r3 ex
  have fr : Free H H3 := (f1.free.trans f2.free).trans f3.free
  unfold slD at ez
  split at ez
  · cases ez
    obtain ⟨a, xs, rfl, e1, e2⟩ := tp
    exact .inl ⟨a, xs, rfl, e1, fun p hp => post_res r3 fr h3 (.new hp) (res_lst hp (cut_rp e2 _ _))⟩
  · cases ez
    obtain ⟨a, xs, rfl, e1, e2⟩ := tp
    refine .inr ⟨a, xs, rfl, hid_le.st e1.1, fun ⟨w1, w2⟩ => post_res r3 fr h3 (.refl _) ?_, fun w p o ho hp => post_res r3 fr h3 (.new hp) (res_tupF (fun _ z => r3.out_some z) hp ho (cut_rp e2 _ _))⟩
    rw [e2.length] at w1 w2
    rw [cut_whole w1 w2]
    exact Rp.tup e1 e2
  · cases ez
end
end MP
end

section
set_option Elab.async false
set_option linter.all false
set_option maxRecDepth 100000
set_option maxHeartbeats 4000000
set_option autoImplicit false
namespace MP
open PySem PySem.Spec L2

/-! ### reading data -/
section
variable {X : Cx} {pins : List (Addr × Obj)} {σ : St} {H : Hp} {s : Shared}
mutual
theorem Rp.reads (I : Inv X pins σ H s) : ∀ (d : D) (v : V) (u : Value), Rp X.K H v d → RelV v u → ∃ as, Reads s.heap u d as
  | .none, _, _, h, r => by
    cases h
    cases r
    exact ⟨_, Reads.none⟩
  | .bool b, _, _, h, r => by
    cases h
    cases r
    exact ⟨_, Reads.bool b⟩
  | .int i, _, _, h, r => by
    cases h
    obtain ⟨t, rfl⟩ := r
    exact ⟨_, Reads.int i t⟩
  | .str x, _, _, h, r => by
    cases h
    obtain ⟨t, rfl⟩ := r
    exact ⟨_, Reads.str x t⟩
  | .list ds, _, _, h, r => by
    cases h with
    | lst hs ha =>
      cases r
      obtain ⟨its, rv, ⟨o, n, ho, hc, _, hd⟩, _⟩ := I.list hs
      obtain ⟨as, hr⟩ := RpAll.reads I ds _ its ha rv
      exact ⟨_, Reads.list ho hc hd hr⟩
  | .tuple ds, _, _, h, r => by
    cases h with
    | tup hs ha =>
      cases r
      obtain ⟨its, rv, ⟨o, ho, hc, n, hd⟩, _⟩ := I.tuple hs.1
      obtain ⟨as, hr⟩ := RpAll.reads I ds _ its ha rv
      exact ⟨_, Reads.tuple ho hc hd hr⟩
  | .dict kvs, _, _, h, r => by
    cases h with
    | dic hs ha =>
      cases r
      obtain ⟨_, _, vs, kv, o, es, ep, ho, hx, hd, ks, hp, _⟩ := dk_rd I.hok hs
      obtain ⟨as, bs, r1, r2⟩ := RpKv.reads I kvs _ vs es.toList ha kv hp
      exact ⟨_, Reads.dict ho hx.1 hd r1 r2⟩
theorem RpAll.reads (I : Inv X pins σ H s) : ∀ (ds : List D) (vs : List V) (us : List Value), RpAll X.K H vs ds → Vals vs us → ∃ as, ReadsAll s.heap us ds as
  | [], _, _, h, r => by
    cases h
    cases r
    exact ⟨_, ReadsAll.nil⟩
  | d :: ds, _, _, h, r => by
    cases h with
    | cons h1 h2 =>
      cases r with
      | cons r1 r2 =>
        obtain ⟨as, q1⟩ := Rp.reads I d _ _ h1 r1
        obtain ⟨bs, q2⟩ := RpAll.reads I ds _ _ h2 r2
        exact ⟨_, ReadsAll.cons q1 q2⟩
theorem RpKv.reads (I : Inv X pins σ H s) : ∀ (ds : List (D × D)) (vs : List (Key × V)) (us : List (Key × Value)) (es : List DictEntry), RpKv X.K H vs ds → KV vs us → Pairs (mixKind X.prog X.w) es us →
    ∃ as bs, ReadsAll s.heap (es.map (·.key)) (ds.map (·.1)) as ∧ ReadsAll s.heap (es.map (·.val)) (ds.map (·.2)) bs
  | [], _, _, _, h, r, p => by
    cases h
    cases r
    cases p
    exact ⟨_, _, ReadsAll.nil, ReadsAll.nil⟩
  | d :: ds, _, _, _, h, r, p => by
    cases h with
    | cons h1 h2 =>
      cases r with
      | cons r1 r2 =>
        cases p with
        | cons k1 e1 p' =>
          obtain ⟨as, bs, q1, q2⟩ := RpKv.reads I ds _ _ _ h2 r2 p'
          obtain ⟨r1a, r1b⟩ := r1
          obtain ⟨cs, q3⟩ := Rp.reads I _ _ _ h1 r1b
          have r1c := r1a
          simp only at r1c
          rw [← e1] at q3
          rcases keyIs_shape k1 with ⟨i, t, h3, h4⟩ | ⟨x, t, h3, h4⟩
          · rw [r1c, h3]
            exact ⟨_, _, ReadsAll.cons (show Reads s.heap _ (keyD (.inl i)) [] by simp only [h4]; exact Reads.int i t) q1, ReadsAll.cons q3 q2⟩
          · rw [r1c, h3]
            exact ⟨_, _, ReadsAll.cons (show Reads s.heap _ (keyD (.inr x)) [] by simp only [h4]; exact Reads.str x t) q1, ReadsAll.cons q3 q2⟩
end
end

/-! ### == and != -/
def rEqP (K : Fg) : R2 := fun x y H Q => ∃ d e, Rp K H x d ∧ Rp K H y e ∧ eqOk d e = true ∧ Q (.bl (PyData.eqv d e)) H
def rNeP (K : Fg) : R2 := fun x y H Q => ∃ d e, Rp K H x d ∧ Rp K H y e ∧ eqOk d e = true ∧ Q (.bl (!PyData.eqv d e)) H
theorem noItem_shape {d e : D} (h : noItem d e = true) : ∃ xs ys, d = .tuple xs ∧ e = .tuple ys ∧ (xs = [] ∨ ys = []) := by
  unfold noItem at h
  split at h
  · rename_i xs ys
    refine ⟨xs, ys, rfl, rfl, ?_⟩
    rw [Bool.or_eq_true, List.isEmpty_iff, List.isEmpty_iff] at h
    exact h
  · cases h
theorem eqv_noItem {xs ys : List D} {n m : Nat} (h : xs = [] ∨ ys = []) (n1 : n = xs.length) (n2 : m = ys.length) : ((List.range (min n m)).all (fun _ => true) && n == m) = PyData.eqv (.tuple xs) (.tuple ys) := by
  have e : min n m = 0 := by
    rcases h with h | h
    · subst h; simp at n1; omega
    · subst h; simp at n2; omega
  rw [e]
  subst n1 n2
  rcases h with h | h
  · subst h
    cases ys <;> simp [PyData.eqv, PyData.eqvAll]
  · subst h
    cases xs <;> simp [PyData.eqv, PyData.eqvAll]
theorem op_eqP {X : Cx} (hu : X.A.units + 64 < cLine) : OpR X (compareOp .Eq) (rEqP X.K) := by
  intro pins s σ H x y v u Q I rx ry h
  obtain ⟨d, e, hd, he, ok, q⟩ := h
  obtain ⟨as, r1⟩ := Rp.reads I d x v hd rx
  obtain ⟨bs, r2⟩ := Rp.reads I e y u he ry
  unfold eqOk at ok
  rw [Bool.or_eq_true, Bool.and_eq_true, Bool.and_eq_true, decide_eq_true_eq] at ok
  rcases ok with ok | ⟨⟨p1, p2⟩, p3⟩
  · obtain ⟨xs, ys, rfl, rfl, em⟩ := noItem_shape ok
    cases r1 with
    | @tuple l o vs n _ as₁ h1 h2 h3 h4 =>
      cases r2 with
      | @tuple l' o' vs' n' _ bs₁ k1 k2 k3 k4 =>
        have n1 : vs.size = xs.length := by simpa using SeqAt.ReadsAll.length _ _ _ h4
        have n2 : vs'.size = ys.length := by simpa using SeqAt.ReadsAll.length _ _ _ k4
        refine SeqAt.RcAt.tuples (e := fun _ => true) ⟨_, h1, h2, _, h3⟩ ⟨_, k1, k2, _, k3⟩ (by omega) (fun j j1 j2 => ?_) X.prog X.w _ _ ?_
        · exfalso
          rcases em with em | em
          · rw [em, List.length_nil] at n1
            omega
          · rw [em, List.length_nil] at n2
            omega
        · rw [eqv_noItem em n1 n2]
          exact ⟨.bl _, H, I, rfl, q⟩
  · exact SeqAt.eq_plain r1 r2 p1 p2 (by omega) ⟨.bl _, H, I, rfl, q⟩
theorem op_neP {X : Cx} (hu : X.A.units + 64 < cLine) : OpR X (compareOp .NotEq) (rNeP X.K) := by
  intro pins s σ H x y v u Q I rx ry h
  obtain ⟨d, e, hd, he, ok, q⟩ := h
  obtain ⟨as, r1⟩ := Rp.reads I d x v hd rx
  obtain ⟨bs, r2⟩ := Rp.reads I e y u he ry
  unfold eqOk at ok
  rw [Bool.or_eq_true, Bool.and_eq_true, Bool.and_eq_true, decide_eq_true_eq] at ok
  rcases ok with ok | ⟨⟨p1, p2⟩, p3⟩
  · obtain ⟨xs, ys, rfl, rfl, em⟩ := noItem_shape ok
    cases r1 with
    | @tuple l o vs n _ as₁ h1 h2 h3 h4 =>
      cases r2 with
      | @tuple l' o' vs' n' _ bs₁ k1 k2 k3 k4 =>
        have n1 : vs.size = xs.length := by simpa using SeqAt.ReadsAll.length _ _ _ h4
        have n2 : vs'.size = ys.length := by simpa using SeqAt.ReadsAll.length _ _ _ k4
        refine SeqAt.RcNeAt.tuples (e := fun _ => true) ⟨_, h1, h2, _, h3⟩ ⟨_, k1, k2, _, k3⟩ (by omega) (fun j j1 j2 => ?_) X.prog X.w _ _ ?_
        · exfalso
          rcases em with em | em
          · rw [em, List.length_nil] at n1
            omega
          · rw [em, List.length_nil] at n2
            omega
        · rw [eqv_noItem em n1 n2]
          exact ⟨.bl _, H, I, rfl, q⟩
  · exact SeqAt.ne_plain r1 r2 p1 p2 (by omega) ⟨.bl _, H, I, rfl, q⟩
theorem og_eq {K : Fg} : OpG (rEqP K) K cEq := by
  intro Pr H v w x y sv Q tr hv hw e k
  unfold cEq at e
  split at e
  · cases e
    exact ⟨x, y, hv.rp hid_le, hw.rp hid_le, by assumption, k _ _ (.refl _) res_bool⟩
  · cases e
theorem og_ne {K : Fg} : OpG (rNeP K) K cNe := by
  intro Pr H v w x y sv Q tr hv hw e k
  unfold cNe at e
  split at e
  · cases e
    exact ⟨x, y, hv.rp hid_le, hw.rp hid_le, by assumption, k _ _ (.refl _) res_bool⟩
  · cases e
/-! ### in -/
def rInP (K : Fg) : R2 := fun x y H Q => ∃ d ds, Rp K H x d ∧ (Rp K H y (.list ds) ∨ Rp K H y (.tuple ds)) ∧ inOk d ds = true ∧ Q (.bl (ds.any fun z => PyData.eqv z d)) H
def rNotInP (K : Fg) : R2 := fun x y H Q => ∃ d ds, Rp K H x d ∧ (Rp K H y (.list ds) ∨ Rp K H y (.tuple ds)) ∧ inOk d ds = true ∧ Q (.bl (!ds.any fun z => PyData.eqv z d)) H
theorem inOk_of {d : D} {ds : List D} (h : inOk d ds = true) : d.plain = true ∧ PyData.plainAll ds = true ∧ min (PyData.depthAll ds) d.depth ≤ 64 := by
  unfold inOk at h
  rw [Bool.and_eq_true, Bool.and_eq_true, decide_eq_true_eq] at h
  exact ⟨h.1.1, h.1.2, h.2⟩
theorem op_inP {X : Cx} (hu : X.A.units + 65 < cLine) : OpR X (compareOp .In) (rInP X.K) := by
  intro pins s σ H x y v u Q I rx ry h
  obtain ⟨d, ds, hd, he, ok, q⟩ := h
  obtain ⟨p1, p2, p3⟩ := inOk_of ok
  obtain ⟨as, r1⟩ := Rp.reads I d x v hd rx
  rcases he with he | he
  · obtain ⟨bs, r2⟩ := Rp.reads I _ y u he ry
    exact SeqAt.in_list_data r2 r1 p2 p1 (by omega) ⟨.bl _, H, I, rfl, q⟩
  · obtain ⟨bs, r2⟩ := Rp.reads I _ y u he ry
    exact SeqAt.in_tuple_data r2 r1 p2 p1 (by omega) ⟨.bl _, H, I, rfl, q⟩
theorem op_notInP {X : Cx} (hu : X.A.units + 65 < cLine) : OpR X (compareOp .NotIn) (rNotInP X.K) := by
  intro pins s σ H x y v u Q I rx ry h
  obtain ⟨d, ds, hd, he, ok, q⟩ := h
  obtain ⟨p1, p2, p3⟩ := inOk_of ok
  obtain ⟨as, r1⟩ := Rp.reads I d x v hd rx
  rcases he with he | he
  · obtain ⟨bs, r2⟩ := Rp.reads I _ y u he ry
    exact SeqAt.notIn_list_data r2 r1 p2 p1 (by omega) ⟨.bl _, H, I, rfl, q⟩
  · obtain ⟨bs, r2⟩ := Rp.reads I _ y u he ry
    exact SeqAt.notIn_tuple_data r2 r1 p2 p1 (by omega) ⟨.bl _, H, I, rfl, q⟩
theorem og_in {K : Fg} : OpG (rInP K) K cIn := by
  intro Pr H v w x y sv Q tr hv hw e k
  unfold cIn at e
  split at e
  · split at e
    · cases e
      exact ⟨x, _, hv.rp hid_le, .inl (hw.rp hid_le), by assumption, k _ _ (.refl _) res_bool⟩
    · cases e
  · split at e
    · cases e
      exact ⟨x, _, hv.rp hid_le, .inr (hw.rp hid_le), by assumption, k _ _ (.refl _) res_bool⟩
    · cases e
  · cases e
theorem og_notIn {K : Fg} : OpG (rNotInP K) K cNotIn := by
  intro Pr H v w x y sv Q tr hv hw e k
  unfold cNotIn at e
  split at e
  · split at e
    · cases e
      exact ⟨x, _, hv.rp hid_le, .inl (hw.rp hid_le), by assumption, k _ _ (.refl _) res_bool⟩
    · cases e
  · split at e
    · cases e
      exact ⟨x, _, hv.rp hid_le, .inr (hw.rp hid_le), by assumption, k _ _ (.refl _) res_bool⟩
    · cases e
  · cases e
/-! ### is None -/
theorem top_non {K : Fg} {Hh H : Hp} {v : V} {x : D} (h : Top K Hh H v x) : (decide (v = .non)) = isN x := by
  cases x with
  | none => cases h; rfl
  | bool b => cases h; rfl
  | int b => cases h; rfl
  | str b => cases h; rfl
  | list ds => obtain ⟨a, xs, rfl, _⟩ := h; rfl
  | tuple ds => obtain ⟨a, xs, rfl, _⟩ := h; rfl
  | dict ds => obtain ⟨a, xs, rfl, _⟩ := h; rfl
def rIsN : R2 := fun x y H Q => y = .non ∧ Q (.bl (decide (x = .non))) H
def rNotN : R2 := fun x y H Q => y = .non ∧ Q (.bl (!decide (x = .non))) H
section
variable {X : Cx} {P : Pk} {E : St → XK} {a : Expr} {ma : ME} {pos p2 : Pos} {j : Nat}
theorem s_isN (ha : PE X a (tM P E ma)) : PE X (.Compare a [.Is] [.Constant .none j p2] pos) (tM P E (m1 cIsN ma)) := by
  refine PE.imp (pe_cmp (pc_isN ha) rfl) fun σ H Q ⟨g, ρ, rp, h⟩ => ?_
  refine ⟨g, ρ, rp, bindG (R := RVP P) (R' := RVP P) h fun sv ρ1 v H1 r1 s1 f1 q1 h1 => ?_⟩
  obtain ⟨x, ex, h1⟩ := viewB_some' h1
  rw [top_non (q1.top r1 ex)]
  exact post_res r1 f1.free h1 (.refl _) res_bool
theorem s_notN (ha : PE X a (tM P E ma)) : PE X (.Compare a [.IsNot] [.Constant .none j p2] pos) (tM P E (m1 cNotN ma)) := by
  refine PE.imp (pe_cmp (pc_notN ha) rfl) fun σ H Q ⟨g, ρ, rp, h⟩ => ?_
  refine ⟨g, ρ, rp, bindG (R := RVP P) (R' := RVP P) h fun sv ρ1 v H1 r1 s1 f1 q1 h1 => ?_⟩
  obtain ⟨x, ex, h1⟩ := viewB_some' h1
  show Q (.bl (!decide (v = .non))) H1
  rw [top_non (q1.top r1 ex)]
  exact post_res r1 f1.free h1 (.refl _) res_bool
end
end MP
end

section
set_option Elab.async false
set_option linter.all false
set_option maxRecDepth 100000
set_option maxHeartbeats 4000000
set_option autoImplicit false
namespace MP
open PySem PySem.Spec L2

section
variable {X : Cx} {P : Pk} {E : St → XK} {a b c : Expr} {es : List Expr} {ma mb mc : ME} {ms : List ME} {ta tb : MT} {pos p2 p3 : Pos}
/-! ### displays -/
theorem TopAll.grow {K : Fg} {Hh Hh' H H' : Hp} {vs : List V} {xs : List D} (h : TopAll K Hh H vs xs) (e : Grow Hh Hh') (e' : Grow H H') : TopAll K Hh' H' vs xs := by
  induction h with
  | nil => exact .nil
  | cons q _ ih => exact .cons (q.grow e e') ih
theorem RVs.allD {K : Fg} {g : Gh} {H0 H : Hp} {σ : St} {ρ : En} {vs : List V} {ss : List SV} (r : RVs K g H0 H σ ρ vs ss) {xs : List D} (h : allD ss = some xs) : RpAll K (hid (Out' g σ ρ) H) vs xs := by
  induction r generalizing xs with
  | nil =>
    cases h
    exact .nil
  | @cons g H0 H σ ρ v vs s ss q r ih =>
    rw [allD_cons] at h
    cases e1 : toD s with
    | none => rw [e1] at h; cases h
    | some x =>
      cases e2 : MP.allD ss with
      | none => rw [e1, e2] at h; cases h
      | some ys =>
        rw [e1, e2] at h
        cases h
        exact .cons (q.keep e1) ((ih e2).grow (le_gadd g v s).hid)
theorem RVs.allV {K : Fg} {g : Gh} {H0 H : Hp} {σ : St} {ρ : En} {vs : List V} {ss : List SV} (r : RVs K g H0 H σ ρ vs ss) (rp : Rep K g H σ ρ) {xs : List D} (h : allV ρ ss = some xs) : TopAll K (hid (Out' g σ ρ) H) H vs xs := by
  induction r generalizing xs with
  | nil =>
    cases h
    exact .nil
  | @cons g H0 H σ ρ v vs s ss q r ih =>
    rw [allV_cons] at h
    cases e1 : view ρ s with
    | none => rw [e1] at h; cases h
    | some x =>
      cases e2 : MP.allV ρ ss with
      | none => rw [e1, e2] at h; cases h
      | some ys =>
        rw [e1, e2] at h
        cases h
        exact .cons (q.top rp e1) ((ih (q.gadd rp) e2).grow (le_gadd g v s).hid (.refl _))
theorem mArgs_len {g : Gh} {σ : St} {ρ : En} {H0 H : Hp} {K : Fg} {vs : List V} {ss : List SV} (r : RVs K g H0 H σ ρ vs ss) : vs.length = ss.length := by
  induction r with
  | nil => rfl
  | cons _ _ ih => exact congrArg (· + 1) ih
theorem allD_len : ∀ {ss : List SV} {xs : List D}, allD ss = some xs → ss.length = xs.length
  | [], xs, h => by cases h; rfl
  | s :: ss, xs, h => by
    rw [allD_cons] at h
    cases e1 : toD s with
    | none => rw [e1] at h; cases h
    | some x =>
      cases e2 : MP.allD ss with
      | none => rw [e1, e2] at h; cases h
      | some ys =>
        rw [e1, e2] at h
        cases h
        exact congrArg (· + 1) (allD_len e2)
theorem mArgs_ok : ∀ {ms : List ME} {ρ ρ' : En} {ss : List SV}, mArgs ms ρ = .ok ss ρ' → ss.length = ms.length
  | [], ρ, ρ', ss, h => by
    cases h
    rfl
  | m :: ms, ρ, ρ', ss, h => by
    rw [mArgs_cons] at h
    cases e1 : m ρ with
    | ok v ρ1 =>
      rw [e1, Out.bind_ok] at h
      cases e2 : mArgs ms ρ1 with
      | ok vs ρ2 =>
        rw [e2, Out.bind_ok] at h
        cases h
        exact congrArg (· + 1) (mArgs_ok e2)
      | raise c x ρ2 => rw [e2] at h; cases h
      | stuck => rw [e2] at h; cases h
    | raise c x ρ1 => rw [e1] at h; cases h
    | stuck => rw [e1] at h; cases h
/-- bindG with what o was -/
theorem bindG' {g : Gh} {σ : St} {ρ : En} {H : Hp} {α β α' β' : Type} {R : Gh → Hp → Hp → St → En → β → α → Prop} {R' : Gh → Hp → Hp → St → En → β' → α' → Prop}
    {Q : β' → Hp → Prop} {o : Out α} {f : α → En → Out α'} {Q' : β → Hp → Prop} {H0 : Hp} (h : PostG R' P E g σ ρ H0 H Q (o.bind f))
    (k : ∀ a ρ1 v H1, o = .ok a ρ1 → Rep P.K g H1 σ ρ1 → SameC ρ ρ1 → FrE H (Own σ ρ) H1 → R g H H1 σ ρ1 v a → PostG R' P E g σ ρ1 H0 H1 Q (f a ρ1) → Q' v H1) : PostG R P E g σ ρ H H Q' o := by
  cases o with
  | ok a ρ' => exact fun v H' r s fr rv => k a ρ' v H' rfl r s fr rv (PostG.step h s fr)
  | raise c x ρ' => exact h
  | stuck => exact h
def tTupF (t : TA) : TE := fun σ H Q => t σ H fun xs H1 => xs.length ≤ sizeLine ∧ QF Q H1 xs
theorem pe_tupF {t : TA} {x1} (h : PA X es t) : PE X (.Tuple es x1 pos) (tTupF t) := by
  refine ⟨fun pins s σ H Q I hq => ?_⟩
  refine wpAny_Tuple_spliced (thn (h.run pos pins s σ H _ I hq) fun us s1 ⟨xs, H1, I1, r, z, q⟩ => ⟨by rw [← r.length]; exact z, ?_⟩)
  have hf : H1 s1.heap.objs.size = none := I1.hok.fresh (Nat.le_refl _)
  exact ⟨.ref s1.heap.objs.size, upd H1 s1.heap.objs.size (.frz (tObj us) (.tup xs)), I1.laid (t' := s1.toks) (fun b u e => Heap.get?_push_of_some _ e) (Nat.le_refl _) (tupF_ok z r), rfl, q _ _ rfl hf⟩
theorem s_tup {x1} (h : PA X es (tAs P E ms)) (hl : ms.length ≤ 1000 := by first | decide | exact Nat.le_of_ble_eq_true rfl) : PE X (.Tuple es x1 pos) (tM P E (mTup ms)) := by
  refine PE.imp (pe_tupF h) fun σ H Q ⟨g, ρ, rp, h⟩ => ?_
  refine ⟨g, ρ, rp, bindG' (R := RAP P) (R' := RVP P) h fun ss ρ1 vs H1 eo r1 s1 f1 q1 h1 => ?_⟩
  obtain ⟨z, ez, h1⟩ := opt_of h1
  cases e : allD ss with
  | none => rw [e] at ez; cases ez
  | some xs =>
    rw [e] at ez
    cases ez
    have hn : vs.length ≤ 1000 := by rw [mArgs_len q1, mArgs_ok eo]; exact hl
    exact ⟨Nat.le_trans hn (by decide), fun p o ho hp => post_res r1 f1.free h1 (.new hp) (res_tupF (fun _ z => r1.out_some z) hp ho (q1.allD e))⟩
theorem s_lst (h : PA X es (tAs P E ms)) (hl : ms.length ≤ 1000 := by first | decide | exact Nat.le_of_ble_eq_true rfl) : PE X (.List es pos) (tM P E (mLst ms)) := by
  refine PE.imp (pe_lst h) fun σ H Q ⟨g, ρ, rp, h⟩ => ?_
  refine ⟨g, ρ, rp, bindG' (R := RAP P) (R' := RVP P) h fun ss ρ1 vs H1 eo r1 s1 f1 q1 h1 => ?_⟩
  obtain ⟨z, ez, h1⟩ := opt_of h1
  cases e : allD ss with
  | none => rw [e] at ez; cases ez
  | some xs =>
    rw [e] at ez
    cases ez
    have hn : vs.length ≤ 1000 := by rw [mArgs_len q1, mArgs_ok eo]; exact hl
    exact ⟨Nat.le_trans hn (by decide), fun p hp => post_res r1 f1.free h1 (.new hp) (res_lst hp (q1.allD e))⟩

/-! ### built-in functions -/
theorem cb_of {r : List V → Hp → VK → Prop} {f : List D → Option SV} (hg : CallG r P.K f) : ∀ σ H Q, tM P E (mB f ms) σ H Q → tCB r (tAs P E ms) σ H Q := fun σ H Q ⟨g, ρ, rp, h⟩ => by
  refine ⟨g, ρ, rp, bindG (R := RAP P) (R' := RVP P) h fun ss ρ1 vs H1 r1 s1 f1 q1 h1 => ?_⟩
  obtain ⟨z, ez, h1⟩ := opt_of h1
  cases e : allV ρ1 ss with
  | none => rw [e] at ez; cases ez
  | some xs =>
    rw [e] at ez
    exact hg (Out' g σ ρ1) H1 vs xs z Q (fun a h => r1.out_some h) (q1.allV r1 e) ez fun v' H' gr rs => post_res r1 f1.free h1 gr rs
theorem s_b {id : String} {r : List V → Hp → VK → Prop} {f : List D → Option SV} {x : Str} (hc : CallR X (.builtin id) r) (hG : CallG r P.K f) (hm : X.mg x = none) (ha : PA X (a :: es) (tAs P E ms)) (hg : Gl X x := by rfl) (hv : bootBuiltins x = some (.builtin id) := by decide +kernel) (hn : x ≠ "__name__" := by decide) (hdb : (x == ("__debug__" : Str)) = false := by decide)
    (he : starEach (a :: es) X.env = (false, eval a X.env) :: starEach es X.env := by rfl) (hpl : (backTo pos (starEach es X.env)).any (·.1) = false := by rfl) : PE X (.Call (.Name x p2) (a :: es) [] pos) (tM P E (mB f ms)) :=
  PE.imp (pe_callB hc hg hm hv ha hn hdb he hpl) (cb_of hG)
theorem s_ty {T : String} {r : List V → Hp → VK → Prop} {f : List D → Option SV} {x : Str} (hc : CallR X (.type T) r) (hG : CallG r P.K f) (hm : X.mg x = none) (ha : PA X (a :: es) (tAs P E ms)) (hg : Gl X x := by rfl) (hv : bootBuiltins x = some (.type T) := by decide +kernel) (hn : x ≠ "__name__" := by decide) (hdb : (x == ("__debug__" : Str)) = false := by decide)
    (he : starEach (a :: es) X.env = (false, eval a X.env) :: starEach es X.env := by rfl) (hpl : (backTo pos (starEach es X.env)).any (·.1) = false := by rfl) : PE X (.Call (.Name x p2) (a :: es) [] pos) (tM P E (mB f ms)) :=
  PE.imp (pe_callTy hc hg hm hv ha hn hdb he hpl) (cb_of hG)
/-! isinstance -/
theorem top_ty {K : Fg} {Pr : Addr → Prop} {H : Hp} {v : V} {x : D} (h : Top K (hid Pr H) H v x) : TyX K H v (.type (tyD x)) := by
  have seqL : ∀ {a : Addr} {xs : List V}, SqL K H a xs → TyX K H (.ref a) (.type "list") := fun {a xs} h => by
    rcases h with (h | ⟨o, h⟩) | ⟨o, its, n, h, c, _⟩
    · exact .base (.lst h)
    · exact .base (.frz h)
    · exact .kList h c
  have seqT : ∀ {a : Addr} {xs : List V}, SqT K H a xs → TyX K H (.ref a) (.type "tuple") := fun {a xs} h => by
    rcases h with (h | ⟨o, h⟩) | ⟨o, its, n, h, c, _⟩
    · exact .base (.tup h)
    · exact .fTuple h
    · exact .kTuple h c
  cases x with
  | none => cases h; exact .base .non
  | bool b => cases h; exact .base (.bl b)
  | int i => cases h; exact .base (.int i)
  | str x => cases h; exact .base (.str x)
  | list ds => obtain ⟨a, xs, rfl, q, _⟩ := h; exact seqL q
  | tuple ds => obtain ⟨a, xs, rfl, q, _⟩ := h; exact seqT (hid_le.st q.1)
  | dict ds => obtain ⟨a, xs, rfl, q, _⟩ := h; exact q.elim (fun q => .base (.dK q)) fun ⟨_, q⟩ => .fDict q
def tyOk (T : String) : Bool := (["NoneType", "bool", "int", "str", "list", "tuple", "dict"] : List String).all fun t => kitB t T == some (subTy t T)
theorem tyOk_of {T : String} (h : tyOk T = true) (x : D) : kitB (tyD x) T = some (subTy (tyD x) T) := by
  unfold tyOk at h
  rw [List.all_eq_true] at h
  exact eq_of_beq (h (tyD x) (by cases x <;> simp [tyD]))
theorem s_isi {T : String} {x y : Str} (hm : X.mg x = none) (hmT : X.mg y = none) (ha : PE X a (tM P E ma)) (hT : tyOk T = true) (hvT : bootBuiltins y = some (.type T)) (hK : X.K = P.K := by rfl) (hg : Gl X x := by rfl) (hgT : Gl X y := by rfl) (hv : bootBuiltins x = some (.builtin "isinstance") := by decide +kernel) (hn : x ≠ "__name__" := by decide) (hdb : (x == ("__debug__" : Str)) = false := by decide)
    (hnT : y ≠ "__name__" := by decide) (hdbT : (y == ("__debug__" : Str)) = false := by decide)
    (he : starEach [a, .Name y p3] X.env = (false, eval a X.env) :: starEach [.Name y p3] X.env := by rfl) (hpl : (backTo pos (starEach [.Name y p3] X.env)).any (·.1) = false := by rfl) : PE X (.Call (.Name x p2) [a, .Name y p3] [] pos) (tM P E (m1 (isinst T) ma)) := by
  obtain ⟨K, CA⟩ := P
  subst hK
  refine PE.imp (pe_callB call_isi hg hm hv (pa_cons ha (pa_cons (pe_bltn (v := .ty T) hgT hmT hvT rfl hnT hdbT) pa_nil) he) hn hdb he hpl) fun σ H Q ⟨g, ρ, rp, h⟩ => ?_
  refine ⟨g, ρ, rp, bindG (R := RVP _) (R' := RVP _) h fun sv ρ1 v H1 r1 s1 f1 q1 h1 => ?_⟩
  obtain ⟨x, ex, h1⟩ := viewB_some' h1
  obtain ⟨z, ez, h1⟩ := opt_of h1
  cases ez
  exact ⟨v, .ty T, _, _, _, rfl, .ty T, top_ty (q1.top r1 ex), kit_ty (tyOk_of hT x), post_res r1 f1.free h1 (.refl _) res_bool⟩
/-! len -/
def rLenD : List V → Hp → VK → Prop := fun xs H Q => ∃ d kvs, xs = [.ref d] ∧ H d = some (.dK kvs) ∧ Q (.int kvs.length) H
theorem og_len {K : Fg} : CallG (fun xs H Q => (∃ p ys, xs = [.ref p] ∧ (SqL K H p ys ∨ SqT K H p ys) ∧ Q (.int ys.length) H) ∨ (∃ z, xs = [.str z] ∧ z.length ≤ sizeLine ∧ Q (.int z.length) H)) K lenD := by
  intro Pr H vs xs sv Q tr hv e k
  unfold lenD at e
  split at e
  · cases e
    cases hv with
    | cons h1 h2 =>
      cases h2
      obtain ⟨a, xs, rfl, q, r⟩ := h1
      refine .inl ⟨a, xs, rfl, .inl q, ?_⟩
      rw [r.length]
      exact k _ _ (.refl _) res_int
  · cases e
    cases hv with
    | cons h1 h2 =>
      cases h2
      obtain ⟨a, xs, rfl, q, r⟩ := h1
      refine .inl ⟨a, xs, rfl, .inr (hid_le.st q.1), ?_⟩
      rw [r.length]
      exact k _ _ (.refl _) res_int
  · split at e
    · cases e
      cases hv with
      | cons h1 h2 =>
        cases h2
        cases h1
        exact .inr ⟨_, rfl, by rw [← line_eq]; assumption, k _ _ (.refl _) res_int⟩
    · cases e
  · cases e
/-! ### tests -/
theorem top_tru {K : Fg} {Pr : Addr → Prop} {H : Hp} {v : V} {x : D} {k : Bool} (h : Top K (hid Pr H) H v x) (e : truth x = some k) : TruV K v H k := by
  cases x with
  | none => cases h; cases e; rfl
  | bool b => cases h; cases e; rfl
  | int b => cases h; cases e; rfl
  | str b =>
    cases h
    have e' : (if b.length ≤ 16777216 then some ((b.length : Int) != 0) else none) = some k := e
    split at e'
    · cases e'
      exact ⟨by rw [← line_eq]; assumption, rfl⟩
    · cases e'
  | list ds =>
    obtain ⟨a, xs, rfl, q, r⟩ := h
    cases e
    refine .inl ⟨xs, q, ?_⟩
    have := r.length
    cases xs <;> cases ds <;> simp_all
  | tuple ds =>
    obtain ⟨a, xs, rfl, q, r⟩ := h
    cases e
    refine .inr (.inl ⟨xs, hid_le.st q.1, ?_⟩)
    have := r.length
    cases xs <;> cases ds <;> simp_all
  | dict ds => cases e
end
end MP
end

section
set_option Elab.async false
set_option linter.all false
set_option maxRecDepth 100000
set_option maxHeartbeats 4000000
set_option autoImplicit false
namespace MP
open PySem PySem.Spec L2

section
variable {X : Cx} {P : Pk} {E : St → XK} {a b c : Expr} {rest : List Expr} {ma mb mc : ME} {ta tb : MT} {pos : Pos}
/-- the truth of what a value was -/
theorem s_tr (ha : PE X a (tM P E ma)) (hK : X.K = P.K := by rfl) (he : ∀ whole, isTrue a X.env whole = (do let v ← whole; standAt a.pos; holding [v] (truthy v)) := by intro _; rfl) : PT X a (tT P E (mTr ma)) := by
  obtain ⟨K, CA⟩ := P
  subst hK
  refine PT.imp (pt_truth ha he) fun σ H Q ⟨g, ρ, rp, h⟩ => ?_
  refine ⟨g, ρ, rp, bindG (R := RVP _) (R' := RB) h fun sv ρ1 v H1 r1 s1 f1 q1 h1 => ?_⟩
  obtain ⟨x, ex, h1⟩ := viewB_some' h1
  obtain ⟨k, ek, h1⟩ := opt_of h1
  exact ⟨k, top_tru (q1.top r1 ex) ek, h1 k H1 r1 (.refl _) (.refl _ _) rfl⟩
/-- operations that give truth values alone -/
def BoolF (f : D → D → Option SV) : Prop := ∀ x y sv, f x y = some sv → ∃ b, sv = .d (.bool b)
theorem bf_lt : BoolF cLt := fun x y sv e => by unfold cLt at e; split at e <;> cases e; exact ⟨_, rfl⟩
theorem bf_le : BoolF cLe := fun x y sv e => by unfold cLe at e; split at e <;> cases e; exact ⟨_, rfl⟩
theorem bf_gt : BoolF cGt := fun x y sv e => by unfold cGt at e; split at e <;> cases e; exact ⟨_, rfl⟩
theorem bf_ge : BoolF cGe := fun x y sv e => by unfold cGe at e; split at e <;> cases e; exact ⟨_, rfl⟩
theorem bf_eq : BoolF cEq := fun x y sv e => by unfold cEq at e; split at e <;> cases e; exact ⟨_, rfl⟩
theorem bf_ne : BoolF cNe := fun x y sv e => by unfold cNe at e; split at e <;> cases e; exact ⟨_, rfl⟩
theorem bf_in : BoolF cIn := fun x y sv e => by
  unfold cIn at e
  split at e
  · split at e <;> cases e
    exact ⟨_, rfl⟩
  · split at e <;> cases e
    exact ⟨_, rfl⟩
  · cases e
theorem bf_notIn : BoolF cNotIn := fun x y sv e => by
  unfold cNotIn at e
  split at e
  · split at e <;> cases e
    exact ⟨_, rfl⟩
  · split at e <;> cases e
    exact ⟨_, rfl⟩
  · cases e
/-- a value that is a truth value, as a test -/
theorem val_test {m : ME} {t : TE} (hm : ∀ ρ sv ρ', m ρ = .ok sv ρ' → ∃ b, sv = .d (.bool b)) (ht : ∀ σ H Q, tM P E m σ H Q → t σ H Q) : ∀ σ H Q, tT P E (mTr m) σ H Q → tTest t σ H Q := fun σ H Q ⟨g, ρ, rp, h⟩ => by
  refine ht σ H _ ⟨g, ρ, rp, bindG' (R := RVP _) (R' := RB) h fun sv ρ1 v H1 eo r1 s1 f1 q1 h1 => ?_⟩
  obtain ⟨k, rfl⟩ := hm _ _ _ eo
  have e : v = .bl k := q1.is_bl
  exact ⟨k, e, h1 k H1 r1 (.refl _) (.refl _ _) rfl⟩
theorem m2_bool {f : D → D → Option SV} (hf : BoolF f) : ∀ ρ sv ρ', m2 f ma mb ρ = .ok sv ρ' → ∃ b, sv = .d (.bool b) := fun ρ sv ρ' h => by
  unfold m2 at h
  cases e1 : ma ρ with
  | ok v ρ1 =>
    rw [e1, Out.bind_ok] at h
    cases e2 : mb ρ1 with
    | ok w ρ2 =>
      rw [e2, Out.bind_ok] at h
      unfold viewB at h
      split at h
      · split at h
        · rename_i x _ _ y _
          have h' : opt (f x y) ρ2 = .ok sv ρ' := h
          cases e3 : f x y with
          | none => rw [e3] at h'; cases h'
          | some z =>
            rw [e3] at h'
            cases h'
            exact hf _ _ _ e3
        · cases h
      · cases h
    | raise c x ρ2 => rw [e2] at h; cases h
    | stuck => rw [e2] at h; cases h
  | raise c x ρ1 => rw [e1] at h; cases h
  | stuck => rw [e1] at h; cases h
theorem s_cmpt {op : CmpOp} {r : R2} {f : D → D → Option SV} (ho : OpR X (compareOp op) r) (hg : OpG r P.K f) (hf : BoolF f) (ha : PE X a (tM P E ma)) (hb : PE X b (tM P E mb)) (hm : behindInMarks op b = false) : PT X (.Compare a [op] [b] pos) (tT P E (mTr (m2 f ma mb))) :=
  PT.imp (pt_cmpR ho ha hb hm) (val_test (m2_bool hf) (bin_of hg))
theorem s_isNt {p2 : Pos} {j : Nat} (ha : PE X a (tM P E ma)) : PT X (.Compare a [.Is] [.Constant .none j p2] pos) (tT P E (mTr (m1 cIsN ma))) := by
  refine PT.imp (pt_cmp (pc_isN ha) rfl) fun σ H Q ⟨g, ρ, rp, h⟩ => ?_
  have h' : PostT P E g σ ρ H H Q ((ma ρ).bind fun v ρ1 => (viewB ρ1 v fun x => opt (cIsN x) ρ1).bind fun v ρ1 => viewB ρ1 v fun x => opt (truth x) ρ1) := by
    unfold mTr m1 at h
    cases e : ma ρ with
    | ok v ρ1 => rw [e] at h; exact h
    | raise c x ρ1 => rw [e] at h; exact h
    | stuck => rw [e] at h; exact h
  refine ⟨g, ρ, rp, bindG (R := RVP P) (R' := RB) h' fun sv ρ1 v H1 r1 s1 f1 q1 h1 => ?_⟩
  unfold viewB at h1
  split at h1
  · rename_i x ex
    refine ⟨isN x, ?_, h1 (isN x) H1 r1 (.refl _) (.refl _ _) rfl⟩
    rw [top_non (q1.top r1 ex)]
  · exact h1.elim
theorem s_notNt {p2 : Pos} {j : Nat} (ha : PE X a (tM P E ma)) : PT X (.Compare a [.IsNot] [.Constant .none j p2] pos) (tT P E (mTr (m1 cNotN ma))) := by
  refine PT.imp (pt_cmp (pc_notN ha) rfl) fun σ H Q ⟨g, ρ, rp, h⟩ => ?_
  have h' : PostT P E g σ ρ H H Q ((ma ρ).bind fun v ρ1 => (viewB ρ1 v fun x => opt (cNotN x) ρ1).bind fun v ρ1 => viewB ρ1 v fun x => opt (truth x) ρ1) := by
    unfold mTr m1 at h
    cases e : ma ρ with
    | ok v ρ1 => rw [e] at h; exact h
    | raise c x ρ1 => rw [e] at h; exact h
    | stuck => rw [e] at h; exact h
  refine ⟨g, ρ, rp, bindG (R := RVP P) (R' := RB) h' fun sv ρ1 v H1 r1 s1 f1 q1 h1 => ?_⟩
  unfold viewB at h1
  split at h1
  · rename_i x ex
    refine ⟨!isN x, ?_, h1 (!isN x) H1 r1 (.refl _) (.refl _ _) rfl⟩
    rw [top_non (q1.top r1 ex)]
  · exact h1.elim
/-! ### and, or, not -/
theorem PW.imp {e : Expr} {t t' : TT} (h : PW X e t) (k : ∀ σ H Q, t' σ H Q → t σ H Q) : PW X e t' := ⟨fun wh pins s σ H Q I q => h.run wh pins s σ H Q I (k σ H Q q)⟩
theorem t_and1 (ha : PT X a (tT P E ta)) : PW X (.BoolOp .And [a] pos) (tT P E ta) := pw_and1 ha
theorem t_or1 (ha : PT X a (tT P E ta)) : PW X (.BoolOp .Or [a] pos) (tT P E ta) := pw_or1 ha
theorem t_and (ha : PT X a (tT P E ta)) (hb : PW X (.BoolOp .And (b :: rest) pos) (tT P E tb)) : PW X (.BoolOp .And (a :: b :: rest) pos) (tT P E (kAnd ta tb)) := by
  refine PW.imp (pw_and ha hb) fun σ H Q ⟨g, ρ, rp, h⟩ => ?_
  refine ⟨g, ρ, rp, bindG (R := RB) (R' := RB) h fun k0 ρ1 d H1 r1 s1 f1 q1 h1 => ?_⟩
  subst q1
  cases d with
  | true => exact ⟨g, ρ1, r1, PostG.based old_B h1 f1.free⟩
  | false => exact h1 false H1 r1 (.refl _) (.refl _ _) rfl
theorem t_or (ha : PT X a (tT P E ta)) (hb : PW X (.BoolOp .Or (b :: rest) pos) (tT P E tb)) : PW X (.BoolOp .Or (a :: b :: rest) pos) (tT P E (kOr ta tb)) := by
  refine PW.imp (pw_or ha hb) fun σ H Q ⟨g, ρ, rp, h⟩ => ?_
  refine ⟨g, ρ, rp, bindG (R := RB) (R' := RB) h fun k0 ρ1 d H1 r1 s1 f1 q1 h1 => ?_⟩
  subst q1
  cases d with
  | false => exact ⟨g, ρ1, r1, PostG.based old_B h1 f1.free⟩
  | true => exact h1 true H1 r1 (.refl _) (.refl _ _) rfl
theorem t_not (ha : PT X a (tT P E ta)) : PT X (.UnaryOp .Not a pos) (tT P E (kNot ta)) := by
  refine PT.imp (pt_not ha) fun σ H Q ⟨g, ρ, rp, h⟩ => ?_
  refine ⟨g, ρ, rp, bindG (R := RB) (R' := RB) h fun k0 ρ1 d H1 r1 s1 f1 q1 h1 => ?_⟩
  subst q1
  exact h1 _ H1 r1 (.refl _) (.refl _ _) rfl
theorem s_one {op} (h : PE X a (tM P E ma)) : PE X (.BoolOp op [a] pos) (tM P E ma) := pe_one h
theorem s_and (ha : PE X a (tM P E ma)) (hb : PE X (.BoolOp .And (b :: rest) pos) (tM P E mb)) (hK : X.K = P.K := by rfl) : PE X (.BoolOp .And (a :: b :: rest) pos) (tM P E (mAnd ma mb)) := by
  obtain ⟨K, CA⟩ := P
  subst hK
  refine PE.imp (pe_andT ha hb) fun σ H Q ⟨g, ρ, rp, h⟩ => ?_
  refine ⟨g, ρ, rp, bindG (R := RVP _) (R' := RVP _) h fun sv ρ1 v H1 r1 s1 f1 q1 h1 => ?_⟩
  obtain ⟨x, ex, h1⟩ := toB_some h1
  have rv := q1.keep ex
  cases e : truth x with
  | none => rw [e] at h1; exact h1.elim
  | some k =>
    rw [e] at h1
    refine ⟨k, top_tru (rv.top hid_le) e, ?_⟩
    cases k with
    | true => exact ⟨g, ρ1, r1, PostG.based old_V h1 f1.free⟩
    | false => exact h1 v H1 r1 (.refl _) (.refl _ _) (.d rv)
theorem s_or (ha : PE X a (tM P E ma)) (hb : PE X (.BoolOp .Or (b :: rest) pos) (tM P E mb)) (hK : X.K = P.K := by rfl) : PE X (.BoolOp .Or (a :: b :: rest) pos) (tM P E (mOr ma mb)) := by
  obtain ⟨K, CA⟩ := P
  subst hK
  refine PE.imp (pe_orT ha hb) fun σ H Q ⟨g, ρ, rp, h⟩ => ?_
  refine ⟨g, ρ, rp, bindG (R := RVP _) (R' := RVP _) h fun sv ρ1 v H1 r1 s1 f1 q1 h1 => ?_⟩
  obtain ⟨x, ex, h1⟩ := toB_some h1
  have rv := q1.keep ex
  cases e : truth x with
  | none => rw [e] at h1; exact h1.elim
  | some k =>
    rw [e] at h1
    refine ⟨k, top_tru (rv.top hid_le) e, ?_⟩
    cases k with
    | false => exact ⟨g, ρ1, r1, PostG.based old_V h1 f1.free⟩
    | true => exact h1 v H1 r1 (.refl _) (.refl _ _) (.d rv)
theorem bind_assoc {α β γ : Type} {o : Out α} {f : α → En → Out β} {k : β → En → Out γ} : (o.bind f).bind k = o.bind fun a ρ => (f a ρ).bind k := by cases o <;> rfl
theorem viewB_bind {β γ : Type} {ρ : En} {v : SV} {f : D → Out β} {k : β → En → Out γ} : (viewB ρ v f).bind k = viewB ρ v fun x => (f x).bind k := by
  unfold viewB
  split <;> rfl
theorem s_not (ha : PE X a (tM P E ma)) (hK : X.K = P.K := by rfl) : PE X (.UnaryOp .Not a pos) (tM P E (mNot ma)) := by
  obtain ⟨K, CA⟩ := P
  subst hK
  refine PE.imp (pe_notT ha) fun σ H Q ⟨g, ρ, rp, h⟩ => ?_
  have h' : PostE ⟨X.K, CA⟩ E g σ ρ H H Q ((ma ρ).bind fun v ρ1 => viewB ρ1 v fun x => (opt (truth x) ρ1).bind fun c ρ2 => .ok (.d (.bool (!c))) ρ2) := by
    have e : mNot ma ρ = (ma ρ).bind fun v ρ1 => viewB ρ1 v fun x => (opt (truth x) ρ1).bind fun c ρ2 => .ok (.d (.bool (!c))) ρ2 := by
      unfold mNot mTr
      rw [bind_assoc]
      congr 1
      funext v ρ1
      rw [viewB_bind]
    rw [← e]
    exact h
  refine ⟨g, ρ, rp, bindG (R := RVP _) (R' := RVP _) h' fun sv ρ1 v H1 r1 s1 f1 q1 h1 => ?_⟩
  obtain ⟨x, ex, h1⟩ := viewB_some' h1
  cases e : truth x with
  | none => rw [e] at h1; exact h1.elim
  | some k =>
    rw [e] at h1
    exact ⟨k, top_tru (q1.top r1 ex) e, h1 _ H1 r1 (.refl _) (.refl _ _) (.d (.bl _))⟩
theorem s_ife (hc : PT X c (tT P E ta)) (ha : PE X a (tM P E ma)) (hb : PE X b (tM P E mb)) : PE X (.IfExp c a b pos) (tM P E (mIf ta ma mb)) := by
  refine PE.imp (pe_ifExp hc ha hb) fun σ H Q ⟨g, ρ, rp, h⟩ => ?_
  refine ⟨g, ρ, rp, bindG (R := RB) (R' := RVP P) h fun k0 ρ1 d H1 r1 s1 f1 q1 h1 => ?_⟩
  subst q1
  cases d with
  | true => exact ⟨g, ρ1, r1, PostG.based old_V h1 f1.free⟩
  | false => exact ⟨g, ρ1, r1, PostG.based old_V h1 f1.free⟩
/-! ### a < b < c -/
theorem ch_of {r r' : R2} {f f' : D → D → Option SV} (hg : OpG r P.K f) (hg' : OpG r' P.K f') : ∀ σ H Q, tM P E (mCh f f' ma mb mc) σ H Q → tChain r r' (tM P E ma) (tM P E mb) (tM P E mc) σ H Q := fun σ H Q ⟨g, ρ, rp, h⟩ => by
  refine ⟨g, ρ, rp, bindG (R := RVP P) (R' := RVP P) h fun su ρ1 u H1 r1 s1 f1 q1 h1 => ?_⟩
  refine ⟨g, ρ1, r1, bindG (R := RVP P) (R' := RVP P) h1 fun sv ρ2 v H2 r2 s2 f2 q2 h2 => ?_⟩
  obtain ⟨x, ex, h2⟩ := toB_some h2
  obtain ⟨y, ey, h2⟩ := toB_some h2
  have ru := (q1.later s2 f2).keep ex
  have rv := q2.keep ey
  cases e1 : f x y with
  | none => rw [e1] at h2; exact h2.elim
  | some z =>
    rw [e1] at h2
    cases e2 : boolOf z with
    | none =>
      have h2' : PostE P E g σ ρ2 H H2 Q ((opt (boolOf z) ρ2).bind _) := h2
      rw [e2] at h2'
      exact h2'.elim
    | some k =>
      have h2' : PostE P E g σ ρ2 H H2 Q ((opt (boolOf z) ρ2).bind _) := h2
      rw [e2, opt_some, Out.bind_ok] at h2'
      have ez : z = .d (.bool k) := by
        unfold boolOf at e2
        split at e2
        · cases e2; rfl
        · cases e2
      subst ez
      refine hg (Out' g σ ρ2) H2 u v x y _ _ (fun a h => r2.out_some h) (ru.top hid_le) (rv.top hid_le) e1 fun v' H3 gr rs => ?_
      have ev : v' = .bl k := by cases rs; rfl
      refine ⟨k, ev, ?_⟩
      have r3 := r2.grow gr
      have fr : FrE H2 (Own σ ρ2) H3 := .of_grow gr
      have h3 := PostG.step h2' (SameC.refl ρ2) fr
      cases k with
      | false => exact h3 _ H3 r3 (.refl _) (.refl _ _) (.d (.bl _))
      | true =>
        refine ⟨g, ρ2, r3, bindG (R := RVP P) (R' := RVP P) h3 fun sw ρ4 w H4 r4 s4 f4 q4 h4 => ?_⟩
        obtain ⟨z', ez', h4⟩ := toB_some h4
        obtain ⟨s', es', h4⟩ := opt_of h4
        cases e5 : f' y z' with
        | none => rw [e5] at es'; cases es'
        | some z2 =>
          rw [e5] at es'
          cases e6 : boolOf z2 with
          | none =>
            have es2 : ((boolOf z2).map fun q => SV.d (.bool q)) = some s' := es'
            rw [e6] at es2
            cases es2
          | some k2 =>
            have es2 : ((boolOf z2).map fun q => SV.d (.bool q)) = some s' := es'
            rw [e6] at es2
            cases es2
            have ez2 : z2 = .d (.bool k2) := by
              unfold boolOf at e6
              split at e6
              · cases e6; rfl
              · cases e6
            subst ez2
            have rv4 : Rp P.K (hid (Out' g σ ρ4) H4) v y := (rv.grow (hid_later (SameC.refl ρ2) fr)).grow (hid_later s4 f4)
            exact hg' (Out' g σ ρ4) H4 v w y z' _ Q (fun a h => r4.out_some h) (rv4.top hid_le) ((q4.keep ez').top hid_le) e5 fun v' H5 gr rs => post_res r4 (((f1.free.trans f2.free).trans fr.free).trans f4.free) h4 gr rs
theorem s_ch {op op' : CmpOp} {r r' : R2} {f f' : D → D → Option SV} (ho : OpR X (compareOp op) r) (hg : OpG r P.K f) (ho' : OpR X (compareOp op') r') (hg' : OpG r' P.K f') (ha : PE X a (tM P E ma)) (hb : PE X b (tM P E mb)) (hc : PE X c (tM P E mc))
    (hm : lastMarks [op, op'] [b, c] = false := by with_unfolding_all rfl) : PE X (.Compare a [op, op'] [b, c] pos) (tM P E (mCh f f' ma mb mc)) := PE.imp (pe_chain ho ho' ha hb hc hm) (ch_of hg hg')
end
end MP
end

section
set_option Elab.async false
set_option linter.all false
set_option maxRecDepth 100000
set_option maxHeartbeats 4000000
set_option autoImplicit false
namespace MP
open PySem PySem.Spec L2

/-! ### a slot is set -/
section
variable {K : Fg} {g : Gh} {H0 H H1 H' : Hp} {σ σ' : St} {ρ ρ' : En} {v : V} {sv : SV} {x : D} {i j : Nat}
theorem free_lt (h : free ρ i = true) : i < ρ.length := by
  unfold free at h
  cases e : ρ[i]? with
  | none => rw [e] at h; cases h
  | some o => exact (List.getElem?_eq_some_iff.mp e).1
theorem free_noref (h : free ρ i = true) (c : Cell) : ρ[i]? ≠ some (some (SV.ref c)) := fun e => by
  unfold free at h
  rw [e] at h
  cases h
theorem cellAt_set_ne {o : Option SV} (h : i ≠ j) : cellAt (ρ.set i o) j = cellAt ρ j := by
  unfold cellAt
  rw [List.getElem?_set_ne h]
theorem cellAt_set_d (h : i < ρ.length) : cellAt (ρ.set i (some (.d x))) i = none := by
  unfold cellAt
  rw [List.getElem?_set_self h]
theorem cellAt_set_own {c : Cell} (h : i < ρ.length) : cellAt (ρ.set i (some (.own c))) i = some c := by
  unfold cellAt
  rw [List.getElem?_set_self h]
theorem cellAt_set_none (h : i < ρ.length) : cellAt (ρ.set i none) i = none := by
  unfold cellAt
  rw [List.getElem?_set_self h]
theorem own_set_d (hi : i < ρ.length) {o : Option V} {a : Addr} (h : Own (σ.set i o) (ρ.set i (some (.d x))) a) : Own σ ρ a := by
  obtain ⟨k, c, h1, h2⟩ := h
  by_cases e : i = k
  · subst e
    rw [cellAt_set_d hi] at h1
    cases h1
  · rw [cellAt_set_ne e] at h1
    rw [List.getElem?_set_ne e] at h2
    exact ⟨k, c, h1, h2⟩
theorem Rep.set_d (r : Rep K g H σ ρ) (fr : free ρ i = true) (q : Rp K (hid (Out' g σ ρ) H) v x) : Rep K g H (σ.set i (some v)) (ρ.set i (some (.d x))) := by
  have hi := free_lt fr
  have gr : Grow (hid (Out' g σ ρ) H) (hid (Out' g (σ.set i (some v)) (ρ.set i (some (.d x)))) H) := hid_grow fun a o n e => ⟨fun z => n (z.imp id (own_set_d hi)), e⟩
  refine ⟨by rw [List.length_set, List.length_set]; exact r.len, fun j y e => ?_, fun j c e => ?_, fun j k c c' a e1 e2 e3 e4 => ?_, r.pm, fun j c e => ?_, fun j a e => ?_, fun j c y e => ?_, fun j n e => ?_⟩
  · by_cases h : i = j
    · subst h
      rw [List.getElem?_set_self hi] at e
      cases e
      exact ⟨v, List.getElem?_set_self (by rw [r.len]; exact hi), q.grow gr⟩
    · rw [List.getElem?_set_ne h] at e
      rw [List.getElem?_set_ne h]
      obtain ⟨w, h1, h2⟩ := r.d j y e
      exact ⟨w, h1, h2.grow gr⟩
  · by_cases h : i = j
    · subst h
      rw [cellAt_set_d hi] at e
      cases e
    · rw [cellAt_set_ne h] at e
      rw [List.getElem?_set_ne h]
      obtain ⟨a, h1, h2, h3⟩ := r.cell j c e
      exact ⟨a, h1, h2, h3.mono gr rfl⟩
  · by_cases h : i = j
    · subst h
      rw [cellAt_set_d hi] at e1
      cases e1
    · by_cases h' : i = k
      · subst h'
        rw [cellAt_set_d hi] at e2
        cases e2
      · rw [cellAt_set_ne h] at e1
        rw [cellAt_set_ne h'] at e2
        rw [List.getElem?_set_ne h] at e3
        rw [List.getElem?_set_ne h'] at e4
        exact r.inj j k c c' a e1 e2 e3 e4
  · by_cases h : i = j
    · subst h
      rw [List.getElem?_set_self hi] at e
      cases e
    · rw [List.getElem?_set_ne h] at e
      rw [List.getElem?_set_ne h]
      exact r.rf j c e
  · obtain ⟨c, q⟩ := r.rfs j a e
    by_cases h : i = j
    · subst h
      exact (free_noref fr c q).elim
    · exact ⟨c, by rw [List.getElem?_set_ne h]; exact q⟩
  · by_cases h : i = j
    · subst h
      rw [List.getElem?_set_self hi] at e
      cases e
    · rw [List.getElem?_set_ne h] at e
      exact r.noexc j c y e
  · by_cases h : i = j
    · subst h
      rw [List.getElem?_set_self hi] at e
      cases e
    · rw [List.getElem?_set_ne h] at e
      exact r.nofn j n e
theorem own_set_own (hi : i < ρ.length) {p : Addr} {c : Cell} (hs : i < σ.length) {a : Addr} (h : Own (σ.set i (some (.ref p))) (ρ.set i (some (.own c))) a) : Own σ ρ a ∨ a = p := by
  obtain ⟨k, c, h1, h2⟩ := h
  by_cases e : i = k
  · subst e
    rw [List.getElem?_set_self hs] at h2
    cases h2
    exact .inr rfl
  · rw [cellAt_set_ne e] at h1
    rw [List.getElem?_set_ne e] at h2
    exact .inl ⟨k, c, h1, h2⟩
theorem Rep.set_own {p : Addr} {c : Cell} (r : Rep K g H σ ρ) (r' : Rep K (g.add p) H σ ρ) (fr : free ρ i = true) (no : ¬ Out' g σ ρ p) (q : CellR K (hid (fun a => Out' g σ ρ a ∨ a = p) H) H p c) : Rep K g H (σ.set i (some (.ref p))) (ρ.set i (some (.own c))) := by
  have hi := free_lt fr
  have hs : i < σ.length := by rw [r.len]; exact hi
  have sub : ∀ a, Out' g (σ.set i (some (.ref p))) (ρ.set i (some (.own c))) a → Out' g σ ρ a ∨ a = p := fun a z => z.elim (fun z => .inl (.inl z)) fun z => (own_set_own hi hs z).imp .inr id
  have gr : Grow (hid (Out' (g.add p) σ ρ) H) (hid (Out' g (σ.set i (some (.ref p))) (ρ.set i (some (.own c)))) H) := hid_grow fun a o n e => ⟨fun z => n ((sub a z).elim (fun z => z.elim (fun z => .inl (.inl z)) .inr) fun z => .inl (.inr z)), e⟩
  have gr2 : Grow (hid (fun a => Out' g σ ρ a ∨ a = p) H) (hid (Out' g (σ.set i (some (.ref p))) (ρ.set i (some (.own c)))) H) := hid_grow fun a o n e => ⟨fun z => n (sub a z), e⟩
  refine ⟨by rw [List.length_set, List.length_set]; exact r.len, fun j y e => ?_, fun j c' e => ?_, fun j k c1 c2 a e1 e2 e3 e4 => ?_, r.pm, fun j c' e => ?_, fun j a e => ?_, fun j c y e => ?_, fun j n e => ?_⟩
  · by_cases h : i = j
    · subst h
      rw [List.getElem?_set_self hi] at e
      cases e
    · rw [List.getElem?_set_ne h] at e
      rw [List.getElem?_set_ne h]
      obtain ⟨w, h1, h2⟩ := r'.d j y e
      exact ⟨w, h1, h2.grow gr⟩
  · by_cases h : i = j
    · subst h
      rw [cellAt_set_own hi] at e
      cases e
      exact ⟨p, List.getElem?_set_self hs, fun z => no (.inl z), q.mono gr2 rfl⟩
    · rw [cellAt_set_ne h] at e
      rw [List.getElem?_set_ne h]
      obtain ⟨a, h1, h2, h3⟩ := r'.cell j c' e
      exact ⟨a, h1, fun z => h2 (.inl z), h3.mono gr rfl⟩
  · have other : ∀ {j : Nat} {c : Cell}, i ≠ j → cellAt (ρ.set i (some (.own c2))) j = some c → True := fun _ _ => trivial
    by_cases h : i = j
    · by_cases h' : i = k
      · exact h.symm.trans h'
      · subst h
        rw [cellAt_set_ne h'] at e2
        rw [List.getElem?_set_self hs] at e3
        rw [List.getElem?_set_ne h'] at e4
        cases e3
        exact (no (.inr ⟨k, c2, e2, e4⟩)).elim
    · by_cases h' : i = k
      · subst h'
        rw [cellAt_set_ne h] at e1
        rw [List.getElem?_set_self hs] at e4
        rw [List.getElem?_set_ne h] at e3
        cases e4
        exact (no (.inr ⟨j, c1, e1, e3⟩)).elim
      · rw [cellAt_set_ne h] at e1
        rw [cellAt_set_ne h'] at e2
        rw [List.getElem?_set_ne h] at e3
        rw [List.getElem?_set_ne h'] at e4
        exact r.inj j k c1 c2 a e1 e2 e3 e4
  · by_cases h : i = j
    · subst h
      rw [List.getElem?_set_self hi] at e
      cases e
    · rw [List.getElem?_set_ne h] at e
      rw [List.getElem?_set_ne h]
      exact r.rf j c' e
  · obtain ⟨c, q⟩ := r.rfs j a e
    by_cases h : i = j
    · subst h
      exact (free_noref fr c q).elim
    · exact ⟨c, by rw [List.getElem?_set_ne h]; exact q⟩
  · by_cases h : i = j
    · subst h
      rw [List.getElem?_set_self hi] at e
      cases e
    · rw [List.getElem?_set_ne h] at e
      exact r.noexc j c y e
  · by_cases h : i = j
    · subst h
      rw [List.getElem?_set_self hi] at e
      cases e
    · rw [List.getElem?_set_ne h] at e
      exact r.nofn j n e
theorem Rep.set {k : Bool} {w : SV} (r : Rep K g H σ ρ) (fr : free ρ i = true) (q : RV K g H0 H σ ρ v sv) (hk : kept k sv = some w) :
    Rep K g H (σ.set i (some v)) (ρ.set i (some w)) ∧ ∀ a, Own (σ.set i (some v)) (ρ.set i (some w)) a → Own σ ρ a ∨ H0 a = none := by
  have hi := free_lt fr
  have hs : i < σ.length := by rw [r.len]; exact hi
  cases sv with
  | d x =>
    cases hk
    exact ⟨r.set_d fr q.b, fun a h => .inl (own_set_d hi h)⟩
  | own c =>
    have hb := q.b
    have hx := q.x
    cases k with
    | true =>
      cases hk
      obtain ⟨p, rfl, n, no, cr⟩ := hb
      exact ⟨r.set_own (hx p rfl) fr no cr, fun a h => (own_set_own hi hs h).imp id fun e => by rw [e]; exact n⟩
    | false =>
      cases hk
      exact ⟨r.set_d fr (q.keep rfl), fun a h => .inl (own_set_d hi h)⟩
  | pk i => cases hk
  | ref _ => cases hk
  | exc _ _ => exact q.b.elim
  | fn _ => exact q.b.elim
end

/-! ### statements -/
structure FrS (H : Hp) (M : Addr → Prop) (H' : Hp) (M' : Addr → Prop) : Prop where
  keep : ∀ a o, H a = some o → ¬ M a → H' a = some o
  stay : ∀ a o, H a = some o → ∃ o', H' a = some o'
  new : ∀ a, M' a → M a ∨ H a = none
theorem FrS.refl (H : Hp) (M : Addr → Prop) : FrS H M H M := ⟨fun _ _ h _ => h, fun _ o h => ⟨o, h⟩, fun _ h => .inl h⟩
theorem FrS.free {M M' : Addr → Prop} {H H1 : Hp} (f : FrS H M H1 M') : Free H H1 := fun a e => by
  cases q : H a with
  | none => rfl
  | some o =>
    obtain ⟨o', q'⟩ := f.stay a o q
    rw [e] at q'
    cases q'
theorem FrS.trans {H H1 H2 : Hp} {M M1 M2 : Addr → Prop} (a : FrS H M H1 M1) (b : FrS H1 M1 H2 M2) : FrS H M H2 M2 := by
  refine ⟨fun x o e n => b.keep x o (a.keep x o e n) fun z => ?_, fun x o e => let ⟨_, q⟩ := a.stay x o e; b.stay x _ q, fun x h => ?_⟩
  · rcases a.new x z with h | h
    · exact n h
    · rw [e] at h
      cases h
  · rcases b.new x h with h | h
    · exact a.new x h
    · exact .inr (a.free x h)
theorem FrS.of {H H1 : Hp} {M : Addr → Prop} (f : FrE H M H1) : FrS H M H1 M := ⟨f.keep, f.stay, fun _ h => .inl h⟩
theorem FrE.then {H H1 H2 : Hp} {M M1 M2 : Addr → Prop} (f : FrE H M H1) (e : ∀ a, M1 a → M a) (b : FrS H1 M1 H2 M2) : FrS H M H2 M2 := by
  have f' : FrS H M H1 M1 := ⟨f.keep, f.stay, fun a h => .inl (e a h)⟩
  exact f'.trans b

section
variable {P : Pk} {E : St → XK} {g : Gh} {σ σ1 : St} {ρ ρ1 : En} {H0 H H1 : Hp} {D D' : Ends}
def PostS (P : Pk) (E : St → XK) (g : Gh) (σ : St) (ρ : En) (H0 H : Hp) (D : Ends) : SOut → Prop
  | .next ρ' => ∀ σ' H', Rep P.K g H' σ' ρ' → FrS H (Own σ ρ) H' (Own σ' ρ') → D.nx σ' H'
  | .ret s ρ' => ∀ v σ' H', Rep P.K g H' σ' ρ' → FrS H (Own σ ρ) H' (Own σ' ρ') → RV P.K g H0 H' σ' ρ' v s → D.rt v H'
  | .brk ρ' => ∀ σ' H', Rep P.K g H' σ' ρ' → FrS H (Own σ ρ) H' (Own σ' ρ') → D.bk σ' H'
  | .cont ρ' => ∀ σ' H', Rep P.K g H' σ' ρ' → FrS H (Own σ ρ) H' (Own σ' ρ') → D.ct σ' H'
  | .raise c x ρ' => ∀ d v σ' H', Rep P.K g H' σ' ρ' → FrS H (Own σ ρ) H' (Own σ' ρ') → H' d = some (.xd [("value", v)]) → Rp P.K (hid (Out' g σ' ρ') H') v x → E σ' (.ref (P.CA c)) (some d) H'
  | .stuck => False
def tS (P : Pk) (E : St → XK) (s : MS) : TS := fun D σ H => ∃ g ρ, Rep P.K g H σ ρ ∧ PostS P E g σ ρ H H D (s ρ)
theorem PostS.step {o : SOut} (h : PostS P E g σ ρ H0 H D o) (f : FrS H (Own σ ρ) H1 (Own σ1 ρ1)) : PostS P E g σ1 ρ1 H0 H1 D o := by
  cases o with
  | next ρ' => exact fun σ' H' r f' => h σ' H' r (f.trans f')
  | ret s ρ' => exact fun v σ' H' r f' q => h v σ' H' r (f.trans f') q
  | brk ρ' => exact fun σ' H' r f' => h σ' H' r (f.trans f')
  | cont ρ' => exact fun σ' H' r f' => h σ' H' r (f.trans f')
  | raise c x ρ' => exact fun d v σ' H' r f' e q => h d v σ' H' r (f.trans f') e q
  | stuck => exact h
theorem PostS.based {o : SOut} (h : PostS P E g σ ρ H0 H D o) (f : Free H0 H1) : PostS P E g σ ρ H1 H D o := by
  cases o with
  | ret s ρ' => exact fun v σ' H' r f' q => h v σ' H' r f' (q.older f)
  | _ => exact h
theorem PostS.ends {o : SOut} (h : PostS P E g σ ρ H0 H D o) (n : ∀ ρ', o ≠ .next ρ') (e1 : D'.rt = D.rt) (e2 : D'.bk = D.bk) (e3 : D'.ct = D.ct) : PostS P E g σ ρ H0 H D' o := by
  cases o with
  | next ρ' => exact (n ρ' rfl).elim
  | ret s ρ' => exact fun v σ' H' r f' q => by rw [e1]; exact h v σ' H' r f' q
  | brk ρ' => exact fun σ' H' r f' => by rw [e2]; exact h σ' H' r f'
  | cont ρ' => exact fun σ' H' r f' => by rw [e3]; exact h σ' H' r f'
  | raise c x ρ' => exact h
  | stuck => exact h
/-- the frame of an expression's part is that of the statement's -/
theorem frS_of (s : SameC ρ ρ1) (f : FrE H (Own σ ρ) H1) : FrS H (Own σ ρ) H1 (Own σ ρ1) := ⟨f.keep, f.stay, fun _ h => .inl (s.symm.own h)⟩
theorem RX.ofS {c : Str} {x : MP.D} {ρ' : En} (h : PostS P E g σ ρ H0 H D (.raise c x ρ')) : RX P E g σ ρ H c x ρ' := fun d v H' r s f e q => h d v σ H' r (frS_of s f) e q
/-- an expression within a statement -/
theorem stG {α β : Type} {R : Gh → Hp → Hp → St → En → β → α → Prop} {o : Out α} {f : α → En → SOut} {Q' : β → Hp → Prop} (h : PostS P E g σ ρ H0 H D (o.st f))
    (k : ∀ a ρ1 v H1, o = .ok a ρ1 → Rep P.K g H1 σ ρ1 → SameC ρ ρ1 → FrE H (Own σ ρ) H1 → R g H H1 σ ρ1 v a → PostS P E g σ ρ H0 H D (f a ρ1) → Q' v H1) : PostG R P E g σ ρ H H Q' o := by
  cases o with
  | ok a ρ1 => exact fun v H1 r s fr rv => k a ρ1 v H1 rfl r s fr rv h
  | raise c x ρ1 => exact RX.ofS h
  | stuck => exact h
end

section
variable {X : Cx} {P : Pk} {E : St → XK} {st : Stmt} {sts sts2 : List Stmt} {a b : Expr} {m : ME} {t : MT} {s u : MS} {pos : Pos}
theorem b_next {P : Pk} {E : St → XK} : ∀ D σ H, tS P E sNext D σ H → tNext D σ H := fun D σ H ⟨g, ρ, r, h⟩ => h σ H r (.refl _ _)
theorem b_nil : PSs X [] (tS P E sNext) := ⟨fun pins s σ H D I q => pss_nil.run pins s σ H D I (b_next D σ H q)⟩
theorem b_cons (h1 : PS X st (tS P E s)) (h2 : PSs X sts (tS P E u)) : PSs X (st :: sts) (tS P E (sSeq s u)) := by
  refine ⟨fun pins s' σ H D I ⟨g, ρ, r, h⟩ => (pss_cons h1 h2).run pins s' σ H D I ⟨g, ρ, r, ?_⟩⟩
  have h' : PostS P E g σ ρ H H D ((s ρ).seq u) := h
  cases e : s ρ with
  | next ρ1 =>
    rw [e] at h'
    exact fun σ1 H1 r1 f1 => ⟨g, ρ1, r1, (PostS.step h' f1).based f1.free⟩
  | ret v ρ1 => rw [e] at h'; exact h'
  | brk ρ1 => rw [e] at h'; exact h'
  | cont ρ1 => rw [e] at h'; exact h'
  | raise c x ρ1 => rw [e] at h'; exact h'
  | stuck => rw [e] at h'; exact h'
theorem b_one (h1 : PS X st (tS P E s)) : PSs X [st] (tS P E s) := pss_one h1
theorem z_pass : PS X (.Pass pos) (tS P E sNext) := PS.imp ps_pass b_next
theorem z_break : PS X (.Break pos) (tS P E sBreak) := PS.imp ps_break fun D σ H ⟨g, ρ, r, h⟩ => h σ H r (.refl _ _)
theorem z_cont : PS X (.Continue pos) (tS P E sCont) := PS.imp ps_continue fun D σ H ⟨g, ρ, r, h⟩ => h σ H r (.refl _ _)
theorem z_never : PS X st (tS P E sNever) := ⟨fun _ _ _ _ _ _ ⟨_, _, _, h⟩ => h.elim⟩
theorem z_expr (he : PE X a (tM P E m)) (hs : swapsWith a none pos.line X.env = pure false := by rfl) : PS X (.Expr a pos) (tS P E (sExpr m)) := by
  refine PS.imp (ps_expr he hs) fun D σ H ⟨g, ρ, r, h⟩ => ?_
  exact ⟨g, ρ, r, stG (R := RVP P) h fun v ρ1 x H1 _ r1 s1 f1 q1 h1 => h1 σ H1 r1 (frS_of s1 f1)⟩
theorem z_ret (he : PE X a (tM P E m)) : PS X (.Return (some a) pos) (tS P E (sRet m)) := by
  refine PS.imp (ps_ret he) fun D σ H ⟨g, ρ, r, h⟩ => ?_
  exact ⟨g, ρ, r, stG (R := RVP P) h fun v ρ1 x H1 _ r1 s1 f1 q1 h1 => h1 x σ H1 r1 (frS_of s1 f1) q1⟩
theorem z_retN : PS X (.Return none pos) (tS P E sRetN) := PS.imp ps_retN fun D σ H ⟨g, ρ, r, h⟩ => h .non σ H r (.refl _ _) (.d .non)
theorem z_if {c : Expr} (hc : PT X c (tT P E t)) (ha : PSs X sts (tS P E s)) (hb : PSs X sts2 (tS P E u)) : PS X (.If c sts sts2 pos) (tS P E (sIf t s u)) := by
  refine PS.imp (ps_if hc ha hb) fun D σ H ⟨g, ρ, r, h⟩ => ?_
  refine ⟨g, ρ, r, stG (R := RB) h fun c ρ1 d H1 _ r1 s1 f1 q1 h1 => ?_⟩
  subst q1
  cases d with
  | true => exact ⟨g, ρ1, r1, (h1.step (frS_of s1 f1)).based f1.free⟩
  | false => exact ⟨g, ρ1, r1, (h1.step (frS_of s1 f1)).based f1.free⟩
/-- behind the store of a value that was made since H -/
theorem setS_post {g : Gh} {σ : St} {ρ ρ1 : En} {H0 H H1 : Hp} {D : Ends} {k : Bool} {i : Nat} {v : V} {sv : SV} (r : Rep P.K g H1 σ ρ1) (sc : SameC ρ ρ1) (f : FrE H (Own σ ρ) H1) (q : RV P.K g H H1 σ ρ1 v sv) (h : PostS P E g σ ρ H0 H D (setS k i sv ρ1)) :
    D.nx (σ.set i (some v)) H1 := by
  unfold setS at h
  split at h
  · rename_i hf
    cases e : kept k sv with
    | none =>
      rw [e] at h
      exact h.elim
    | some w =>
      rw [e] at h
      obtain ⟨h1, h2⟩ := r.set hf q e
      exact h _ H1 h1 ⟨f.keep, f.stay, fun a z => (h2 a z).imp sc.symm.own id⟩
  · exact h.elim
theorem z_set (i : Nat) (k : Bool) {x : Str} {pos' : Pos} (he : PE X a (tM P E m)) (hN : X.N.Nodup) (hi : X.N[i]? = some x := by rfl) (hx : Loc X.env.scope x := by first | exact Or.inl rfl | exact Or.inr rfl) (hs : swapsWith a (some (.Name x pos')) pos.line X.env = pure false := by rfl) (hf : X.fn x = true ∨ X.env.scope.names.lookup x = some .local := by first | exact .inl rfl | exact .inr rfl | assumption) :
    PS X (.Assign [.Name x pos'] a pos) (tS P E (sSet k i m)) := by
  refine PS.imp (ps_set hN hi hx he hs hf) fun D σ H ⟨g, ρ, r, h⟩ => ?_
  exact ⟨g, ρ, r, stG (R := RVP P) h fun v ρ1 x H1 _ r1 s1 f1 q1 h1 => setS_post r1 s1 f1 q1 h1⟩
end
end MP
end

section
set_option Elab.async false
set_option linter.all false
set_option maxRecDepth 100000
set_option maxHeartbeats 4000000
set_option autoImplicit false
namespace MP
open PySem PySem.Spec L2

theorem PG.imp {X : Cx} {e : Expr} {t t' : TG} (h : PG X e t) (k : ∀ v σ H Q, t' v σ H Q → t v σ H Q) : PG X e t' := ⟨fun pins s σ H v u Q I r q => h.run pins s σ H v u Q I r (k v σ H Q q)⟩
theorem PGs.imp {X : Cx} {e : List Expr} {t t' : TGs} (h : PGs X e t) (k : ∀ v σ H Q, t' v σ H Q → t v σ H Q) : PGs X e t' := ⟨fun pins s σ H v u Q I r q => h.run pins s σ H v u Q I r (k v σ H Q q)⟩
/-- data into a target -/
def gT (P : Pk) (tg : Tg) : TG := fun v σ H Q => ∃ g ρ x ρ', Rep P.K g H σ ρ ∧ Rp P.K (hid (Out' g σ ρ) H) v x ∧ tgSet tg x ρ = some ρ' ∧ ∀ σ', Rep P.K g H σ' ρ' → (∀ a, Own σ' ρ' a → Own σ ρ a) → (σ'.length = σ.length ∧ ∀ j, j ∉ tg.slots → σ'[j]? = σ[j]?) → Q σ' H
def gTs (P : Pk) (tgs : List Tg) : TGs := fun vs σ H Q => ∃ g ρ xs ρ', Rep P.K g H σ ρ ∧ RpAll P.K (hid (Out' g σ ρ) H) vs xs ∧ tgSets tgs xs ρ = some ρ' ∧ ∀ σ', Rep P.K g H σ' ρ' → (∀ a, Own σ' ρ' a → Own σ ρ a) → (σ'.length = σ.length ∧ ∀ j, j ∉ tgSlots tgs → σ'[j]? = σ[j]?) → Q σ' H
section
variable {X : Cx} {P : Pk} {E : St → XK} {a : Expr} {es : List Expr} {tg : Tg} {tgs : List Tg} {pos : Pos}
theorem g_n (i : Nat) {x : Str} (hN : X.N.Nodup) (hi : X.N[i]? = some x := by rfl) (hx : Loc X.env.scope x := by first | exact Or.inl rfl | exact Or.inr rfl) (hf : X.fn x = true ∨ X.env.scope.names.lookup x = some .local := by first | exact .inl rfl | exact .inr rfl | assumption) : PG X (.Name x pos) (gT P (.n i)) := by
  refine PG.imp (pg_name hN hi hx hf) fun v σ H Q ⟨g, ρ, x, ρ', r, q, e, k⟩ => ?_
  unfold tgSet at e
  split at e
  · rename_i hfr
    cases e
    exact k _ (r.set_d hfr q) (fun a z => own_set_d (free_lt hfr) z) ⟨List.length_set .., fun j hj => List.getElem?_set_ne fun e => hj (by rw [e]; exact List.mem_singleton.mpr rfl)⟩
  · cases e
theorem g_nil : PGs X [] (gTs P []) := by
  refine PGs.imp pgs_nil fun vs σ H Q ⟨g, ρ, xs, ρ', r, q, e, k⟩ => ?_
  cases xs with
  | nil =>
    cases q
    unfold tgSets at e
    cases e
    exact ⟨rfl, k σ r (fun _ z => z) ⟨rfl, fun _ _ => rfl⟩⟩
  | cons x xs =>
    unfold tgSets at e
    cases e
theorem g_cons (h1 : PG X a (gT P tg)) (h2 : PGs X es (gTs P tgs)) (hs : (assignEach (a :: es) X.env).map (·.2) = assign a X.env :: (assignEach es X.env).map (·.2) := by rfl) : PGs X (a :: es) (gTs P (tg :: tgs)) := by
  refine PGs.imp (pgs_cons h1 h2 hs) fun vs σ H Q ⟨g, ρ, xs, ρ', r, q, e, k⟩ => ?_
  cases xs with
  | nil =>
    unfold tgSets at e
    cases e
  | cons x xs =>
    cases q with
    | cons q1 q2 =>
      unfold tgSets at e
      cases e1 : tgSet tg x ρ with
      | none => rw [e1] at e; cases e
      | some ρ1 =>
        rw [e1] at e
        refine ⟨_, _, rfl, g, ρ, x, ρ1, r, q1, e1, fun σ1 r1 o1 l1 => ?_⟩
        exact ⟨g, ρ1, xs, ρ', r1, q2.grow (hid_grow fun a o n e => ⟨fun z => n (z.imp id (o1 a)), e⟩), e, fun σ' r' o' l' => k σ' r' (fun a z => o1 a (o' a z)) ⟨l'.1.trans l1.1, fun j hj => (l'.2 j fun z => hj (List.mem_append_right _ z)).trans (l1.2 j fun z => hj (List.mem_append_left _ z))⟩⟩
theorem tgSets_len : ∀ {tgs : List Tg} {xs : List D} {ρ ρ' : En}, tgSets tgs xs ρ = some ρ' → xs.length = tgs.length
  | [], [], _, _, _ => rfl
  | [], _ :: _, _, _, e => by unfold tgSets at e; cases e
  | _ :: _, [], _, _, e => by unfold tgSets at e; cases e
  | t :: ts, x :: xs, ρ, ρ', e => by
    unfold tgSets at e
    cases e1 : tgSet t x ρ with
    | none => rw [e1] at e; cases e
    | some ρ1 =>
      rw [e1] at e
      exact congrArg (· + 1) (tgSets_len e)
theorem g_t {k : Nat} (hc : X.calm = true) (h : PGs X es (gTs P tgs)) (hK : X.K = P.K := by rfl) (hn : (assignEach es X.env).length = tgs.length := by rfl) (hst : (assignEach es X.env).findIdx? (·.1) = none := by rfl) : PG X (.Tuple es k pos) (gT P (.t tgs)) := by
  obtain ⟨K, CA⟩ := P
  subst hK
  refine PG.imp (pg_tup hc h hn hst) fun v σ H Q ⟨g, ρ, x, ρ', r, q, e, k⟩ => ?_
  cases q with
  | tup q1 q2 =>
    have e' : tgSets tgs _ ρ = some ρ' := e
    exact ⟨_, _, rfl, hid_le.st q1.1, by rw [q2.length]; exact tgSets_len e', g, ρ, _, ρ', r, q2, e', k⟩
  | _ => cases e
/-! ### a, b = e -/
theorem z_unp {m : ME} {x1 : Nat} {p2 : Pos} (he : PE X a (tM P E m)) (hg : PG X (.Tuple es x1 p2) (gT P tg)) (hs : swapsWithSole [.Tuple es x1 p2] a pos.line X.env = pure false := by rfl) (hw : swappedStores [.Tuple es x1 p2] a X.env = pure none := by rfl)
    (h1 : (assignEach [.Tuple es x1 p2] X.env).map (·.2) = [assign (.Tuple es x1 p2) X.env] := by rfl) : PS X (.Assign [.Tuple es x1 p2] a pos) (tS P E (sUnp tg m)) := by
  refine PS.imp (ps_asg he hg hs hw h1) fun D σ H ⟨g, ρ, r, h⟩ => ?_
  refine ⟨g, ρ, r, stG (R := RVP P) h fun v ρ1 x H1 _ r1 s1 f1 q1 h1 => ?_⟩
  cases e1 : toD v with
  | none =>
    have h1' : PostS P E g σ ρ H H D (match toD v with | some x => (match tgSet tg x ρ1 with | some ρ2 => .next ρ2 | none => .stuck) | none => .stuck) := h1
    rw [e1] at h1'
    exact h1'.elim
  | some y =>
    have h1' : PostS P E g σ ρ H H D (match toD v with | some x => (match tgSet tg x ρ1 with | some ρ2 => .next ρ2 | none => .stuck) | none => .stuck) := h1
    rw [e1] at h1'
    have h1'' : PostS P E g σ ρ H H D (match tgSet tg y ρ1 with | some ρ2 => .next ρ2 | none => .stuck) := h1'
    cases e2 : tgSet tg y ρ1 with
    | none =>
      rw [e2] at h1''
      exact h1''.elim
    | some ρ2 =>
      rw [e2] at h1''
      exact ⟨g, ρ1, y, ρ2, r1, q1.keep e1, e2, fun σ' r' o' _ => h1'' σ' H1 r' ⟨f1.keep, f1.stay, fun a z => .inl (s1.symm.own (o' a z))⟩⟩
end
/-! ### what is walked -/
def Later (Pr : Addr → Prop) (H1 H : Hp) : Prop := ∀ a o, H1 a = some o → ¬ Pr a → H a = some o
open Classical in
noncomputable def joinN (N Pr : Addr → Prop) (H1 H' : Hp) : Hp := fun a => if N a then H' a else hid Pr H1 a
/-- J yields xs, whose parts stood frozen at H1 -/
structure JOk (K : Fg) (J : It) (xs : List D) (Pr : Addr → Prop) (H1 : Hp) : Prop where
  go : ∀ H, Later Pr H1 H → ∀ i, i < xs.length → J.go i H
  stop : ∀ H, Later Pr H1 H → J.stop xs.length H
  yld : ∀ H, Later Pr H1 H → ∀ i x v H', xs[i]? = some x → J.yld i H v H' → Grow H H' ∧ ∃ N : Addr → Prop, (∀ a, N a → H a = none) ∧ Rp K (joinN N Pr H1 H') v x
def RJ (P : Pk) : Gh → Hp → Hp → St → En → It → List D → Prop := fun g H0 H σ ρ J xs => JOk P.K J xs (Out' g σ ρ) H
def iM (P : Pk) (E : St → XK) (it : MI) : TI := fun σ H R => ∃ g ρ, Rep P.K g H σ ρ ∧ PostG (RJ P) P E g σ ρ H H R (it ρ)
theorem PI.imp {X : Cx} {tg e : Expr} {t t' : TI} (h : PI X tg e t) (k : ∀ σ H R, t' σ H R → t σ H R) : PI X tg e t' := ⟨fun pins s σ H R I q => h.run pins s σ H R I (k σ H R q)⟩

theorem joinN_out {N Pr Pr' : Addr → Prop} {H1 H H' : Hp} (hN : ∀ a, N a → H a = none) (tr : Tracked H Pr') (lt : Later Pr H1 H) (g : Grow H H') (hp : ∀ a o, ¬ Pr a → H1 a = some o → ¬ Pr' a) : Grow (joinN N Pr H1 H') (hid Pr' H') := by
  intro a o e
  unfold joinN at e
  by_cases h : N a
  · rw [if_pos h] at e
    have no : ¬ Pr' a := fun z => by
      obtain ⟨o', e'⟩ := tr a z
      rw [hN a h] at e'
      cases e'
    exact hid_some.mpr ⟨no, e⟩
  · rw [if_neg h] at e
    obtain ⟨n, e⟩ := hid_some.mp e
    exact hid_some.mpr ⟨hp a o n e, g a o (lt a o e n)⟩
theorem drop_cons {α : Type} {xs : List α} {i : Nat} (h : i < xs.length) : xs.drop i = xs[i] :: xs.drop (i + 1) := List.drop_eq_getElem_cons h

section
variable {X : Cx} {P : Pk} {E : St → XK} {iter te : Expr} {body : List Stmt} {tg : Tg} {it : MI} {b : MS} {pos : Pos}
theorem z_for (hp : PassesOwn (model X.prog X.w) X.A X.env X.xe) (hc : X.calm = true) (hi : PI X te iter (iM P E it)) (hg : PG X te (gT P tg)) (hb : PSs X body (tS P E b))
    (hs : ∀ x, foldedSetIterable iter X.env x = pure x := by intro _; rfl) : PS X (.For te iter body [] pos) (tS P E (sFor tg it b)) := by
  refine PS.imp (ps_for hp hc hi hg hb hs) fun D σ H ⟨g, ρ, r, h⟩ => ?_
  refine ⟨g, ρ, r, stG (R := RJ P) h fun xs ρ1 J H1 _ r1 s1 f1 q1 h1 => ?_⟩
  have f1' : FrS H (Own σ ρ) H1 (Own σ ρ1) := frS_of s1 f1
  have h1' : PostS P E g σ ρ1 H H1 D (forGo tg b xs ρ1) := h1.step f1'
  refine ⟨fun i m σ2 H2 => ∃ ρ2, m = xs.length - i ∧ i ≤ xs.length ∧ Rep P.K g H2 σ2 ρ2 ∧ FrS H1 (Own σ ρ1) H2 (Own σ2 ρ2) ∧ PostS P E g σ2 ρ2 H H2 D (forGo tg b (xs.drop i) ρ2), ⟨_, ρ1, rfl, Nat.zero_le _, r1, .refl _ _, by rw [List.drop_zero]; exact h1'⟩, ?_⟩
  rintro i m σ2 H2 ⟨ρ2, rfl, hi, r2, f2, h2⟩
  have lt2 : Later (Out' g σ ρ1) H1 H2 := fun a o e n => f2.keep a o e fun z => n (.inr z)
  by_cases hlt : i < xs.length
  · rw [drop_cons hlt] at h2
    refine .inr ⟨q1.go H2 lt2 i hlt, fun σ' H' => ∃ ρ', Rep P.K g H' σ' ρ' ∧ FrS H1 (Own σ ρ1) H' (Own σ' ρ') ∧ PostS P E g σ' ρ' H H' D (forGo tg b (xs.drop (i + 1)) ρ'), fun σ' H' ⟨ρ', a1, a2, a3⟩ => ⟨xs.length - (i + 1), by omega, ρ', rfl, hlt, a1, a2, a3⟩, fun v H3 y => ?_⟩
    obtain ⟨gr, N, hN, rv⟩ := q1.yld H2 lt2 i xs[i] v H3 (List.getElem?_eq_getElem hlt) y
    have r3 := r2.grow gr
    have out2 : ∀ a o, ¬ Out' g σ ρ1 a → H1 a = some o → ¬ Out' g σ2 ρ2 a := fun a o n e z => z.elim (fun z => n (.inl z)) fun z => (f2.new a z).elim (fun z => n (.inr z)) fun z => by rw [e] at z; cases z
    have rv' : Rp P.K (hid (Out' g σ2 ρ2) H3) v xs[i] := rv.grow (joinN_out hN (fun a z => r2.out_some z) lt2 gr out2)
    unfold forGo at h2
    cases e1 : tgSet tg xs[i] ρ2 with
    | none => rw [e1] at h2; exact h2.elim
    | some ρ3 =>
      rw [e1] at h2
      refine ⟨g, ρ2, _, ρ3, r3, rv', e1, fun σ3 r3' o3 _ => ?_⟩
      have f3 : FrS H2 (Own σ2 ρ2) H3 (Own σ3 ρ3) := ⟨fun a o e _ => gr a o e, fun a o e => ⟨o, gr a o e⟩, fun a z => .inl (o3 a z)⟩
      refine ⟨g, ρ3, r3', ?_⟩
      have fr : Free H H3 := (f1.free.trans f2.free).trans f3.free
      have h3 := PostS.step (σ1 := σ3) (ρ1 := ρ3) h2 f3
      have h3' : PostS P E g σ3 ρ3 H H3 D (match b ρ3 with
      | .next ρ2 => forGo tg b (xs.drop (i + 1)) ρ2
      | .cont ρ2 => forGo tg b (xs.drop (i + 1)) ρ2
      | .brk ρ2 => .next ρ2
      | .ret v ρ2 => .ret v ρ2
      | .raise c x ρ2 => .raise c x ρ2
      | .stuck => .stuck) := h3
      cases e2 : b ρ3 with
      | next ρ4 =>
        rw [e2] at h3'
        exact fun σ4 H4 r4 f4 => ⟨ρ4, r4, (f2.trans f3).trans f4, h3'.step f4⟩
      | cont ρ4 =>
        rw [e2] at h3'
        exact fun σ4 H4 r4 f4 => ⟨ρ4, r4, (f2.trans f3).trans f4, h3'.step f4⟩
      | brk ρ4 =>
        rw [e2] at h3'
        exact h3'
      | ret s ρ4 =>
        rw [e2] at h3'
        exact fun v σ4 H4 r4 f4 q4 => h3' v σ4 H4 r4 f4 (q4.older fr)
      | raise c x ρ4 =>
        rw [e2] at h3'
        exact h3'
      | stuck =>
        rw [e2] at h3'
        exact h3'.elim
  · have e : i = xs.length := by omega
    subst e
    rw [List.drop_length] at h2
    exact .inl ⟨q1.stop H2 lt2, h2 σ2 H2 r2 (.refl _ _)⟩
/-! ### while -/
theorem z_while {c : Expr} {t : MT} (fuel : En → Nat) (hp : PassesOwn (model X.prog X.w) X.A X.env X.xe) (hc : PT X c (tT P E t)) (hb : PSs X body (tS P E b)) : PS X (.While c body [] pos) (tS P E (sWhile fuel t b)) := by
  refine PS.imp (ps_while hp hc hb) fun D σ H ⟨g, ρ, r, h⟩ => ?_
  refine ⟨fun n σ2 H2 => ∃ ρ2, Rep P.K g H2 σ2 ρ2 ∧ FrS H (Own σ ρ) H2 (Own σ2 ρ2) ∧ PostS P E g σ2 ρ2 H H2 D (whileGo t b n ρ2), ⟨fuel ρ, ρ, r, .refl _ _, h⟩, ?_⟩
  rintro n σ2 H2 ⟨ρ2, r2, f2, h2⟩
  cases n with
  | zero => exact h2.elim
  | succ n =>
    have h2' : PostS P E g σ2 ρ2 H H2 D ((t ρ2).st fun c ρ1 => if c = true then (match b ρ1 with
      | .next ρ2 => whileGo t b n ρ2
      | .cont ρ2 => whileGo t b n ρ2
      | .brk ρ2 => .next ρ2
      | .ret v ρ2 => .ret v ρ2
      | .raise c x ρ2 => .raise c x ρ2
      | .stuck => .stuck) else .next ρ1) := h2
    refine ⟨g, ρ2, r2, stG (R := RB) h2' fun c ρ3 d H3 _ r3 s3 f3 q3 h3 => ?_⟩
    subst q3
    have f3' := frS_of s3 f3
    cases d with
    | false => exact h3 σ2 H3 r3 f3'
    | true =>
      rw [if_pos rfl] at h3
      rw [if_pos rfl]
      refine ⟨fun σ' H' => ∃ ρ', Rep P.K g H' σ' ρ' ∧ FrS H (Own σ ρ) H' (Own σ' ρ') ∧ PostS P E g σ' ρ' H H' D (whileGo t b n ρ'), fun σ' H' q => ⟨n, Nat.lt_succ_self n, q⟩, g, ρ3, r3, ?_⟩
      have h3' := h3.step f3'
      have fr : Free H H3 := f2.free.trans f3.free
      cases e2 : b ρ3 with
      | next ρ4 =>
        rw [e2] at h3'
        exact fun σ4 H4 r4 f4 => ⟨ρ4, r4, (f2.trans f3').trans f4, h3'.step f4⟩
      | cont ρ4 =>
        rw [e2] at h3'
        exact fun σ4 H4 r4 f4 => ⟨ρ4, r4, (f2.trans f3').trans f4, h3'.step f4⟩
      | brk ρ4 =>
        rw [e2] at h3'
        exact h3'
      | ret s ρ4 =>
        rw [e2] at h3'
        exact fun v σ4 H4 r4 f4 q4 => h3' v σ4 H4 r4 f4 (q4.older fr)
      | raise c x ρ4 =>
        rw [e2] at h3'
        exact h3'
      | stuck =>
        rw [e2] at h3'
        exact h3'.elim
end
end MP
end

section
set_option Elab.async false
set_option linter.all false
set_option maxRecDepth 100000
set_option maxHeartbeats 4000000
set_option autoImplicit false
namespace MP
open PySem PySem.Spec L2

/-! ### what is walked: lists, tuples, ranges -/
section
variable {X : Cx} {P : Pk} {E : St → XK} {te a b : Expr} {ma mb : ME} {pos p : Pos}
theorem later_sl {K : Fg} {Pr : Addr → Prop} {H1 H : Hp} (lt : Later Pr H1 H) {l : Addr} {xs : List V} (h : SqL K (hid Pr H1) l xs) : SqL K H l xs :=
  Grow.sl (fun a o e => let ⟨n, e⟩ := hid_some.mp e; lt a o e n) h
theorem later_st {K : Fg} {Pr : Addr → Prop} {H1 H : Hp} (lt : Later Pr H1 H) {l : Addr} {xs : List V} (h : SqT K (hid Pr H1) l xs) : SqT K H l xs :=
  Grow.st (fun a o e => let ⟨n, e⟩ := hid_some.mp e; lt a o e n) h
theorem join_none {K : Fg} {Pr : Addr → Prop} {H1 H' : Hp} {v : V} {x : D} (h : Rp K (hid Pr H1) v x) : Rp K (joinN (fun _ => False) Pr H1 H') v x :=
  h.grow fun a o e => by
    unfold joinN
    rw [if_neg not_false]
    exact e
theorem jok_items {K : Fg} {J : It} {Pr : Addr → Prop} {H1 : Hp} {vs : List V} {xs : List D} (r : RpAll K (hid Pr H1) vs xs)
    (go : ∀ H, Later Pr H1 H → ∀ i, i < vs.length → J.go i H) (stop : ∀ H, Later Pr H1 H → J.stop vs.length H) (yld : ∀ H, Later Pr H1 H → ∀ i v H', J.yld i H v H' → H' = H ∧ (∀ w, vs[i]? = some w → v = w)) : JOk K J xs Pr H1 := by
  refine ⟨fun H lt i h => go H lt i (by rw [r.length]; exact h), fun H lt => by rw [← r.length]; exact stop H lt, fun H lt i x v H' e y => ?_⟩
  obtain ⟨e1, e2⟩ := yld H lt i v H' y
  subst e1
  obtain ⟨w, q1, q2⟩ := r.get e
  rw [e2 w q1]
  exact ⟨.refl _, fun _ => False, fun _ h => h.elim, join_none q2⟩
/-- the values of a range -/
theorem rp_ints {K : Fg} {Hh : Hp} (lo : Int) (n : Nat) : RpAll K Hh ((List.range n).map fun k => V.int (lo + (k : Nat))) (intsD lo n) := by
  unfold intsD
  induction List.range n with
  | nil => exact .nil
  | cons k ks ih => exact .cons (.int _) ih
theorem jok_range {K : Fg} {Pr : Addr → Prop} {H1 : Hp} (lo : Int) (n : Nat) : JOk K (Itr lo n) (intsD lo n) Pr H1 := by
  have hl : ((List.range n).map fun k => V.int (lo + (k : Nat))).length = n := by rw [List.length_map, List.length_range]
  refine jok_items (rp_ints lo n) (fun H lt i h => ?_) (fun H lt => ?_) fun H lt i v H' y => ?_
  · rw [hl] at h
    exact h
  · rw [hl]
    exact Nat.le_refl n
  · obtain ⟨e1, e2⟩ := y
    refine ⟨e1, fun w hw => ?_⟩
    rw [e2]
    rw [List.getElem?_map] at hw
    cases e3 : (List.range n)[i]? with
    | none => rw [e3] at hw; cases hw
    | some k =>
      rw [e3] at hw
      have e4 : k = i := by
        obtain ⟨h1, h2⟩ := List.getElem?_eq_some_iff.mp e3
        rw [← h2, List.getElem_range]
      subst e4
      exact Option.some.inj hw
theorem piOr {X : Cx} {tg l : Expr} {w w' : TI} (h : PI X tg l w) (h' : PI X tg l w') : PI X tg l (fun σ H R => w σ H R ∨ w' σ H R) := ⟨fun pins s σ H R I q => q.elim (h.run pins s σ H R I) (h'.run pins s σ H R I)⟩
theorem jok_list {K : Fg} {Pr : Addr → Prop} {H1 : Hp} {l : Addr} {vs : List V} {xs : List D} (h : SqL K (hid Pr H1) l vs) (r : RpAll K (hid Pr H1) vs xs) : JOk K (Itl K l) xs Pr H1 :=
  jok_items r (fun H lt i hi => ⟨vs, vs[i], later_sl lt h, List.getElem?_eq_getElem hi⟩) (fun H lt => ⟨vs, later_sl lt h, Nat.le_refl _⟩) fun H lt i v H' y => ⟨y.1, fun w hw => Option.some.inj ((y.2 vs (later_sl lt h)).symm.trans hw)⟩
theorem jok_tup {K : Fg} {Pr : Addr → Prop} {H1 : Hp} {l : Addr} {vs : List V} {xs : List D} (h : SqT K (hid Pr H1) l vs) (r : RpAll K (hid Pr H1) vs xs) : JOk K (Itt K l) xs Pr H1 :=
  jok_items r (fun H lt i hi => ⟨vs, vs[i], later_st lt h, List.getElem?_eq_getElem hi⟩) (fun H lt => ⟨vs, later_st lt h, Nat.le_refl _⟩) fun H lt i v H' y => ⟨y.1, fun w hw => Option.some.inj ((y.2 vs (later_st lt h)).symm.trans hw)⟩
theorem toB_ok {β : Type} {v : SV} {f : D → Out β} {r : β} {ρ : En} (h : toB v f = .ok r ρ) : ∃ x, toD v = some x ∧ f x = .ok r ρ := by
  unfold toB at h
  split at h
  · exact ⟨_, by assumption, h⟩
  · cases h
theorem fr_rd {H : Hp} {a : Addr} {u : HO} {M : Addr → Prop} (h : Rd (hid M H) a u) : Rd H a u := hid_le.rd h
theorem i_seq (ha : PE X a (tM P E ma)) (hK : X.K = P.K := by rfl) : PI X te a (iM P E (i1 seqD ma)) := by
  obtain ⟨K, CA⟩ := P
  subst hK
  refine PI.imp (piOr (pi_list ha) (pi_tup ha)) fun σ H R ⟨g, ρ, r, h⟩ => ?_
  have h' : PostG (RJ ⟨X.K, CA⟩) ⟨X.K, CA⟩ E g σ ρ H H R ((ma ρ).bind fun v ρ1 => toB v fun x => opt (seqD x) ρ1) := h
  cases e : ma ρ with
  | raise c x ρ1 =>
    rw [e] at h'
    exact .inl ⟨g, ρ, r, by rw [e]; exact h'⟩
  | stuck =>
    rw [e] at h'
    exact h'.elim
  | ok sv ρ1 =>
    cases e2 : toD sv with
    | none =>
      rw [e, Out.bind_ok] at h'
      unfold toB at h'
      rw [e2] at h'
      exact h'.elim
    | some x =>
      have h2 : PostG (RJ ⟨X.K, CA⟩) ⟨X.K, CA⟩ E g σ ρ H H R (opt (seqD x) ρ1) := by
        rw [e, Out.bind_ok] at h'
        unfold toB at h'
        rw [e2] at h'
        exact h'
      cases x with
      | list ds =>
        refine .inl ⟨g, ρ, r, ?_⟩
        rw [e]
        intro v H1 r1 s1 f1 q1
        have k := q1.keep e2
        cases k with
        | lst k1 k2 => exact ⟨_, rfl, ⟨_, hid_le.sl k1⟩, h2 _ H1 r1 s1 f1 (jok_list k1 k2)⟩
      | tuple ds =>
        refine .inr ⟨g, ρ, r, ?_⟩
        rw [e]
        intro v H1 r1 s1 f1 q1
        have k := q1.keep e2
        cases k with
        | tup k1 k2 => exact ⟨_, rfl, ⟨_, hid_le.st k1.1⟩, h2 _ H1 r1 s1 f1 (jok_tup k1.1 k2)⟩
      | _ => exact h2.elim
/-! ranges -/
theorem small62_of {i : Int} (h : small62 i = true) : -(2 ^ 62) ≤ i ∧ i < 2 ^ 62 := by
  exact small62_iff h
def i1v (f : D → Option (List D)) (a : ME) : MI := fun ρ => (a ρ).bind fun v ρ1 => toB v fun x => opt (f x) ρ1
theorem i_range1 (hm : X.mg "range" = none) (ha : PE X a (tM P E ma)) (hg : Gl X "range" := by rfl) (he : starEach [a] X.env = (false, eval a X.env) :: starEach [] X.env := by rfl) (hs : starEach [a] X.env = [(false, eval a X.env)] := by rfl) : PI X te (.Call (.Name "range" p) [a] [] pos) (iM P E (i1 range1 ma)) := by
  refine PI.imp (pi_range1 hg hm (pa_cons ha pa_nil he) hs) fun σ H R ⟨g, ρ, r, h⟩ => ?_
  refine ⟨g, ρ, r, bindG (R := RVP P) (R' := RJ P) h fun sv ρ1 v H1 r1 s1 f1 q1 h1 => ?_⟩
  obtain ⟨x, ex, h1⟩ := toB_some h1
  obtain ⟨xs, exs, h1⟩ := opt_of h1
  unfold range1 at exs
  split at exs
  · split at exs
    · rename_i n hn
      cases exs
      obtain ⟨n1, n2⟩ := small62_of hn
      cases q1.keep ex
      exact ⟨n, rfl, n1, n2, h1 _ H1 r1 (.refl _) (.refl _ _) (jok_range 0 n.toNat)⟩
    · cases exs
  · cases exs
theorem range2_inv {x y : D} {xs : List D} (h : range2 x y = some xs) : ∃ i j, x = .int i ∧ y = .int j ∧ (small62 i = true ∧ small62 j = true) ∧ xs = intsD i (j - i).toNat := by
  unfold range2 at h
  split at h
  · split at h
    · rename_i hn
      rw [Bool.and_eq_true] at hn
      cases h
      exact ⟨_, _, rfl, rfl, hn, rfl⟩
    · cases h
  · cases h
theorem i_range2 (hm : X.mg "range" = none) (ha : PE X a (tM P E ma)) (hb : PE X b (tM P E mb)) (hg : Gl X "range" := by rfl) (he1 : starEach [a, b] X.env = (false, eval a X.env) :: starEach [b] X.env := by rfl) (he2 : starEach [b] X.env = (false, eval b X.env) :: starEach [] X.env := by rfl)
    (hs : starEach [a, b] X.env = [(false, eval a X.env), (false, eval b X.env)] := by rfl) (hs2 : starEach [b] X.env = [(false, eval b X.env)] := by rfl) : PI X te (.Call (.Name "range" p) [a, b] [] pos) (iM P E (i2 range2 ma mb)) := by
  refine PI.imp (pi_range2 hg hm (pa_cons ha (pa_cons hb pa_nil he2) he1) hs hs2) fun σ H R ⟨g, ρ, r, h⟩ => ?_
  refine ⟨g, ρ, r, bindG (R := RVP P) (R' := RJ P) h fun sv ρ1 v H1 r1 s1 f1 q1 h1 => ?_⟩
  refine ⟨g, ρ1, r1, bindG (R := RVP P) (R' := RJ P) h1 fun sw ρ2 w H2 r2 s2 f2 q2 h2 => ?_⟩
  obtain ⟨x, ex, h2⟩ := toB_some h2
  obtain ⟨y, ey, h2⟩ := toB_some h2
  obtain ⟨xs, exs, h2⟩ := opt_of h2
  obtain ⟨i, j, rfl, rfl, hn, rfl⟩ := range2_inv exs
  obtain ⟨n1, n2⟩ := small62_of hn.1
  obtain ⟨n3, n4⟩ := small62_of hn.2
  cases (q1.later s2 f2).keep ex
  cases q2.keep ey
  exact ⟨i, j, rfl, ⟨n1, n2, n3, n4⟩, h2 _ H2 r2 (.refl _) (.refl _ _) (jok_range i (j - i).toNat)⟩
end
end MP
end

section
set_option Elab.async false
set_option linter.all false
set_option maxRecDepth 100000
set_option maxHeartbeats 4000000
set_option autoImplicit false
namespace MP
open PySem PySem.Spec L2

/-! ### slots forgotten and put back -/
theorem set_get {α : Type} {l : List α} {i j : Nat} {x : α} : (l.set i x)[j]? = if i = j ∧ j < l.length then some x else l[j]? := by
  by_cases h : i = j
  · subst h
    by_cases h2 : i < l.length
    · rw [if_pos ⟨rfl, h2⟩, List.getElem?_set_self h2]
    · rw [if_neg (fun z => h2 z.2), List.getElem?_eq_none (by rw [List.length_set]; omega), List.getElem?_eq_none (by omega)]
  · rw [if_neg (fun z => h z.1), List.getElem?_set_ne h]
theorem wipe_get {σ : St} : ∀ {vs : List Nat} {j : Nat}, (wipe σ vs)[j]? = if j ∈ vs ∧ j < σ.length then some none else σ[j]?
  | [], j => by rw [if_neg (by simp)]; rfl
  | v :: vs, j => by
    show ((wipe σ vs).set v none)[j]? = _
    rw [set_get, wipe_length, wipe_get (vs := vs)]
    by_cases h : v = j
    · subst h
      by_cases h2 : v < σ.length
      · rw [if_pos ⟨rfl, h2⟩, if_pos ⟨List.mem_cons_self, h2⟩]
      · rw [if_neg (fun z => h2 z.2), if_neg (fun z => h2 z.2), if_neg (fun z => h2 z.2)]
    · rw [if_neg (fun z => h z.1)]
      by_cases h3 : j ∈ vs ∧ j < σ.length
      · rw [if_pos h3, if_pos ⟨List.mem_cons_of_mem _ h3.1, h3.2⟩]
      · rw [if_neg h3, if_neg (fun z => h3 ⟨(List.mem_cons.mp z.1).elim (fun e => (h e.symm).elim) id, z.2⟩)]
theorem wipeE_length {ρ : En} : ∀ {vs : List Nat}, (wipeE ρ vs).length = ρ.length
  | [] => rfl
  | v :: vs => by
    show ((wipeE ρ vs).set v none).length = _
    rw [List.length_set, wipeE_length]
theorem wipeE_get {ρ : En} : ∀ {vs : List Nat} {j : Nat}, (wipeE ρ vs)[j]? = if j ∈ vs ∧ j < ρ.length then some none else ρ[j]?
  | [], j => by rw [if_neg (by simp)]; rfl
  | v :: vs, j => by
    show ((wipeE ρ vs).set v none)[j]? = _
    rw [set_get, wipeE_length, wipeE_get (vs := vs)]
    by_cases h : v = j
    · subst h
      by_cases h2 : v < ρ.length
      · rw [if_pos ⟨rfl, h2⟩, if_pos ⟨List.mem_cons_self, h2⟩]
      · rw [if_neg (fun z => h2 z.2), if_neg (fun z => h2 z.2), if_neg (fun z => h2 z.2)]
    · rw [if_neg (fun z => h z.1)]
      by_cases h3 : j ∈ vs ∧ j < ρ.length
      · rw [if_pos h3, if_pos ⟨List.mem_cons_of_mem _ h3.1, h3.2⟩]
      · rw [if_neg h3, if_neg (fun z => h3 ⟨(List.mem_cons.mp z.1).elim (fun e => (h e.symm).elim) id, z.2⟩)]
theorem back_length {ρ ρ' : En} : ∀ {vs : List Nat}, (back ρ ρ' vs).length = ρ'.length
  | [] => rfl
  | v :: vs => by
    show ((back ρ ρ' vs).set v _).length = _
    rw [List.length_set, back_length]
theorem back_get {ρ ρ' : En} (hl : ρ'.length = ρ.length) : ∀ {vs : List Nat} {j : Nat}, (back ρ ρ' vs)[j]? = if j ∈ vs then ρ[j]? else ρ'[j]?
  | [], j => by rw [if_neg (by simp)]; rfl
  | v :: vs, j => by
    show ((back ρ ρ' vs).set v (ρ[v]?.getD none))[j]? = _
    rw [set_get, back_length, back_get hl (vs := vs), hl]
    by_cases h : v = j
    · subst h
      rw [if_pos List.mem_cons_self]
      by_cases h2 : v < ρ.length
      · rw [if_pos ⟨rfl, h2⟩, List.getElem?_eq_getElem h2]
        rfl
      · rw [if_neg (fun z => h2 z.2)]
        have e1 : ρ[v]? = none := List.getElem?_eq_none (by omega)
        have e2 : ρ'[v]? = none := List.getElem?_eq_none (by omega)
        rw [e1, e2]
        split <;> rfl
    · rw [if_neg (fun z => h z.1)]
      by_cases h3 : j ∈ vs
      · rw [if_pos h3, if_pos (List.mem_cons_of_mem _ h3)]
      · rw [if_neg h3, if_neg (fun z => (List.mem_cons.mp z).elim (fun e => h e.symm) h3)]
theorem plainAt_of {ρ : En} {vs : List Nat} (h : plainAt ρ vs = true) {j : Nat} (hj : j ∈ vs) : cellAt ρ j = none ∧ j < ρ.length := by
  unfold plainAt at h
  rw [List.all_eq_true] at h
  have q := h j hj
  rw [Bool.and_eq_true, decide_eq_true_eq, Option.isNone_iff_eq_none] at q
  exact q
theorem cellAt_eq {ρ ρ' : En} {j : Nat} (h : ρ[j]? = ρ'[j]?) : cellAt ρ j = cellAt ρ' j := by
  unfold cellAt
  rw [h]
section
variable {K : Fg} {g : Gh} {H0 H H1 H' H4 : Hp} {σ σ' σ2 : St} {ρ ρ' ρ2 ρc : En} {vs : List Nat}
theorem cellAt_wipe (hp : plainAt ρ vs = true) (j : Nat) : cellAt (wipeE ρ vs) j = cellAt ρ j := by
  by_cases h : j ∈ vs
  · obtain ⟨h1, h2⟩ := plainAt_of hp h
    rw [h1]
    unfold cellAt
    rw [wipeE_get, if_pos ⟨h, h2⟩]
  · exact cellAt_eq (by rw [wipeE_get, if_neg (fun z => h z.1)])
theorem cell_notIn (hp : plainAt ρ vs = true) {j : Nat} {c : Cell} (e : cellAt ρ j = some c) : j ∉ vs := fun h => by
  rw [(plainAt_of hp h).1] at e
  cases e
theorem own_wipe (hp : plainAt ρ vs = true) {a : Addr} (h : Own (wipe σ vs) (wipeE ρ vs) a) : Own σ ρ a := by
  obtain ⟨j, c, h1, h2⟩ := h
  rw [cellAt_wipe hp] at h1
  rw [wipe_get, if_neg (fun z => cell_notIn hp h1 z.1)] at h2
  exact ⟨j, c, h1, h2⟩
theorem Rep.wipe (r : Rep K g H σ ρ) (hp : plainAt ρ vs = true) : Rep K g H (L2.wipe σ vs) (wipeE ρ vs) := by
  have gr : Grow (hid (Out' g σ ρ) H) (hid (Out' g (L2.wipe σ vs) (wipeE ρ vs)) H) := hid_grow fun a o n e => ⟨fun z => n (z.imp id (own_wipe hp)), e⟩
  have keepρ : ∀ {j : Nat} {s : SV}, (wipeE ρ vs)[j]? = some (some s) → ρ[j]? = some (some s) ∧ j ∉ vs := fun {j s} e => by
    rw [wipeE_get] at e
    split at e
    · cases e
    · rename_i hn
      refine ⟨e, fun z => hn ⟨z, ?_⟩⟩
      exact (List.getElem?_eq_some_iff.mp e).1
  have keepσ : ∀ {j : Nat}, j ∉ vs → (L2.wipe σ vs)[j]? = σ[j]? := fun {j} h => by rw [wipe_get, if_neg (fun z => h z.1)]
  refine ⟨by rw [wipe_length, wipeE_length]; exact r.len, fun j y e => ?_, fun j c e => ?_, fun j k c1 c2 a e1 e2 e3 e4 => ?_, r.pm, fun j c e => ?_, fun j a e => ?_, fun j c y e => ?_, fun j n e => ?_⟩
  · obtain ⟨e', hj⟩ := keepρ e
    obtain ⟨v, h1, h2⟩ := r.d j y e'
    exact ⟨v, by rw [keepσ hj]; exact h1, h2.grow gr⟩
  · rw [cellAt_wipe hp] at e
    obtain ⟨a, h1, h2, h3⟩ := r.cell j c e
    exact ⟨a, by rw [keepσ (cell_notIn hp e)]; exact h1, h2, h3.mono gr rfl⟩
  · rw [cellAt_wipe hp] at e1 e2
    rw [keepσ (cell_notIn hp e1)] at e3
    rw [keepσ (cell_notIn hp e2)] at e4
    exact r.inj j k c1 c2 a e1 e2 e3 e4
  · obtain ⟨e', hj⟩ := keepρ e
    obtain ⟨a, h1, h2⟩ := r.rf j c e'
    exact ⟨a, h1, by rw [keepσ hj]; exact h2⟩
  · obtain ⟨c, h1⟩ := r.rfs j a e
    exact ⟨c, by rw [wipeE_get, if_neg (fun z => cell_notIn hp (cellAt_ref h1) z.1)]; exact h1⟩
  · exact r.noexc j c y (keepρ e).1
  · exact r.nofn j n (keepρ e).1
/-- the block's slots are put back -/
theorem Rep.backed (r : Rep K g H σ ρ) (r4 : Rep K g H4 σ2 ρc) (hp : plainAt ρ vs = true) (ha : ∀ j, j ∉ vs → σ2[j]? = σ[j]?) (sc : SameC (wipeE ρ vs) ρc) (hl : ρc.length = ρ.length) (f : FrE H (Own σ ρ) H4) : Rep K g H4 σ (back ρ ρc vs) ∧ SameC ρ (back ρ ρc vs) ∧ ∀ a, Own σ (back ρ ρc vs) a → Own σ2 ρc a := by
  have cb : ∀ j, cellAt (back ρ ρc vs) j = cellAt ρc j := fun j => by
    by_cases h : j ∈ vs
    · have h1 : cellAt ρc j = none := by
        have q := sc j
        rw [cellAt_wipe hp, (plainAt_of hp h).1] at q
        exact Option.not_isSome_iff_eq_none.mp (by rw [q]; decide)
      rw [h1, ← (plainAt_of hp h).1]
      exact cellAt_eq (by rw [back_get hl, if_pos h])
    · exact cellAt_eq (by rw [back_get hl, if_neg h])
  have cn : ∀ {j : Nat} {c : Cell}, cellAt ρc j = some c → j ∉ vs := fun {j c} e h => by
    have q := sc j
    rw [cellAt_wipe hp, (plainAt_of hp h).1, e] at q
    cases q
  have sameOwn : ∀ a, Own σ (back ρ ρc vs) a → Own σ2 ρc a := fun a ⟨j, c, h1, h2⟩ => by
    rw [cb] at h1
    exact ⟨j, c, h1, by rw [ha j (cn h1)]; exact h2⟩
  have sc' : SameC ρ (back ρ ρc vs) := fun j => by
    rw [cb, sc j, cellAt_wipe hp]
  have gr : Grow (hid (Out' g σ2 ρc) H4) (hid (Out' g σ (back ρ ρc vs)) H4) := hid_grow fun a o n e => ⟨fun z => n (z.imp id (sameOwn a)), e⟩
  have gr2 : Grow (hid (Out' g σ ρ) H) (hid (Out' g σ (back ρ ρc vs)) H4) := hid_later sc' f
  refine ⟨⟨by rw [back_length, hl]; exact r.len, fun j y e => ?_, fun j c e => ?_, fun j k c1 c2 a e1 e2 e3 e4 => ?_, r4.pm, fun j c e => ?_, fun j a e => ?_, fun j c y e => ?_, fun j n e => ?_⟩, sc', sameOwn⟩
  · rw [back_get hl] at e
    split at e
    · obtain ⟨v, h1, h2⟩ := r.d j y e
      exact ⟨v, h1, h2.grow gr2⟩
    · rename_i hj
      obtain ⟨v, h1, h2⟩ := r4.d j y e
      exact ⟨v, by rw [← ha j hj]; exact h1, h2.grow gr⟩
  · rw [cb] at e
    obtain ⟨a, h1, h2, h3⟩ := r4.cell j c e
    exact ⟨a, by rw [← ha j (cn e)]; exact h1, h2, h3.mono gr rfl⟩
  · rw [cb] at e1 e2
    exact r4.inj j k c1 c2 a e1 e2 (by rw [ha j (cn e1)]; exact e3) (by rw [ha k (cn e2)]; exact e4)
  · rw [back_get hl] at e
    split at e
    · rename_i hj
      exact (cell_notIn hp (cellAt_ref e) hj).elim
    · rename_i hj
      obtain ⟨a, h1, h2⟩ := r4.rf j c e
      exact ⟨a, h1, by rw [← ha j hj]; exact h2⟩
  · obtain ⟨c, h1⟩ := r4.rfs j a e
    exact ⟨c, by rw [back_get hl, if_neg (cn (cellAt_ref h1))]; exact h1⟩
  · rw [back_get hl] at e
    split at e
    · exact r.noexc j c y e
    · exact r4.noexc j c y e
  · rw [back_get hl] at e
    split at e
    · exact r.nofn j n e
    · exact r4.nofn j n e
/-- a protected object is written -/
theorem Rep.upd_pm {p : Addr} {o : HO} (r : Rep K g H σ ρ) (hp : g.Pm p) : Rep K g (upd H p o) σ ρ := by
  have gr : Grow (hid (Out' g σ ρ) H) (hid (Out' g σ ρ) (upd H p o)) := hid_grow fun a u n e => ⟨n, by rw [upd_ne fun z => n (.inl (by rw [z]; exact hp))]; exact e⟩
  refine ⟨r.len, fun i x h => ?_, fun i c h => ?_, r.inj, fun a h => ?_, r.rf, r.rfs, r.noexc, r.nofn⟩
  · obtain ⟨v, h1, h2⟩ := r.d i x h
    exact ⟨v, h1, h2.grow gr⟩
  · obtain ⟨a, h1, h2, h3⟩ := r.cell i c h
    exact ⟨a, h1, h2, h3.mono gr (upd_ne fun z => h2 (by rw [z]; exact hp))⟩
  · by_cases e : a = p
    · exact ⟨o, by rw [e]; exact upd_same⟩
    · obtain ⟨u, q⟩ := r.pm a h
      exact ⟨u, by rw [upd_ne e]; exact q⟩
end

mutual
theorem tgSet_cell : ∀ {tg : Tg} {x : D} {ρ ρ' : En}, tgSet tg x ρ = some ρ' → (∀ j ∈ tg.slots, cellAt ρ j = none) → ∀ j, cellAt ρ' j = cellAt ρ j
  | .n i, x, ρ, ρ', e, h, j => by
    unfold tgSet at e
    split at e
    · rename_i hf
      cases e
      by_cases hj : i = j
      · subst hj
        rw [cellAt_set_d (free_lt hf), h i (List.mem_singleton.mpr rfl)]
      · rw [cellAt_set_ne hj]
    · cases e
  | .t ts, x, ρ, ρ', e, h, j => by
    cases x with
    | tuple xs => exact tgSets_cell (tgs := ts) (xs := xs) (show tgSets ts xs ρ = some ρ' from e) h j
    | _ => cases e
theorem tgSets_cell : ∀ {tgs : List Tg} {xs : List D} {ρ ρ' : En}, tgSets tgs xs ρ = some ρ' → (∀ j ∈ tgSlots tgs, cellAt ρ j = none) → ∀ j, cellAt ρ' j = cellAt ρ j
  | [], [], ρ, ρ', e, h, j => by
    unfold tgSets at e
    cases e
    rfl
  | [], _ :: _, ρ, ρ', e, h, j => by unfold tgSets at e; cases e
  | _ :: _, [], ρ, ρ', e, h, j => by unfold tgSets at e; cases e
  | t :: ts, x :: xs, ρ, ρ', e, h, j => by
    unfold tgSets at e
    cases e1 : tgSet t x ρ with
    | none => rw [e1] at e; cases e
    | some ρ1 =>
      rw [e1] at e
      have q := tgSet_cell e1 fun j hj => h j (List.mem_append_left _ hj)
      exact (tgSets_cell e (fun j hj => (q j).trans (h j (List.mem_append_right _ hj))) j).trans (q j)
end
theorem plainAt_same {ρ ρ' : En} {vs : List Nat} (h : plainAt ρ vs = true) (s : SameC ρ ρ') (l : ρ'.length = ρ.length) : plainAt ρ' vs = true := by
  unfold plainAt
  rw [List.all_eq_true]
  intro j hj
  obtain ⟨h1, h2⟩ := plainAt_of h hj
  have q := s j
  rw [h1] at q
  rw [Bool.and_eq_true, decide_eq_true_eq, Option.isNone_iff_eq_none]
  exact ⟨Option.not_isSome_iff_eq_none.mp (by rw [q]; decide), by omega⟩
/-- nothing is raised -/
abbrev E00 : St → XK := fun _ _ _ _ => False
theorem noRaise_ok' {α β : Type} {R : Gh → Hp → Hp → St → En → β → SV → Prop} {P : Pk} {E : St → XK} {g : Gh} {σ : St} {ρ : En} {H0 H : Hp} {Q : β → Hp → Prop} {o : Out α} {f : α → En → Out SV} (h : PostG R P E g σ ρ H0 H Q (noRaise o f)) : ∃ a ρ', o = .ok a ρ' ∧ PostG R P E g σ ρ H0 H Q (f a ρ') := by
  unfold noRaise at h
  split at h
  · exact ⟨_, _, rfl, h⟩
  · exact h.elim
section
variable {X : Cx} {P : Pk} {E : St → XK} {elt te iter : Expr} {ifs : List Expr} {scope : Scope} {own : List (Str × Nat)} {tg : Tg} {it : MI} {t : MT} {e : ME} {pos : Pos}
theorem PTs.imp {X : Cx} {es : List Expr} {t t' : TT} (h : PTs X es t) (k : ∀ σ H Q, t' σ H Q → t σ H Q) : PTs X es t' := ⟨fun pins s σ H Q I q => h.run pins s σ H Q I (k σ H Q q)⟩
theorem f_nil : PTs X [] (tT P E mYes) := PTs.imp pts_nil fun σ H Q ⟨g, ρ, r, h⟩ => h true H r (.refl _) (.refl _ _) rfl
theorem f_one {c : Expr} (h : PT X c (tT P E t)) : PTs X [c] (tT P E t) := pts_one h
theorem comp_of (vs : List Nat) : ∀ σ H Q, tM P E (mComp vs tg it t e) σ H Q → tLc (iM P E it) (gT P tg) (tT P E00 t) (tM P E00 e) vs σ H Q := fun σ H Q ⟨g, ρ, rp, h⟩ => by
  refine ⟨g, ρ, rp, bindG' (R := RJ P) (R' := RVP P) h fun xs ρ1 J H1 _ r1 s1 f1 q1 h1 => ?_⟩
  have h1' : PostE P E g σ ρ1 H H1 Q (if (plainAt ρ1 vs && tgIn tg vs && decide (xs.length ≤ 16777216)) = true then compGo vs tg t e xs [] ρ1 else .stuck) := h1
  by_cases hc : (plainAt ρ1 vs && tgIn tg vs && decide (xs.length ≤ 16777216)) = true
  case neg =>
    rw [if_neg hc] at h1'
    exact h1'.elim
  rw [if_pos hc] at h1'
  rw [Bool.and_eq_true, Bool.and_eq_true, decide_eq_true_eq] at hc
  obtain ⟨⟨hpl, htg⟩, hlen⟩ := hc
  have htg' : ∀ j, j ∈ tg.slots → j ∈ vs := fun j hj => by
    unfold tgIn at htg
    rw [List.all_eq_true] at htg
    exact List.contains_iff_mem.mp (htg j hj)
  intro Dn hD
  have hD0 : H Dn = none := f1.free Dn hD
  have r1' : Rep P.K (g.add Dn) (upd H1 Dn (.lst [])) σ ρ1 := r1.add_new hD (.new hD) ⟨_, upd_same⟩
  refine ⟨fun i m H2 => ∃ ρ2 av ad, m = xs.length - i ∧ i ≤ xs.length ∧ Rep P.K (g.add Dn) H2 σ ρ2 ∧ SameC ρ1 ρ2 ∧ FrE H1 (Own σ ρ1) H2 ∧ H2 Dn = some (.lst av) ∧ RpAll P.K (hid (Out' (g.add Dn) σ ρ2) H2) av ad ∧ av.length ≤ i ∧ plainAt ρ2 vs = true ∧ PostE P E g σ ρ1 H H1 Q (compGo vs tg t e (xs.drop i) ad ρ2),
    ⟨_, ρ1, [], [], rfl, Nat.zero_le _, r1', .refl _, .of_grow (.new hD), upd_same, .nil, Nat.le_refl _, hpl, h1'⟩, ?_⟩
  rintro i m H2 ⟨ρ2, av, ad, rfl, hi, r2, s2, f2, hDn, ra, hal, hp2, h2⟩
  have lt2 : Later (Out' g σ ρ1) H1 H2 := fun a o e n => f2.keep a o e fun z => n (.inr z)
  have hnD : ¬ g.Pm Dn := fun z => by
    obtain ⟨o, eo⟩ := r1.pm Dn z
    rw [hD] at eo
    cases eo
  have nOwn : ∀ {σ' : St} {ρ' : En} {H' : Hp}, Rep P.K (g.add Dn) H' σ' ρ' → ¬ Own σ' ρ' Dn := fun r' ⟨j, c, z1, z2⟩ => by
    obtain ⟨a, w1, w2, _⟩ := r'.cell j c z1
    rw [z2] at w1
    cases w1
    exact w2 (.inr rfl)
  by_cases hlt : i < xs.length
  · rw [drop_cons hlt] at h2
    refine .inr ⟨q1.go H2 lt2 i hlt, fun H3 => ∃ ρ2 av ad, i + 1 ≤ xs.length ∧ Rep P.K (g.add Dn) H3 σ ρ2 ∧ SameC ρ1 ρ2 ∧ FrE H1 (Own σ ρ1) H3 ∧ H3 Dn = some (.lst av) ∧ RpAll P.K (hid (Out' (g.add Dn) σ ρ2) H3) av ad ∧ av.length ≤ i + 1 ∧ plainAt ρ2 vs = true ∧ PostE P E g σ ρ1 H H1 Q (compGo vs tg t e (xs.drop (i + 1)) ad ρ2),
      fun H3 ⟨ρ2, av, ad, z⟩ => ⟨xs.length - (i + 1), by omega, ρ2, av, ad, rfl, z⟩, fun v H3 y => ?_⟩
    obtain ⟨gr, N, hN, rv⟩ := q1.yld H2 lt2 i xs[i] v H3 (List.getElem?_eq_getElem hlt) y
    have r3 := r2.grow gr
    have r3w := r3.wipe hp2
    have out2 : ∀ a o, ¬ Out' g σ ρ1 a → H1 a = some o → ¬ Out' (g.add Dn) (wipe σ vs) (wipeE ρ2 vs) a := fun a o n e z => z.elim (fun z => z.elim (fun z => n (.inl z)) fun z => by rw [z, hD] at e; cases e) fun z => n (.inr (s2.symm.own (own_wipe hp2 z)))
    have rv' : Rp P.K (hid (Out' (g.add Dn) (wipe σ vs) (wipeE ρ2 vs)) H3) v xs[i] := rv.grow (joinN_out hN (fun a z => (r2.wipe hp2).out_some z) lt2 gr out2)
    unfold compGo at h2
    cases e1 : tgSet tg xs[i] (wipeE ρ2 vs) with
    | none => rw [e1] at h2; exact h2.elim
    | some ρa =>
      rw [e1] at h2
      obtain ⟨b, ρb, eb, h3⟩ := noRaise_ok' h2
      refine ⟨g.add Dn, wipeE ρ2 vs, _, ρa, r3w, rv', e1, fun σ3 r3' o3 ⟨l3, a3⟩ => ?_⟩
      have hlρ : ρ2.length = σ.length := r2.len.symm
      have a3' : ∀ j, j ∉ vs → σ3[j]? = σ[j]? := fun j hj => by rw [a3 j fun z => hj (htg' j z), wipe_get, if_neg (fun z => hj z.1)]
      refine ⟨?_, g.add Dn, ρa, r3', ?_⟩
      · apply List.ext_getElem?
        intro j
        rw [wipe_get, wipe_get]
        rw [wipe_length] at l3
        by_cases hj : j ∈ vs
        · by_cases hjl : j < σ.length
          · rw [if_pos ⟨hj, by omega⟩, if_pos ⟨hj, hjl⟩]
          · rw [if_neg (fun z => by omega), if_neg (fun z => hjl z.2), List.getElem?_eq_none (by omega), List.getElem?_eq_none (by omega)]
        · rw [if_neg (fun z => hj z.1), if_neg (fun z => hj z.1), a3' j hj]
      · rw [eb]
        intro b' H4 r4 s4 f4 q4
        subst q4
        -- the target sets no cell
        have scA : SameC (wipeE ρ2 vs) ρa := fun j => by rw [tgSet_cell e1 (fun j hj => by rw [cellAt_wipe hp2]; exact (plainAt_of hp2 (htg' j hj)).1) j]
        have lnA : ρa.length = ρ2.length := by have := r3'.len; rw [wipe_length] at l3; omega
        have lnB : ρb.length = ρ2.length := by have := r4.len; rw [wipe_length] at l3; omega
        have ownA : ∀ a, Own σ3 ρa a → Own σ ρ2 a := fun a z => own_wipe hp2 (o3 a z)
        have fA : FrE H2 (Own σ ρ2) H4 := (FrE.of_grow (M := Own σ ρ2) gr).trans f4 ownA
        have f14 : FrE H1 (Own σ ρ1) H4 := f2.trans fA fun a z => s2.symm.own z
        have hDn4 : H4 Dn = some (.lst av) := fA.keep Dn _ hDn (nOwn r2)
        cases b' with
        | false =>
          rw [if_neg Bool.false_ne_true]
          rw [if_neg Bool.false_ne_true] at h3
          obtain ⟨rb, sb, _⟩ := r2.backed r4 hp2 a3' (scA.trans s4) lnB fA
          exact ⟨back ρ2 ρb vs, av, ad, hlt, rb, s2.trans sb, f14, hDn4, ra.grow (hid_later sb fA), by omega, plainAt_same hp2 sb (by rw [back_length]; exact lnB), h3⟩
        | true =>
          rw [if_pos rfl]
          rw [if_pos rfl] at h3
          obtain ⟨sv, ρc, ec, h3⟩ := noRaise_ok' h3
          obtain ⟨z, ez, h3⟩ := toB_some h3
          refine ⟨g.add Dn, ρb, r4, ?_⟩
          rw [ec]
          intro w H5 r5 s5 f5 q5
          have lnC : ρc.length = ρ2.length := by have := r5.len; rw [wipe_length] at l3; omega
          have ownB : ∀ a, Own σ3 ρb a → Own σ ρ2 a := fun a z => ownA a (s4.symm.own z)
          have fB : FrE H2 (Own σ ρ2) H5 := fA.trans f5 ownB
          have f15 : FrE H1 (Own σ ρ1) H5 := f2.trans fB fun a z => s2.symm.own z
          have hDn5 : H5 Dn = some (.lst av) := fB.keep Dn _ hDn (nOwn r2)
          obtain ⟨rb, sb, ob⟩ := r2.backed r5 hp2 a3' ((scA.trans s4).trans s5) lnC fB
          have hPD : (g.add Dn).Pm Dn := .inr rfl
          have grD : Grow (hid (Out' (g.add Dn) σ (back ρ2 ρc vs)) H5) (hid (Out' (g.add Dn) σ (back ρ2 ρc vs)) (upd H5 Dn (.lst (av ++ [w])))) := hid_grow fun a o n e => ⟨n, (upd_ne fun z => n (.inl (by rw [z]; exact hPD))).trans e⟩
          have rz : Rp P.K (hid (Out' (g.add Dn) σ (back ρ2 ρc vs)) H5) w z := (q5.keep ez).grow (hid_grow fun a o n e => ⟨fun z => n (z.imp id (ob a)), e⟩)
          have fU : FrE H1 (Own σ ρ1) (upd H5 Dn (.lst (av ++ [w]))) := ⟨fun a o e n => (upd_ne (ne_of_none e hD)).trans (f15.keep a o e n), fun a o e => by
            obtain ⟨o', e'⟩ := f15.stay a o e
            exact ⟨o', (upd_ne (ne_of_none e hD)).trans e'⟩⟩
          refine ⟨av, hDn5, ?_, back ρ2 ρc vs, av ++ [w], ad ++ [z], hlt, rb.upd_pm hPD, s2.trans sb, fU, upd_same, ((ra.grow (hid_later sb fB)).grow grD).append (.cons (rz.grow grD) .nil), by rw [List.length_append]; exact Nat.succ_le_succ hal, plainAt_same hp2 sb (by rw [back_length]; exact lnC), h3⟩
          rw [← line_eq]
          exact Nat.lt_of_lt_of_le (Nat.lt_of_le_of_lt hal hlt) hlen
  · have ei : i = xs.length := by omega
    subst ei
    rw [List.drop_length] at h2
    refine .inl ⟨q1.stop H2 lt2, h2 (.ref Dn) H2 (r2.less (g.le_add Dn)) s2 f2 ⟨⟨Dn, rfl, hD0, fun z => z.elim hnD (nOwn r2), av, hDn, ra.grow (hid_grow fun a o n e => ⟨fun z => n (z.elim (fun z => z.elim (fun z => .inl (.inl z)) .inr) fun z => .inl (.inr z)), e⟩)⟩, fun p ep => ?_⟩⟩
    cases ep
    exact r2
theorem s_lc (hc : X.calm = true) (hN : X.N.Nodup) (hi : PI X te iter (iM P E it)) (ok : BlkOk X.N X.env.scope scope own)
    (hg : ∀ (s : Shared) (H : Hp) (C : Addr) (cl : List (Str × Addr)) (fp : List Addr), PG (X.blk s H scope (compEnvC scope cl C X.env) fp) te (gT P tg))
    (ht : ∀ (s : Shared) (H : Hp) (C : Addr) (cl : List (Str × Addr)) (fp : List Addr), PTs (X.blk s H scope (compEnvC scope cl C X.env) fp) ifs (tT P E00 t))
    (he : ∀ (s : Shared) (H : Hp) (C : Addr) (cl : List (Str × Addr)) (fp : List Addr), PE (X.blk s H scope (compEnvC scope cl C X.env) fp) elt (tM P E00 e)) (hs : ∀ x, foldedSetIterable iter X.env x = pure x := by intro _; rfl) :
    PE X (.ListComp elt [⟨te, iter, ifs, 0⟩] scope pos) (tM P E (mComp (own.map (·.2)) tg it t e)) := PE.imp (pe_lc hc hN hi ok hg ht he hs) (comp_of _)
theorem z_lc (i : Nat) (k : Bool) {y : Str} {py spos : Pos} (hc : X.calm = true) (hN : X.N.Nodup) (hi : PI X te iter (iM P E it)) (ok : BlkOk X.N X.env.scope scope own)
    (hg : ∀ (s : Shared) (H : Hp) (C : Addr) (cl : List (Str × Addr)) (fp : List Addr), PG (X.blk s H scope (compEnvC scope cl C X.env) fp) te (gT P tg))
    (ht : ∀ (s : Shared) (H : Hp) (C : Addr) (cl : List (Str × Addr)) (fp : List Addr), PTs (X.blk s H scope (compEnvC scope cl C X.env) fp) ifs (tT P E00 t))
    (he : ∀ (s : Shared) (H : Hp) (C : Addr) (cl : List (Str × Addr)) (fp : List Addr), PE (X.blk s H scope (compEnvC scope cl C X.env) fp) elt (tM P E00 e))
    (hsw : swapsWith (.ListComp elt [⟨te, iter, ifs, 0⟩] scope pos) (some (.Name y py)) spos.line X.env = pure true) (hy : X.N[i]? = some y := by rfl) (hyl : X.env.scope.names.lookup y = some .local := by rfl) (hs : ∀ x, foldedSetIterable iter X.env x = pure x := by intro _; rfl) :
    PS X (.Assign [.Name y py] (.ListComp elt [⟨te, iter, ifs, 0⟩] scope pos) spos) (tS P E (sSet k i (mComp (own.map (·.2)) tg it t e))) := by
  refine PS.imp (ps_setLc hc hN hy hyl hsw hi ok hg ht he hs) fun D σ H ⟨g, ρ, r, h⟩ => ?_
  exact comp_of _ σ H _ ⟨g, ρ, r, stG (R := RVP P) h fun v ρ1 x H1 _ r1 s1 f1 q1 h1 => setS_post r1 s1 f1 q1 h1⟩
end
end MP
end

section
set_option Elab.async false
set_option linter.all false
set_option maxRecDepth 100000
set_option maxHeartbeats 4000000
set_option autoImplicit false
namespace MP
open PySem PySem.Spec L2

/-! ### a slot's own object is written -/
section
variable {K : Fg} {g : Gh} {H H' : Hp} {σ : St} {ρ : En} {i : Nat} {c c' : Cell} {a : Addr} {o : HO}
def HasCell (K : Fg) (Hh : Hp) (o : HO) : Cell → Prop
  | .lst ds => ∃ xs, o = .lst xs ∧ RpAll K Hh xs ds
  | .dct ds => ∃ xs, o = .dK xs ∧ RpKv K Hh xs ds
theorem cellAt_put (e : cellAt ρ i = some c) : cellAt (putCell ρ i c') i = some c' ∧ ∀ j, i ≠ j → (putCell ρ i c')[j]? = ρ[j]? := by
  unfold cellAt at e
  unfold putCell
  split at e
  · rename_i h
    have hl := (List.getElem?_eq_some_iff.mp h).1
    refine ⟨?_, fun j hj => List.getElem?_set_ne hj⟩
    unfold cellAt
    rw [List.getElem?_set_self hl]
  · rename_i h
    have hl := (List.getElem?_eq_some_iff.mp h).1
    refine ⟨?_, fun j hj => List.getElem?_set_ne hj⟩
    unfold cellAt
    rw [List.getElem?_set_self hl]
  · cases e
theorem put_length : (putCell ρ i c').length = ρ.length := by
  unfold putCell
  split <;> first | rw [List.length_set] | rfl
theorem put_same (e : cellAt ρ i = some c) : SameC ρ (putCell ρ i c') := fun j => by
  obtain ⟨h1, h2⟩ := cellAt_put (c' := c') e
  by_cases h : i = j
  · subst h
    rw [h1, e]
    rfl
  · rw [cellAt_eq (h2 j h)]
theorem put_noncell (e : cellAt ρ i = some c) {s : SV} (hs : (∀ c, s ≠ .own c) ∧ ∀ c, s ≠ .ref c) {j : Nat} : (putCell ρ i c')[j]? = some (some s) → ρ[j]? = some (some s) := fun h => by
  obtain ⟨h1, h2⟩ := cellAt_put (c' := c') e
  by_cases hj : i = j
  · subst hj
    unfold cellAt at h1
    rw [h] at h1
    cases s with
    | own c => exact (hs.1 c rfl).elim
    | ref c => exact (hs.2 c rfl).elim
    | _ => cases h1
  · rw [h2 j hj] at h
    exact h
theorem put_ref (e : cellAt ρ i = some c) {j : Nat} : (∃ c1, (putCell ρ i c')[j]? = some (some (SV.ref c1))) ↔ ∃ c1, ρ[j]? = some (some (SV.ref c1)) := by
  by_cases hj : i = j
  · subst hj
    unfold cellAt at e
    unfold putCell
    split at e
    · rename_i h
      rw [h]
      have hl := (List.getElem?_eq_some_iff.mp h).1
      rw [List.getElem?_set_self hl]
      exact ⟨fun ⟨_, z⟩ => (nomatch z), fun ⟨_, z⟩ => (nomatch z)⟩
    · rename_i h
      rw [h]
      have hl := (List.getElem?_eq_some_iff.mp h).1
      rw [List.getElem?_set_self hl]
      exact ⟨fun _ => ⟨_, rfl⟩, fun _ => ⟨_, rfl⟩⟩
    · cases e
  · rw [(cellAt_put (c' := c') e).2 j hj]
theorem Rep.put (r : Rep K g H σ ρ) (e : cellAt ρ i = some c) (ea : σ[i]? = some (some (.ref a))) (ho : HasCell K (hid (Out' g σ ρ) H) o c') : Rep K g (upd H a o) σ (putCell ρ i c') ∧ SameC ρ (putCell ρ i c') ∧ FrE H (Own σ ρ) (upd H a o) := by
  obtain ⟨h1, h2⟩ := cellAt_put (c' := c') e
  have sc := put_same (c' := c') e
  have oa : Own σ ρ a := ⟨i, c, e, ea⟩
  have fr : FrE H (Own σ ρ) (upd H a o) := ⟨fun b u q n => (upd_ne fun z => n (by rw [z]; exact oa)).trans q, fun b u q => by
    by_cases hb : b = a
    · exact ⟨o, by rw [hb]; exact upd_same⟩
    · exact ⟨u, (upd_ne hb).trans q⟩⟩
  have gr : Grow (hid (Out' g σ ρ) H) (hid (Out' g σ (putCell ρ i c')) (upd H a o)) := hid_later sc fr
  refine ⟨⟨by rw [put_length]; exact r.len, fun j y q => ?_, fun j d q => ?_, fun j k c1 c2 b e1 e2 e3 e4 => ?_, fun b h => ?_, fun j c1 q => ?_, fun j b q => ?_, fun j c1 y q => r.noexc j c1 y (put_noncell e (by refine ⟨fun _ z => ?_, fun _ z => ?_⟩ <;> cases z) q), fun j n q => r.nofn j n (put_noncell e (by refine ⟨fun _ z => ?_, fun _ z => ?_⟩ <;> cases z) q)⟩, sc, fr⟩
  · obtain ⟨v, q1, q2⟩ := r.d j y (put_noncell e (by refine ⟨fun _ z => ?_, fun _ z => ?_⟩ <;> cases z) q)
    exact ⟨v, q1, q2.grow gr⟩
  · by_cases h : i = j
    · subst h
      rw [h1] at q
      cases q
      obtain ⟨b, q1, q2, _⟩ := r.cell i c e
      rw [ea] at q1
      cases q1
      refine ⟨a, ea, q2, ?_⟩
      cases c' with
      | lst ds => obtain ⟨xs, z1, z2⟩ := ho; exact ⟨xs, by rw [z1]; exact upd_same, z2.grow gr⟩
      | dct ds => obtain ⟨xs, z1, z2⟩ := ho; exact ⟨xs, by rw [z1]; exact upd_same, z2.grow gr⟩
    · rw [cellAt_eq (h2 j h)] at q
      obtain ⟨b, q1, q2, q3⟩ := r.cell j d q
      exact ⟨b, q1, q2, q3.mono gr (upd_ne fun z => h (r.inj i j c d a e q ea (by rw [← z]; exact q1)))⟩
  · obtain ⟨d1, z1⟩ := sc.symm.get e1
    obtain ⟨d2, z2⟩ := sc.symm.get e2
    exact r.inj j k d1 d2 b z1 z2 e3 e4
  · obtain ⟨u, q⟩ := r.pm b h
    exact fr.stay b u q
  · obtain ⟨c2, q'⟩ := (put_ref e).mp ⟨c1, q⟩
    exact r.rf j c2 q'
  · obtain ⟨c1, q'⟩ := r.rfs j b q
    exact (put_ref e).mpr ⟨c1, q'⟩
end

section
variable {X : Cx} {P : Pk} {E : St → XK} {a b : Expr} {ma mb : ME} {pos apos p2 : Pos}
theorem isL_of {ρ : En} {i : Nat} (h : isL ρ i = true) : ∃ xs, cellAt ρ i = some (.lst xs) := by
  unfold isL at h
  split at h
  · exact ⟨_, by assumption⟩
  · cases h
theorem mV_cell {ρ : En} {i : Nat} {c : Cell} (h : cellAt ρ i = some c) : mV i ρ = .ok (.pk i) ρ := by
  unfold cellAt at h
  unfold mV
  split at h
  · rename_i e; rw [e]
  · rename_i e; rw [e]
  · cases h
theorem cellB_some {β α : Type} {R : Gh → Hp → Hp → St → En → β → α → Prop} {g : Gh} {σ : St} {ρ ρ1 : En} {H0 H : Hp} {Q : β → Hp → Prop} {i : Nat} {f : Cell → Out α} (h : PostG R P E g σ ρ H0 H Q (cellB ρ1 i f)) : ∃ c, cellAt ρ1 i = some c ∧ PostG R P E g σ ρ H0 H Q (f c) := by
  unfold cellB at h
  split at h
  · exact ⟨_, by assumption, h⟩
  · exact h.elim
/-- a method with one argument that changes the list of a slot -/
theorem s_m1 (i : Nat) {id : String} {name x : Str} {f : Cell → D → Option (Cell × D)} {r : V → List V → Hp → VK → Prop} (hm : MtR X id r) (slot : Slot "list" name id) (hty : typeOf (.builtin id) = pure (.type "method_descriptor"))
    (hr : ∀ (Hh H : Hp) (l : Addr) (c : Cell) (v : V) (y : D) (c' : Cell) (z : D) (Q : VK), CellR P.K Hh H l c → Rp P.K Hh v y → f c y = some (c', z) → (∀ w o, HasCell P.K Hh o c' → Rp P.K Hh w z → Q w (upd H l o)) → r (.ref l) [v] H Q)
    (ho : PE X (.Name x p2) (tM P E (mV i))) (ha : PE X a (tM P E ma)) (hK : X.K = P.K := by rfl)
    (hbase : attributeBase (.Name x p2) name X.env (eval (.Name x p2) X.env) = eval (.Name x p2) X.env := by rfl)
    (hfew : ((backTo pos (starEach [a] X.env)).all (fun x => !x.1) && (backToKw pos (keywordEach [] X.env)).all (fun x => x.1.isSome)
      && decide ([a].length + ([] : List Keyword).length + (if ([] : List Keyword).isEmpty then 0 else 1) < 30)) = true := by rfl)
    (hline : (apos.endLine == pos.line) = true := by rfl) (hs : starEach [a] X.env = (false, eval a X.env) :: starEach [] X.env := by rfl) (hplain : (backTo pos (starEach [] X.env)).any (·.1) = false := by rfl) :
    PE X (.Call (.Attribute (.Name x p2) name apos) [a] [] pos) (tM P E (mCell1 i f ma)) := by
  obtain ⟨K, CA⟩ := P
  subst hK
  refine PE.imp (pe_bm F.plainAttrs_list slot hty hm ho (pa_cons ha pa_nil hs) hbase hfew hline hs hplain) fun σ H Q ⟨g, ρ, rp, h⟩ => ?_
  have h' : PostE ⟨X.K, CA⟩ E g σ ρ H H Q (if isL ρ i = true then (ma ρ).bind fun v ρ1 => toB v fun x => cellB ρ1 i fun c => match f c x with
    | some (c', r) => .ok (.d r) (putCell ρ1 i c')
    | none => .stuck
    else .stuck) := h
  by_cases hl : isL ρ i = true
  case neg =>
    rw [if_neg hl] at h'
    exact h'.elim
  rw [if_pos hl] at h'
  obtain ⟨xs0, e0⟩ := isL_of hl
  refine ⟨g, ρ, rp, ?_⟩
  rw [mV_cell e0]
  intro v H1 r1 s1 f1 q1
  obtain ⟨c0, z1, z2⟩ := q1.b
  obtain ⟨l, y1, y2, y3⟩ := r1.cell i _ e0
  rw [z2] at y1
  cases y1
  obtain ⟨vs0, w1, _⟩ := y3
  refine ⟨.inl ⟨rfl, vs0, .of w1⟩, g, ρ, r1, bindG (R := RVP _) (R' := RVP _) (h'.step s1 f1) fun sv ρ2 u H2 r2 s2 f2 q2 h2 => ?_⟩
  obtain ⟨x, ex, h2⟩ := toB_some h2
  obtain ⟨c, ec, h2⟩ := cellB_some h2
  obtain ⟨l', y1', y2', y3'⟩ := r2.cell i c ec
  rw [z2] at y1'
  cases y1'
  cases e5 : f c x with
  | none => rw [e5] at h2; exact h2.elim
  | some p =>
    obtain ⟨c', z⟩ := p
    rw [e5] at h2
    refine hr _ H2 l c u x c' z Q y3' (q2.keep ex) e5 fun w o ho rz => ?_
    obtain ⟨r3, s3, f3⟩ := r2.put ec z2 ho
    exact h2 w _ r3 s3 f3 (.d (rz.grow (hid_later s3 f3)))
theorem s_m0 (i : Nat) {id : String} {name x : Str} {f : Cell → Option (Cell × D)} {r : V → List V → Hp → VK → Prop} (hm : MtR X id r) (slot : Slot "list" name id) (hty : typeOf (.builtin id) = pure (.type "method_descriptor"))
    (hr : ∀ (Hh H : Hp) (l : Addr) (c : Cell) (c' : Cell) (z : D) (Q : VK), CellR P.K Hh H l c → f c = some (c', z) → (∀ w o, HasCell P.K Hh o c' → Rp P.K Hh w z → Q w (upd H l o)) → r (.ref l) [] H Q)
    (ho : PE X (.Name x p2) (tM P E (mV i))) (hK : X.K = P.K := by rfl)
    (hbase : attributeBase (.Name x p2) name X.env (eval (.Name x p2) X.env) = eval (.Name x p2) X.env := by rfl) (hline : (apos.endLine == pos.line) = true := by rfl) :
    PE X (.Call (.Attribute (.Name x p2) name apos) [] [] pos) (tM P E (mCell0 i f)) := by
  obtain ⟨K, CA⟩ := P
  subst hK
  refine PE.imp (pe_bm0 F.plainAttrs_list slot hty hm ho hbase hline) fun σ H Q ⟨g, ρ, rp, h⟩ => ?_
  have h' : PostE ⟨X.K, CA⟩ E g σ ρ H H Q (if isL ρ i = true then cellB ρ i fun c => match f c with
    | some (c', r) => .ok (.d r) (putCell ρ i c')
    | none => .stuck
    else .stuck) := h
  by_cases hl : isL ρ i = true
  case neg =>
    rw [if_neg hl] at h'
    exact h'.elim
  rw [if_pos hl] at h'
  obtain ⟨xs0, e0⟩ := isL_of hl
  refine ⟨g, ρ, rp, ?_⟩
  rw [mV_cell e0]
  intro v H1 r1 s1 f1 q1
  obtain ⟨c0, z1, z2⟩ := q1.b
  obtain ⟨l, y1, y2, y3⟩ := r1.cell i _ e0
  rw [z2] at y1
  cases y1
  have y3' := y3
  obtain ⟨vs0, w1, _⟩ := y3'
  refine ⟨.inl ⟨rfl, vs0, .of w1⟩, ?_⟩
  have h2 := h'.step s1 f1
  obtain ⟨c, ec, h2⟩ := cellB_some h2
  rw [e0] at ec
  cases ec
  cases e5 : f (.lst xs0) with
  | none => rw [e5] at h2; exact h2.elim
  | some p =>
    obtain ⟨c', z⟩ := p
    rw [e5] at h2
    refine hr _ H1 l _ c' z Q y3 e5 fun w o ho rz => ?_
    obtain ⟨r3, s3, f3⟩ := r1.put e0 z2 ho
    exact h2 w _ r3 s3 f3 (.d (rz.grow (hid_later s3 f3)))
theorem s_app (i : Nat) {x : Str} (ho : PE X (.Name x p2) (tM P E (mV i))) (ha : PE X a (tM P E ma)) (hK : X.K = P.K := by rfl)
    (hbase : attributeBase (.Name x p2) "append" X.env (eval (.Name x p2) X.env) = eval (.Name x p2) X.env := by rfl)
    (hfew : ((backTo pos (starEach [a] X.env)).all (fun x => !x.1) && (backToKw pos (keywordEach [] X.env)).all (fun x => x.1.isSome)
      && decide ([a].length + ([] : List Keyword).length + (if ([] : List Keyword).isEmpty then 0 else 1) < 30)) = true := by rfl)
    (hline : (apos.endLine == pos.line) = true := by rfl) (hs : starEach [a] X.env = (false, eval a X.env) :: starEach [] X.env := by rfl) (hplain : (backTo pos (starEach [] X.env)).any (·.1) = false := by rfl) :
    PE X (.Call (.Attribute (.Name x p2) "append" apos) [a] [] pos) (tM P E (mCell1 i gApp ma)) := by
  refine s_m1 i mt_append F.slot_list_append F.type_list_append (fun Hh H l c v y c' z Q hc hv e k => ?_) ho ha hK hbase hfew hline hs hplain
  unfold gApp at e
  split at e
  · split at e
    · cases e
      obtain ⟨xs, e1, e2⟩ := hc
      exact ⟨l, xs, v, rfl, rfl, e1, by rw [e2.length, ← line_eq]; assumption, k _ _ ⟨_, rfl, e2.append (.cons hv .nil)⟩ .non⟩
    · cases e
  · cases e
theorem s_pop (i : Nat) {x : Str} (ho : PE X (.Name x p2) (tM P E (mV i))) (hK : X.K = P.K := by rfl)
    (hbase : attributeBase (.Name x p2) "pop" X.env (eval (.Name x p2) X.env) = eval (.Name x p2) X.env := by rfl) (hline : (apos.endLine == pos.line) = true := by rfl) :
    PE X (.Call (.Attribute (.Name x p2) "pop" apos) [] [] pos) (tM P E (mCell0 i gPop)) := by
  refine s_m0 i mt_pop F.slot_list_pop F.type_list_pop (fun Hh H l c c' z Q hc e k => ?_) ho hK hbase hline
  unfold gPop at e
  split at e
  · rename_i ds
    obtain ⟨xs, e1, e2⟩ := hc
    cases e3 : ds[ds.length - 1]? with
    | none => rw [e3] at e; cases e
    | some y =>
      rw [e3] at e
      cases e
      obtain ⟨v, q1, q2⟩ := e2.get e3
      exact ⟨l, xs, v, rfl, rfl, e1, by rw [e2.length]; exact q1, k _ _ ⟨_, rfl, e2.dropLast⟩ q2⟩
  · cases e
end
end MP
end

section
set_option Elab.async false
set_option linter.all false
set_option maxRecDepth 100000
set_option maxHeartbeats 4000000
set_option autoImplicit false
namespace MP
open PySem PySem.Spec L2

section
variable {X : Cx} {P : Pk} {E : St → XK} {a b : Expr} {es : List Expr} {ma mb : ME} {ms : List ME} {st : Stmt} {s : MS} {pos apos p2 p3 : Pos}
/-! ### x.extend(..) -/
theorem s_ext (i : Nat) {x : Str} (ho : PE X (.Name x p2) (tM P E (mV i))) (ha : PE X a (tM P E ma)) (hK : X.K = P.K := by rfl)
    (hbase : attributeBase (.Name x p2) "extend" X.env (eval (.Name x p2) X.env) = eval (.Name x p2) X.env := by rfl)
    (hfew : ((backTo pos (starEach [a] X.env)).all (fun x => !x.1) && (backToKw pos (keywordEach [] X.env)).all (fun x => x.1.isSome)
      && decide ([a].length + ([] : List Keyword).length + (if ([] : List Keyword).isEmpty then 0 else 1) < 30)) = true := by rfl)
    (hline : (apos.endLine == pos.line) = true := by rfl) (hs : starEach [a] X.env = (false, eval a X.env) :: starEach [] X.env := by rfl) (hplain : (backTo pos (starEach [] X.env)).any (·.1) = false := by rfl) :
    PE X (.Call (.Attribute (.Name x p2) "extend" apos) [a] [] pos) (tM P E (mExt i ma)) := by
  obtain ⟨K, CA⟩ := P
  subst hK
  refine PE.imp (pe_bm F.plainAttrs_list F.slot_list_extend F.type_list_extend mt_extend ho (pa_cons ha pa_nil hs) hbase hfew hline hs hplain) fun σ H Q ⟨g, ρ, rp, h⟩ => ?_
  unfold mExt at h
  by_cases hl : isL ρ i = true
  case neg =>
    rw [if_neg hl] at h
    exact h.elim
  rw [if_pos hl] at h
  obtain ⟨xs0, e0⟩ := isL_of hl
  refine ⟨g, ρ, rp, ?_⟩
  rw [mV_cell e0]
  intro v H1 r1 s1 f1 q1
  obtain ⟨c0, z1, z2⟩ := q1.b
  obtain ⟨l, y1, y2, y3⟩ := r1.cell i _ e0
  rw [z2] at y1
  cases y1
  obtain ⟨vs0, w1, _⟩ := y3
  refine ⟨.inl ⟨rfl, vs0, .of w1⟩, g, ρ, r1, bindG (R := RVP _) (R' := RVP _) (h.step s1 f1) fun sv ρ2 u H2 r2 s2 f2 q2 h2 => ?_⟩
  split at h2
  · rename_i ys
    have h3 : PostE ⟨X.K, CA⟩ E g σ ρ2 H H2 Q (extGo i ys ρ2) := h2
    obtain ⟨c, ec, h3⟩ := cellB_some h3
    obtain ⟨l', y1', y2', y3'⟩ := r2.cell i _ ec
    rw [z2] at y1'
    cases y1'
    cases c with
    | lst xs =>
      obtain ⟨vs1, e1, e2⟩ := y3'
      have h4 : PostE ⟨X.K, CA⟩ E g σ ρ2 H H2 Q (if xs.length + ys.length ≤ line then .ok (.d .none) (putCell ρ2 i (.lst (xs ++ ys))) else .stuck) := h3
      split at h4
      · rename_i hlen
        obtain ⟨p, rfl, n, no, ws, e3, e4⟩ := q2.b
        have e4' : RpAll X.K (hid (Out' g σ ρ2) H2) ws ys := e4.grow (hid_grow fun a o n e => ⟨fun z => n (.inl z), e⟩)
        refine ⟨l, p, vs1, ws, rfl, rfl, e1, e3, by rw [e2.length, e4.length, ← line_eq]; exact hlen, ?_⟩
        obtain ⟨r3, s3, f3⟩ := r2.put (o := .lst (vs1 ++ ws)) (c' := .lst (xs ++ ys)) ec z2 ⟨_, rfl, e2.append e4'⟩
        exact h4 .non _ r3 s3 f3 (.d .non)
      · exact h4.elim
    | dct ds => exact h3.elim
  · exact h2.elim
/-! ### x[k] = v -/
theorem ix_ixN {n : Nat} {i : Int} : ix n i = ixN n i := rfl
theorem z_item (i : Nat) {x : Str} (ho : PE X (.Name x p2) (tM P E (mV i))) (ha : PE X a (tM P E ma)) (hv : PE X b (tM P E mb))
    (hs : swapsWithSole [.Subscript (.Name x p2) a p3] b pos.line X.env = pure false := by rfl) (hw : swappedStores [.Subscript (.Name x p2) a p3] b X.env = pure none := by rfl)
    (h1 : (assignEach [.Subscript (.Name x p2) a p3] X.env).map (·.2) = [assign (.Subscript (.Name x p2) a p3) X.env] := by rfl)
    (hsub : ∀ v, assign (.Subscript (.Name x p2) a p3) X.env v = (do
      let ov ← holding [v] (eval (.Name x p2) X.env)
      let iv ← holding [v, ov] (eval a X.env)
      standAt p3
      holding [v, ov, iv] (setItem ov iv v)
      release [v, ov, iv] []) := by intro _; rfl) : PS X (.Assign [.Subscript (.Name x p2) a p3] b pos) (tS P E (sItem i ma mb)) := by
  refine PS.imp (ps_asg hv (pg_sub ho ha set_list hsub) hs hw h1) fun D σ H ⟨g, ρ, rp, h⟩ => ?_
  refine ⟨g, ρ, rp, stG (R := RVP P) h fun sw ρ1 w H1 _ r1 s1 f1 q1 h1 => ?_⟩
  have f1' := frS_of s1 f1
  have h1' : PostS P E g σ ρ H H D (if isL ρ1 i = true then (ma ρ1).st fun k ρ2 => itemGo i sw k ρ2 else .stuck) := h1
  by_cases hl : isL ρ1 i = true
  case neg =>
    rw [if_neg hl] at h1'
    exact h1'.elim
  rw [if_pos hl] at h1'
  obtain ⟨xs0, e0⟩ := isL_of hl
  refine ⟨g, ρ1, r1, ?_⟩
  rw [mV_cell e0]
  intro v H2 r2 s2 f2 q2
  obtain ⟨c1, z1, z2⟩ := q2.b
  have f2' := f1'.trans (frS_of s2 f2)
  refine ⟨g, ρ1, r2, stG (R := RVP P) (h1'.step f2') fun sk ρ2 k H3 _ r3 s3 f3 q3 h3 => ?_⟩
  rcases itemGo_inv (i := i) (w := sw) (k := sk) (ρ := ρ2) with e | ⟨y, n, xs, j, ey, rfl, ec, ej, e⟩
  · rw [e] at h3
    exact h3.elim
  · rw [e] at h3
    obtain ⟨l, y1, y2, vs, e1, e2⟩ := r3.cell i _ ec
    rw [z2] at y1
    cases y1
    have ekv : k = .int n := q3.is_int
    subst ekv
    have rw' := ((q1.later s2 f2).later s3 f3).keep ey
    obtain ⟨r4, s4, f4⟩ := r3.put (o := .lst (vs.set j w)) (c' := .lst (xs.set j y)) ec z2 ⟨_, rfl, e2.set rw' j⟩
    exact ⟨l, vs, n, j, rfl, rfl, e1, by rw [e2.length]; exact ej, h3 σ _ r4 ((frS_of s3 f3).trans (frS_of s4 f4))⟩
/-! ### x[k] op= v -/
theorem get_list : PGet X (rIxL X.K) := by
  intro pins s σ H x y v u Q I rx ry h
  obtain ⟨p, xs, i, z, rfl, rfl, hq, he, q⟩ := h
  cases rx
  obtain ⟨t, rfl⟩ := ry
  obtain ⟨its, rr, pl, hz⟩ := I.list hq
  obtain ⟨j, h1, h2, h3, h4, h5⟩ := atI_get he
  obtain ⟨w, ew, rw'⟩ := rr.get h2
  have hl := rr.length
  have hn := line63
  have done : EP X pins σ Q w s := ⟨z, H, I, rw', q⟩
  by_cases h0 : 0 ≤ i
  · have hj : i.toNat = j := by
      rw [seqIndex_of h0 h5] at h1
      exact Option.some.inj h1
    exact wpAny_getItem_list pl.isList h0 (by omega) (by rw [hj]; simpa using ew) done
  · have hj : (i + (its.toArray.size : Int)).toNat = j := by
      rw [seqIndex_neg (by omega) h4] at h1
      rw [List.size_toArray, ← hl]
      exact Option.some.inj h1
    exact wpAny_getItem_list_neg pl.isList (by omega) (by rw [List.size_toArray] <;> omega) (by omega) (by rw [hj]; simpa using ew) done
theorem z_augi (i : Nat) {op : Operator} {x : Str} {r : R2} {f : D → D → Option SV} (hop : PIp X op r) (hg : OpG r P.K f) (ho : PE X (.Name x p2) (tM P E (mV i))) (ha : PE X a (tM P E ma)) (hv : PE X b (tM P E mb)) (hK : X.K = P.K := by rfl)
    (hst : ∀ ov iv new, augStore a ov iv new = (do holding [new, ov, iv] (setItem ov iv new); release [new, ov, iv] []; pure .next) := by intros; rfl) : PS X (.AugAssign (.Subscript (.Name x p2) a p3) op b pos) (tS P E (sAugI i f ma mb)) := by
  obtain ⟨K, CA⟩ := P
  subst hK
  refine PS.imp (ps_augS ho ha get_list hv hop set_list hst) fun D σ H ⟨g, ρ, rp, h⟩ => ?_
  have h' : PostS ⟨X.K, CA⟩ E g σ ρ H H D (if isL ρ i = true then (ma ρ).st fun k ρ1 => match augGet i k ρ1 with
  | some x => (mb ρ1).st fun w ρ2 => augGo i f x k w ρ2
  | none => .stuck
  else .stuck) := h
  by_cases hl : isL ρ i = true
  case neg =>
    rw [if_neg hl] at h'
    exact h'.elim
  rw [if_pos hl] at h'
  obtain ⟨xs0, e0⟩ := isL_of hl
  refine ⟨g, ρ, rp, ?_⟩
  rw [mV_cell e0]
  intro v H1 r1 s1 f1 q1
  obtain ⟨c1, z1, z2⟩ := q1.b
  have f1' := frS_of s1 f1
  refine ⟨g, ρ, r1, stG (R := RVP _) (h'.step f1') fun sk ρ2 k H2 _ r2 s2 f2 q2 h2 => ?_⟩
  have f2' := frS_of s2 f2
  have h2' : PostS ⟨X.K, CA⟩ E g σ ρ H H1 D (match augGet i sk ρ2 with
  | some x => (mb ρ2).st fun w ρ2 => augGo i f x sk w ρ2
  | none => .stuck) := h2
  cases eg : augGet i sk ρ2 with
  | none => rw [eg] at h2'; exact h2'.elim
  | some x =>
    rw [eg] at h2'
    obtain ⟨n, xs, rfl, ec, ex⟩ := augGet_inv eg
    have ekv : k = .int n := q2.is_int
    subst ekv
    obtain ⟨l, y1, y2, vs, e1, e2⟩ := r2.cell i _ ec
    rw [z2] at y1
    cases y1
    obtain ⟨u, qu, ru⟩ := atD_of e2 ex
    refine ⟨l, vs, n, u, rfl, rfl, .of e1, qu, g, ρ2, r2, stG (R := RVP _) (h2'.step f2') fun sw ρ3 w H3 _ r3 s3 f3 q3 h3 => ?_⟩
    have f3' := frS_of s3 f3
    have h3' : PostS ⟨X.K, CA⟩ E g σ ρ2 H H2 D (augGo i f x (.d (.int n)) sw ρ3) := h3
    unfold augGo at h3'
    cases ev : view ρ3 sw with
    | none => rw [ev] at h3'; exact h3'.elim
    | some y =>
      rw [ev] at h3'
      have h4 : PostS ⟨X.K, CA⟩ E g σ ρ2 H H2 D (match (f x y).bind toD with
        | some z => itemGo i (.d z) (.d (.int n)) ρ3
        | none => .stuck) := h3'
      cases ef : f x y with
      | none => rw [ef] at h4; exact h4.elim
      | some sv =>
        cases et : toD sv with
        | none =>
          have et2 : ((f x y).bind toD) = none := by rw [ef]; exact et
          rw [et2] at h4
          exact h4.elim
        | some z =>
          have et2 : ((f x y).bind toD) = some z := by rw [ef]; exact et
          rw [et2] at h4
          have ru3 : Rp X.K (hid (Out' g σ ρ3) H3) u x := ru.grow (hid_later s3 f3)
          refine hg (Out' g σ ρ3) H3 u w x y sv _ (fun _ z => r3.out_some z) (ru3.top hid_le) (q3.top r3 ev) ef fun v' H4 gr rs => ?_
          have r4 := r3.grow gr
          have rv4 : RV X.K g H3 H4 σ ρ3 v' sv := r3.res gr rs
          have f4 : FrS H3 (Own σ ρ3) H4 (Own σ ρ3) := frS_of (.refl _) (.of_grow gr)
          have h5 : PostS ⟨X.K, CA⟩ E g σ ρ2 H H2 D (itemGo i (.d z) (.d (.int n)) ρ3) := h4
          rcases itemGo_inv (i := i) (w := .d z) (k := .d (.int n)) (ρ := ρ3) with e | ⟨y', n', xs', j, ey, en, ec', ej, e⟩
          · rw [e] at h5
            exact h5.elim
          · rw [e] at h5
            cases ey
            cases en
            obtain ⟨l', y1', y2', vs', e1', e2'⟩ := r4.cell i _ ec'
            rw [z2] at y1'
            cases y1'
            obtain ⟨r5, s5, f5⟩ := r4.put (o := .lst (vs'.set j v')) (c' := .lst (xs'.set j z)) ec' z2 ⟨_, rfl, e2'.set (rv4.keep et) j⟩
            exact ⟨l, vs', n, j, rfl, rfl, e1', by rw [e2'.length]; exact ej, h5 σ _ r5 ((f3'.trans f4).trans (frS_of s5 f5))⟩
end
end MP
end

section
set_option Elab.async false
set_option linter.all false
set_option maxRecDepth 100000
set_option maxHeartbeats 4000000
set_option autoImplicit false
namespace MP
open PySem PySem.Spec L2

section
variable {K : Fg} {g : Gh} {H0 H H1 H2 H' : Hp} {σ σ' : St} {ρ ρ' ρ1 : En} {v : V} {sv : SV} {x : D} {i j : Nat}
/-- kept over stores that came later -/
theorem RV.moved (q : RV K g H0 H1 σ ρ v sv) (f : FrS H1 (Own σ ρ) H2 (Own σ' ρ')) (r : Rep K (MP.gadd g v sv) H2 σ' ρ') {k : Bool} {w : SV} (hk : kept k sv = some w) : RV K g H0 H2 σ' ρ' v sv := by
  have hb := q.b
  have hx := q.x
  have out : ∀ a o, H1 a = some o → Out' g σ' ρ' a → Out' g σ ρ a := fun a o e z => z.elim .inl fun z => (f.new a z).elim .inr fun n => by rw [n] at e; cases e
  cases sv with
  | d x => exact .d (Rp.grow (hid_grow fun a o n e => ⟨fun z => n (out a o e z), f.keep a o e fun z => n (.inr z)⟩) hb)
  | own c =>
    obtain ⟨p, rfl, n, no, cr⟩ := hb
    obtain ⟨o, eo⟩ := cr.some
    refine ⟨⟨p, rfl, n, fun z => no (out p o eo z), cr.mono (hid_grow fun a o n e => ⟨fun z => n (z.imp (out a o e) id), f.keep a o e fun z => n (.inl (.inr z))⟩) ?_⟩, fun p' e => ?_⟩
    · rw [f.keep p o eo fun z => no (.inr z), eo]
    · cases e
      exact r
  | pk i => cases hk
  | ref _ => cases hk
  | exc _ _ => exact hb.elim
  | fn _ => exact hb.elim
/-- the slot's own object never changes from here on -/
theorem Rep.frz1 (r : Rep K g H σ ρ) (i : Nat) : Rep K g H σ (frz1 ρ i) ∧ ∀ a, Own σ (MP.frz1 ρ i) a → Own σ ρ a := by
  unfold MP.frz1
  split
  case h_2 => exact ⟨r, fun _ h => h⟩
  rename_i c e
  have hi : i < ρ.length := (List.getElem?_eq_some_iff.mp e).1
  have own : ∀ a, Own σ (ρ.set i (some (.d c.py))) a → Own σ ρ a := fun a ⟨k, c', h1, h2⟩ => by
    by_cases z : i = k
    · subst z
      rw [cellAt_set_d hi] at h1
      cases h1
    · rw [cellAt_set_ne z] at h1
      exact ⟨k, c', h1, h2⟩
  obtain ⟨p, e1, e2, e3⟩ := r.cell i c (cellAt_own e)
  have nown : ∀ z : Own σ (ρ.set i (some (.d c.py))) p, False := fun ⟨k, c', h1, h2⟩ => by
    by_cases z : i = k
    · subst z
      rw [cellAt_set_d hi] at h1
      cases h1
    · rw [cellAt_set_ne z] at h1
      exact z (r.inj i k c c' p (cellAt_own e) h1 e1 h2)
  have gr : Grow (hid (Out' g σ ρ) H) (hid (Out' g σ (ρ.set i (some (.d c.py)))) H) := hid_grow fun a o n q => ⟨fun z => n (z.imp id (own a)), q⟩
  refine ⟨⟨by rw [List.length_set]; exact r.len, fun j y q => ?_, fun j c' q => ?_, fun j k c1 c2 a q1 q2 q3 q4 => ?_, r.pm, fun j c' q => ?_, fun j a q => ?_, fun j c' y q => ?_, fun j n q => ?_⟩, own⟩
  · by_cases z : i = j
    · subst z
      rw [List.getElem?_set_self hi] at q
      cases q
      refine ⟨.ref p, e1, ?_⟩
      have hp : ∀ {o}, H p = some o → hid (Out' g σ (ρ.set i (some (.d c.py)))) H p = some o := fun q => hid_some.mpr ⟨fun z => z.elim e2 nown, q⟩
      cases c with
      | lst ds =>
        obtain ⟨xs, q1, q2⟩ := e3
        exact .lst (.of (hp q1)) (q2.grow gr)
      | dct ds =>
        obtain ⟨xs, q1, q2⟩ := e3
        exact .dic (.inl (hp q1)) (q2.grow gr)
    · rw [List.getElem?_set_ne z] at q
      obtain ⟨w, h1, h2⟩ := r.d j y q
      exact ⟨w, h1, h2.grow gr⟩
  · by_cases z : i = j
    · subst z
      rw [cellAt_set_d hi] at q
      cases q
    · rw [cellAt_set_ne z] at q
      obtain ⟨a, h1, h2, h3⟩ := r.cell j c' q
      exact ⟨a, h1, h2, h3.mono gr rfl⟩
  · by_cases z : i = j
    · subst z
      rw [cellAt_set_d hi] at q1
      cases q1
    · by_cases z' : i = k
      · subst z'
        rw [cellAt_set_d hi] at q2
        cases q2
      · rw [cellAt_set_ne z] at q1
        rw [cellAt_set_ne z'] at q2
        exact r.inj j k c1 c2 a q1 q2 q3 q4
  · by_cases z : i = j
    · subst z
      rw [List.getElem?_set_self hi] at q
      cases q
    · rw [List.getElem?_set_ne z] at q
      exact r.rf j c' q
  · obtain ⟨c', q'⟩ := r.rfs j a q
    by_cases z : i = j
    · subst z
      rw [e] at q'
      cases q'
    · exact ⟨c', by rw [List.getElem?_set_ne z]; exact q'⟩
  · by_cases z : i = j
    · subst z
      rw [List.getElem?_set_self hi] at q
      cases q
    · rw [List.getElem?_set_ne z] at q
      exact r.noexc j c' y q
  · by_cases z : i = j
    · subst z
      rw [List.getElem?_set_self hi] at q
      cases q
    · rw [List.getElem?_set_ne z] at q
      exact r.nofn j n q
theorem Rep.frz (r : Rep K g H σ ρ) : ∀ (is : List Nat), Rep K g H σ (MP.frz ρ is) ∧ ∀ a, Own σ (MP.frz ρ is) a → Own σ ρ a := fun is => by
  induction is generalizing ρ with
  | nil => exact ⟨r, fun _ h => h⟩
  | cons i is ih =>
    obtain ⟨h1, h2⟩ := r.frz1 i
    obtain ⟨h3, h4⟩ := ih h1
    exact ⟨h3, fun a z => h2 a (h4 a z)⟩
end

section
variable {X : Cx} {P : Pk} {E : St → XK} {st : Stmt} {a b c : Expr} {m ma mb mc : ME} {s : MS} {pos p2 p3 : Pos}
theorem z_frz (is : List Nat) (h : PS X st (tS P E s)) : PS X st (tS P E (sFrz is s)) := PS.imp h fun D σ H ⟨g, ρ, r, q⟩ => by
  obtain ⟨h1, h2⟩ := r.frz is
  exact ⟨g, frz ρ is, h1, PostS.step (σ1 := σ) (ρ1 := frz ρ is) q ⟨fun _ _ e _ => e, fun _ o e => ⟨o, e⟩, fun a z => .inl (h2 a z)⟩⟩
/-- name op= e -/
theorem z_aug (i : Nat) {x : Str} {op : Operator} {r : R2} {f : D → D → Option SV} (hop : PIp X op r) (hg : OpG r P.K f) (ha : PE X a (tM P E m)) (hN : X.N.Nodup) (hK : X.K = P.K := by rfl) (hi : X.N[i]? = some x := by rfl) (hx : Loc X.env.scope x := by first | exact Or.inl rfl | exact Or.inr rfl)
    (hf : X.fn x = true ∨ X.env.scope.names.lookup x = some .local := by first | exact .inl rfl | exact .inr rfl | assumption) : PS X (.AugAssign (.Name x p2) op a pos) (tS P E (sAug i f m)) := by
  refine PS.imp (ps_aug hN hi hx ha hop hf) fun D σ H ⟨g, ρ, rp, h⟩ => ?_
  have h' : PostS P E g σ ρ H H D (sAug i f m ρ) := h
  unfold sAug at h'
  cases e0 : ρ[i]? with
  | none => rw [e0] at h'; exact h'.elim
  | some o =>
    cases o with
    | none => rw [e0] at h'; exact h'.elim
    | some sx =>
      cases sx with
      | d x =>
        rw [e0] at h'
        obtain ⟨v, e1, e2⟩ := rp.d i x e0
        refine ⟨v, e1, g, ρ, rp, stG (R := RVP P) h' fun sw ρ1 w H1 _ r1 s1 f1 q1 h1 => ?_⟩
        have e2' : Rp P.K (hid (Out' g σ ρ1) H1) v x := e2.grow (hid_later s1 f1)
        cases ev : view ρ1 sw with
        | none => rw [ev] at h1; exact h1.elim
        | some y =>
          rw [ev] at h1
          cases ef : f x y with
          | none =>
            have h2 : PostS P E g σ ρ H H D (match (f x y).bind toD with | some z => .next (ρ1.set i (some (.d z))) | none => .stuck) := h1
            rw [ef] at h2
            exact h2.elim
          | some sz =>
            have h2 : PostS P E g σ ρ H H D (match (f x y).bind toD with | some z => .next (ρ1.set i (some (.d z))) | none => .stuck) := h1
            rw [ef] at h2
            cases ez : toD sz with
            | none =>
              have h3 : PostS P E g σ ρ H H D (match toD sz with | some z => .next (ρ1.set i (some (.d z))) | none => .stuck) := h2
              rw [ez] at h3
              exact h3.elim
            | some z =>
              have h3 : PostS P E g σ ρ H H D (match toD sz with | some z => .next (ρ1.set i (some (.d z))) | none => .stuck) := h2
              rw [ez] at h3
              refine hg (Out' g σ ρ1) H1 v w x y sz _ (fun _ z => r1.out_some z) (e2'.top hid_le) (q1.top r1 ev) ef fun v' H2 gr rs => ?_
              have r2 := r1.grow gr
              have q2 : RV P.K g H1 H2 σ ρ1 v' sz := r1.res gr rs
              have hc : cellAt ρ1 i = none := by
                have := s1 i
                rw [show cellAt ρ i = none by unfold cellAt; rw [e0]] at this
                exact Option.not_isSome_iff_eq_none.mp (by rw [this]; decide)
              have hl : i < ρ1.length := by
                have := (List.getElem?_eq_some_iff.mp e0).1
                have := rp.len
                have := r1.len
                omega
              have hf : free ρ1 i = true := by
                unfold free
                unfold cellAt at hc
                rw [List.getElem?_eq_getElem hl] at hc ⊢
                cases e : ρ1[i] with
                | none => rfl
                | some y =>
                  cases y with
                  | ref c => rw [e] at hc; cases hc
                  | _ => rfl
              have hw : kept false sz = some (.d z) := by
                cases sz with
                | d y => cases ez; rfl
                | own c => cases ez; rfl
                | _ => cases ez
              obtain ⟨h4, h5⟩ := r2.set (k := false) hf q2 hw
              refine h3 _ H2 h4 ⟨fun a o e n => gr a o (f1.keep a o e n), fun a o e => let ⟨o', q⟩ := f1.stay a o e; ⟨o', gr a o' q⟩, fun a z => ?_⟩
              exact (h5 a z).imp s1.symm.own (f1.free a)
      | _ => rw [e0] at h'; exact h'.elim
/-- the last store of some -/
theorem seq_set {g : Gh} {σ : St} {ρ ρ1 : En} {H0 H : Hp} {D : Ends} {k : Bool} {i : Nat} {sv : SV} {f : En → SOut} (h : PostS P E g σ ρ H0 H D ((setS k i sv ρ1).seq f)) :
    ∃ w, free ρ1 i = true ∧ kept k sv = some w ∧ PostS P E g σ ρ H0 H D (f (ρ1.set i (some w))) := by
  unfold setS at h
  split at h
  · rename_i hf
    cases e : kept k sv with
    | none =>
      rw [e] at h
      exact h.elim
    | some w =>
      rw [e] at h
      exact ⟨w, hf, rfl, h⟩
  · exact h.elim
theorem set_end {g : Gh} {σ : St} {ρ ρ1 : En} {H0 H : Hp} {D : Ends} {k : Bool} {i : Nat} {sv : SV} (h : PostS P E g σ ρ H0 H D (setS k i sv ρ1)) :
    ∃ w, free ρ1 i = true ∧ kept k sv = some w ∧ PostS P E g σ ρ H0 H D (.next (ρ1.set i (some w))) := by
  unfold setS at h
  split at h
  · rename_i hf
    cases e : kept k sv with
    | none =>
      rw [e] at h
      exact h.elim
    | some w =>
      rw [e] at h
      exact ⟨w, hf, rfl, h⟩
  · exact h.elim
/-- one store of several, from the right: what was made at H1 is stored at H2 -/
theorem store_moved {K : Fg} {g : Gh} {H0 H1 H2 : Hp} {σ σ' : St} {ρ ρ' : En} {v : V} {sv w : SV} {k : Bool} {i : Nat} (q : RV K g H0 H1 σ ρ v sv) (f : FrS H1 (Own σ ρ) H2 (Own σ' ρ')) (r : Rep K (gadd g v sv) H2 σ' ρ') (hf : free ρ' i = true) (hk : kept k sv = some w) :
    Rep K g H2 (σ'.set i (some v)) (ρ'.set i (some w)) ∧ ∀ a, Own (σ'.set i (some v)) (ρ'.set i (some w)) a → Own σ' ρ' a ∨ H0 a = none :=
  (r.less (le_gadd g v sv)).set hf (q.moved f r hk) hk
theorem own_step {σ σ' : St} {ρ1 ρ2 ρ' : En} {H1 H2 : Hp} (s : SameC ρ1 ρ2) (f : FrE H1 (Own σ ρ1) H2) (h : ∀ a, Own σ' ρ' a → Own σ ρ2 a ∨ H1 a = none) : FrS H1 (Own σ ρ1) H2 (Own σ' ρ') :=
  ⟨f.keep, f.stay, fun a z => (h a z).imp s.symm.own id⟩
theorem after2 {g : Gh} {σ : St} {ρ ρ1 ρ2 : En} {H H1 H2 : Hp} {D : Ends} {k l : Bool} {i j : Nat} {v w : V} {s1 s2 : SV} (sc1 : SameC ρ ρ1) (f1 : FrE H (Own σ ρ) H1) (q1 : RV P.K g H H1 σ ρ1 v s1) (sc2 : SameC ρ1 ρ2) (f2 : FrE H1 (Own σ ρ1) H2)
    (r2 : Rep P.K (gadd g v s1) H2 σ ρ2) (q2 : RV P.K (gadd g v s1) H1 H2 σ ρ2 w s2) (hij : i ≠ j) (h : PostS P E g σ ρ H H D ((setS l j s2 ρ2).seq fun ρ3 => setS k i s1 ρ3)) : D.nx ((σ.set i (some v)).set j (some w)) H2 := by
  obtain ⟨w2, fr2, k2, h2⟩ := seq_set h
  obtain ⟨r3, o3⟩ := r2.set fr2 q2 k2
  obtain ⟨w1, fr1, k1, h3⟩ := set_end h2
  obtain ⟨r4, o4⟩ := store_moved q1 (own_step sc2 f2 o3) r3 fr1 k1
  rw [List.set_comm _ _ hij]
  have f12 : FrE H (Own σ ρ) H2 := f1.trans f2 fun _ z => sc1.symm.own z
  exact h3 _ H2 r4 ⟨f12.keep, f12.stay, fun a z => (o4 a z).elim (fun z => (o3 a z).imp (fun z => (sc1.trans sc2).symm.own z) (f1.free a)) .inr⟩
theorem z_par2 (i j k l : Nat) {x y : Str} {px py pt : Pos} {kt k2 pt2} (ha : PE X a (tM P E ma)) (hb : PE X b (tM P E mb)) (hc : X.calm = true) (hN : X.N.Nodup) (hw : swappedStores [.Tuple [.Name x px, .Name y py] kt pt] (.Tuple [a, b] k2 pt2) X.env = pure (some [x, y]))
    (hi : X.N[i]? = some x := by rfl) (hj : X.N[j]? = some y := by rfl) (hij : i ≠ j := by decide)
    (hx : X.env.scope.names.lookup x = some .local := by rfl) (hy : X.env.scope.names.lookup y = some .local := by rfl)
    (h1 : starEach (a :: [b]) X.env = (false, eval a X.env) :: starEach [b] X.env := by rfl) (h2 : starEach (b :: []) X.env = (false, eval b X.env) :: starEach [] X.env := by rfl)
    (hs : swapsWithSole [.Tuple [.Name x px, .Name y py] kt pt] (.Tuple [a, b] k2 pt2) pos.line X.env = pure false := by rfl) :
    PS X (.Assign [.Tuple [.Name x px, .Name y py] kt pt] (.Tuple [a, b] k2 pt2) pos) (tS P E (sPar2 k i l j ma mb)) := by
  refine PS.imp (ps_par hc hN hi hj hij hx hy (pa_cons ha (pa_cons hb pa_nil h2) h1) hw hs) fun D σ H ⟨g, ρ, rp, h⟩ => ?_
  have h' : PostS P E g σ ρ H H D ((ma ρ).st fun v ρ1 => (mb ρ1).st fun w ρ2 => (setS (l == 1) j w ρ2).seq fun ρ3 => setS (k == 1) i v ρ3) := h
  refine ⟨g, ρ, rp, stG (R := RVP P) h' fun s1 ρ1 v H1 _ r1 sc1 f1 q1 h1 => ?_⟩
  refine ⟨gadd g v s1, ρ1, q1.gadd r1, ?_⟩
  cases e : mb ρ1 with
  | ok s2 ρ2 =>
    rw [e] at h1
    exact fun w H2 r2 sc2 f2 q2 => ⟨v, w, rfl, after2 sc1 f1 q1 sc2 f2 r2 q2 hij h1⟩
  | raise c x ρ2 =>
    rw [e] at h1
    exact PostG.more (R := RVP P) (H0 := H1) less_V (o := .raise c x ρ2) (RX.step (RX.ofS h1) sc1 f1) (le_gadd g v s1)
  | stuck =>
    rw [e] at h1
    exact h1
theorem z_par3 (i j h k l m : Nat) {x y z : Str} {px py pz pt : Pos} {kt k2 pt2} (ha : PE X a (tM P E ma)) (hb : PE X b (tM P E mb)) (hcc : PE X c (tM P E mc)) (hc : X.calm = true) (hN : X.N.Nodup) (hw : swappedStores [.Tuple [.Name x px, .Name y py, .Name z pz] kt pt] (.Tuple [a, b, c] k2 pt2) X.env = pure (some [x, y, z]))
    (hi : X.N[i]? = some x := by rfl) (hj : X.N[j]? = some y := by rfl) (hh : X.N[h]? = some z := by rfl) (hij : i ≠ j := by decide) (hil : i ≠ h := by decide) (hjl : j ≠ h := by decide)
    (hx : X.env.scope.names.lookup x = some .local := by rfl) (hy : X.env.scope.names.lookup y = some .local := by rfl) (hz : X.env.scope.names.lookup z = some .local := by rfl)
    (h1 : starEach (a :: [b, c]) X.env = (false, eval a X.env) :: starEach [b, c] X.env := by rfl) (h2 : starEach (b :: [c]) X.env = (false, eval b X.env) :: starEach [c] X.env := by rfl) (h3 : starEach (c :: []) X.env = (false, eval c X.env) :: starEach [] X.env := by rfl)
    (hs : swapsWithSole [.Tuple [.Name x px, .Name y py, .Name z pz] kt pt] (.Tuple [a, b, c] k2 pt2) pos.line X.env = pure false := by rfl) :
    PS X (.Assign [.Tuple [.Name x px, .Name y py, .Name z pz] kt pt] (.Tuple [a, b, c] k2 pt2) pos) (tS P E (sPar3 k i l j m h ma mb mc)) := by
  refine PS.imp (ps_par3 hc hN hi hj hh hij hil hjl hx hy hz (pa_cons ha (pa_cons hb (pa_cons hcc pa_nil h3) h2) h1) hw hs) fun D σ H ⟨g, ρ, rp, h0⟩ => ?_
  have h' : PostS P E g σ ρ H H D ((ma ρ).st fun u ρ1 => (mb ρ1).st fun v ρ2 => (mc ρ2).st fun w ρ3 => (setS (m == 1) h w ρ3).seq fun ρ4 => (setS (l == 1) j v ρ4).seq fun ρ5 => setS (k == 1) i u ρ5) := h0
  refine ⟨g, ρ, rp, stG (R := RVP P) h' fun s1 ρ1 u H1 _ r1 sc1 f1 q1 h1 => ?_⟩
  refine ⟨gadd g u s1, ρ1, q1.gadd r1, ?_⟩
  have le1 := le_gadd g u s1
  cases e : mb ρ1 with
  | ok s2 ρ2 =>
    rw [e] at h1
    have h1' : PostS P E g σ ρ H H D ((mc ρ2).st fun w ρ3 => (setS (m == 1) h w ρ3).seq fun ρ4 => (setS (l == 1) j s2 ρ4).seq fun ρ5 => setS (k == 1) i s1 ρ5) := h1
    intro v H2 r2 sc2 f2 q2
    have f12 : FrE H (Own σ ρ) H2 := f1.trans f2 fun _ z => sc1.symm.own z
    refine ⟨gadd (gadd g u s1) v s2, ρ2, q2.gadd r2, ?_⟩
    have le2 := le_gadd (gadd g u s1) v s2
    cases e3 : mc ρ2 with
    | ok s3 ρ3 =>
      rw [e3] at h1'
      refine fun w H3 r3 sc3 f3 q3 => ⟨u, v, w, rfl, ?_⟩
      obtain ⟨w3, fr3, k3, hh3⟩ := seq_set h1'
      obtain ⟨r4, o4⟩ := r3.set fr3 q3 k3
      obtain ⟨w2, fr2, k2, hh2⟩ := seq_set hh3
      obtain ⟨r5, o5⟩ := store_moved q2 (own_step sc3 f3 o4) r4 fr2 k2
      obtain ⟨w1, fr1, k1, hh1⟩ := set_end hh2
      have f23 : FrE H1 (Own σ ρ1) H3 := f2.trans f3 fun _ z => sc2.symm.own z
      have o5' : ∀ a, Own ((σ.set h (some w)).set j (some v)) ((ρ3.set h (some w3)).set j (some w2)) a → Own σ ρ3 a ∨ H1 a = none := fun a z => (o5 a z).elim (fun z => (o4 a z).imp id (f2.free a)) .inr
      obtain ⟨r6, o6⟩ := store_moved q1 (own_step (sc2.trans sc3) f23 o5') r5 fr1 k1
      have f13 : FrE H (Own σ ρ) H3 := f12.trans f3 fun _ z => (sc1.trans sc2).symm.own z
      have es : ((σ.set i (some u)).set j (some v)).set h (some w) = ((σ.set h (some w)).set j (some v)).set i (some u) := by
        rw [List.set_comm (some u) (some v) hij, List.set_comm (some u) (some w) hil, List.set_comm (some v) (some w) hjl]
      rw [es]
      exact hh1 _ H3 r6 ⟨f13.keep, f13.stay, fun a z => (o6 a z).elim (fun z => (o5' a z).imp (fun z => (sc1.trans (sc2.trans sc3)).symm.own z) (f1.free a)) .inr⟩
    | raise c x ρ3 =>
      rw [e3] at h1'
      exact PostG.more (R := RVP P) (H0 := H2) less_V (o := .raise c x ρ3) (RX.step (RX.ofS h1') (sc1.trans sc2) f12) ⟨fun a z => le2.pm a (le1.pm a z), by rw [le2.rf, le1.rf]⟩
    | stuck =>
      rw [e3] at h1'
      exact h1'
  | raise c x ρ2 =>
    rw [e] at h1
    exact PostG.more (R := RVP P) (H0 := H1) less_V (o := .raise c x ρ2) (RX.step (RX.ofS h1) sc1 f1) le1
  | stuck =>
    rw [e] at h1
    exact h1
end
end MP
end

section
set_option Elab.async false
set_option linter.all false
set_option maxRecDepth 100000
set_option maxHeartbeats 4000000
set_option autoImplicit false
namespace MP
open PySem PySem.Spec L2

/-! ### the arguments behind a def's body -/
theorem outs_match : ∀ {as : List SV} {ρ : En} {outs : List Cell}, outsOf as ρ = some outs → ∃ ρ2, putRefs as outs = some ρ2 ∧ ρ2.length = as.length ∧
    (∀ (i : Nat) (c : Cell), as[i]? = some (SV.ref c) → ∃ c', ρ[i]? = some (some (SV.ref c')) ∧ ρ2[i]? = some (some (SV.ref c'))) ∧ (∀ (i : Nat) (s : SV), as[i]? = some s → (∀ c, s ≠ SV.ref c) → ρ2[i]? = some (some s)) := by
  intro as
  induction as with
  | nil =>
    intro ρ outs h
    cases h
    exact ⟨[], rfl, rfl, fun i c e => by simp at e, fun i s e => by simp at e⟩
  | cons a as ih =>
    intro ρ outs h
    have plain : (∀ c, a ≠ SV.ref c) → outsOf as ρ.tail = some outs → (putRefs as outs).map (fun r => some a :: r) = putRefs (a :: as) outs → ∃ ρ2, putRefs (a :: as) outs = some ρ2 ∧ ρ2.length = (a :: as).length ∧
        (∀ (i : Nat) (c : Cell), (a :: as)[i]? = some (SV.ref c) → ∃ c', ρ[i]? = some (some (SV.ref c')) ∧ ρ2[i]? = some (some (SV.ref c'))) ∧ (∀ (i : Nat) (s : SV), (a :: as)[i]? = some s → (∀ c, s ≠ SV.ref c) → ρ2[i]? = some (some s)) := fun na h e => by
      obtain ⟨ρ2, h1, h2, h3, h4⟩ := ih h
      rw [h1] at e
      refine ⟨some a :: ρ2, e.symm, by simp [h2], fun i c e => ?_, fun i s e n => ?_⟩
      · cases i with
        | zero =>
          simp at e
          exact (na c e).elim
        | succ i =>
          obtain ⟨c', w1, w2⟩ := h3 i c (by simpa using e)
          refine ⟨c', ?_, by simpa using w2⟩
          rw [List.getElem?_tail] at w1
          exact w1
      · cases i with
        | zero => simpa using e
        | succ i => simpa using h4 i s (by simpa using e) n
    cases a with
    | ref c0 =>
      clear plain
      have h' : (match (generalizing := false) ρ with
        | some (SV.ref c) :: r => (outsOf as r).map fun cs => c :: cs
        | _ => none) = some outs := h
      clear h
      split at h'
      · rename_i c1 r
        obtain ⟨cs, e1, e2⟩ := Option.map_eq_some_iff.mp h'
        subst e2
        obtain ⟨ρ2, h1, h2, h3, h4⟩ := ih e1
        refine ⟨some (SV.ref c1) :: ρ2, ?_, by simp [h2], fun i c e => ?_, fun i s e n => ?_⟩
        · show (putRefs as cs).map _ = _
          rw [h1] <;> rfl
        · cases i with
          | zero => exact ⟨c1, rfl, rfl⟩
          | succ i => simpa using h3 i c (by simpa using e)
        · cases i with
          | zero =>
            simp at e
            exact (n _ e.symm).elim
          | succ i => simpa using h4 i s (by simpa using e) n
      · cases h'
    | d x => exact plain (fun _ e => by cases e) h rfl
    | own x => exact plain (fun _ e => by cases e) h rfl
    | pk x => exact plain (fun _ e => by cases e) h rfl
    | exc c x => exact plain (fun _ e => by cases e) h rfl
    | fn x => exact plain (fun _ e => by cases e) h rfl
section
variable {K : Fg} {g g1 g2 : Gh} {H H' : Hp} {σ σ' : St} {ρ ρ' ρ2 : En} {as : List SV} {vs : List V} {outs : List Cell}
theorem map_get {α : Type} {l : List α} {i : Nat} : (l.map some)[i]? = (l[i]?).map some := List.getElem?_map
theorem noown {as : List SV} (hn : ∀ s ∈ as, ∀ c, s ≠ SV.own c) {i : Nat} {c : Cell} (h : cellAt (as.map some) i = some c) : as[i]? = some (SV.ref c) := by
  unfold cellAt at h
  rw [map_get] at h
  cases e : as[i]? with
  | none => rw [e] at h; cases h
  | some s =>
    rw [e] at h
    cases s with
    | ref c' => cases h; rfl
    | own c' => exact (hn _ (List.mem_of_getElem? e) c' rfl).elim
    | d _ => cases h
    | pk _ => cases h
    | exc _ _ => cases h
    | fn _ => cases h
structure Back (as : List SV) (ρ' ρ2 : En) : Prop where
  len : ρ2.length = as.length
  rf : ∀ (i : Nat) (c : Cell), as[i]? = some (SV.ref c) → ∃ c', ρ'[i]? = some (some (SV.ref c')) ∧ ρ2[i]? = some (some (SV.ref c'))
  other : ∀ (i : Nat) (s : SV), as[i]? = some s → (∀ c, s ≠ SV.ref c) → ρ2[i]? = some (some s)
theorem Back.get (b : Back as ρ' ρ2) {i : Nat} {s : SV} (h : ρ2[i]? = some (some s)) : (as[i]? = some s ∧ ∀ c, s ≠ SV.ref c) ∨ ∃ c c', as[i]? = some (SV.ref c) ∧ s = SV.ref c' ∧ ρ'[i]? = some (some (SV.ref c')) := by
  have hi : i < as.length := by
    rw [← b.len]
    exact (List.getElem?_eq_some_iff.mp h).1
  have e : as[i]? = some as[i] := List.getElem?_eq_getElem hi
  by_cases q : ∃ c, as[i] = SV.ref c
  · obtain ⟨c, q⟩ := q
    rw [q] at e
    obtain ⟨c', w1, w2⟩ := b.rf i c e
    rw [h] at w2
    cases w2
    exact .inr ⟨c, c', e, rfl, w1⟩
  · have w := b.other i _ e fun c z => q ⟨c, z⟩
    rw [h] at w
    cases w
    exact .inl ⟨e, fun c z => q ⟨c, z⟩⟩
theorem Back.cell (hn : ∀ s ∈ as, ∀ c, s ≠ SV.own c) (b : Back as ρ' ρ2) {i : Nat} {c : Cell} (h : cellAt ρ2 i = some c) : ∃ c0, as[i]? = some (SV.ref c0) ∧ ρ2[i]? = some (some (SV.ref c)) ∧ ρ'[i]? = some (some (SV.ref c)) := by
  unfold cellAt at h
  cases e : ρ2[i]? with
  | none => rw [e] at h; cases h
  | some o =>
    cases o with
    | none => rw [e] at h; cases h
    | some s =>
      rcases b.get e with ⟨q, _⟩ | ⟨c0, c', q, rfl, w⟩
      · rw [e] at h
        cases s with
        | own c' => exact (hn _ (List.mem_of_getElem? q) c' rfl).elim
        | ref c' => rename_i n; exact (n c' rfl).elim
        | d _ => cases h
        | pk _ => cases h
        | exc _ _ => cases h
        | fn _ => cases h
      · rw [e] at h
        cases h
        exact ⟨c0, q, rfl, w⟩
theorem args_back (hn : ∀ s ∈ as, ∀ c, s ≠ SV.own c) (b : Back as ρ' ρ2) (r0 : Rep K g H (vs.map some) (as.map some)) (r1 : Rep K g1 H' σ' ρ') (f : FrS H (Own (vs.map some) (as.map some)) H' (Own σ' ρ')) (e1 : g1.rf = g.rf) (e2 : g2.rf = g.rf) (h1 : ∀ a, g1.Pm a → g.Pm a ∨ H a = none)
    (h2 : ∀ a, g2.Pm a → g.Pm a ∨ H a = none) (h3 : ∀ a, g2.Pm a → ∃ o, H' a = some o) (h4 : ∀ a, g2.Pm a → Out' g1 σ' ρ' a) (h5 : ∀ (i : Nat) (c : Cell) (a : Addr), ρ'[i]? = some (some (SV.ref c)) → σ'[i]? = some (some (V.ref a)) → ¬ g2.Pm a) :
    Rep K g2 H' (vs.map some) ρ2 ∧ FrE H (Own (vs.map some) (as.map some)) H' ∧ (∀ a, Out' g2 (vs.map some) ρ2 a → Out' g1 σ' ρ' a) ∧ ∀ a, Own (vs.map some) ρ2 a → ∃ (i : Nat) (c : Cell), ρ'[i]? = some (some (SV.ref c)) ∧ σ'[i]? = some (some (V.ref a)) := by
  have addr : ∀ (i : Nat) (c c0 : Cell), as[i]? = some (SV.ref c0) → ρ'[i]? = some (some (SV.ref c)) → ∃ a, g.rf i = some a ∧ (vs.map some)[i]? = some (some (V.ref a)) ∧ σ'[i]? = some (some (V.ref a)) := fun i c c0 q w => by
    obtain ⟨a, z1, z2⟩ := r0.rf i c0 (by rw [map_get, q] <;> rfl)
    obtain ⟨a', z3, z4⟩ := r1.rf i c w
    rw [e1, z1] at z3
    cases z3
    exact ⟨a, z1, z2, z4⟩
  have own1 : ∀ a, Own (vs.map some) ρ2 a → ∃ (i : Nat) (c : Cell), ρ'[i]? = some (some (SV.ref c)) ∧ σ'[i]? = some (some (V.ref a)) := fun a ⟨i, c, z1, z2⟩ => by
    obtain ⟨c0, q1, q2, q3⟩ := b.cell hn z1
    obtain ⟨a', w1, w2, w3⟩ := addr i c c0 q1 q3
    rw [z2] at w2
    cases w2
    exact ⟨i, c, q3, w3⟩
  have own2 : ∀ a, Own (vs.map some) ρ2 a → Own (vs.map some) (as.map some) a := fun a ⟨i, c, z1, z2⟩ => by
    obtain ⟨c0, q1, q2, q3⟩ := b.cell hn z1
    exact ⟨i, c0, cellAt_ref (by rw [map_get, q1] <;> rfl), z2⟩
  have out : ∀ a, Out' g2 (vs.map some) ρ2 a → Out' g1 σ' ρ' a := fun a z => z.elim (h4 a) fun z => by
    obtain ⟨i, c, z1, z2⟩ := own1 a z
    exact .inr ⟨i, c, cellAt_ref z1, z2⟩
  have gr0 : Grow (hid (Out' g (vs.map some) (as.map some)) H) (hid (Out' g2 (vs.map some) ρ2) H') := hid_grow fun a o n e => ⟨fun z => n (z.elim (fun z => (h2 a z).elim .inl fun z => by rw [z] at e; cases e) fun z => .inr (own2 a z)), f.keep a o e fun z => n (.inr z)⟩
  have gr1 : Grow (hid (Out' g1 σ' ρ') H') (hid (Out' g2 (vs.map some) ρ2) H') := hid_grow fun a o n e => ⟨fun z => n (out a z), e⟩
  refine ⟨⟨?_, fun i x e => ?_, fun i c e => ?_, fun i j c c' a q1 q2 q3 q4 => ?_, h3, fun i c e => ?_, fun i a e => ?_, fun i c x e => ?_, fun i n e => ?_⟩, ⟨f.keep, f.stay⟩, out, own1⟩
  · have := r0.len
    rw [List.length_map, List.length_map] at this
    rw [List.length_map, b.len, this]
  · rcases b.get e with ⟨q, _⟩ | ⟨c, c', _, q, _⟩
    · obtain ⟨v, w1, w2⟩ := r0.d i x (by rw [map_get, q] <;> rfl)
      exact ⟨v, w1, w2.grow gr0⟩
    · cases q
  · obtain ⟨c0, q1, q2, q3⟩ := b.cell hn e
    obtain ⟨a, w1, w2, w3⟩ := addr i c c0 q1 q3
    obtain ⟨a', x1, x2, x3⟩ := r1.cell i c (cellAt_ref q3)
    rw [w3] at x1
    cases x1
    exact ⟨a, w2, h5 i c a q3 w3, x3.mono gr1 rfl⟩
  · obtain ⟨c0, w1, w2, w3⟩ := b.cell hn q1
    obtain ⟨c1, x1, x2, x3⟩ := b.cell hn q2
    exact r0.inj i j c0 c1 a (cellAt_ref (by rw [map_get, w1] <;> rfl)) (cellAt_ref (by rw [map_get, x1] <;> rfl)) q3 q4
  · obtain ⟨c0, q1, q2, q3⟩ := b.cell hn (cellAt_ref e)
    obtain ⟨a, w1, w2, w3⟩ := addr i c c0 q1 q3
    exact ⟨a, by rw [e2]; exact w1, w2⟩
  · rw [e2] at e
    obtain ⟨c, q⟩ := r0.rfs i a e
    have q' : as[i]? = some (SV.ref c) := by
      rw [map_get] at q
      cases z : as[i]? with
      | none => rw [z] at q; cases q
      | some s => rw [z] at q; cases q; rfl
    obtain ⟨c', w1, w2⟩ := b.rf i c q'
    exact ⟨c', w2⟩
  · rcases b.get e with ⟨q, _⟩ | ⟨c0, c', _, q, _⟩
    · exact r0.noexc i c x (by rw [map_get, q] <;> rfl)
    · cases q
  · rcases b.get e with ⟨q, _⟩ | ⟨c0, c', _, q, _⟩
    · exact r0.nofn i n (by rw [map_get, q] <;> rfl)
    · cases q
end

/-! ### a def's promise -/
def PostF (P : Pk) (g : Gh) (vs : List V) (as : List SV) (H : Hp) (Q : VK) (E : XK) : FRes → Prop
  | .ok s outs => ∀ ρ2 u H', putRefs as outs = some ρ2 → Rep P.K g H' (vs.map some) ρ2 → FrE H (Own (vs.map some) (as.map some)) H' → RV P.K g H H' (vs.map some) ρ2 u s → Q u H'
  | .raise c x outs => ∀ ρ2 d v H', putRefs as outs = some ρ2 → Rep P.K g H' (vs.map some) ρ2 → FrE H (Own (vs.map some) (as.map some)) H' → H' d = some (.xd [("value", v)]) → Rp P.K (hid (Out' g (vs.map some) ρ2) H') v x → E (.ref (P.CA c)) (some d) H'
  | .stuck => False
def spOf (P : Pk) (f : F) (n : Nat) : Sp := fun vs H Q E => ∃ g as, as.length = n ∧ (∀ s ∈ as, ∀ c, s ≠ SV.own c) ∧ Rep P.K g H (vs.map some) (as.map some) ∧ PostF P g vs as H Q E (f as)
theorem spOf_len {P : Pk} {f : F} {n : Nat} {vs : List V} {H : Hp} {Q : VK} {E : XK} (h : spOf P f n vs H Q E) : vs.length = n := by
  obtain ⟨g, as, h1, _, r, _⟩ := h
  have := r.len
  rw [List.length_map, List.length_map] at this
  omega
section
variable {P : Pk} {g : Gh} {H : Hp} {σ : St} {ρ : En} {K : Fg}
theorem pad_get {α : Type} {l : List (Option α)} {n i : Nat} {x : α} : (l ++ List.replicate n none)[i]? = some (some x) ↔ l[i]? = some (some x) := by
  by_cases h : i < l.length
  · rw [List.getElem?_append_left h]
  · rw [List.getElem?_append_right (by omega), List.getElem?_replicate, List.getElem?_eq_none (by omega)]
    constructor
    · intro e
      split at e <;> cases e
    · intro e
      cases e
theorem pad_cell {n i : Nat} : cellAt (ρ ++ List.replicate n none) i = cellAt ρ i := by
  by_cases h : i < ρ.length
  · exact cellAt_eq (List.getElem?_append_left h)
  · unfold cellAt
    rw [List.getElem?_append_right (by omega), List.getElem?_replicate, List.getElem?_eq_none (l := ρ) (by omega)]
    by_cases z : i - ρ.length < n
    · rw [if_pos z]
    · rw [if_neg z]
theorem pad_own {n : Nat} {a : Addr} : Own (σ ++ List.replicate n none) (ρ ++ List.replicate n none) a ↔ Own σ ρ a := by
  constructor
  · rintro ⟨i, c, h1, h2⟩
    exact ⟨i, c, by rw [← h1, pad_cell], pad_get.mp h2⟩
  · rintro ⟨i, c, h1, h2⟩
    exact ⟨i, c, by rw [← h1, pad_cell], pad_get.mpr h2⟩
theorem Rep.pad (r : Rep K g H σ ρ) (n : Nat) : Rep K g H (σ ++ List.replicate n none) (ρ ++ List.replicate n none) := by
  have gr : Grow (hid (Out' g σ ρ) H) (hid (Out' g (σ ++ List.replicate n none) (ρ ++ List.replicate n none)) H) := hid_grow fun a o m e => ⟨fun z => m (z.imp id pad_own.mp), e⟩
  refine ⟨by rw [List.length_append, List.length_append, r.len, List.length_replicate, List.length_replicate], fun i x e => ?_, fun i c e => ?_, fun i j c c' a q1 q2 q3 q4 => ?_, r.pm, fun i c e => ?_, fun i a e => ?_, fun i c x e => r.noexc i c x (pad_get.mp e), fun i m e => r.nofn i m (pad_get.mp e)⟩
  · obtain ⟨v, h1, h2⟩ := r.d i x (pad_get.mp e)
    exact ⟨v, pad_get.mpr h1, h2.grow gr⟩
  · rw [pad_cell] at e
    obtain ⟨a, h1, h2, h3⟩ := r.cell i c e
    exact ⟨a, pad_get.mpr h1, h2, h3.mono gr rfl⟩
  · rw [pad_cell] at q1 q2
    exact r.inj i j c c' a q1 q2 (pad_get.mp q3) (pad_get.mp q4)
  · obtain ⟨a, h1, h2⟩ := r.rf i c (pad_get.mp e)
    exact ⟨a, h1, pad_get.mpr h2⟩
  · obtain ⟨c, q⟩ := r.rfs i a e
    exact ⟨c, pad_get.mpr q⟩
/-- what the body gives is what is promised -/
theorem body_of {n : Nat} {b : MS} {f : F} {vs : List V} {Q : VK} {E : XK} {m : Nat} (hf : f = semDef n b) (h : spOf P f m vs H Q E) :
    tS P (fun _ => E) b { nx := fun _ H' => Q .non H', rt := Q } (vs.map some ++ List.replicate (n - vs.length) none) H := by
  obtain ⟨g, as, hl, hn, r, h⟩ := h
  have el : vs.length = as.length := by
    have := r.len
    rwa [List.length_map, List.length_map] at this
  subst hf
  refine ⟨g, as.map some ++ List.replicate (n - as.length) none, by rw [el]; exact r.pad _, ?_⟩
  rw [el]
  have fin : ∀ {σ' : St} {ρ' : En} {H' : Hp} {u : V} {s : SV}, Rep P.K g H' σ' ρ' → FrS H (Own (vs.map some ++ List.replicate (n - as.length) none) (as.map some ++ List.replicate (n - as.length) none)) H' (Own σ' ρ') → RV P.K g H H' σ' ρ' u s → PostF P g vs as H Q E (finish as s ρ') → Q u H' := fun {σ' ρ' H' u s} r1 f1 q h => by
    unfold finish at h
    cases e1 : resOf ρ' s with
    | none => rw [e1] at h; exact h.elim
    | some w =>
      cases e2 : outsOf as ρ' with
      | none => rw [e1, e2] at h; exact h.elim
      | some outs =>
        rw [e1, e2] at h
        obtain ⟨ρ2, w1, w2, w3, w4⟩ := outs_match e2
        have b : Back as ρ' ρ2 := ⟨w2, w3, w4⟩
        have f2 : FrS H (Own (vs.map some) (as.map some)) H' (Own σ' ρ') := ⟨fun a o e z => f1.keep a o e fun y => z (pad_own.mp y), f1.stay, fun a z => (f1.new a z).imp pad_own.mp id⟩
        have h5 : ∀ (i : Nat) (c : Cell) (a : Addr), ρ'[i]? = some (some (SV.ref c)) → σ'[i]? = some (some (V.ref a)) → ¬ g.Pm a := fun i c a z1 z2 z3 => by
          obtain ⟨a', y1, y2, _⟩ := r1.cell i c (cellAt_ref z1)
          rw [z2] at y1
          cases y1
          exact y2 z3
        obtain ⟨r2, fe, out, own1⟩ := args_back (g2 := g) hn b r r1 f2 rfl rfl (fun a z => .inl z) (fun a z => .inl z) r1.pm (fun a z => .inl z) h5
        refine h ρ2 u H' w1 r2 fe ?_
        have hb := q.b
        have hx := q.x
        cases s with
        | d x =>
          cases e1
          exact .d (Rp.grow (hid_grow fun a o n e => ⟨fun z => n (out a z), e⟩) hb)
        | own c =>
          cases e1
          obtain ⟨p, rfl, n1, no, cr⟩ := hb
          refine ⟨⟨p, rfl, n1, fun z => no (out p z), cr.mono (hid_grow fun a o n e => ⟨fun z => n (z.imp (out a) id), e⟩) rfl⟩, fun p' ep => ?_⟩
          cases ep
          have rx := hx p rfl
          refine (args_back (g2 := g.add p) hn b r rx f2 rfl rfl (fun a z => z.imp id fun z => by rw [z]; exact n1) (fun a z => z.imp id fun z => by rw [z]; exact n1) rx.pm (fun a z => .inl z) fun i c a z1 z2 z3 => ?_).1
          obtain ⟨a', y1, y2, _⟩ := rx.cell i c (cellAt_ref z1)
          rw [z2] at y1
          cases y1
          exact y2 z3
        | pk i =>
          have e1' : (match ρ'[i]? with | some (some (.own c)) => some (SV.own c) | _ => none) = some w := e1
          split at e1'
          · rename_i c ec
            cases e1'
            obtain ⟨c1, z1, z2⟩ := hb
            obtain ⟨a, y1, y2, y3⟩ := r1.cell i c (cellAt_own ec)
            rw [z2] at y1
            cases y1
            have oi : Own σ' ρ' a := ⟨i, c, cellAt_own ec, z2⟩
            have nref : ∀ (j : Nat) (c' : Cell), ρ'[j]? = some (some (SV.ref c')) → σ'[j]? = some (some (V.ref a)) → False := fun j c' x1 x2 => by
              have := r1.inj i j c c' a (cellAt_own ec) (cellAt_ref x1) z2 x2
              subst this
              rw [ec] at x1
              cases x1
            have new : H a = none := by
              rcases f2.new a oi with z | z
              · obtain ⟨j, c', x1, x2⟩ := z
                have q1 := noown hn x1
                obtain ⟨c2, q2, q3⟩ := b.rf j c' q1
                obtain ⟨a1, q4, q5⟩ := r.rf j c' (by rw [map_get, q1] <;> rfl)
                obtain ⟨a2, q6, q7⟩ := r1.rf j c2 q2
                rw [x2] at q5
                cases q5
                rw [q4] at q6
                cases q6
                exact (nref j c2 q2 q7).elim
              · exact z
            have notR : ¬ Out' g (vs.map some) ρ2 a := fun z => z.elim y2 fun z => by
              obtain ⟨j, c', x1, x2⟩ := own1 a z
              exact nref j c' x1 x2
            obtain ⟨o, eo⟩ := y3.some
            refine ⟨⟨a, rfl, new, notR, y3.mono (hid_grow fun b o n e => ⟨fun z => n (z.elim (out b) fun z => .inr (by rw [z]; exact oi)), e⟩) rfl⟩, fun p' ep => ?_⟩
            cases ep
            refine (args_back (g1 := g) (g2 := g.add a) hn b r r1 f2 rfl rfl (fun b z => .inl z) (fun b z => z.imp id fun z => by rw [z]; exact new) (fun b z => z.elim (r1.pm b) fun z => ⟨o, by rw [z]; exact eo⟩) (fun b z => z.imp id fun z => by rw [z]; exact oi) fun j c' b z1 z2 z3 => z3.elim (h5 j c' b z1 z2) fun z => ?_).1
            rw [z] at z2
            exact nref j c' z1 z2
          · cases e1'
        | ref _ => exact hb.elim
        | exc _ _ => exact hb.elim
        | fn _ => exact hb.elim
  have h' : PostF P g vs as H Q E (match b (as.map some ++ List.replicate (n - as.length) none) with
  | .ret v ρ => finish as v ρ
  | .next ρ => finish as (.d .none) ρ
  | .raise c x ρ => (match outsOf as ρ with | some outs => .raise c x outs | none => .stuck)
  | _ => .stuck) := h
  cases e : b (as.map some ++ List.replicate (n - as.length) none) with
  | next ρ' =>
    rw [e] at h'
    exact fun σ' H' r1 f1 => fin r1 f1 (.d .non) h'
  | ret s ρ' =>
    rw [e] at h'
    exact fun v σ' H' r1 f1 q => fin r1 f1 q h'
  | brk ρ' => rw [e] at h'; exact h'.elim
  | cont ρ' => rw [e] at h'; exact h'.elim
  | stuck => rw [e] at h'; exact h'.elim
  | raise c x ρ' =>
    rw [e] at h'
    intro d v σ' H' r1 f1 ed rv
    have h2 : PostF P g vs as H Q E (match outsOf as ρ' with | some outs => .raise c x outs | none => .stuck) := h'
    cases e2 : outsOf as ρ' with
    | none => rw [e2] at h2; exact h2.elim
    | some outs =>
      rw [e2] at h2
      obtain ⟨ρ2, w1, w2, w3, w4⟩ := outs_match e2
      have b : Back as ρ' ρ2 := ⟨w2, w3, w4⟩
      have f2 : FrS H (Own (vs.map some) (as.map some)) H' (Own σ' ρ') := ⟨fun a o e z => f1.keep a o e fun y => z (pad_own.mp y), f1.stay, fun a z => (f1.new a z).imp pad_own.mp id⟩
      obtain ⟨r2, fe, out, _⟩ := args_back (g2 := g) hn b r r1 f2 rfl rfl (fun a z => .inl z) (fun a z => .inl z) r1.pm (fun a z => .inl z) fun i c a z1 z2 z3 => by
        obtain ⟨a', y1, y2, _⟩ := r1.cell i c (cellAt_ref z1)
        rw [z2] at y1
        cases y1
        exact y2 z3
      exact h2 ρ2 d v H' w1 r2 fe ed (rv.grow (hid_grow fun a o n e => ⟨fun z => n (out a z), e⟩))
end
end MP
end

section
set_option Elab.async false
set_option linter.all false
set_option maxRecDepth 100000
set_option maxHeartbeats 4000000
set_option autoImplicit false
namespace MP
open PySem PySem.Spec L2

/-! ### the caller's slots behind a call -/
theorem putCell_len {ρ : En} {i : Nat} {c : Cell} : (putCell ρ i c).length = ρ.length := by
  unfold putCell
  split <;> simp
theorem putCell_ne {ρ : En} {i j : Nat} {c : Cell} (h : i ≠ j) : (putCell ρ i c)[j]? = ρ[j]? := by
  unfold putCell
  split
  · exact List.getElem?_set_ne h
  · exact List.getElem?_set_ne h
  · rfl
theorem putCell_own {ρ : En} {i : Nat} {c c0 : Cell} (h : ρ[i]? = some (some (SV.own c0))) : (putCell ρ i c)[i]? = some (some (SV.own c)) := by
  unfold putCell
  rw [h]
  exact List.getElem?_set_self (List.getElem?_eq_some_iff.mp h).1
theorem putCell_ref {ρ : En} {i : Nat} {c c0 : Cell} (h : ρ[i]? = some (some (SV.ref c0))) : (putCell ρ i c)[i]? = some (some (SV.ref c)) := by
  unfold putCell
  rw [h]
  exact List.getElem?_set_self (List.getElem?_eq_some_iff.mp h).1
theorem mem_refIx : ∀ {ss : List SV} {j k : Nat}, ss[j]? = some (SV.pk k) → k ∈ refIx ss := by
  intro ss
  induction ss with
  | nil => intro j k e; simp at e
  | cons s ss ih =>
    intro j k e
    cases j with
    | zero =>
      simp at e
      subst e
      exact List.mem_cons_self
    | succ j =>
      have := ih (j := j) (k := k) (by simpa using e)
      cases s with
      | pk _ => exact List.mem_cons_of_mem _ this
      | _ => exact this
theorem of_refIx : ∀ {ss : List SV} {k : Nat}, k ∈ refIx ss → ∃ j : Nat, ss[j]? = some (SV.pk k) := by
  intro ss
  induction ss with
  | nil => intro k e; cases e
  | cons s ss ih =>
    intro k e
    cases s with
    | pk i =>
      rcases List.mem_cons.mp (show k ∈ i :: refIx ss from e) with rfl | e
      · exact ⟨0, rfl⟩
      · obtain ⟨j, q⟩ := ih e
        exact ⟨j + 1, by simpa using q⟩
    | _ =>
      obtain ⟨j, q⟩ := ih e
      exact ⟨j + 1, by simpa using q⟩
theorem refIx_inj : ∀ {ss : List SV} {j j' k : Nat}, (refIx ss).Nodup → ss[j]? = some (SV.pk k) → ss[j']? = some (SV.pk k) → j = j' := by
  intro ss
  induction ss with
  | nil => intro j j' k _ e; simp at e
  | cons s ss ih =>
    intro j j' k nd e e'
    have nd2 : (refIx ss).Nodup := by
      cases s with
      | pk i => exact (List.nodup_cons.mp (show (i :: refIx ss).Nodup from nd)).2
      | _ => exact nd
    cases j with
    | zero =>
      cases j' with
      | zero => rfl
      | succ j' =>
        simp at e
        subst e
        exact ((List.nodup_cons.mp (show (k :: refIx ss).Nodup from nd)).1 (mem_refIx (j := j') (by simpa using e'))).elim
    | succ j =>
      cases j' with
      | zero =>
        simp at e'
        subst e'
        exact ((List.nodup_cons.mp (show (k :: refIx ss).Nodup from nd)).1 (mem_refIx (j := j) (by simpa using e))).elim
      | succ j' => exact congrArg (· + 1) (ih nd2 (by simpa using e) (by simpa using e'))
structure PutM (ss : List SV) (ρ' ρ1 ρ2 : En) : Prop where
  len : ρ2.length = ρ1.length
  out : ∀ i, i ∉ refIx ss → ρ2[i]? = ρ1[i]?
  put : ∀ (j i : Nat), ss[j]? = some (SV.pk i) → ∃ c, ρ'[j]? = some (some (SV.ref c)) ∧ (∀ c0, ρ1[i]? = some (some (SV.own c0)) → ρ2[i]? = some (some (SV.own c))) ∧ ∀ c0, ρ1[i]? = some (some (SV.ref c0)) → ρ2[i]? = some (some (SV.ref c))
theorem put_match {ρ0 : En} : ∀ {ss as : List SV} {outs : List Cell} {ρ' ρ1 ρ2 : En}, argsOf ρ0 ss = some as → putRefs as outs = some ρ' → putCells ρ1 (refIx ss) outs = some ρ2 → (refIx ss).Nodup → PutM ss ρ' ρ1 ρ2 := by
  intro ss
  induction ss with
  | nil =>
    intro as outs ρ' ρ1 ρ2 h1 h2 h3 _
    cases h1
    cases outs with
    | nil =>
      cases h2
      cases h3
      exact ⟨rfl, fun _ _ => rfl, fun j i e => by simp at e⟩
    | cons c cs => cases h2
  | cons s ss ih =>
    intro as outs ρ' ρ1 ρ2 h1 h2 h3 nd
    rw [argsOf_cons] at h1
    cases ea : argOf ρ0 s with
    | none => rw [ea] at h1; cases h1
    | some a =>
      cases es : argsOf ρ0 ss with
      | none => rw [ea, es] at h1; cases h1
      | some as' =>
        rw [ea, es] at h1
        cases h1
        have plain : (∀ i, s ≠ .pk i) → (∀ c, a ≠ .ref c) → PutM (s :: ss) ρ' ρ1 ρ2 := fun ns na => by
          have e1 : refIx (s :: ss) = refIx ss := by
            cases s with
            | pk i => exact (ns i rfl).elim
            | _ => rfl
          have e2 : putRefs (a :: as') outs = (putRefs as' outs).map fun r => some a :: r := by
            cases a with
            | ref c => exact (na c rfl).elim
            | _ => rfl
          rw [e2] at h2
          rw [e1] at h3 nd
          obtain ⟨r, q1, q2⟩ := Option.map_eq_some_iff.mp h2
          subst q2
          obtain ⟨p1, p2, p3⟩ := ih es q1 h3 nd
          refine ⟨p1, fun i n => p2 i (by rwa [e1] at n), fun j i e => ?_⟩
          cases j with
          | zero =>
            simp at e
            exact (ns i e).elim
          | succ j => simpa using p3 j i (by simpa using e)
        cases s with
        | pk i =>
          clear plain
          have ea' : (cellAt ρ0 i).map SV.ref = some a := ea
          obtain ⟨c0, _, e0⟩ := Option.map_eq_some_iff.mp ea'
          subst e0
          cases outs with
          | nil => cases h2
          | cons c cs =>
            have h2' : (putRefs as' cs).map (fun r => some (SV.ref c) :: r) = some ρ' := h2
            obtain ⟨r, q1, q2⟩ := Option.map_eq_some_iff.mp h2'
            subst q2
            have nd' : (i :: refIx ss).Nodup := nd
            obtain ⟨nd1, nd2⟩ := List.nodup_cons.mp nd'
            have h3' : putCells (putCell ρ1 i c) (refIx ss) cs = some ρ2 := h3
            obtain ⟨p1, p2, p3⟩ := ih es q1 h3' nd2
            refine ⟨by rw [p1, putCell_len], fun j n => ?_, fun j k e => ?_⟩
            · have n' : j ∉ i :: refIx ss := n
              rw [p2 j fun z => n' (List.mem_cons_of_mem _ z)]
              exact putCell_ne fun z => n' (by rw [z]; exact List.mem_cons_self)
            · cases j with
              | zero =>
                have ek : i = k := by simpa using e
                subst ek
                have e2 := p2 i nd1
                exact ⟨c, rfl, fun c0 z => by rw [e2, putCell_own z], fun c0 z => by rw [e2, putCell_ref z]⟩
              | succ j =>
                have e' : ss[j]? = some (.pk k) := by simpa using e
                obtain ⟨c2, w1, w2, w3⟩ := p3 j k e'
                have hk := mem_refIx e'
                have hik : i ≠ k := fun z => nd1 (by rw [z]; exact hk)
                refine ⟨c2, by simpa using w1, fun c0 z => w2 c0 (by rw [putCell_ne hik]; exact z), fun c0 z => w3 c0 (by rw [putCell_ne hik]; exact z)⟩
        | d x => exact plain (fun i e => by cases e) fun c e => by subst e; cases ea
        | own x => exact plain (fun i e => by cases e) fun c e => by subst e; cases ea
        | ref x => cases ea
        | exc c x => exact plain (fun i e => by cases e) fun c e => by subst e; cases ea
        | fn x => exact plain (fun i e => by cases e) fun c e => by subst e; cases ea

theorem args_get {ρ0 : En} : ∀ {ss as : List SV}, argsOf ρ0 ss = some as → as.length = ss.length ∧ ∀ (j : Nat) (a : SV), as[j]? = some a → ∃ s, ss[j]? = some s ∧ argOf ρ0 s = some a := by
  intro ss
  induction ss with
  | nil =>
    intro as h
    cases h
    exact ⟨rfl, fun j a e => by simp at e⟩
  | cons s ss ih =>
    intro as h
    rw [argsOf_cons] at h
    cases ea : argOf ρ0 s with
    | none => rw [ea] at h; cases h
    | some a =>
      cases es : argsOf ρ0 ss with
      | none => rw [ea, es] at h; cases h
      | some as' =>
        rw [ea, es] at h
        cases h
        obtain ⟨p1, p2⟩ := ih es
        refine ⟨congrArg (· + 1) p1, fun j b e => ?_⟩
        cases j with
        | zero =>
          have e' : a = b := by simpa using e
          subst e'
          exact ⟨s, rfl, ea⟩
        | succ j => simpa using p2 j b (by simpa using e)
section
variable {K : Fg} {g g2 gc : Gh} {H H0 H1 H' : Hp} {σ : St} {ρ ρ1 ρ2 ρ' : En} {ss as : List SV} {vs : List V} {outs : List Cell}
/-- the arguments' values, one by one -/
structure RVl (K : Fg) (g : Gh) (H0 H : Hp) (σ : St) (ρ : En) (vs : List V) (ss : List SV) : Prop where
  len : vs.length = ss.length
  at' : ∀ (j : Nat) (s : SV), ss[j]? = some s → ∃ v, vs[j]? = some v ∧ RV K g H0 H σ ρ v s
theorem RVs.list (r : RVs K g H0 H σ ρ vs ss) : RVl K g H0 H σ ρ vs ss := by
  induction r with
  | nil => exact ⟨rfl, fun j s e => by simp at e⟩
  | @cons g H0 H σ ρ v vs s ss q r ih =>
    refine ⟨congrArg (· + 1) ih.len, fun j t e => ?_⟩
    cases j with
    | zero =>
      have e' : s = t := by simpa using e
      subst e'
      exact ⟨v, rfl, q⟩
    | succ j =>
      obtain ⟨w, h1, h2⟩ := ih.at' j t (by simpa using e)
      exact ⟨w, by simpa using h1, h2.less (le_gadd _ _ _)⟩
open Classical in
/-- what the callee may not touch; where its borrowed arguments stand -/
noncomputable def calleeG (g : Gh) (σ : St) (ρ : En) (vs : List V) (ss as : List SV) : Gh :=
  ⟨fun a => Out' g σ ρ a ∧ ¬ ∃ j i : Nat, ss[j]? = some (SV.pk i) ∧ σ[i]? = some (some (V.ref a)), fun j => match as[j]?, vs[j]? with | some (.ref _), some (.ref a) => some a | _, _ => none⟩
structure Bd (K : Fg) (g : Gh) (H1 : Hp) (σ : St) (ρ1 : En) (vs : List V) (ss as : List SV) : Prop where
  rep : Rep K (calleeG g σ ρ1 vs ss as) H1 (vs.map some) (as.map some)
  noown : ∀ s ∈ as, ∀ c, s ≠ SV.own c
  len : as.length = vs.length
  own : ∀ a, Own (vs.map some) (as.map some) a ↔ ∃ j i : Nat, ss[j]? = some (SV.pk i) ∧ σ[i]? = some (some (V.ref a))
  sub : ∀ a, Own (vs.map some) (as.map some) a → Own σ ρ1 a
  ref : ∀ (j i : Nat), ss[j]? = some (SV.pk i) → ∃ c a, cellAt ρ1 i = some c ∧ as[j]? = some (SV.ref c) ∧ vs[j]? = some (V.ref a) ∧ σ[i]? = some (some (V.ref a))
theorem args_rep (rp : Rep K g H1 σ ρ1) (q : RVl K g H0 H1 σ ρ1 vs ss) (ea : argsOf ρ1 ss = some as) (nd : (refIx ss).Nodup) : Bd K g H1 σ ρ1 vs ss as := by
  obtain ⟨la, ga⟩ := args_get ea
  have lv := q.len
  have refOf : ∀ (j : Nat) (c : Cell), as[j]? = some (SV.ref c) → ∃ i a, ss[j]? = some (SV.pk i) ∧ cellAt ρ1 i = some c ∧ vs[j]? = some (V.ref a) ∧ σ[i]? = some (some (V.ref a)) := fun j c e => by
    obtain ⟨s, e1, e2⟩ := ga j _ e
    cases s with
    | pk i =>
      have e2' : (cellAt ρ1 i).map SV.ref = some (SV.ref c) := e2
      obtain ⟨c', e3, e4⟩ := Option.map_eq_some_iff.mp e2'
      cases e4
      obtain ⟨v, w1, w2⟩ := q.at' j _ e1
      obtain ⟨c2, w3, w4⟩ := w2.b
      obtain ⟨a, x1, x2, x3⟩ := rp.cell i _ e3
      rw [w4] at x1
      cases x1
      exact ⟨i, a, e1, e3, w1, w4⟩
    | d x => cases e2
    | own x => cases e2
    | ref x => cases e2
    | exc c x => cases e2
    | fn x => cases e2
  have refTo : ∀ (j i : Nat), ss[j]? = some (SV.pk i) → ∃ c a, cellAt ρ1 i = some c ∧ as[j]? = some (SV.ref c) ∧ vs[j]? = some (V.ref a) ∧ σ[i]? = some (some (V.ref a)) := fun j i e => by
    have hj : j < as.length := by
      rw [la]
      exact (List.getElem?_eq_some_iff.mp e).1
    have e1 : as[j]? = some as[j] := List.getElem?_eq_getElem hj
    obtain ⟨s, e2, e3⟩ := ga j _ e1
    rw [e] at e2
    cases e2
    have e3' : (cellAt ρ1 i).map SV.ref = some as[j] := e3
    obtain ⟨c, e4, e5⟩ := Option.map_eq_some_iff.mp e3'
    rw [← e5] at e1
    obtain ⟨i', a, w1, w2, w3, w4⟩ := refOf j c e1
    rw [e] at w1
    cases w1
    exact ⟨c, a, e4, e1, w3, w4⟩
  have no : ∀ s ∈ as, ∀ c, s ≠ SV.own c := fun s hs c e => by
    subst e
    obtain ⟨j, e⟩ := List.getElem?_of_mem hs
    obtain ⟨s', e1, e2⟩ := ga j _ e
    cases s' with
    | pk i =>
      have e2' : (cellAt ρ1 i).map SV.ref = some (SV.own c) := e2
      obtain ⟨c', e3, e4⟩ := Option.map_eq_some_iff.mp e2'
      cases e4
    | d x => cases e2
    | own x => cases e2
    | ref x => cases e2
    | exc c x => cases e2
    | fn x => cases e2
  have own : ∀ a, Own (vs.map some) (as.map some) a ↔ ∃ j i : Nat, ss[j]? = some (SV.pk i) ∧ σ[i]? = some (some (V.ref a)) := fun a => by
    constructor
    · rintro ⟨j, c, z1, z2⟩
      obtain ⟨i, a', w1, w2, w3, w4⟩ := refOf j c (MP.noown no z1)
      rw [map_get, w3] at z2
      cases z2
      exact ⟨j, i, w1, w4⟩
    · rintro ⟨j, i, z1, z2⟩
      obtain ⟨c, a', w1, w2, w3, w4⟩ := refTo j i z1
      rw [z2] at w4
      cases w4
      exact ⟨j, c, cellAt_ref (by rw [map_get, w2] <;> rfl), by rw [map_get, w3] <;> rfl⟩
  have sub : ∀ a, Own (vs.map some) (as.map some) a → Own σ ρ1 a := fun a z => by
    obtain ⟨j, i, z1, z2⟩ := (own a).mp z
    obtain ⟨c, a', w1, w2, w3, w4⟩ := refTo j i z1
    exact ⟨i, c, w1, z2⟩
  have gr : Grow (hid (Out' g σ ρ1) H1) (hid (Out' (calleeG g σ ρ1 vs ss as) (vs.map some) (as.map some)) H1) := hid_grow fun a o n e => ⟨fun z => n (z.elim (fun z => z.1) fun z => .inr (sub a z)), e⟩
  refine ⟨⟨by rw [List.length_map, List.length_map, la, lv], fun j x e => ?_, fun j c e => ?_, fun j j' c c' a q1 q2 q3 q4 => ?_, fun a z => rp.out_some z.1, fun j c e => ?_, fun j a e => ?_, fun j c x e => ?_, fun j n e => ?_⟩, no, by rw [la, lv], own, sub, refTo⟩
  · have e' : as[j]? = some (.d x) := by
      rw [map_get] at e
      cases z : as[j]? with
      | none => rw [z] at e; cases e
      | some s => rw [z] at e; cases e; rfl
    obtain ⟨s, e1, e2⟩ := ga j _ e'
    obtain ⟨v, w1, w2⟩ := q.at' j s e1
    refine ⟨v, by rw [map_get, w1] <;> rfl, Rp.grow gr (w2.keep ?_)⟩
    cases s with
    | d y => cases e2; rfl
    | own c => cases e2; rfl
    | pk i =>
      have e2' : (cellAt ρ1 i).map SV.ref = some (SV.d x) := e2
      obtain ⟨c', e3, e4⟩ := Option.map_eq_some_iff.mp e2'
      cases e4
    | ref x => cases e2
    | exc c x => cases e2
    | fn x => cases e2
  · have e' := MP.noown no e
    obtain ⟨i, a, w1, w2, w3, w4⟩ := refOf j c e'
    obtain ⟨a', x1, x2, x3⟩ := rp.cell i c w2
    rw [w4] at x1
    cases x1
    exact ⟨a, by rw [map_get, w3] <;> rfl, fun z => z.2 ⟨j, i, w1, w4⟩, x3.mono gr rfl⟩
  · obtain ⟨i, a1, w1, w2, w3, w4⟩ := refOf j c (MP.noown no q1)
    obtain ⟨i', a2, x1, x2, x3, x4⟩ := refOf j' c' (MP.noown no q2)
    rw [map_get, w3] at q3
    cases q3
    rw [map_get, x3] at q4
    cases q4
    have := rp.inj i i' c c' a w2 x2 w4 x4
    subst this
    exact refIx_inj nd w1 x1
  · have e' := MP.noown no (cellAt_ref e)
    obtain ⟨i, a, w1, w2, w3, w4⟩ := refOf j c e'
    refine ⟨a, ?_, by rw [map_get, w3] <;> rfl⟩
    show (match as[j]?, vs[j]? with | some (.ref _), some (.ref a) => some a | _, _ => none) = some a
    rw [e', w3]
  · have e' : (match as[j]?, vs[j]? with | some (SV.ref _), some (V.ref a) => some a | _, _ => none) = some a := e
    split at e'
    · rename_i c b z1 z2
      exact ⟨c, by rw [map_get, z1] <;> rfl⟩
    · cases e'
  · have e' : as[j]? = some (.exc c x) := by
      rw [map_get] at e
      cases z : as[j]? with
      | none => rw [z] at e; cases e
      | some s => rw [z] at e; cases e; rfl
    obtain ⟨s, e1, e2⟩ := ga j _ e'
    obtain ⟨v, w1, w2⟩ := q.at' j s e1
    cases s with
    | exc y z => exact w2.b.elim
    | pk i =>
      have e2' : (cellAt ρ1 i).map SV.ref = some (SV.exc c x) := e2
      obtain ⟨c', e3, e4⟩ := Option.map_eq_some_iff.mp e2'
      cases e4
    | d x => cases e2
    | own x => cases e2
    | ref x => cases e2
    | fn x => cases e2
  · have e' : as[j]? = some (.fn n) := by
      rw [map_get] at e
      cases z : as[j]? with
      | none => rw [z] at e; cases e
      | some s => rw [z] at e; cases e; rfl
    obtain ⟨s, e1, e2⟩ := ga j _ e'
    obtain ⟨v, w1, w2⟩ := q.at' j s e1
    cases s with
    | fn y => exact w2.b.elim
    | pk i =>
      have e2' : (cellAt ρ1 i).map SV.ref = some (SV.fn n) := e2
      obtain ⟨c', e3, e4⟩ := Option.map_eq_some_iff.mp e2'
      cases e4
    | d x => cases e2
    | own x => cases e2
    | ref x => cases e2
    | exc y x => cases e2
/-- kinds stay -/
theorem PutM.kind (m : PutM ss ρ' ρ1 ρ2) (b : Bd K g H1 σ ρ1 vs ss as) (i : Nat) : (∀ c, ρ1[i]? = some (some (SV.own c)) → ∃ c', ρ2[i]? = some (some (SV.own c'))) ∧ (∀ c, ρ1[i]? = some (some (SV.ref c)) → ∃ c', ρ2[i]? = some (some (SV.ref c'))) ∧ (cellAt ρ1 i = none → ρ2[i]? = ρ1[i]?) := by
  by_cases h : i ∈ refIx ss
  · obtain ⟨j, e⟩ := of_refIx h
    obtain ⟨c, w1, w2, w3⟩ := m.put j i e
    obtain ⟨c0, a, x1, _⟩ := b.ref j i e
    exact ⟨fun c1 z => ⟨c, w2 c1 z⟩, fun c1 z => ⟨c, w3 c1 z⟩, fun z => by rw [x1] at z; cases z⟩
  · have e := m.out i h
    exact ⟨fun c z => ⟨c, by rw [e]; exact z⟩, fun c z => ⟨c, by rw [e]; exact z⟩, fun _ => e⟩
theorem PutM.same (m : PutM ss ρ' ρ1 ρ2) (b : Bd K g H1 σ ρ1 vs ss as) : SameC ρ1 ρ2 := fun i => by
  obtain ⟨k1, k2, k3⟩ := m.kind b i
  cases e : cellAt ρ1 i with
  | none =>
    have := k3 e
    rw [cellAt_eq this, e]
  | some c =>
    have e' := e
    unfold cellAt at e'
    split at e'
    · rename_i c1 z
      obtain ⟨c', w⟩ := k1 c1 z
      rw [cellAt_own w] <;> rfl
    · rename_i c1 z
      obtain ⟨c', w⟩ := k2 c1 z
      rw [cellAt_ref w] <;> rfl
    · cases e'
theorem rep_after (rp : Rep K g H1 σ ρ1) (b : Bd K g H1 σ ρ1 vs ss as) (m : PutM ss ρ' ρ1 ρ2) (rc : Rep K gc H' (vs.map some) ρ') (f : FrE H1 (Own (vs.map some) (as.map some)) H') (e2 : g2.rf = g.rf) (h2 : ∀ a, g2.Pm a → g.Pm a ∨ H1 a = none) (h3 : ∀ a, g2.Pm a → ∃ o, H' a = some o)
    (h4 : ∀ a, Out' g2 σ ρ2 a → Out' gc (vs.map some) ρ' a) : Rep K g2 H' σ ρ2 := by
  have sc := m.same b
  have out : ∀ a o, H1 a = some o → Out' g2 σ ρ2 a → Out' g σ ρ1 a := fun a o e z => z.elim (fun z => (h2 a z).elim .inl fun z => by rw [z] at e; cases e) fun z => .inr (sc.symm.own z)
  have gr1 : Grow (hid (Out' g σ ρ1) H1) (hid (Out' g2 σ ρ2) H') := hid_grow fun a o n e => ⟨fun z => n (out a o e z), f.keep a o e fun z => n (.inr (b.sub a z))⟩
  have gr2 : Grow (hid (Out' gc (vs.map some) ρ') H') (hid (Out' g2 σ ρ2) H') := hid_grow fun a o n e => ⟨fun z => n (h4 a z), e⟩
  have back : ∀ {i : Nat} {c : Cell}, cellAt ρ2 i = some c → ∃ c0, cellAt ρ1 i = some c0 := fun {i c} e => sc.symm.get e
  refine ⟨by rw [m.len]; exact rp.len, fun i x e => ?_, fun i c e => ?_, fun i j c c' a q1 q2 q3 q4 => ?_, h3, fun i c e => ?_, fun i a e => ?_, fun i c x e => ?_, fun i n e => ?_⟩
  · obtain ⟨k1, k2, k3⟩ := m.kind b i
    cases z : cellAt ρ1 i with
    | none =>
      rw [k3 z] at e
      obtain ⟨v, w1, w2⟩ := rp.d i x e
      exact ⟨v, w1, w2.grow gr1⟩
    | some c =>
      obtain ⟨c', z'⟩ := sc.get z
      unfold cellAt at z'
      rw [e] at z'
      cases z'
  · obtain ⟨c0, e0⟩ := back e
    obtain ⟨a, w1, w2, w3⟩ := rp.cell i c0 e0
    obtain ⟨o, eo⟩ := w3.some
    have n2 : ¬ g2.Pm a := fun z => (h2 a z).elim w2 fun z => by rw [z] at eo; cases eo
    refine ⟨a, w1, n2, ?_⟩
    by_cases h : i ∈ refIx ss
    · obtain ⟨j, ej⟩ := of_refIx h
      obtain ⟨c1, x1, x2, x3⟩ := m.put j i ej
      have ec : c1 = c := by
        unfold cellAt at e0
        split at e0
        · rename_i c3 z
          have := x2 c3 z
          rw [cellAt_own this] at e
          exact Option.some.inj e
        · rename_i c3 z
          have := x3 c3 z
          rw [cellAt_ref this] at e
          exact Option.some.inj e
        · cases e0
      subst ec
      obtain ⟨c4, a4, y1, y2, y3, y4⟩ := b.ref j i ej
      rw [w1] at y4
      cases y4
      obtain ⟨a5, u1, u2, u3⟩ := rc.cell j c1 (cellAt_ref x1)
      rw [map_get, y3] at u1
      cases u1
      exact u3.mono gr2 rfl
    · have ei := m.out i h
      rw [cellAt_eq ei, e0] at e
      cases e
      refine w3.mono gr1 ?_
      rw [f.keep a o eo fun z => ?_, eo]
      obtain ⟨j, i', z1, z2⟩ := (b.own a).mp z
      obtain ⟨c4, a4, y1, y2, y3, y4⟩ := b.ref j i' z1
      rw [z2] at y4
      cases y4
      have := rp.inj i i' _ c4 a e0 y1 w1 z2
      subst this
      exact h (mem_refIx z1)
  · obtain ⟨c1, e1⟩ := back q1
    obtain ⟨c2, e2⟩ := back q2
    exact rp.inj i j c1 c2 a e1 e2 q3 q4
  · obtain ⟨k1, k2, k3⟩ := m.kind b i
    obtain ⟨c0, e0⟩ := back (cellAt_ref e)
    unfold cellAt at e0
    split at e0
    · rename_i c3 z
      obtain ⟨c', w⟩ := k1 c3 z
      rw [e] at w
      cases w
    · rename_i c3 z
      obtain ⟨a, w1, w2⟩ := rp.rf i c3 z
      exact ⟨a, by rw [e2]; exact w1, w2⟩
    · cases e0
  · rw [e2] at e
    obtain ⟨c, z⟩ := rp.rfs i a e
    exact (m.kind b i).2.1 c z
  · obtain ⟨k1, k2, k3⟩ := m.kind b i
    cases z : cellAt ρ1 i with
    | none =>
      rw [k3 z] at e
      exact rp.noexc i c x e
    | some c =>
      obtain ⟨c', z'⟩ := sc.get z
      unfold cellAt at z'
      rw [e] at z'
      cases z'
  · obtain ⟨k1, k2, k3⟩ := m.kind b i
    cases z : cellAt ρ1 i with
    | none =>
      rw [k3 z] at e
      exact rp.nofn i n e
    | some c =>
      obtain ⟨c', z'⟩ := sc.get z
      unfold cellAt at z'
      rw [e] at z'
      cases z'
/-- what the caller hides the callee hides -/
theorem out_callee (b : Bd K g H1 σ ρ1 vs ss as) (m : PutM ss ρ' ρ1 ρ2) {a : Addr} (h : Out' g σ ρ2 a) : Out' (calleeG g σ ρ1 vs ss as) (vs.map some) ρ' a := by
  by_cases q : ∃ j i : Nat, ss[j]? = some (SV.pk i) ∧ σ[i]? = some (some (V.ref a))
  · obtain ⟨j, i, z1, z2⟩ := q
    obtain ⟨c, w1, _⟩ := m.put j i z1
    obtain ⟨c4, a4, y1, y2, y3, y4⟩ := b.ref j i z1
    rw [z2] at y4
    cases y4
    exact .inr ⟨j, c, cellAt_ref w1, by rw [map_get, y3] <;> rfl⟩
  · exact .inl ⟨(m.same b).symm.out h, q⟩
end
section
variable {P : Pk} {E : St → XK} {g : Gh} {H H0 H1 : Hp} {σ : St} {ρ ρ1 : En} {ss as : List SV} {vs : List V} {f : F} {Q : VK}
/-- the call: what the caller wants is what the callee promises -/
theorem call_post {n : Nat} (rp : Rep P.K g H1 σ ρ1) (sc : SameC ρ ρ1) (fr : FrE H (Own σ ρ) H1) (q : RVl P.K g H H1 σ ρ1 vs ss) (hn : ss.length = n) (h : PostE P E g σ ρ H H Q (mCallGo f ss ρ1)) : spOf P f n vs H1 Q (E σ) := by
  unfold mCallGo at h
  cases ea : argsOf ρ1 ss with
  | none => rw [ea] at h; exact h.elim
  | some as =>
    rw [ea] at h
    have h1 : PostE P E g σ ρ H H Q (if (refIx ss).Nodup then callEnd ρ1 (refIx ss) (f as) else .stuck) := h
    by_cases nd : (refIx ss).Nodup
    case neg => rw [if_neg nd] at h1; exact h1.elim
    rw [if_pos nd] at h1
    have b := args_rep rp q ea nd
    refine ⟨calleeG g σ ρ1 vs ss as, as, ?_, b.noown, b.rep, ?_⟩
    · rw [(args_get ea).1, hn]
    cases ef : f as with
    | stuck => rw [ef] at h1; exact h1.elim
    | raise c x outs =>
      rw [ef] at h1
      have h2 : PostE P E g σ ρ H H Q (match putCells ρ1 (refIx ss) outs with | some ρ2 => .raise c x ρ2 | none => .stuck) := h1
      cases ep : putCells ρ1 (refIx ss) outs with
      | none => rw [ep] at h2; exact h2.elim
      | some ρ2 =>
        rw [ep] at h2
        intro ρ' d v H' e1 rc fc ed rv
        have m := put_match ea e1 ep nd
        have r2 : Rep P.K g H' σ ρ2 := rep_after rp b m rc fc rfl (fun a z => .inl z) (fun a z => let ⟨o, e⟩ := rp.pm a z; fc.stay a o e) fun a z => out_callee b m z
        exact h2 d v H' r2 (sc.trans (m.same b)) (fr.trans fc fun a z => sc.symm.own (b.sub a z)) ed (rv.grow (hid_grow fun a o n e => ⟨fun z => n (out_callee b m z), e⟩))
    | ok s outs =>
      rw [ef] at h1
      have h2 : PostE P E g σ ρ H H Q (if isRes s = true then (match putCells ρ1 (refIx ss) outs with | some ρ2 => .ok s ρ2 | none => .stuck) else .stuck) := h1
      by_cases hs : isRes s = true
      case neg => rw [if_neg hs] at h2; exact h2.elim
      rw [if_pos hs] at h2
      cases ep : putCells ρ1 (refIx ss) outs with
      | none => rw [ep] at h2; exact h2.elim
      | some ρ2 =>
        rw [ep] at h2
        intro ρ' u H' e1 rc fc rv
        have m := put_match ea e1 ep nd
        have r2 : Rep P.K g H' σ ρ2 := rep_after rp b m rc fc rfl (fun a z => .inl z) (fun a z => let ⟨o, e⟩ := rp.pm a z; fc.stay a o e) fun a z => out_callee b m z
        refine h2 u H' r2 (sc.trans (m.same b)) (fr.trans fc fun a z => sc.symm.own (b.sub a z)) ?_
        have hb := rv.b
        have hx := rv.x
        cases s with
        | d x => exact .d (Rp.grow (hid_grow fun a o n e => ⟨fun z => n (out_callee b m z), e⟩) hb)
        | own c =>
          obtain ⟨p, rfl, n, no, cr⟩ := hb
          refine ⟨⟨p, rfl, fr.free p n, fun z => no (out_callee b m z), cr.mono (hid_grow fun a o n e => ⟨fun z => n (z.imp (out_callee b m) id), e⟩) rfl⟩, fun p' ep' => ?_⟩
          cases ep'
          have rx := hx p rfl
          exact rep_after rp b m rx fc rfl (fun a z => z.imp id fun z => by rw [z]; exact n) (fun a z => z.elim (fun z => let ⟨o, e⟩ := rp.pm a z; fc.stay a o e) fun z => rx.pm a (.inr z)) fun a z => z.elim (fun z => z.elim (fun z => (out_callee b m (.inl z)).imp .inl id) fun z => .inl (.inr z)) fun z => (out_callee b m (.inr z)).imp .inl id
        | pk i => cases hs
        | ref _ => cases hs
        | exc _ _ => cases hs
        | fn _ => cases hs
end
end MP
end

section
set_option Elab.async false
set_option linter.all false
set_option maxRecDepth 100000
set_option maxHeartbeats 4000000
set_option autoImplicit false
namespace MP
open PySem PySem.Spec PyProof.Rows L2

/-- a def's promise where no guard of the model's own stands around -/
structure FnG (PP : Program) (w : World) (K : Fg) (mg : Str → Option Value) (base : Heap) (k : Nat) (a : Addr) (fd : FuncData) (ps : List Str) (sp : Sp) : Prop where
  len : ∀ vs H Q E, sp vs H Q E → vs.length = ps.length
  go : ∀ (Ar : Around) (ou : List Env) (s0 : Shared) (H0 : Hp) (ar : Args) (uv : List Value) (vv : List V) (Q : VK) (W : XK), Room k Ar → Ar.guards = some [] → Env0 PP w K mg base Ar ou s0 H0 → BindsTo s0 fd ar (ps.zip uv) → Vals vv uv → sp vv H0 Q W →
    codeAny (model PP w) Ar (.call (.ref a) ar) (CR (L2.CX PP w) ou PP w H0 s0 Q W) s0
def fArgs : Stmt → Arguments
  | .FunctionDef (args := z) .. => z
  | _ => ⟨[], [], none, [], [], none, []⟩
def fBody : Stmt → List Stmt
  | .FunctionDef (body := z) .. => z
  | _ => []
def fScope : Stmt → Scope
  | .FunctionDef (scope := z) .. => z
  | _ => ⟨.function, [], false, false, []⟩
def fPars (st : Stmt) : List Str := (fArgs st).args.map (·.arg)
/-- the def as it stands behind the top -/
structure Here (K : Fg) (mg : Str → Option Value) (x : Str) (st : Stmt) (a : Addr) (fd : FuncData) : Prop where
  ex : ∃ (oc : Value) (od : Option Addr) (kV dc pm : Value) (an : Option Addr) (cd ct : Value) (sl : Array (Option Value)),
    fd = PySem.W.fnOf x x (fArgs st) (fBody st) (fScope st) .none kV dc pm an cd ct ∧ K.lookup a = some ⟨oc, od, .func fd, sl⟩ ∧ PySem.W.codeIn K cd x = true
  named : mg x = some (.ref a)
  kept : PySem.W.keepIn K (.ref a) = true
section
variable {PP : Program} {w : World} {K : Fg} {mg : Str → Option Value} {base : Heap} {CA : Str → Addr} {k n : Nat} {a : Addr} {fd : FuncData} {x : Str} {st : Stmt} {f : F} {N ps : List Str} {b : MS}
theorem fn_G (h : Here K mg x st a fd) (S : FnScope N ps (fScope st)) (ef : f = semDef N.length b) (en : ps.length = n)
    (hb : ∀ (cd : Value) (Ar : Around) (ou : List Env) (s0 : Shared) (H0 : Hp) (W : XK), Room k (Ar.deeper (envOfC x (fScope st) s0.heap.objs.size a cd)) → (Ar.deeper (envOfC x (fScope st) s0.heap.objs.size a cd)).guards = some [] →
      PSs (cxOf (L2.CX PP w) PP w K mg base N x (fScope st) a cd Ar ou s0 H0 W) (fBody st) (tS ⟨K, CA⟩ (fun _ => W) b)) : FnG PP w K mg base (k + 1) a fd ps (spOf ⟨K, CA⟩ f n) := by
  obtain ⟨oc, od, kV, dc, pm, an, cd, ct, sl, rfl, lk, hcd⟩ := h.ex
  subst en
  refine ⟨fun vs H Q E h => spOf_len h, fun Ar ou s0 H0 ar uv vv Q W room gd e0 bd rv hsp => ?_⟩
  have lv : vv.length = ps.length := spOf_len hsp
  have inK : K.In s0.heap := e0.mod.kin.keeps fun y o z => (e0.bs y o z).1
  have nl : s0.heap.NoLimit := e0.mod.nolimit.keeps fun y o z => (e0.bs y o z).1
  have kinds : ∀ y ∈ ps.zip uv, (fScope st).names.lookup y.1 = some .local ∨ ((fScope st).names.lookup y.1 = some .cell ∧ ((cellsFrom (s0.heap.objs.size + 1) (fScope st).names []).lookup y.1).isSome = true) := fun ⟨m, v⟩ hy =>
    (S.par m (List.of_mem_zip hy).1).imp id fun z => ⟨z, PySem.W.cellsFrom_some _ _ _ (.inl z)⟩
  refine codeAny_call_function room.depth (inK _ _ lk) rfl S.co S.gen rfl (PySem.W.codeRec_of inK hcd) (bd _ _ _ _ ?_)
  refine wpAny_newFunctionEnv_cells S.kind kinds fun env he s1 ic => ?_
  subst he
  refine ⟨nl.keeps ic.toInCall.keep, codeAny_func ?_⟩
  have body := hb cd Ar ou s0 H0 W (room.deeper _) gd
  have J : Inv (cxOf (L2.CX PP w) PP w K mg base N x (fScope st) a cd Ar ou s0 H0 W) [] (start N vv) H0 s1 := inv_start S room.hd e0 lv rv ic
  have pre := body_of ef hsp
  refine wpAny_mono (body.run [] s1 (start N vv) H0 _ J pre) (fun fl s2 hs => ?_) fun _ _ z => z
  have fin : ∀ {σ2 : L2.St} {H2 : Hp} {v : V} {u : Value}, Inv (cxOf (L2.CX PP w) PP w K mg base N x (fScope st) a cd Ar ou s0 H0 W) [] σ2 H2 s2 → RelV v u → Q v H2 → CE ou PP w H0 s0 Q u s2 :=
    fun {σ2 H2 v u} J2 z q => ⟨v, H2, J2.os, J2.bare, J2.base, J2.hok, z, q⟩
  cases fl with
  | ret u => obtain ⟨v, σ2, H2, J2, z, q⟩ := hs; exact fin J2 z q
  | next => obtain ⟨σ2, H2, J2, q⟩ := hs; exact fin (v := V.non) (u := Value.none) J2 rfl q
  | brk => obtain ⟨_, _, _, q⟩ := hs; exact q.elim
  | cont => obtain ⟨_, _, _, q⟩ := hs; exact q.elim
end
/-- a def that may be called by its name -/
structure Cal (PP : Program) (w : World) (K : Fg) (mg : Str → Option Value) (base : Heap) (CA : Str → Addr) (k : Nat) (st : Stmt) (x : Str) (f : F) (n : Nat) : Prop where
  ex : ∃ (a : Addr) (fd : FuncData), FnG PP w K mg base k a fd (fPars st) (spOf ⟨K, CA⟩ f n) ∧ Here K mg x st a fd
theorem mArgs_length : ∀ {ms : List ME} {ρ ρ1 : En} {ss : List SV}, mArgs ms ρ = .ok ss ρ1 → ss.length = ms.length := by
  intro ms
  induction ms with
  | nil =>
    intro ρ ρ1 ss h
    cases h
    rfl
  | cons m ms ih =>
    intro ρ ρ1 ss h
    have h' : ((m ρ).bind fun v ρ1 => (mArgs ms ρ1).bind fun vs ρ2 => .ok (v :: vs) ρ2) = .ok ss ρ1 := h
    cases e1 : m ρ with
    | ok v ρ2 =>
      rw [e1] at h'
      have h2 : ((mArgs ms ρ2).bind fun vs ρ2 => .ok (v :: vs) ρ2) = Out.ok ss ρ1 := h'
      cases e2 : mArgs ms ρ2 with
      | ok vs ρ3 =>
        rw [e2] at h2
        cases h2
        exact congrArg (· + 1) (ih e2)
      | raise c x ρ3 => rw [e2] at h2; cases h2
      | stuck => rw [e2] at h2; cases h2
    | raise c x ρ3 => rw [e1] at h'; cases h'
    | stuck => rw [e1] at h'; cases h'
section
variable {X : Cx} {CA : Str → Addr} {k j n : Nat} {a : Addr} {fd : FuncData} {x : Str} {st : Stmt} {f : F} {ps ks : List Str} {sp : Sp} {E : L2.St → XK} {e : Expr} {es : List Expr} {kws : List Keyword} {t tk : TA} {p pos : Pos} {ms : List ME}
theorem pass00 {σ : L2.St} : PassesAt (L2.CX X.prog X.w) X σ (E00 σ) := fun _ _ _ _ _ _ ⟨_, _, _, _, _, _, _, _, _, _, _, _, h⟩ => h.elim
theorem run_G {pins : List (Addr × Obj)} {σ : L2.St} {H : Hp} {s : Shared} {Q : VK} {uv : List Value} {vv : List V} {ar : Args} (F : FnG X.prog X.w X.K X.mg X.base k a fd ps sp) (hr : Room k X.A) (hg : X.A.guards = some []) (hx : PassesAt (L2.CX X.prog X.w) X σ (E σ))
    (I : Inv X pins σ H s) (rv : Vals vv uv) (hb : uv.length = ps.length → BindsTo s fd ar (ps.zip uv)) (h : sp vv H Q (E σ)) : wpAny (model X.prog X.w) X.A (call (.ref a) ar.pos ar.kw) (EP X pins σ Q) X.xe s := by
  have lv : uv.length = ps.length := by rw [← rv.length]; exact F.len _ _ _ _ h
  refine wpAny_call (codeAny_mono (F.go X.A X.stack s H ar uv vv Q (E σ) hr hg I.env0 (hb lv) rv h) fun r s' z => ?_)
  cases r with
  | error e => exact hx pins H s e s' I z
  | ok fl => cases fl with
    | ret u => exact I.after z
    | next => exact z.elim
    | brk => exact z.elim
    | cont => exact z.elim
/-- f(e, ..) -/
theorem s_call (hc : Cal X.prog X.w X.K X.mg X.base CA k st x f n) (hr : Room j X.A) (hg : X.A.guards = some []) (hx : ∀ σ, PassesAt (L2.CX X.prog X.w) X σ (E σ)) (ha : PA X (e :: es) (tAs ⟨X.K, CA⟩ E ms))
    (hb : ∀ (kV dc pm : Value) (an : Option Addr) (cd ct : Value) (us : List Value), us.length = (fPars st).length → bindArgs (PySem.W.fnOf x x (fArgs st) (fBody st) (fScope st) .none kV dc pm an cd ct) ⟨us, []⟩ = pure ((fPars st).zip us))
    (hk : k ≤ j := by first | decide | omega) (hn : ms.length = n := by rfl) (hgl : Gl X x := by rfl) (hdb : (x == ("__debug__" : Str)) = false := by decide) (he : starEach (e :: es) X.env = (false, eval e X.env) :: starEach es X.env := by rfl) (hpl : (backTo pos (starEach es X.env)).any (·.1) = false := by rfl) :
    PE X (.Call (.Name x p) (e :: es) [] pos) (tM ⟨X.K, CA⟩ E (mCall f ms)) := by
  obtain ⟨a, fd, F, hh⟩ := hc.ex
  obtain ⟨oc, od, kV, dc, pm, an, cd, ct, sl, rfl, lk, hcd⟩ := hh.ex
  refine ⟨fun pins s σ H Q I ⟨g, ρ, rp, h⟩ => ?_⟩
  refine wpAny_Call_Name_kw (ld_glob I hgl hh.named ?_ hdb)
  have pre : tAs ⟨X.K, CA⟩ E ms σ H fun vs H1 => spOf ⟨X.K, CA⟩ f n vs H1 Q (E σ) := by
    refine ⟨g, ρ, rp, ?_⟩
    have h' : PostE ⟨X.K, CA⟩ E g σ ρ H H Q ((mArgs ms ρ).bind fun vs ρ1 => mCallGo f vs ρ1) := h
    cases em : mArgs ms ρ with
    | ok ss ρ1 =>
      rw [em] at h'
      exact fun vs H1 r1 s1 f1 q1 => call_post r1 s1 f1 q1.list ((mArgs_length em).trans hn) h'
    | raise c y ρ1 => rw [em] at h'; exact h'
    | stuck => rw [em] at h'; exact h'
  refine PySem.W.callWith_K (h₀ := X.base) I.ok.mod.kin hh.kept (thn (ha.run pos pins s σ H _ I pre) fun us s1 ⟨vs, H1, I1, r1, q1⟩ => ⟨I1.kIn, ?_⟩) he hpl
  exact run_G (ar := ⟨us, []⟩) F (hr.mono hk) hg (hx σ) I1 r1 (fun l => .of_eq (hb kV dc pm an cd ct us l)) q1
/-- f() -/
theorem s_call0 (hc : Cal X.prog X.w X.K X.mg X.base CA k st x f 0) (hr : Room j X.A) (hg : X.A.guards = some []) (hx : ∀ σ, PassesAt (L2.CX X.prog X.w) X σ (E σ))
    (hb : ∀ (kV dc pm : Value) (an : Option Addr) (cd ct : Value), bindArgs (PySem.W.fnOf x x (fArgs st) (fBody st) (fScope st) .none kV dc pm an cd ct) ⟨[], []⟩ = pure ((fPars st).zip []))
    (hk : k ≤ j := by first | decide | omega) (hgl : Gl X x := by rfl) (hdb : (x == ("__debug__" : Str)) = false := by decide) :
    PE X (.Call (.Name x p) [] [] pos) (tM ⟨X.K, CA⟩ E (mCall f [])) := by
  obtain ⟨a, fd, F, hh⟩ := hc.ex
  obtain ⟨oc, od, kV, dc, pm, an, cd, ct, sl, rfl, lk, hcd⟩ := hh.ex
  refine ⟨fun pins s σ H Q I ⟨g, ρ, rp, h⟩ => ?_⟩
  refine wpAny_Call_Name_kw (ld_glob I hgl hh.named ?_ hdb)
  have h' : PostE ⟨X.K, CA⟩ E g σ ρ H H Q (mCallGo f [] ρ) := h
  have q1 := call_post (n := 0) (vs := []) rp (.refl _) (.refl _ _) ⟨rfl, fun j s e => by simp at e⟩ rfl h'
  exact PySem.W.callWith_K0 I.kIn hh.kept (run_G (ar := ⟨[], []⟩) F (hr.mono hk) hg (hx σ) I .nil (fun l => .of_eq (hb kV dc pm an cd ct)) q1)
end
end MP
end

section
set_option linter.all false
set_option autoImplicit true
namespace MP
open PySem
/-! ### built-in functions of data -/
def intsOf : List D → Option (List Int)
  | [] => some []
  | .int i :: xs => (intsOf xs).map fun is => i :: is
  | _ => none
def boolsOf : List D → Option (List Bool)
  | [] => some []
  | .bool i :: xs => (boolsOf xs).map fun is => i :: is
  | _ => none
def maxI : Int → List Int → Int
  | m, [] => m
  | m, i :: is => maxI (if m < i then i else m) is
def minI : Int → List Int → Int
  | m, [] => m
  | m, i :: is => minI (if i < m then i else m) is
def gSum : List D → Option SV
  | [.list xs] => (intsOf xs).map fun is => .d (.int is.sum)
  | _ => none
def gMax : List D → Option SV
  | [.list xs] => (intsOf xs).bind fun is => match is with
    | [] => none
    | i :: is => some (.d (.int (maxI i is)))
  | [.int i, .int j] => some (.d (.int (if j > i then j else i)))
  | _ => none
def gMin : List D → Option SV
  | [.list xs] => (intsOf xs).bind fun is => match is with
    | [] => none
    | i :: is => some (.d (.int (minI i is)))
  | [.int i, .int j] => some (.d (.int (if j < i then j else i)))
  | _ => none
def gAll : List D → Option SV
  | [.list xs] => (boolsOf xs).map fun is => .d (.bool (is.all id))
  | _ => none
def gAny : List D → Option SV
  | [.list xs] => (boolsOf xs).map fun is => .d (.bool (is.any id))
  | _ => none
def gAbs : List D → Option SV
  | [.int i] => some (.d (.int (if i < 0 then -i else i)))
  | _ => none
def gInt : List D → Option SV
  | [.int i] => some (.d (.int i))
  | [.bool b] => some (.d (.int (if b then 1 else 0)))
  | _ => none
def gStr : List D → Option SV
  | [.int i] => if i.natAbs.log2 < 1920 then some (.d (.str (toString i))) else none
  | [.str x] => some (.d (.str x))
  | _ => none
def gLst : List D → Option SV
  | [.list xs] => some (.own (.lst xs))
  | [.tuple xs] => some (.own (.lst xs))
  | _ => none
def gTup : List D → Option SV
  | [.list xs] => some (.d (.tuple xs))
  | [.tuple xs] => some (.d (.tuple xs))
  | _ => none
def sortI (is : List Int) : List Int := is.mergeSort fun a b => decide (a ≤ b)
def gSort : List D → Option SV
  | [.list xs] => (intsOf xs).map fun is => .own (.lst ((sortI is).map PyData.int))
  | _ => none
mutual
def noL : D → Bool
  | .list _ => false
  | .tuple xs => noLs xs
  | .dict kvs => noLk kvs
  | _ => true
def noLs : List D → Bool
  | [] => true
  | x :: xs => noL x && noLs xs
def noLk : List (D × D) → Bool
  | [] => true
  | (_, x) :: xs => noL x && noLk xs
end
def repOk (x : D) : Bool := x.showable && decide (x.shown.length ≤ line) && decide (x.depth ≤ 50) && (!x.hasDict || noL x)
def gRepr : List D → Option SV
  | [x] => if repOk x = true then some (.d (.str x.shown)) else none
  | _ => none
end MP
end

section
set_option Elab.async false
set_option linter.all false
set_option maxRecDepth 100000
set_option maxHeartbeats 4000000
set_option autoImplicit false
namespace MP
open PySem PySem.Spec L2

section
variable {K : Fg} {Pr : Addr → Prop} {H Hh : Hp} {Q : VK} {sv : SV}
theorem rp_intsOf : ∀ {xs : List D} {is : List Int} {vs : List V}, intsOf xs = some is → RpAll K Hh vs xs → vs = is.map V.int := by
  intro xs
  induction xs with
  | nil =>
    intro is vs h r
    cases h
    cases r
    rfl
  | cons x xs ih =>
    intro is vs h r
    unfold intsOf at h
    split at h
    · cases ‹List.cons _ _ = []›
    · rename_i i ys e
      cases e
      obtain ⟨js, e1, e2⟩ := Option.map_eq_some_iff.mp h
      subst e2
      cases r with
      | cons r1 r2 =>
        cases r1
        rw [ih e1 r2] <;> rfl
    · cases h
theorem rp_boolsOf : ∀ {xs : List D} {is : List Bool} {vs : List V}, boolsOf xs = some is → RpAll K Hh vs xs → vs = is.map V.bl := by
  intro xs
  induction xs with
  | nil =>
    intro is vs h r
    cases h
    cases r
    rfl
  | cons x xs ih =>
    intro is vs h r
    unfold boolsOf at h
    split at h
    · cases ‹List.cons _ _ = []›
    · rename_i i ys e
      cases e
      obtain ⟨js, e1, e2⟩ := Option.map_eq_some_iff.mp h
      subst e2
      cases r with
      | cons r1 r2 =>
        cases r1
        rw [ih e1 r2] <;> rfl
    · cases h
theorem one_list {vs : List V} {xs : List D} (h : TopAll K (hid Pr H) H vs [.list xs]) : ∃ a ws, vs = [.ref a] ∧ SqL K H a ws ∧ RpAll K (hid Pr H) ws xs := by
  cases h with
  | cons h1 h2 =>
    cases h2
    obtain ⟨a, ws, rfl, q, r⟩ := h1
    exact ⟨a, ws, rfl, q, r⟩
theorem one_tupU {vs : List V} {xs : List D} (h : TopAll K (hid Pr H) H vs [.tuple xs]) : ∃ a ws, vs = [.ref a] ∧ SqU K (hid Pr H) a ws xs ∧ RpAll K (hid Pr H) ws xs := by
  cases h with
  | cons h1 h2 =>
    cases h2
    obtain ⟨a, ws, rfl, q, r⟩ := h1
    exact ⟨a, ws, rfl, q, r⟩
theorem one_tup {vs : List V} {xs : List D} (h : TopAll K (hid Pr H) H vs [.tuple xs]) : ∃ a ws, vs = [.ref a] ∧ SqT K (hid Pr H) a ws ∧ RpAll K (hid Pr H) ws xs := by
  cases h with
  | cons h1 h2 =>
    cases h2
    obtain ⟨a, ws, rfl, q, r⟩ := h1
    exact ⟨a, ws, rfl, q.1, r⟩
theorem one_int {vs : List V} {i : Int} (h : TopAll K (hid Pr H) H vs [.int i]) : vs = [.int i] := by
  cases h with
  | cons h1 h2 =>
    cases h2
    cases h1
    rfl
theorem one_bool {vs : List V} {i : Bool} (h : TopAll K (hid Pr H) H vs [.bool i]) : vs = [.bl i] := by
  cases h with
  | cons h1 h2 =>
    cases h2
    cases h1
    rfl
theorem one_str {vs : List V} {i : Str} (h : TopAll K (hid Pr H) H vs [.str i]) : vs = [.str i] := by
  cases h with
  | cons h1 h2 =>
    cases h2
    cases h1
    rfl
theorem two_ints {vs : List V} {i j : Int} (h : TopAll K (hid Pr H) H vs [.int i, .int j]) : vs = [.int i, .int j] := by
  cases h with
  | cons h1 h2 =>
    cases h2 with
    | cons h2 h3 =>
      cases h3
      cases h1
      cases h2
      rfl
theorem og_sum : CallG (rSum K) K gSum := by
  intro Pr H vs xs sv Q tr hv e k
  unfold gSum at e
  split at e
  · obtain ⟨is, e1, e2⟩ := Option.map_eq_some_iff.mp e
    subst e2
    obtain ⟨a, ws, rfl, q, r⟩ := one_list hv
    rw [rp_intsOf e1 r] at q
    exact ⟨a, is, rfl, q, k _ _ (.refl _) res_int⟩
  · cases e
theorem og_all : CallG (rAll K) K gAll := by
  intro Pr H vs xs sv Q tr hv e k
  unfold gAll at e
  split at e
  · obtain ⟨is, e1, e2⟩ := Option.map_eq_some_iff.mp e
    subst e2
    obtain ⟨a, ws, rfl, q, r⟩ := one_list hv
    rw [rp_boolsOf e1 r] at q
    exact ⟨a, is, rfl, q, k _ _ (.refl _) res_bool⟩
  · cases e
theorem og_any : CallG (rAny K) K gAny := by
  intro Pr H vs xs sv Q tr hv e k
  unfold gAny at e
  split at e
  · obtain ⟨is, e1, e2⟩ := Option.map_eq_some_iff.mp e
    subst e2
    obtain ⟨a, ws, rfl, q, r⟩ := one_list hv
    rw [rp_boolsOf e1 r] at q
    exact ⟨a, is, rfl, q, k _ _ (.refl _) res_bool⟩
  · cases e
theorem maxI_ge : ∀ (is : List Int) (m : Int), m ≤ maxI m is ∧ (∀ i ∈ is, i ≤ maxI m is) ∧ (maxI m is = m ∨ maxI m is ∈ is)
  | [], m => ⟨Int.le_refl _, fun _ h => (by cases h), .inl rfl⟩
  | i :: is, m => by
    obtain ⟨h1, h2, h3⟩ := maxI_ge is (if m < i then i else m)
    have e : maxI m (i :: is) = maxI (if m < i then i else m) is := rfl
    rw [e]
    have hm : m ≤ (if m < i then i else m) ∧ i ≤ (if m < i then i else m) ∧ ((if m < i then i else m) = m ∨ (if m < i then i else m) = i) := by split <;> omega
    refine ⟨by omega, fun j hj => ?_, ?_⟩
    · rcases List.mem_cons.mp hj with rfl | hj
      · omega
      · exact h2 j hj
    · rcases h3 with h3 | h3
      · rw [h3]
        exact hm.2.2.imp id fun z => by rw [z]; exact List.mem_cons_self
      · exact .inr (List.mem_cons_of_mem _ h3)
theorem minI_le : ∀ (is : List Int) (m : Int), minI m is ≤ m ∧ (∀ i ∈ is, minI m is ≤ i) ∧ (minI m is = m ∨ minI m is ∈ is)
  | [], m => ⟨Int.le_refl _, fun _ h => (by cases h), .inl rfl⟩
  | i :: is, m => by
    obtain ⟨h1, h2, h3⟩ := minI_le is (if i < m then i else m)
    have e : minI m (i :: is) = minI (if i < m then i else m) is := rfl
    rw [e]
    have hm : (if i < m then i else m) ≤ m ∧ (if i < m then i else m) ≤ i ∧ ((if i < m then i else m) = m ∨ (if i < m then i else m) = i) := by split <;> omega
    refine ⟨by omega, fun j hj => ?_, ?_⟩
    · rcases List.mem_cons.mp hj with rfl | hj
      · omega
      · exact h2 j hj
    · rcases h3 with h3 | h3
      · rw [h3]
        exact hm.2.2.imp id fun z => by rw [z]; exact List.mem_cons_self
      · exact .inr (List.mem_cons_of_mem _ h3)
theorem og_max : CallG (fun xs H Q => rMax K xs H Q ∨ ∃ i j, xs = [.int i, .int j] ∧ Q (.int (if j > i then j else i)) H) K gMax := by
  intro Pr H vs xs sv Q tr hv e k
  unfold gMax at e
  split at e
  · obtain ⟨is, e1, e2⟩ := Option.bind_eq_some_iff.mp e
    obtain ⟨a, ws, rfl, q, r⟩ := one_list hv
    rw [rp_intsOf e1 r] at q
    split at e2
    · cases e2
    · rename_i i is
      cases e2
      obtain ⟨h1, h2, h3⟩ := maxI_ge is i
      refine .inl ⟨a, i :: is, rfl, q, Nat.succ_pos _, fun m hm hle => ?_⟩
      have em : m = maxI i is := by
        have l1 : maxI i is ≤ m := h3.elim (fun z => by rw [z]; exact hle i List.mem_cons_self) fun z => hle _ (List.mem_cons_of_mem _ z)
        have l2 : m ≤ maxI i is := by
          rcases List.mem_cons.mp hm with rfl | hm
          · exact h1
          · exact h2 m hm
        omega
      subst em
      exact k _ _ (.refl _) res_int
  · cases e
    rw [two_ints hv]
    exact .inr ⟨_, _, rfl, k _ _ (.refl _) res_int⟩
  · cases e
theorem og_min : CallG (fun xs H Q => rMin K xs H Q ∨ ∃ i j, xs = [.int i, .int j] ∧ Q (.int (if j < i then j else i)) H) K gMin := by
  intro Pr H vs xs sv Q tr hv e k
  unfold gMin at e
  split at e
  · obtain ⟨is, e1, e2⟩ := Option.bind_eq_some_iff.mp e
    obtain ⟨a, ws, rfl, q, r⟩ := one_list hv
    rw [rp_intsOf e1 r] at q
    split at e2
    · cases e2
    · rename_i i is
      cases e2
      obtain ⟨h1, h2, h3⟩ := minI_le is i
      refine .inl ⟨a, i :: is, rfl, q, Nat.succ_pos _, fun m hm hle => ?_⟩
      have em : m = minI i is := by
        have l1 : m ≤ minI i is := h3.elim (fun z => by rw [z]; exact hle i List.mem_cons_self) fun z => hle _ (List.mem_cons_of_mem _ z)
        have l2 : minI i is ≤ m := by
          rcases List.mem_cons.mp hm with rfl | hm
          · exact h1
          · exact h2 m hm
        omega
      subst em
      exact k _ _ (.refl _) res_int
  · cases e
    rw [two_ints hv]
    exact .inr ⟨_, _, rfl, k _ _ (.refl _) res_int⟩
  · cases e
theorem og_abs : CallG (fun xs H Q => ∃ i, xs = [.int i] ∧ Q (.int (if i < 0 then -i else i)) H) K gAbs := by
  intro Pr H vs xs sv Q tr hv e k
  unfold gAbs at e
  split at e
  · cases e
    rw [one_int hv]
    exact ⟨_, rfl, k _ _ (.refl _) res_int⟩
  · cases e
theorem og_int : CallG (fun xs H Q => (∃ i, xs = [.int i] ∧ Q (.int i) H) ∨ ∃ k, xs = [.bl k] ∧ Q (.int (if k then 1 else 0)) H) K gInt := by
  intro Pr H vs xs sv Q tr hv e k
  unfold gInt at e
  split at e
  · cases e
    rw [one_int hv]
    exact .inl ⟨_, rfl, k _ _ (.refl _) res_int⟩
  · cases e
    rw [one_bool hv]
    exact .inr ⟨_, rfl, k _ _ (.refl _) res_int⟩
  · cases e
theorem og_str : CallG (fun xs H Q => (∃ i, xs = [.int i] ∧ i.natAbs.log2 < 1920 ∧ Q (.str (toString i)) H) ∨ ∃ a, xs = [.str a] ∧ Q (.str a) H) K gStr := by
  intro Pr H vs xs sv Q tr hv e k
  unfold gStr at e
  split at e
  · split at e
    · cases e
      rw [one_int hv]
      exact .inl ⟨_, rfl, by assumption, k _ _ (.refl _) res_str⟩
    · cases e
  · cases e
    rw [one_str hv]
    exact .inr ⟨_, rfl, k _ _ (.refl _) res_str⟩
  · cases e
theorem og_lst : CallG (fun xs H Q => ∃ p ys, xs = [.ref p] ∧ (SqL K H p ys ∨ SqT K H p ys) ∧ ∀ l, H l = none → Q (.ref l) (upd H l (.lst ys))) K gLst := by
  intro Pr H vs xs sv Q tr hv e k
  unfold gLst at e
  split at e
  · cases e
    obtain ⟨a, ws, rfl, q, r⟩ := one_list hv
    exact ⟨a, ws, rfl, .inl q, fun l hl => k _ _ (.new hl) (res_lst hl r)⟩
  · cases e
    obtain ⟨a, ws, rfl, q, r⟩ := one_tup hv
    exact ⟨a, ws, rfl, .inr (hid_le.st q), fun l hl => k _ _ (.new hl) (res_lst hl r)⟩
  · cases e
def rTupF (K : Fg) : List V → Hp → VK → Prop := fun xs H Q => ∃ p ys, xs = [.ref p] ∧ ((SqL K H p ys ∧ QF Q H ys) ∨ (SqT K H p ys ∧ Q (.ref p) H))
theorem call_tupleF {X : Cx} : CallR X (.type "tuple") (rTupF X.K) := by
  intro pins s σ H xs us Q I r h
  obtain ⟨p, ys, rfl, h⟩ := h
  obtain ⟨u, rfl, rx⟩ := vals1 r
  cases rx
  rcases h with ⟨hq, q⟩ | ⟨hq, q⟩
  · obtain ⟨its, r', pl, hz⟩ := I.list hq
    have hlen := r'.length
    have hn := line63
    refine call_tuple_list pl.isList (fun h' kp => ?_) (by simp only [List.size_toArray] <;> omega)
    have I1 : Inv X pins σ H { s with heap := h' } := I.kept (t' := s.toks) kp
    exact ⟨.ref h'.objs.size, upd H h'.objs.size (.frz (tObj its) (.tup ys)), I1.laid (t' := s.toks) (fun b o e => Heap.get?_push_of_some _ e) (Nat.le_refl _) (tupF_ok hz r'), rfl, q _ _ rfl (I1.hok.fresh (Nat.le_refl _))⟩
  · obtain ⟨its, r', pl, hz⟩ := I.tuple hq
    exact call_tuple_same pl ⟨.ref p, H, I, rfl, q⟩
theorem og_tup : CallG (rTupF K) K gTup := by
  intro Pr H vs xs sv Q tr hv e k
  unfold gTup at e
  split at e
  · cases e
    obtain ⟨a, ws, rfl, q, r⟩ := one_list hv
    exact ⟨a, ws, rfl, .inl ⟨q, fun l o ho hl => k _ _ (.new hl) (res_tupF tr hl ho r)⟩⟩
  · cases e
    obtain ⟨a, ws, rfl, q, r⟩ := one_tupU hv
    exact ⟨a, ws, rfl, .inr ⟨hid_le.st q.1, k _ _ (.refl _) (show Rp _ _ _ _ from .tup q r)⟩⟩
  · cases e
theorem rp_ints_map : ∀ (is : List Int), RpAll K Hh (is.map V.int) (is.map PyData.int)
  | [] => .nil
  | i :: is => .cons (.int i) (rp_ints_map is)
theorem sortI_of {is js : List Int} (p : js.Perm is) (s : js.Pairwise (· ≤ ·)) : js = sortI is := by
  have s2 : (sortI is).Pairwise (· ≤ ·) := by
    have := List.pairwise_mergeSort (le := fun a b : Int => decide (a ≤ b)) (fun a b c h1 h2 => by simp at *; omega) (fun a b => by simp; omega) is
    exact this.imp fun h => by simpa using h
  have p2 : js.Perm (sortI is) := p.trans (List.mergeSort_perm is _).symm
  exact p2.eq_of_pairwise (fun a b _ _ h1 h2 => Int.le_antisymm h1 h2) s s2
theorem og_sort : CallG (rSortedI K) K gSort := by
  intro Pr H vs xs sv Q tr hv e k
  unfold gSort at e
  split at e
  · obtain ⟨is, e1, e2⟩ := Option.map_eq_some_iff.mp e
    subst e2
    obtain ⟨a, ws, rfl, q, r⟩ := one_list hv
    rw [rp_intsOf e1 r] at q
    refine ⟨a, is, rfl, q, fun js p h1 h2 hp => ?_⟩
    rw [sortI_of h1 h2]
    exact k _ _ (.new hp) (res_lst hp (rp_ints_map _))
  · cases e
end
section
variable {X : Cx} {pins : List (Addr × Obj)} {σ : St} {H : Hp} {s : Shared}
mutual
theorem Rp.reads2 (I : Inv X pins σ H s) : ∀ (d : D) (v : V) (u : Value), Rp X.K H v d → RelV v u → ∃ as, Reads s.heap u d as ∧ (noL d = true → sysModules ∉ as)
  | .none, _, _, h, r => by
    cases h
    cases r
    exact ⟨_, Reads.none, fun _ z => nomatch z⟩
  | .bool b, _, _, h, r => by
    cases h
    cases r
    exact ⟨_, Reads.bool b, fun _ z => nomatch z⟩
  | .int i, _, _, h, r => by
    cases h
    obtain ⟨t, rfl⟩ := r
    exact ⟨_, Reads.int i t, fun _ z => nomatch z⟩
  | .str x, _, _, h, r => by
    cases h
    obtain ⟨t, rfl⟩ := r
    exact ⟨_, Reads.str x t, fun _ z => nomatch z⟩
  | .list ds, v, u, h, r => by
    obtain ⟨as, q⟩ := Rp.reads I (.list ds) v u h r
    exact ⟨as, q, fun z => by simp [noL] at z⟩
  | .tuple ds, _, _, h, r => by
    cases h with
    | tup hs ha =>
      cases r
      obtain ⟨its, rv, ⟨o, ho, hc, n, hd⟩, _⟩ := I.tuple hs.1
      obtain ⟨as, hr, hn⟩ := RpAll.reads2 I ds _ its ha rv
      exact ⟨_, Reads.tuple ho hc hd hr, fun z => hn (by simpa [noL] using z)⟩
  | .dict kvs, _, _, h, r => by
    cases h with
    | dic hs ha =>
      cases r
      obtain ⟨_, nS, vs, kv, o, es, ep, ho, hx, hd, ks, hp, _⟩ := dk_rd I.hok hs
      obtain ⟨as, bs, r1, r2, n1, n2⟩ := RpKv.reads2 I kvs _ vs es.toList ha kv hp
      refine ⟨_, Reads.dict ho hx.1 hd r1 r2, fun z y => ?_⟩
      rcases List.mem_cons.mp (List.cons_append ▸ y) with y | y
      · rw [← y] at nS
        simp at nS
      · rcases List.mem_append.mp y with y | y
        · exact n1 y
        · exact n2 (by simpa [noL] using z) y
theorem RpAll.reads2 (I : Inv X pins σ H s) : ∀ (ds : List D) (vs : List V) (us : List Value), RpAll X.K H vs ds → Vals vs us → ∃ as, ReadsAll s.heap us ds as ∧ (noLs ds = true → sysModules ∉ as)
  | [], _, _, h, r => by
    cases h
    cases r
    exact ⟨_, ReadsAll.nil, fun _ z => nomatch z⟩
  | d :: ds, _, _, h, r => by
    cases h with
    | cons h1 h2 =>
      cases r with
      | cons r1 r2 =>
        obtain ⟨as, q1, n1⟩ := Rp.reads2 I d _ _ h1 r1
        obtain ⟨bs, q2, n2⟩ := RpAll.reads2 I ds _ _ h2 r2
        refine ⟨_, ReadsAll.cons q1 q2, fun z y => ?_⟩
        have z' : noL d = true ∧ noLs ds = true := by simpa [noLs] using z
        rcases List.mem_append.mp y with y | y
        · exact n1 z'.1 y
        · exact n2 z'.2 y
theorem RpKv.reads2 (I : Inv X pins σ H s) : ∀ (ds : List (D × D)) (vs : List (Key × V)) (us : List (Key × Value)) (es : List DictEntry), RpKv X.K H vs ds → KV vs us → Pairs (mixKind X.prog X.w) es us →
    ∃ as bs, ReadsAll s.heap (es.map (·.key)) (ds.map (·.1)) as ∧ ReadsAll s.heap (es.map (·.val)) (ds.map (·.2)) bs ∧ sysModules ∉ as ∧ (noLk ds = true → sysModules ∉ bs)
  | [], _, _, _, h, r, p => by
    cases h
    cases r
    cases p
    exact ⟨_, _, ReadsAll.nil, ReadsAll.nil, (fun z => nomatch z), fun _ z => nomatch z⟩
  | d :: ds, _, _, _, h, r, p => by
    cases h with
    | cons h1 h2 =>
      cases r with
      | cons r1 r2 =>
        cases p with
        | cons k1 e1 p' =>
          obtain ⟨as, bs, q1, q2, n1, n2⟩ := RpKv.reads2 I ds _ _ _ h2 r2 p'
          obtain ⟨r1a, r1b⟩ := r1
          obtain ⟨cs, q3, n3⟩ := Rp.reads2 I _ _ _ h1 r1b
          have r1c := r1a
          simp only at r1c
          rw [← e1] at q3
          have n4 : ∀ {x : D} {k : D}, noLk ((k, x) :: ds) = true → noL x = true ∧ noLk ds = true := fun {x k} z => by simpa [noLk] using z
          rcases keyIs_shape k1 with ⟨i, t, h3, h4⟩ | ⟨x, t, h3, h4⟩
          · rw [r1c, h3]
            refine ⟨_, _, ReadsAll.cons (show Reads s.heap _ (keyD (.inl i)) [] by simp only [h4]; exact Reads.int i t) q1, ReadsAll.cons q3 q2, n1, fun z y => ?_⟩
            rcases List.mem_append.mp y with y | y
            · exact n3 (n4 z).1 y
            · exact n2 (n4 z).2 y
          · rw [r1c, h3]
            refine ⟨_, _, ReadsAll.cons (show Reads s.heap _ (keyD (.inr x)) [] by simp only [h4]; exact Reads.str x t) q1, ReadsAll.cons q3 q2, n1, fun z y => ?_⟩
            rcases List.mem_append.mp y with y | y
            · exact n3 (n4 z).1 y
            · exact n2 (n4 z).2 y
end
def rRepr (K : Fg) : List V → Hp → VK → Prop := fun vs H Q => ∃ v x, vs = [v] ∧ Rp K H v x ∧ repOk x = true ∧ Q (.str x.shown) H
theorem cr_repr (hg : X.A.guards = some []) (hu : X.A.units + 64 < cLine) : CallR X (.builtin "repr") (rRepr X.K) := by
  intro pins s σ H vs us Q I r h
  obtain ⟨v, x, rfl, hx, ok, q⟩ := h
  obtain ⟨u, rfl, rv⟩ := vals1 r
  unfold repOk at ok
  rw [Bool.and_eq_true, Bool.and_eq_true, Bool.and_eq_true, decide_eq_true_eq, decide_eq_true_eq, Bool.or_eq_true, Bool.not_eq_true'] at ok
  obtain ⟨⟨⟨k1, k2⟩, k3⟩, k4⟩ := ok
  have k2' : x.shown.length ≤ sizeLine := by rw [sizeLine_eq]; exact k2
  obtain ⟨as, rd, ns⟩ := Rp.reads2 I x v u hx rv
  have hsm : x.hasDict = true → sysModules ∉ as := fun z => k4.elim (fun w => by rw [z] at w; cases w) ns
  have done : ∀ {h' : Heap} {tk u'}, (∀ b o, s.heap.get? b = some o → h'.get? b = some o) → EP X pins σ Q (.str x.shown u') { s with heap := h', toks := tk } := fun {h' tk u'} kp => ⟨.str x.shown, H, I.kept kp, ⟨_, rfl⟩, q⟩
  have ref : ∀ a, u = .ref a → wpAny (model X.prog X.w) X.A (call (.builtin "repr") [u]) (EP X pins σ Q) X.xe s := fun a e => by
    subst e
    exact repr_of_reads' rd k1 hsm hg (by omega) (fun _ _ z => z) (fun h' u' tk kp => done kp) k2'
  cases x with
  | none =>
    cases hx
    cases rv
    exact PySem.P.repr_of_none (done fun _ _ z => z)
  | bool b =>
    cases hx
    cases rv
    exact PySem.P.repr_of_bool (done fun _ _ z => z)
  | int i =>
    cases hx
    obtain ⟨t, rfl⟩ := rv
    have k1' : decide (i.natAbs.log2 < 1920) = true := by simpa [PyData.showable] using k1
    exact PySem.P.repr_of_int (of_decide_eq_true k1') (done fun _ _ z => z)
  | str y =>
    cases hx
    obtain ⟨t, rfl⟩ := rv
    exact PySem.P.repr_of_str (done fun _ _ z => z) k2'
  | list ds => cases hx with | lst hs ha => exact ref _ rv
  | tuple ds => cases hx with | tup hs ha => exact ref _ rv
  | dict ds => cases hx with | dic hs ha => exact ref _ rv
theorem og_repr {K : Fg} : CallG (rRepr K) K gRepr := by
  intro Pr H vs xs sv Q tr hv e k
  unfold gRepr at e
  split at e
  · split at e
    · cases e
      cases hv with
      | cons h1 h2 =>
        cases h2
        exact ⟨_, _, rfl, h1.rp hid_le, by assumption, k _ _ (.refl _) res_str⟩
    · cases e
  · cases e
end
end MP
end

section
set_option Elab.async false
set_option linter.all false
set_option maxRecDepth 100000
set_option maxHeartbeats 4000000
set_option autoImplicit false
namespace MP
open PySem PySem.Spec L2

section
variable {X : Cx} {P : Pk} {E : St → XK} {te a b : Expr} {ma mb : ME} {p pos p2 p3 p4 p5 : Pos}
/-! ### x[::-1] -/
theorem rev_adjust (n : Nat) : Builtin.Slice.sliceAdjust none none (-1) (n : Int) = ((n : Int) - 1, -1) := rfl
theorem rev_places (n : Nat) : Builtin.Slice.slicePlaces ((n : Int) - 1) (-1) (-1) = n := by
  unfold Builtin.Slice.slicePlaces
  rw [if_neg (by decide)]
  by_cases h : (n : Int) - 1 > -1
  · rw [if_pos h]
    have e : ((n : Int) - 1 - -1 - 1) / (- -1) + 1 = n := by
      rw [show (- -1 : Int) = 1 by decide, Int.ediv_one]
      omega
    rw [e, Int.toNat_natCast]
  · rw [if_neg h]
    have : n = 0 := by omega
    subst this
    rfl
theorem fm_congr {α β : Type} {f g : α → Option β} : ∀ {l : List α}, (∀ x ∈ l, f x = g x) → l.filterMap f = l.filterMap g
  | [], _ => rfl
  | x :: l, h => by
    rw [List.filterMap_cons, List.filterMap_cons, h x List.mem_cons_self, fm_congr fun y hy => h y (List.mem_cons_of_mem _ hy)]
theorem rev_pick (xs : Array Value) : ((List.range xs.size).filterMap fun (k : Nat) => xs[(((xs.size : Int) - 1) + (k : Int) * (-1)).toNat]?).toArray = xs.toList.reverse.toArray := by
  have e : (fun (k : Nat) => xs[(((xs.size : Int) - 1) + (k : Int) * (-1)).toNat]?) = fun (k : Nat) => xs[((xs.size : Int) - 1 - (k : Int)).toNat]? := by
    funext k
    have : ((xs.size : Int) - 1) + (k : Int) * (-1) = (xs.size : Int) - 1 - (k : Int) := by omega
    rw [this]
  rw [e, ← PySem.W.krv_all xs, ← List.filterMap_reverse, ← PySem.W.krv_range, List.filterMap_map]
  congr 1
  apply fm_congr
  intro k hk
  have := List.mem_range.mp hk
  show xs[((xs.size : Int) - 1 - (k : Int)).toNat]? = xs[xs.size - 1 - k]?
  have : ((xs.size : Int) - 1 - (k : Int)).toNat = xs.size - 1 - k := by omega
  rw [this]
theorem turned_tuple {prog : Program} {w : World} {A : Around} {W : Value → Shared → Prop} {s : Shared} {t sl : Addr} {items : Array Value} {vs : Value} {Q : Value → Shared → Prop} (ht : PyProof.Rows.IsTup s.heap t items) (hs : s.heap.IsSliceOf sl .none .none vs) (ps : IsPart vs (some (-1)))
    (h : Q (.ref s.heap.objs.size) { s with heap := s.heap.push { cls := .type "tuple", data := .seq items.toList.reverse.toArray } })
    (hsz : items.size ≤ sizeLine) : wpAny (model prog w) A (getItem (.ref t) (.ref sl)) Q W s := by
  have fits : sizeOk (.seq items.toList.reverse.toArray) := by
    show items.toList.reverse.toArray.size ≤ sizeLine
    rw [List.size_toArray, List.length_reverse, Array.length_toList]
    exact hsz
  obtain ⟨os, o1, o2, o3⟩ := id hs
  have tyS : s.TypeIs (.ref sl) "slice" := ⟨os, o1, o2⟩
  unfold getItem
  try with_reducible refine wpAny_holding ?_
  first | refine wpAny_bind (wpAny_pure ?_) | skip
  refine wpAny_bind (wpAny_sequenceKey ht.typeIs (by decide) ?_)
  refine wpAny_bind (wpAny_callSpecial?_slot (name := Str.ofString "__getitem__") ht.typeIs PyProof.Rows.slot_tuple_getitem
    (wpAny_call_entry PyProof.Rows.slot_tuple_getitem ht.typeIs PyProof.Rows.entry_tuple_getitem ?_ (PyProof.Rows.args_tuple_getitem _ _)))
  show wpAny _ _ (Builtin.Tuple.tupleItemsOf (.ref t) >>= _) _ _ s
  refine wpAny_bind (PyProof.Rows.tupleItemsOf_ ht ?_)
  refine wpAny_bind (wpAny_typeOf tyS ?_)
  rw [if_pos (by decide)]
  have app : ∀ {B : Around} {Z : Value → Shared → Prop} {R : Int × Int × Nat → Shared → Prop}, R ((items.size : Int) - 1, -1, items.size) s → wpAny (model prog w) B (Builtin.Slice.sliceApplied (.ref sl) (pure (items.size : Int))) R Z s := fun {B Z R} hR => by
    unfold Builtin.Slice.sliceApplied Builtin.Slice.sliceFields
    refine wpAny_bind (wpAny_bind (wpAny_field o1 o3 (x := .none) rfl (wpAny_bind (wpAny_field o1 o3 (x := .none) rfl (wpAny_bind (wpAny_field o1 o3 (x := vs) rfl (wpAny_pure ?_)))))))
    refine wpAny_bind (HT.slicePart_ ps ?_)
    show wpAny _ _ (if ((-1 : Int) == 0) = true then _ else _) _ _ s
    rw [if_neg (by decide)]
    refine wpAny_bind (PyProof.Rows.slicePart_none (wpAny_bind (PyProof.Rows.slicePart_none (wpAny_bind (wpAny_pure ?_)))))
    show wpAny _ _ (match Builtin.Slice.sliceAdjust none none (-1) (items.size : Int) with | (lo, hi) => pure (lo, (-1 : Int), Builtin.Slice.slicePlaces lo hi (-1))) _ _ s
    rw [rev_adjust]
    show wpAny _ _ (pure ((items.size : Int) - 1, (-1 : Int), Builtin.Slice.slicePlaces ((items.size : Int) - 1) (-1) (-1))) _ _ s
    rw [rev_places]
    exact wpAny_pure hR
  refine wpAny_bind (app ?_)
  have hno : ¬ ((((items.size : Int) - 1) == 0 && (-1 : Int) == 1 && items.size == items.size) = true) := by
    rw [show ((-1 : Int) == 1) = false from rfl, Bool.and_false, Bool.false_and]
    exact Bool.false_ne_true
  show wpAny _ _ (if (((items.size : Int) - 1) == 0 && (-1 : Int) == 1 && items.size == items.size) = true then _ else _) _ _ s
  rw [if_neg hno, rev_pick]
  first
    | exact wpAny_bind (m := Builtin.Tuple.tupleExact _) (wpAny_newObj_type (wpAny_pure ⟨_, rfl, wpAny_pure h⟩) fits)
    | exact wpAny_bind (m := Builtin.Tuple.tupleExact _) (wpAny_newObj_type (wpAny_bind (wpAny_pure (wpAny_pure ⟨_, rfl, wpAny_pure h⟩))) fits)
    | exact wpAny_bind (wpAny_bind (m := Builtin.Tuple.tupleExact _) (wpAny_newObj_type (wpAny_pure (wpAny_pure ⟨_, rfl, wpAny_pure h⟩)) fits))
    | exact wpAny_bind (wpAny_bind (m := Builtin.Tuple.tupleExact _) (wpAny_newObj_type (wpAny_pure ⟨_, rfl, wpAny_pure h⟩) fits))
def tRevT (K : Fg) (te : TE) : TE := fun σ H Q => te σ H fun x H1 => ∃ a xs, x = .ref a ∧ SqT K H1 a xs ∧ QF Q H1 xs.reverse
theorem pe_revT {te : TE} {k : Nat} (he : PE X a te) : PE X (.Subscript a (.Slice none none (some (.UnaryOp .USub (.Constant (.int 1) k p2) p3)) p4) pos) (tRevT X.K te) := by
  refine ⟨fun pins s σ H Q I h => ?_⟩
  refine PyProof.Rows.Subscript_ (thn (he.run pins s σ H _ I h) fun v s1 ⟨x, H1, I1, r1, q1⟩ => ?_)
  obtain ⟨ad, xs, ex, hx, q⟩ := q1
  subst ex
  cases r1
  have part : PO X (some (.UnaryOp .USub (.Constant (.int 1) k p2) p3)) (tPart (tUn (rU fun i => .int (-i)) (tC (.int 1)))) := po_some (pe_un un_neg pe_int)
  refine wpAny_Slice ?_
  rw [evalPart_none]
  refine wpAny_pure (wpAny_pure ?_)
  refine thn (part.run pins s1 σ H1 (fun o H4 => o = some (-1) ∧ H4 = H1) I1 ⟨1, rfl, -1, rfl, rfl, rfl⟩) fun vs s4 ⟨o, H4, I4, ps, eo, e4⟩ => ?_
  subst eo e4
  have J : Inv X pins σ H4 { s4 with heap := s4.heap.push { cls := .type "slice", data := .fields #[.none, .none, vs] } } := I4.kept (t' := s4.toks) fun b ob q => Heap.get?_push_of_some _ q
  obtain ⟨its, r, ht, hz⟩ := J.tuple hx
  have hl := r.length
  show wpAny (model X.prog X.w) X.A (PyProof.Rows.subscriptTail a (.Slice none none (some (.UnaryOp .USub (.Constant (.int 1) k p2) p3)) p4) (.ref ad) (.ref s4.heap.objs.size)) (EP X pins σ Q) X.xe { s4 with heap := s4.heap.push { cls := .type "slice", data := .fields #[.none, .none, vs] } }
  refine PyProof.Rows.tail_any (ops := [.ref ad, .ref s4.heap.objs.size]) ht.typeIs (PyProof.Rows.slot_tuple_getitem.lookup) ?_ (by with_unfolding_all rfl)
  refine turned_tuple ht (Heap.IsSliceOf.new _ .none .none vs) ps ?_ (by rw [List.size_toArray]; omega)
  exact ⟨.ref _, _, J.laid (t' := s4.toks) (o := .frz (tObj its.reverse) (.tup xs.reverse)) (fun b ob q => Heap.get?_push_of_some _ q) (Nat.le_refl _) (tupF_ok (by rw [List.length_reverse]; exact hz) r.reverse), rfl, q _ _ rfl (J.hok.fresh (Nat.le_refl _))⟩
theorem peOr {t t' : TE} (h : PE X a t) (h' : PE X a t') : PE X a (fun σ H Q => t σ H Q ∨ t' σ H Q) := ⟨fun pins s σ H Q I q => q.elim (h.run pins s σ H Q I) (h'.run pins s σ H Q I)⟩
theorem s_rev {k : Nat} (ha : PE X a (tM P E ma)) (hK : X.K = P.K := by rfl) : PE X (.Subscript a (.Slice none none (some (.UnaryOp .USub (.Constant (.int 1) k p2) p3)) p4) pos) (tM P E (m1 revD ma)) := by
  obtain ⟨K, CA⟩ := P
  subst hK
  refine PE.imp (peOr (pe_revL ha) (pe_revT ha)) fun σ H Q ⟨g, ρ, rp, h⟩ => ?_
  have h' : PostE ⟨X.K, CA⟩ E g σ ρ H H Q ((ma ρ).bind fun v ρ1 => viewB ρ1 v fun x => opt (revD x) ρ1) := h
  cases e : ma ρ with
  | raise c x ρ1 =>
    rw [e] at h'
    exact .inl ⟨g, ρ, rp, by rw [e]; exact h'⟩
  | stuck =>
    rw [e] at h'
    exact h'.elim
  | ok sv ρ1 =>
    rw [e, Out.bind_ok] at h'
    obtain ⟨x, ex, h1⟩ := viewB_some' h'
    obtain ⟨z, ez, h1⟩ := opt_of h1
    unfold revD at ez
    split at ez
    · cases ez
      refine .inl ⟨g, ρ, rp, ?_⟩
      rw [e]
      intro v H1 r1 s1 f1 q1
      obtain ⟨ad, ws, rfl, w1, w2⟩ := q1.top r1 ex
      exact ⟨ad, ws, rfl, w1, fun p hp => post_res r1 f1.free (PostG.step h1 s1 f1) (.new hp) (res_lst hp w2.reverse)⟩
    · cases ez
      refine .inr ⟨g, ρ, rp, ?_⟩
      rw [e]
      intro v H1 r1 s1 f1 q1
      obtain ⟨ad, ws, rfl, w1, w2⟩ := q1.top r1 ex
      exact ⟨ad, ws, rfl, hid_le.st w1.1, fun p o ho hp => post_res r1 f1.free (PostG.step h1 s1 f1) (.new hp) (res_tupF (fun _ z => r1.out_some z) hp ho w2.reverse)⟩
    · cases ez
/-! ### constants of the module -/
theorem s_glI {x : Str} {i : Int} {tk : Tok} (hm : X.mg x = some (.int i tk)) (hg : Gl X x := by rfl) (hd : (x == ("__debug__" : Str)) = false := by decide) : PE X (.Name x pos) (tM P E (mC (.int i))) :=
  PE.imp (pe_glob hg hm (show RelV (.int i) _ from ⟨tk, rfl⟩) hd) (tM_c fun _ _ => .int i)
def KeysI : List DictEntry → List Int → Prop
  | [], [] => True
  | e :: r, i :: is => (∃ t, e.key = .int i t) ∧ e.hash = hashInt i ∧ KeysI r is
  | _, _ => False
/-- a written dict, int keys -/
structure KTab (K : Fg) (ad : Addr) (ks : List Int) : Prop where
  ex : ∃ (es : Array DictEntry) (n : Nat), K.lookup ad = some ⟨.type "dict", none, .dict es n, #[]⟩ ∧ KeysI es.toList ks
  low : (ad == sysModules) = false
theorem KeysI.all {PP : Program} {w : World} : ∀ {es : List DictEntry} {ks : List Int}, KeysI es ks → ∀ e ∈ es, ∃ k : Key, (mixKind PP w).is k e.key = true ∧ e.hash = (mixKind PP w).hash k
  | [], [], _, e, h => by cases h
  | [], _ :: _, h, _, _ => h.elim
  | _ :: _, [], h, _, _ => h.elim
  | x :: es, k :: ks, h, e, he => by
    obtain ⟨⟨t, h1⟩, h2, h3⟩ := h
    rcases List.mem_cons.mp he with rfl | he
    · exact ⟨.inl k, by rw [h1]; exact mixKind_int PP w k t, h2⟩
    · exact KeysI.all h3 e he
theorem KeysI.find {i : Int} : ∀ {es : List DictEntry} {ks : List Int}, KeysI es ks → (es.find? fun d => keyIs (.inl i) d.key).isSome = ks.contains i
  | [], [], _ => rfl
  | [], _ :: _, h => h.elim
  | _ :: _, [], h => h.elim
  | x :: es, k :: ks, h => by
    obtain ⟨⟨t, h1⟩, h2, h3⟩ := h
    have e : keyIs (.inl i) x.key = (i == k) := by
      rw [h1]
      unfold keyIs Value.isInt
      by_cases h : i = k
      · subst h; simp
      · have h' : ¬ k = i := fun z => h z.symm
        rw [beq_eq_false_iff_ne.mpr h]
        exact beq_eq_false_iff_ne.mpr h'
    rw [List.find?_cons, e, List.contains_cons]
    cases hk : (i == k) with
    | true => rfl
    | false =>
      rw [Bool.false_or]
      exact KeysI.find h3
theorem KTab.mapOf {ad : Addr} {ks : List Int} {PP : Program} {w : World} {K : Fg} {h : Heap} (t : KTab K ad ks) (X : K.In h) : ∃ f, h.MapOf (mixKind PP w) ad f ∧ ∀ i : Int, (f (.inl i)).isSome = ks.contains i := by
  obtain ⟨es, n, h1, h2⟩ := t.ex
  refine ⟨fun k => findBy (mixKind PP w).is es k, ⟨_, es, n, X _ _ h1, ⟨rfl, rfl, rfl⟩, rfl, fun e he => h2.all e (Array.mem_toList_iff.mpr he), fun _ => rfl⟩, fun i => ?_⟩
  rw [← h2.find]
  show (findBy keyIs es (.inl i)).isSome = _
  unfold findBy
  rw [← Array.find?_toList, Option.isSome_map]
def rInT (ad : Addr) (ks : List Int) : R2 := fun x y H Q => ∃ i, x = .int i ∧ y = .ref ad ∧ Q (.bl (ks.contains i)) H
theorem op_inT {ad : Addr} {ks : List Int} (t : KTab X.K ad ks) : OpR X (compareOp .In) (rInT ad ks) := by
  intro pins s σ H x y v u Q I rx ry h
  obtain ⟨i, rfl, rfl, q⟩ := h
  obtain ⟨tk, rfl⟩ := rx
  cases ry
  obtain ⟨f, hf, hs⟩ := t.mapOf (PP := X.prog) (w := X.w) I.kIn
  refine wpAny_in_of (mixKind_int X.prog X.w i tk) t.low hf ?_
  rw [hs]
  exact ⟨.bl _, H, I.tok _, rfl, q⟩
theorem s_inT {ad : Addr} {ks : List Int} {y : Str} (t : KTab X.K ad ks) (hm : X.mg y = some (.ref ad)) (ha : PE X a (tM P E ma)) (hg : Gl X y := by rfl) (hd : (y == ("__debug__" : Str)) = false := by decide) (hm' : behindInMarks .In (.Name y p2) = false := by with_unfolding_all rfl) :
    PE X (.Compare a [.In] [.Name y p2] pos) (tM P E (m1 (cInT ks) ma)) := by
  refine PE.imp (pe_cmpR (op_inT t) ha (pe_glob (v := .ref ad) hg hm rfl hd) hm') fun σ H Q ⟨g, ρ, rp, h⟩ => ?_
  refine ⟨g, ρ, rp, bindG (R := RVP P) (R' := RVP P) h fun sv ρ1 v H1 r1 s1 f1 q1 h1 => ?_⟩
  obtain ⟨x, ex, h1⟩ := viewB_some' h1
  obtain ⟨z, ez, h1⟩ := opt_of h1
  have tp := q1.top r1 ex
  unfold cInT at ez
  split at ez
  · cases ez
    cases tp
    exact ⟨_, rfl, rfl, post_res r1 f1.free h1 (.refl _) res_bool⟩
  · cases ez
/-! ### new dicts -/
theorem s_d0 : PE X (.Dict [] [] pos) (tM P E mDct0) := PE.imp pe_dnewK fun σ H Q ⟨g, ρ, rp, h⟩ p hp => by
  refine post_res rp (Free.refl _) h (.new hp) ⟨p, rfl, hp, [], upd_same, .nil⟩
theorem s_d1 {i j : Int} {k l : Nat} : PE X (.Dict [some (.Constant (.int i) k p2)] [.Constant (.int j) l p3] pos) (tM P E (mDct1 i j)) := by
  refine PE.imp (pe_disp (pps_cons pe_int pe_int pps_nil) rfl rfl (by intro h; cases h) (by show 1 ≤ 15; decide)) fun σ H Q ⟨g, ρ, rp, h⟩ p hp => ?_
  refine ⟨upd_same, [(.inl i, .int j)], rfl, (by show 1 ≤ 15; decide), ?_⟩
  have e : upd (upd H p (.dK [])) p (.dK (mergeK [] [(.inl i, .int j)])) = upd H p (.dK [(.inl i, .int j)]) := by
    funext a
    by_cases z : a = p
    · subst z
      rw [upd_same, upd_same] <;> rfl
    · rw [upd_ne z, upd_ne z, upd_ne z]
  rw [e]
  exact post_res rp (Free.refl _) h (.new hp) ⟨p, rfl, hp, [(.inl i, .int j)], upd_same, .cons (.int j) .nil⟩
/-! ### enumerate -/
theorem enum_get : ∀ {xs : List D} {k : Int} {i : Nat} {x : D}, (enumFrom k xs)[i]? = some x → ∃ y, xs[i]? = some y ∧ x = .tuple [.int (k + i), y]
  | [], k, i, x, h => by simp [enumFrom] at h
  | y :: ys, k, 0, x, h => by
    simp [enumFrom] at h
    exact ⟨y, rfl, by rw [← h]; simp⟩
  | y :: ys, k, i + 1, x, h => by
    have h' : (enumFrom (k + 1) ys)[i]? = some x := by simpa [enumFrom] using h
    obtain ⟨z, h1, h2⟩ := enum_get h'
    refine ⟨z, by simpa using h1, ?_⟩
    rw [h2]
    have : k + 1 + (i : Int) = k + ((i + 1 : Nat) : Int) := by omega
    rw [this]
theorem enum_len : ∀ {xs : List D} {k : Int}, (enumFrom k xs).length = xs.length
  | [], k => rfl
  | y :: ys, k => congrArg (· + 1) (enum_len (xs := ys) (k := k + 1))
theorem jok_enum {K : Fg} {Pr : Addr → Prop} {H1 : Hp} {l : Addr} {vs : List V} {xs : List D} (h : SqL K (hid Pr H1) l vs) (r : RpAll K (hid Pr H1) vs xs) : JOk K (Ite K l) (enumFrom 0 xs) Pr H1 := by
  refine ⟨fun H lt i hi => ?_, fun H lt => ?_, fun H lt i x v H' e y => ?_⟩
  · rw [enum_len, ← r.length] at hi
    exact ⟨vs, vs[i], later_sl lt h, List.getElem?_eq_getElem hi⟩
  · rw [enum_len, ← r.length]
    exact ⟨vs, later_sl lt h, Nat.le_refl _⟩
  · obtain ⟨T, z, rfl, hT, rfl, hz⟩ := y
    obtain ⟨d, e1, rfl⟩ := enum_get e
    obtain ⟨u, e2, e3⟩ := r.get e1
    have ez : u = z := Option.some.inj (e2.symm.trans (hz vs (later_sl lt h)))
    subst ez
    have nT : ∀ a o, hid Pr H1 a = some o → a ≠ T := fun a o q z => by
      obtain ⟨n, q⟩ := hid_some.mp q
      rw [z] at q
      by_cases hp : Pr T
      · exact n (by rw [z]; exact hp)
      · rw [lt T o q hp] at hT
        cases hT
    refine ⟨.new hT, (· = T), fun a z => by rw [z]; exact hT, ?_⟩
    refine Rp.tup (xs := [.int (i : Nat), u]) ⟨SqT.of ?_, fun z => by simp [pairy] at z⟩ (.cons ?_ (.cons (e3.grow fun a o q => ?_) .nil))
    · unfold joinN
      rw [if_pos rfl]
      exact upd_same
    · rw [Int.zero_add]
      exact .int _
    · unfold joinN
      rw [if_neg (nT a o q)]
      exact q
theorem i_enum {elts : List Expr} {kk : Nat} (hm : X.mg "enumerate" = none) (ha : PE X a (tM P E ma)) (hK : X.K = P.K := by rfl) (hg : Gl X "enumerate" := by rfl) (he : starEach [a] X.env = (false, eval a X.env) :: starEach [] X.env := by rfl) (hs : starEach [a] X.env = [(false, eval a X.env)] := by rfl) :
    PI X (.Tuple elts kk p4) (.Call (.Name "enumerate" p) [a] [] pos) (iM P E (i1 enumD ma)) := by
  obtain ⟨K, CA⟩ := P
  subst hK
  refine PI.imp (pi_enum hg hm (pa_cons ha pa_nil he) hs) fun σ H R ⟨g, ρ, r, h⟩ => ?_
  refine ⟨g, ρ, r, bindG (R := RVP _) (R' := RJ _) h fun sv ρ1 v H1 r1 s1 f1 q1 h1 => ?_⟩
  obtain ⟨x, ex, h1⟩ := toB_some h1
  obtain ⟨z, ez, h1⟩ := opt_of h1
  have k := q1.keep ex
  unfold enumD at ez
  split at ez
  · cases ez
    cases k with
    | lst k1 k2 => exact ⟨_, _, rfl, hid_le.sl k1, h1 _ H1 r1 (.refl _) (.refl _ _) (jok_enum k1 k2)⟩
  · cases ez
end
end MP
end

section
set_option Elab.async false
set_option linter.all false
set_option maxRecDepth 100000
set_option maxHeartbeats 4000000
set_option autoImplicit false
namespace MP
open PySem PySem.Spec L2

section
variable {X : Cx} {P : Pk} {E : St → XK} {a b c : Expr} {es : List Expr} {ma mb mc : ME} {ms : List ME} {pos p p2 p3 : Pos}
/-! ### a < b < c as a test -/
theorem t_ch {op op' : CmpOp} {r r' : R2} {f f' : D → D → Option SV} (ho : OpR X (compareOp op) r) (hg : OpG r P.K f) (ho' : OpR X (compareOp op') r') (hg' : OpG r' P.K f') (bf : BoolF f') (ha : PE X a (tM P E ma)) (hb : PE X b (tM P E mb)) (hc : PE X c (tM P E mc))
    (hm : lastMarks [op, op'] [b, c] = false := by with_unfolding_all rfl) : PT X (.Compare a [op, op'] [b, c] pos) (tT P E (mTr (mCh f f' ma mb mc))) := by
  refine PT.imp (pt_chain ho ho' ha hb hc hm) fun σ H Q ⟨g, ρ, rp, h⟩ => ?_
  refine ch_of hg hg' σ H _ ⟨g, ρ, rp, ?_⟩
  have h' : PostT P E g σ ρ H H Q ((mCh f f' ma mb mc ρ).bind fun v ρ1 => viewB ρ1 v fun x => opt (truth x) ρ1) := h
  have shape : ∀ v ρ1, mCh f f' ma mb mc ρ = .ok v ρ1 → ∃ k, v = .d (.bool k) := fun v ρ1 e => by
    have e' : ((ma ρ).bind fun u ρ1 => (mb ρ1).bind fun v ρ2 => toB u fun x => toB v fun y => (opt ((f x y).bind boolOf) ρ2).bind fun k ρ3 =>
      if k = true then (mc ρ3).bind fun w ρ4 => toB w fun z => opt (((f' y z).bind boolOf).map fun q => SV.d (.bool q)) ρ4 else .ok (.d (.bool false)) ρ3) = .ok v ρ1 := e
    cases e1 : ma ρ with
    | raise c x ρ2 => rw [e1] at e'; cases e'
    | stuck => rw [e1] at e'; cases e'
    | ok u ρ2 =>
      rw [e1, Out.bind_ok] at e'
      cases e2 : mb ρ2 with
      | raise c x ρ2 => rw [e2] at e'; cases e'
      | stuck => rw [e2] at e'; cases e'
      | ok w ρ3 =>
        rw [e2, Out.bind_ok] at e'
        obtain ⟨x, _, e'⟩ := toB_ok e'
        obtain ⟨y, _, e'⟩ := toB_ok e'
        cases e3 : (f x y).bind boolOf with
        | none => rw [e3] at e'; cases e'
        | some k =>
          rw [e3, opt_some, Out.bind_ok] at e'
          cases k with
          | false =>
            rw [if_neg Bool.false_ne_true] at e'
            cases e'
            exact ⟨_, rfl⟩
          | true =>
            rw [if_pos rfl] at e'
            cases e4 : mc ρ3 with
            | raise c x ρ2 => rw [e4] at e'; cases e'
            | stuck => rw [e4] at e'; cases e'
            | ok z ρ4 =>
              rw [e4, Out.bind_ok] at e'
              obtain ⟨z', _, e'⟩ := toB_ok e'
              cases e5 : (f' y z').bind boolOf with
              | none => rw [e5] at e'; cases e'
              | some k2 =>
                rw [e5] at e'
                cases e'
                exact ⟨_, rfl⟩
  cases e : mCh f f' ma mb mc ρ with
  | raise c x ρ1 => rw [e] at h'; exact h'
  | stuck => rw [e] at h'; exact h'.elim
  | ok v ρ1 =>
    obtain ⟨k, rfl⟩ := shape v ρ1 e
    rw [e] at h'
    intro v' H' r1 s1 f1 q1
    have ev : v' = .bl k := q1.is_bl
    exact ⟨k, ev, h' k H' r1 s1 f1 rfl⟩
end
/-! ### keywords -/
section
variable {X : Cx} {CA : Str → Addr} {k j n : Nat} {x : Str} {st : Stmt} {f : F} {ks : List Str} {E : St → XK} {e : Expr} {kws : List Keyword} {p pos kpos : Pos} {m : ME} {ms : List ME} {nm : Option Str} {P : Pk}
theorem k_nil : PK X [] (tAs P E []) := ⟨fun pos pins s σ H Q I ⟨g, ρ, r, h⟩ => pk_nil.run pos pins s σ H Q I (h [] H r (.refl _) (.refl _ _) .nil)⟩
theorem cons_of : ∀ σ H Q, tAs P E (m :: ms) σ H Q → tCons (tM P E m) (tAs P E ms) σ H Q := fun σ H Q ⟨g, ρ, r, h⟩ => by
  refine ⟨g, ρ, r, bindG (R := RVP P) (R' := RAP P) (f := fun v ρ1 => (mArgs ms ρ1).bind fun vs ρ2 => .ok (v :: vs) ρ2) h fun sv ρ1 v H1 r1 s1 f1 q1 h1 => ?_⟩
  have h2 := PostG.more less_A h1 (le_gadd g v sv)
  refine ⟨gadd g v sv, ρ1, q1.gadd r1, ?_⟩
  cases e : mArgs ms ρ1 with
  | ok ss ρ2 => rw [e] at h1; exact fun vs H2 r2 s2 f2 q2 => h1 (v :: vs) H2 (r2.less (le_gadd g v sv)) s2 f2 (.cons (q1.later_own s2 f2 r2) (q2.older f1.free))
  | raise c x ρ2 => rw [e] at h2; exact h2
  | stuck => rw [e] at h2; exact h2
theorem k_cons (ha : PE X e (tM P E m)) (hr : PK X kws (tAs P E ms)) : PK X (⟨nm, e, kpos⟩ :: kws) (tAs P E (m :: ms)) := ⟨fun pos pins s σ H Q I q => (pk_cons ha hr).run pos pins s σ H Q I (cons_of σ H Q q)⟩
def permS (perm : List Nat) (vs : List SV) : List SV := perm.map fun j => vs[j]?.getD (.d .none)
theorem RVl.perm {K : Fg} {g : Gh} {H0 H : Hp} {σ : St} {ρ : En} {vs : List V} {ss : List SV} (r : RVl K g H0 H σ ρ vs ss) {perm : List Nat} (h : ∀ j ∈ perm, j < ss.length) : RVl K g H0 H σ ρ (perm.map fun j => vs[j]?.getD .non) (permS perm ss) := by
  refine ⟨by unfold permS; rw [List.length_map, List.length_map], fun i s e => ?_⟩
  unfold permS at e
  rw [List.getElem?_map] at e
  cases ep : perm[i]? with
  | none => rw [ep] at e; cases e
  | some j =>
    rw [ep] at e
    have hj := h j (List.mem_of_getElem? ep)
    have es : ss[j]? = some ss[j] := List.getElem?_eq_getElem hj
    have e' : some (ss[j]?.getD (.d .none)) = some s := e
    rw [es] at e'
    obtain ⟨v, h1, h2⟩ := r.at' j _ es
    refine ⟨v, ?_, ?_⟩
    · rw [List.getElem?_map, ep]
      show some (vs[j]?.getD .non) = some v
      rw [h1] <;> rfl
    · have e2 : ss[j] = s := Option.some.inj e'
      rw [← e2]
      exact h2
theorem vals_perm {vs : List V} {us : List Value} (r : Vals vs us) : ∀ perm : List Nat, (∀ j ∈ perm, j < us.length) → Vals (perm.map fun j => vs[j]?.getD .non) (perm.map fun j => us[j]?.getD .none)
  | [], _ => .nil
  | j :: perm, h => by
    have hj : j < vs.length := by rw [r.length]; exact h j List.mem_cons_self
    obtain ⟨u, hu, rv⟩ := r.get (List.getElem?_eq_getElem hj)
    refine .cons ?_ (vals_perm r perm fun i hi => h i (List.mem_cons_of_mem _ hi))
    show RelV (vs[j]?.getD .non) (us[j]?.getD .none)
    rw [List.getElem?_eq_getElem hj, hu]
    exact rv
/-- f(k = e, ..) -/
theorem s_callK (perm : List Nat) (hc : Cal X.prog X.w X.K X.mg X.base CA k st x f n) (hr : Room j X.A) (hg : X.A.guards = some []) (hx : ∀ σ, PassesAt (L2.CX X.prog X.w) X σ (E σ)) (ha : PK X kws (tAs ⟨X.K, CA⟩ E ms))
    (hb : ∀ (kV dc pm : Value) (an : Option Addr) (cd ct : Value) (ws : List Value), ws.length = ks.length → bindArgs (PySem.W.fnOf x x (fArgs st) (fBody st) (fScope st) .none kV dc pm an cd ct) ⟨[], ks.zip ws⟩ = pure ((fPars st).zip (perm.map fun j => ws[j]?.getD .none)))
    (hks : (backToKw pos (keywordEach kws X.env)).filterMap (·.1) = ks := by rfl) (hall : (backToKw pos (keywordEach kws X.env)).all (·.1.isSome) = true := by rfl) (hk : k ≤ j := by first | decide | omega) (hn : perm.length = n := by rfl) (hkl : ms.length = ks.length := by rfl) (hp : ∀ j ∈ perm, j < ms.length := by decide) (hgl : Gl X x := by rfl) (hdb : (x == ("__debug__" : Str)) = false := by decide)
    (hpl : ((backTo pos (starEach [] X.env)).any (·.1) || (backToKw pos (keywordEach kws X.env)).any (·.1.isNone)) = false := by rfl) :
    PE X (.Call (.Name x p) [] kws pos) (tM ⟨X.K, CA⟩ E (mCallK f perm ms)) := by
  obtain ⟨a, fd, F, hh⟩ := hc.ex
  obtain ⟨oc, od, kV, dc, pm, an, cd, ct, sl, rfl, lk, hcd⟩ := hh.ex
  refine ⟨fun pins s σ H Q I ⟨g, ρ, rp, h⟩ => ?_⟩
  refine wpAny_Call_Name_kw (ld_glob I hgl hh.named ?_ hdb)
  have h' : PostE ⟨X.K, CA⟩ E g σ ρ H H Q ((mArgs ms ρ).bind fun vs ρ1 => mCallGo f (permS perm vs) ρ1) := h
  have pre : tAs ⟨X.K, CA⟩ E ms σ H fun vs H1 => vs.length = ms.length ∧ spOf ⟨X.K, CA⟩ f n (perm.map fun j => vs[j]?.getD .non) H1 Q (E σ) := by
    refine ⟨g, ρ, rp, ?_⟩
    cases em : mArgs ms ρ with
    | ok ss ρ1 =>
      rw [em] at h'
      have el := mArgs_length em
      exact fun vs H1 r1 s1 f1 q1 => ⟨by rw [mArgs_len q1, el], call_post r1 s1 f1 (q1.list.perm fun j hj => by rw [el]; exact hp j hj) (by unfold permS; rw [List.length_map, hn]) h'⟩
    | raise c y ρ1 => rw [em] at h'; exact h'
    | stuck => rw [em] at h'; exact h'
  refine PySem.W.callWith_KW0 (h₀ := X.base) I.ok.mod.kin hh.kept hall (thn (ha.run pos pins s σ H _ I pre) fun ws s2 ⟨zs, H2, I2, rz, ez, q2⟩ => ⟨I2.kIn, ?_⟩) hpl
  rw [hks]
  have lw : ws.length = ms.length := by rw [← rz.length]; exact ez
  exact run_G (ar := ⟨[], ks.zip ws⟩) F (hr.mono hk) hg (hx σ) I2 (vals_perm rz perm fun j hj => by rw [lw]; exact hp j hj) (fun l => .of_eq (hb kV dc pm an cd ct ws (lw.trans hkl))) q2
end
/-! ### for the printed texts -/
/-- of a def of which nothing is asked -/
theorem cal_stuck {PP : Program} {w : World} {K : Fg} {mg : Str → Option Value} {base : Heap} {CA : Str → Addr} {k n : Nat} {st : Stmt} {x : Str} {a : Addr} {fd : FuncData} (h : Here K mg x st a fd) (hl : (fPars st).length = n) : Cal PP w K mg base CA k st x (fun _ => .stuck) n :=
  ⟨a, fd, ⟨fun vs H Q E z => (spOf_len z).trans hl.symm, fun _ _ _ _ _ _ _ _ _ _ _ _ _ _ ⟨_, _, _, _, _, z⟩ => z.elim⟩, h⟩

section
variable {PP : Program} {w : World} {K : Fg} {mg : Str → Option Value} {base : Heap} {N : List Str} {x : Str} {sc : Scope} {a : Addr} {cd : Value} {Ar : Around} {ou : List Env} {s0 : Shared} {H0 : Hp} {W : XK}
theorem pb : ∀ σ : St, PassesAt (L2.CX PP w) (cxOf (L2.CX PP w) PP w K mg base N x sc a cd Ar ou s0 H0 W) σ W := fun σ => passAt (W := fun cls d _ H => W cls d H) (takes_of rfl rfl rfl rfl) σ
theorem po : PassesOwn (model PP w) (cxOf (L2.CX PP w) PP w K mg base N x sc a cd Ar ou s0 H0 W).A (cxOf (L2.CX PP w) PP w K mg base N x sc a cd Ar ou s0 H0 W).env (cxOf (L2.CX PP w) PP w K mg base N x sc a cd Ar ou s0 H0 W).xe := passes_of (X := cxOf (L2.CX PP w) PP w K mg base N x sc a cd Ar ou s0 H0 W) rfl
theorem u64 {k : Nat} (r : Room k Ar) : Ar.units + 64 < cLine := r.units
theorem u65 {k : Nat} (r : Room k Ar) : Ar.units + 65 < cLine := by have := r.un; omega
end
end MP
end

section
set_option Elab.async false
set_option linter.all false
set_option maxRecDepth 100000
set_option maxHeartbeats 4000000
set_option autoImplicit false
namespace MP
open PySem PySem.Spec PyProof.Rows L2

/-- the law's def called by the claim's caller: its promise, read at the heap that the top left -/
theorem law_G {PP : Program} {w : World} {K : Fg} {mg mb : Str → Option Value} {k : Nat} {fa a : Addr} {fd : FuncData} {x : Str} {sp : Sp} {z1 : Shared} {vs : List Value} {ns : List Int}
    (inK : K.In z1.heap) (gl : z1.heap.Ns mainGlobals mg) (bl : z1.heap.Ns builtinsNs mb) (boot : ∀ y : Str, y ≠ "__name__" → mb y = bootBuiltins y) (nl : z1.heap.NoLimit) (gn : z1.gens = #[])
    (ha : z1.heap.get? a = some { cls := .type "list", data := .seq vs.toArray }) (hi : IntsAre vs ns) (hz : ns.length ≤ sizeLine) (room : Room k callerA)
    (F : ∀ base : Heap, K.In base → base.Ns mainGlobals mg → FnG PP w K mg base k fa fd [x] sp) (bd : ∀ (s : Shared) (u : Value), BindsTo s fd ⟨[u], []⟩ [(x, u)])
    (hsp : ∀ H : Hp, SqL K H a (ns.map V.int) → sp [.ref a] H (fun v _ => v = .bl true) fun _ _ _ => False) :
    codeAny (model PP w) callerA (.call (.ref fa) ⟨[.ref a], []⟩) (fun r s' => r = .ok (.ret (.bool true)) ∧ OldK z1.heap s'.heap ∧ s'.os = z1.os ∧ AllBare s'.gens) z1 := by
  have vi := vals_ints hi
  have li := hi.length
  have main : ∀ H : Hp, (∀ b, H b = none ∨ ∃ o xs, H b = some (.frz o (.lst xs))) → SqL K H a (ns.map V.int) → HOk PP w H z1.heap → (∀ b, H b ≠ none → b = a) → (H a ≠ none → K.lookup a = none) →
      codeAny (model PP w) callerA (.call (.ref fa) ⟨[.ref a], []⟩) (fun r s' => r = .ok (.ret (.bool true)) ∧ OldK z1.heap s'.heap ∧ s'.os = z1.os ∧ AllBare s'.gens) z1 := by
    intro H only sq ok one free
    have noA : ∀ {b : Addr} {o : Obj} {es : Array DictEntry} {ep : Nat}, z1.heap.get? b = some o → o.data = .dict es ep → H b = none := fun {b o es ep} e d => by
      cases q : H b with
      | none => rfl
      | some u =>
        obtain rfl : b = a := one b (by rw [q]; simp)
        rw [ha] at e
        cases e
        have d' : Data.seq vs.toArray _ = Data.dict es ep := d
        cases d'
    have nsB : ∀ {b : Addr} {m : Str → Option Value}, z1.heap.Ns b m → (hidT z1.heap H).Ns b m := fun {b m} ⟨o, es, ep, e, d, r⟩ => ⟨o, es, ep, hidT_get e (noA e d), d, r⟩
    have inB : K.In (hidT z1.heap H) := fun b o e => hidT_get (inK b o e) (by
      cases q : H b with
      | none => rfl
      | some u =>
        obtain rfl : b = a := one b (by rw [q]; simp)
        rw [free (by rw [q]; simp)] at e
        cases e)
    have mod : Mod K mg (hidT z1.heap H) := ⟨inB, nsB gl, ⟨mb, nsB bl, boot⟩, let ⟨mc, h1, h2⟩ := nl; ⟨mc, nsB h1, h2⟩⟩
    have e0 : Env0 PP w K mg (hidT z1.heap H) callerA [] z1 H := ⟨rfl, mod, fun b o e => of_hidT e, Nat.le_of_eq (hidT_size _ _), trivial, fun b hb => absurd (show b ∈ ([] : List Addr) from hb) (by simp), ok, .of_eq gn⟩
    refine codeAny_mono ((F _ inB (nsB gl)).go callerA [] z1 H ⟨[.ref a], []⟩ [.ref a] [.ref a] _ _ room rfl e0 (bd z1 (.ref a)) (.cons rfl .nil) (hsp H sq)) fun r s' h => ?_
    cases r with
    | error e =>
      obtain ⟨_, _, _, _, _, _, _, _, _, _, _, _, z⟩ := h
      exact z.elim
    | ok fl => cases fl with
      | next => exact False.elim h
      | brk => exact False.elim h
      | cont => exact False.elim h
      | ret u =>
        obtain ⟨v, H', os, bare, un, ok', r', rfl⟩ := h
        obtain rfl : u = Value.bool true := r'
        refine ⟨rfl, OldK.of_keep fun b o e => ?_, os, bare⟩
        cases q : H b with
        | none => exact un.keep b o e q (by intro z; exact absurd (show b ∈ ([] : List Addr) from z) (by simp)) (by simp)
        | some u =>
          rcases only b with z | ⟨ob, xs, z⟩
          · rw [q] at z
            cases z
          · obtain ⟨e1, _⟩ := ok b _ z
            obtain ⟨e2, _⟩ := ok' b _ (un.frzs b ob _ z)
            rw [e] at e1
            cases e1
            exact e2
  cases hk : K.lookup a with
  | some o =>
    have e := inK a o hk
    rw [ha] at e
    cases e
    exact main (fun _ => none) (fun _ => .inl rfl) (.inr ⟨_, vs.toArray, _, hk, rfl, rfl, rfl, by rw [List.size_toArray, li]; exact hz, by simpa using vi⟩) (fun b u z => nomatch (show (none : Option HO) = some u from z)) (fun b z => absurd rfl z) fun z => absurd rfl z
  | none =>
    refine main (fun b => if b = a then some (.frz { cls := .type "list", data := .seq vs.toArray } (.lst (ns.map V.int))) else none) (fun b => ?_) (.inl (.inr ⟨{ cls := .type "list", data := .seq vs.toArray }, if_pos rfl⟩)) (fun b u z => ?_) (fun b z => ?_) fun _ => hk
    · by_cases hb : b = a
      · exact .inr ⟨_, _, if_pos hb⟩
      · exact .inl (if_neg hb)
    · by_cases hb : b = a
      · have y := (if_pos hb).symm.trans z
        cases y
        subst hb
        exact ⟨ha, by rw [List.length_map]; exact hz, vs, _, vi, ha⟩
      · cases (if_neg hb).symm.trans z
    · by_cases hb : b = a
      · exact hb
      · exact absurd (if_neg hb) z
/-- a def that answers True of the script -/
theorem sp_law {P : Pk} {f : F} {H : Hp} {a : Addr} {ns : List Int} (hf : f [.d (.list (ns.map PyData.int))] = .ok (.d (.bool true)) []) (h : SqL P.K H a (ns.map V.int)) : spOf P f 1 [.ref a] H (fun v _ => v = .bl true) fun _ _ _ => False := by
  have hc : ∀ i, cellAt ([.d (.list (ns.map PyData.int))].map some) i = none := fun i => by
    unfold cellAt
    cases i with
    | zero => rfl
    | succ i => rfl
  have no : ∀ {b}, ¬ Out' ⟨fun _ => False, fun _ => none⟩ ([V.ref a].map some) ([.d (.list (ns.map PyData.int))].map some) b := fun {b} z => z.elim id fun ⟨i, c, h1, _⟩ => by
    rw [hc i] at h1
    cases h1
  have at0 : ∀ {i : Nat} {s : SV}, ([SV.d (.list (ns.map PyData.int))].map some)[i]? = some (some s) → i = 0 ∧ s = .d (.list (ns.map PyData.int)) := fun {i s} e => by
    cases i with
    | zero => cases e; exact ⟨rfl, rfl⟩
    | succ i => cases e
  refine ⟨⟨fun _ => False, fun _ => none⟩, [.d (.list (ns.map PyData.int))], rfl, fun s hs c e => ?_, ⟨rfl, fun i x e => ?_, fun i c e => ?_, fun i j c c' b e => ?_, fun b z => z.elim, fun i c e => ?_, fun i b e => (by cases e), fun i c x e => ?_, fun i n e => ?_⟩, ?_⟩
  · rw [List.mem_singleton.mp hs] at e
    cases e
  · obtain ⟨rfl, e⟩ := at0 e
    cases e
    refine ⟨.ref a, rfl, .lst (Grow.sl (fun b o e => hid_some.mpr ⟨no, e⟩) h) (rp_ints_map ns)⟩
  · rw [hc i] at e
    cases e
  · rw [hc i] at e
    cases e
  · cases (at0 e).2
  · cases (at0 e).2
  · cases (at0 e).2
  · rw [hf]
    exact fun ρ2 u H' _ _ _ r => r.is_bl
/-- the goal that k_head leaves, from the law's promise -/
theorem walk_G {l : PySem.W.OpenLaw} {n k : Nat} {q : Program} {loose : List Str} {XP : (Str → Option Value) → Heap → Prop} {YP : World → Heap → Prop} {d : DefRec} {K : Params → Fg} {sp : Fg → Sp} {x : Str}
    (hn : l.most = some n) (hn2 : n ≤ sizeLine) (hdf : d.params.defaults = []) (room : Room k callerA)
    (hY : ∀ (w : World) (h : Heap), YP w h → (K w.params).In h)
    (F : ∀ (w : World) (mg : Str → Option Value) (fa : Addr) (h : Heap), (K w.params).In h → h.Ns mainGlobals mg → mg d.name = some (.ref fa) →
      ∃ fd : FuncData, (∀ (s : Shared) (u : Value), BindsTo s fd ⟨[u], []⟩ [(x, u)]) ∧
        ∀ base : Heap, (K w.params).In base → base.Ns mainGlobals mg → FnG l.prog w (K w.params) mg base k fa fd [x] (sp (K w.params)))
    (hsp : ∀ (K : Fg) (H : Hp) (a : Addr) (ns : List Int), ns.length ≤ n → SqL K H a (ns.map V.int) → sp K [.ref a] H (fun v _ => v = .bl true) fun _ _ _ => False) :
    PySem.W.WalkO q loose XP YP l.row.toRowW d [] (fun f vs => PySem.call f vs) := by
  refine Att.attach_call hn hdf fun w z0 z1 mg mb fa o pm cd doc a vs ns G Y ho hd hcd hmg hobj hints hlen hg => ?_
  have inK := hY w _ Y
  obtain ⟨fd, bd, hF⟩ := F w mg fa _ inK G.T.g hmg
  exact law_G inK G.T.g G.T.b G.T.builtins G.T.nolimit hg hobj hints (Nat.le_trans hlen hn2) room hF bd fun H hS => hsp (K w.params) H a ns hlen hS
theorem here_mk {K : Fg} {mg : Str → Option Value} {h : Heap} {x : Str} {st : Stmt} {a : Addr} {oc : Value} {od an : Option Addr} {sl : Array (Option Value)} {kV dc pm cd ct : Value} (X : K.In h) (G : h.Ns mainGlobals mg)
    (hm : PySem.W.nsIn K mainGlobals x = some (some (.ref a))) (l : K.lookup a = some ⟨oc, od, .func (PySem.W.fnOf x x (fArgs st) (fBody st) (fScope st) .none kV dc pm an cd ct), sl⟩) (c : PySem.W.codeIn K cd x = true) (k : PySem.W.keepIn K (.ref a) = true) :
    Here K mg x st a (PySem.W.fnOf x x (fArgs st) (fBody st) (fScope st) .none kV dc pm an cd ct) := ⟨⟨oc, od, kV, dc, pm, an, cd, ct, sl, rfl, l, c⟩, PySem.W.mg_of X G hm, k⟩
end MP
namespace MP
open PySem PySem.Spec L2
theorem Cal.fn {PP : Program} {w : World} {K : Fg} {mg : Str → Option Value} {base : Heap} {CA : Str → Addr} {k n : Nat} {st : Stmt} {x : Str} {f : F} {a0 : Addr} {fd0 : FuncData} (c : Cal PP w K mg base CA k st x f n) (h : Here K mg x st a0 fd0) :
    FnG PP w K mg base k a0 fd0 (fPars st) (spOf ⟨K, CA⟩ f n) := by
  obtain ⟨a, fd, F, h'⟩ := c.ex
  have e := h.named.symm.trans h'.named
  cases e
  obtain ⟨_, _, _, _, _, _, _, _, _, _, l1, _⟩ := h.ex
  obtain ⟨_, _, _, _, _, _, _, _, _, _, l2, _⟩ := h'.ex
  have e := l1.symm.trans l2
  cases e
  exact F
end MP
end

section
set_option Elab.async false
set_option linter.all false
set_option maxRecDepth 100000
set_option maxHeartbeats 4000000
set_option autoImplicit false
namespace MP
open PySem PySem.Spec L2
/-! ### a written dict of the module: int keys, each value a tuple of ints -/
def TupI (K : Fg) (a : Addr) (is : List Int) : Prop := ∃ (o : Obj) (its : Array Value) (n : Nat), K.lookup a = some o ∧ o.cls = .type "tuple" ∧ o.data = .seq its n ∧ its.size ≤ sizeLine ∧ Vals (is.map V.int) its.toList
def EntsT (K : Fg) : List DictEntry → List (Int × List Int) → Prop
  | [], [] => True
  | e :: r, k :: ks => (∃ t, e.key = .int k.1 t) ∧ e.hash = hashInt k.1 ∧ (∃ a, e.val = .ref a ∧ TupI K a k.2) ∧ EntsT K r ks
  | _, _ => False
structure KTabT (K : Fg) (ad : Addr) (ks : List (Int × List Int)) : Prop where
  ex : ∃ (es : Array DictEntry) (n : Nat), K.lookup ad = some ⟨.type "dict", none, .dict es n, #[]⟩ ∧ EntsT K es.toList ks
  low : (ad == sysModules) = false
theorem EntsT.keys {K : Fg} : ∀ {es : List DictEntry} {ks : List (Int × List Int)}, EntsT K es ks → KeysI es (ks.map (·.1))
  | [], [], _ => trivial
  | [], _ :: _, h => h.elim
  | _ :: _, [], h => h.elim
  | x :: es, k :: ks, ⟨h1, h2, _, h3⟩ => ⟨h1, h2, EntsT.keys h3⟩
theorem KTabT.tab {K : Fg} {ad : Addr} {ks : List (Int × List Int)} {l : List Int} (t : KTabT K ad ks) (e : ks.map (·.1) = l := by rfl) : KTab K ad l := by
  subst e
  obtain ⟨es, n, h1, h2⟩ := t.ex
  exact ⟨⟨es, n, h1, h2.keys⟩, t.low⟩
def tabAt (ks : List (Int × List Int)) (i : Int) : Option (List Int) := (ks.find? fun k => i == k.1).map (·.2)
theorem EntsT.at_ {K : Fg} {i : Int} {is : List Int} : ∀ {es : List DictEntry} {ks : List (Int × List Int)}, EntsT K es ks → tabAt ks i = some is → ∃ d, es.find? (fun d => keyIs (.inl i) d.key) = some d ∧ ∃ a, d.val = .ref a ∧ TupI K a is
  | [], [], _, h => by cases h
  | [], _ :: _, h, _ => h.elim
  | _ :: _, [], h, _ => h.elim
  | x :: es, k :: ks, ⟨⟨t, h1⟩, h2, h4, h3⟩, h => by
    have e : keyIs (.inl i) x.key = (i == k.1) := by
      rw [h1]
      unfold keyIs Value.isInt
      by_cases h : i = k.1
      · subst h; simp
      · have h' : ¬ k.1 = i := fun z => h z.symm
        rw [beq_eq_false_iff_ne.mpr h]
        exact beq_eq_false_iff_ne.mpr h'
    unfold tabAt at h
    rw [List.find?_cons] at h
    rw [List.find?_cons, e]
    cases hk : (i == k.1) with
    | true =>
      rw [hk] at h
      cases h
      exact ⟨x, rfl, h4⟩
    | false =>
      rw [hk] at h
      exact EntsT.at_ h3 h
theorem KTabT.mapOf {ad : Addr} {ks : List (Int × List Int)} {PP : Program} {w : World} {K : Fg} {h : Heap} (t : KTabT K ad ks) (X : K.In h) : ∃ f, h.MapOf (mixKind PP w) ad f ∧ ∀ (i : Int) (is : List Int), tabAt ks i = some is → ∃ a, f (.inl i) = some (.ref a) ∧ TupI K a is := by
  obtain ⟨es, n, h1, h2⟩ := t.ex
  refine ⟨fun k => findBy (mixKind PP w).is es k, ⟨_, es, n, X _ _ h1, ⟨rfl, rfl, rfl⟩, rfl, fun e he => h2.keys.all e (Array.mem_toList_iff.mpr he), fun _ => rfl⟩, fun i is hi => ?_⟩
  obtain ⟨d, e1, a, e2, e3⟩ := h2.at_ hi
  refine ⟨a, ?_, e3⟩
  show findBy keyIs es (.inl i) = _
  unfold findBy
  rw [← Array.find?_toList, e1, ← e2] <;> rfl
def gTab (ks : List (Int × List Int)) : D → Option SV
  | .int i => ((tabAt ks i).filter fun is => !is.isEmpty).map fun is => .d (.tuple (is.map PyData.int))
  | _ => none
def rIxTab (K : Fg) (ad : Addr) (ks : List (Int × List Int)) : R2 := fun x y H Q => ∃ i is, x = .ref ad ∧ y = .int i ∧ tabAt ks i = some is ∧ ∀ a, TupI K a is → Q (.ref a) H
section
variable {X : Cx} {P : Pk} {E : St → XK} {te a b : Expr} {ma mb : ME} {p pos p2 p3 p4 p5 : Pos}
theorem ix_tab {ad : Addr} {ks : List (Int × List Int)} (t : KTabT X.K ad ks) : IxR X (rIxTab X.K ad ks) := by
  intro value slice pins s σ H x y v u Q I rx ry h hs
  obtain ⟨i, is, rfl, rfl, e, q⟩ := h
  obtain rfl : v = Value.ref ad := rx
  obtain ⟨tk, rfl⟩ := ry
  obtain ⟨f, hm, hf⟩ := t.mapOf (PP := X.prog) (w := X.w) I.kIn
  obtain ⟨a, h1, h2⟩ := hf i is e
  exact PyProof.Rows.tail_any hm.typeIs PySem.F.slot_dict_getitem.lookup (wpAny_getItem_of (mixKind_int X.prog X.w i tk) hm h1 ⟨.ref a, H, I.tok _, rfl, q a h2⟩) hs
theorem s_tab {ad : Addr} {ks : List (Int × List Int)} {y : Str} (t : KTabT X.K ad ks) (hm : X.mg y = some (.ref ad)) (hb : PE X b (tM P E mb)) (hK : X.K = P.K := by rfl) (hg : Gl X y := by rfl) (hd : (y == ("__debug__" : Str)) = false := by decide) (hs : PlainIx b := by exact fun _ _ => rfl) :
    PE X (.Subscript (.Name y p2) b pos) (tM P E (m1 (gTab ks) mb)) := by
  obtain ⟨K, CA⟩ := P
  subst hK
  refine PE.imp (pe_ix (ix_tab t) (pe_glob (v := .ref ad) hg hm rfl hd) hb hs) fun σ H Q ⟨g, ρ, rp, h⟩ => ?_
  refine ⟨g, ρ, rp, bindG (R := RVP _) (R' := RVP _) h fun sv ρ1 v H1 r1 s1 f1 q1 h1 => ?_⟩
  obtain ⟨x, ex, h1⟩ := viewB_some' h1
  obtain ⟨z, ez, h1⟩ := opt_of h1
  have tp := q1.top r1 ex
  unfold gTab at ez
  split at ez
  · obtain ⟨is, e1, e2⟩ := Option.map_eq_some_iff.mp ez
    cases e2
    cases tp
    obtain ⟨e1, e3⟩ := Option.filter_eq_some_iff.mp e1
    refine ⟨_, is, rfl, rfl, e1, fun a ha => ?_⟩
    refine post_res r1 f1.free h1 (.refl _) ?_
    refine Rp.tup (xs := is.map V.int) ⟨.inr ha, fun z => ?_⟩ (rp_ints_map is)
    cases is with
    | nil => cases e3
    | cons _ _ => cases z
  · cases ez
end
/-! ### any of ints -/
def gAnyW : List D → Option SV
  | [.tuple xs] => (intsOf xs).map fun is => .d (.bool (is.any fun i => i != 0))
  | xs => gAny xs
theorem truth_ints {prog : Program} {w : World} {A : Around} {is : List Int} {its : List Value} (e : PyProof.Rows.IntsAre its is) :
    TruthOf prog w A (fun i v => its.toArray[i]? = some v) (fun i => (is.map fun j => j != 0).getD i false) := fun i v s Q E hv hq => by
  have hv' : its[i]? = some v := by simpa using hv
  have key : ∀ {its : List Value} {is : List Int} {i : Nat} {v : Value}, PyProof.Rows.IntsAre its is → its[i]? = some v → ∃ j t, v = .int j t ∧ (is.map fun j => j != 0).getD i false = (j != 0) := by
    intro its is i v h
    induction h generalizing i with
    | nil => intro z; simp at z
    | cons n t h ih =>
      intro z
      cases i with
      | zero =>
        simp at z
        exact ⟨n, t, z.symm, rfl⟩
      | succ i => exact ih (by simpa using z)
  obtain ⟨j, t, rfl, e2⟩ := key e hv'
  have hq' : Q ((is.map fun j => j != 0).getD i false) s := hq
  rw [e2] at hq'
  exact PySem.P.truthy_int hq'
def rAnyT (K : Fg) : List V → Hp → VK → Prop := fun vs H Q => ∃ (a : Addr) (is : List Int), vs = [V.ref a] ∧ SqT K H a (is.map V.int) ∧ Q (.bl (is.any fun i => i != 0)) H
section
variable {X : Cx}
theorem cr_anyT (hc : X.calm = true) : CallR X (.builtin "any") (rAnyT X.K) := by
  intro pins s σ H vs us Q I r h
  obtain ⟨a, is, rfl, hs, q⟩ := h
  obtain ⟨its, rv, hl, _⟩ := I.tuple hs
  rw [Vals.ref1 r]
  have hlt : a < s.heap.objs.size := by obtain ⟨_, e, _⟩ := hl; exact Heap.lt_size e
  have hl2 : s.heap.IsTuple a its.toArray := hl
  refine call_any_walk (wpAny_pyIter_tuple hl2 ?_)
  refine ⟨_, _, _, _, _, _, _, rfl, Walks.tuple (A := X.A.in1) (I.ok.hd hc) _ a (Nat.ne_of_lt hlt) its.toArray, ⟨⟨_, Heap.get?_push_size _ rfl, rfl, rfl⟩, hl2.push _⟩, truth_ints rv.ints, fun h' tk hk => ?_⟩
  refine ⟨.bl _, H, I.kept fun b o eo => hk b o (fun hmem => ?_) (Heap.get?_push_of_some _ eo), ?_, q⟩
  · rcases List.mem_cons.mp hmem with e1 | hmem
    · exact absurd (e1 ▸ Heap.lt_size eo) (Nat.lt_irrefl _)
    · cases hmem
  · show Value.bool _ = Value.bool _
    have hn : its.length = is.length := by rw [← rv.length, List.length_map]
    have := any_range (is.map fun j => j != 0)
    rw [List.length_map, List.any_map] at this
    rw [List.size_toArray, hn, this]
    rfl
theorem og_anyW {K : Fg} : CallG (fun xs H Q => rAny K xs H Q ∨ rAnyT K xs H Q) K gAnyW := by
  intro Pr H vs xs sv Q tr hv e k
  unfold gAnyW at e
  split at e
  · obtain ⟨is, e1, e2⟩ := Option.map_eq_some_iff.mp e
    subst e2
    obtain ⟨a, ws, rfl, q, r⟩ := one_tup hv
    rw [rp_intsOf e1 r] at q
    exact .inr ⟨a, is, rfl, hid_le.st q, k _ _ (.refl _) res_bool⟩
  · exact .inl (og_any Pr H vs xs sv Q tr hv e k)
end
end MP
/-! ### tuple * int -/
namespace MP
open PySem PySem.Spec L2
theorem tuple_mul1 (l : Addr) (items : Array Value) (n : Nat) (dd : Option Addr) (sl : Array (Option Value)) (x : Int) (u : Tok) (c0 : (decide (x < -(2 ^ 63)) || decide (x ≥ 2 ^ 63)) = false) (c1 : (items.isEmpty || x == 1) = true) :
    Meets (Builtin.«tuple.__mul__» ⟨[.ref l, .int x u], []⟩) (fun _ R s => s.heap.get? l = some { cls := .type "tuple", dict := dd, data := .seq items n, slots := sl } ∧
      R (.ok (.ret (Value.ref l))) s) :=
  .of_wp fun prog w A R s h => by
    obtain ⟨hp, g, d, tk, os⟩ := s
    obtain ⟨hl, h⟩ := h
    have f1 := AutoSeq1.idx_int
    wp_walk using wpAny_loadPart' hl
    repeat (first
      | (refine wpAny_ite_false (decide_eq_false (by rw [c0]; exact Bool.false_ne_true)) ?_; wp_walk using wpAny_loadPart' hl)
      | (refine wpAny_ite_true (decide_eq_true c1) ?_; wp_walk using wpAny_loadPart' hl))
    exact ⟨_, rfl, h⟩
def rRepT1 (K : Fg) : R2 := fun x y H Q => ∃ l xs, x = .ref l ∧ y = .int 1 ∧ SqT K H l xs ∧ Q (.ref l) H
theorem op_repT1 {X : Cx} : OpR X (binaryOp .Mult) (rRepT1 X.K) := by
  intro pins s σ H x y v u Q I rx ry h
  obtain ⟨l, xs, rfl, rfl, hT, q⟩ := h
  cases rx
  obtain ⟨t, rfl⟩ := ry
  obtain ⟨its, r, ⟨⟨cls, dd, data, sl⟩, ho, hc, n, hd⟩, hs⟩ := I.tuple hT
  simp only at hc hd
  subst hc hd
  have c1 : (its.toArray.isEmpty || (1 : Int) == 1) = true := by simp
  refine wpAny_binaryOp_repeat_ref (T := "tuple") (U := "int") (by decide) ⟨_, ho, rfl⟩ (fun s' => typeIs_int s' 1 t) noFill_tuple_mul PySem.F.fills_int_mul PySem.F.slot_int_rmul repeat_tuple PySem.F.slot_int_index.lookup
    (call_meets PySem.F.slot_int_rmul (typeIs_int s 1 t) PySem.F.entry_int_rmul (PySem.F.args_int_rmul_2 _ _) (int_rmul_tuple 1 t l its.toArray n dd sl)
      ⟨ho, rfl, ⟨_, ho, rfl⟩, call_meets PySem.F.slot_tuple_mul ⟨_, ho, rfl⟩ PySem.F.entry_tuple_mul (PySem.F.args_tuple_mul_2 _ _) (tuple_mul1 l its.toArray n dd sl 1 t (by decide) c1) ⟨ho, ?_⟩⟩)
  exact ⟨.ref l, H, I, rfl, q⟩
def bRepT : D → D → Option SV
  | .tuple xs, .int k => if (decide (1 ≤ k) && decide (k ≤ 1000) && decide (xs.length ≤ 1000) && !pairy xs) = true then some (.d (.tuple (List.replicate k.toNat xs).flatten)) else none
  | _, _ => none
theorem RpAll.rep {K : Fg} {H : Hp} {vs : List V} {xs : List D} (h : RpAll K H vs xs) : ∀ m : Nat, RpAll K H (List.replicate m vs).flatten (List.replicate m xs).flatten
  | 0 => .nil
  | m + 1 => by
    have := h.append (RpAll.rep h m)
    simpa only [List.replicate_succ, List.flatten_cons] using this
theorem pairy_app : ∀ (xs ys : List D), pairy (xs ++ ys) = true → pairy xs = true
  | [], _, _ => rfl
  | x :: xs, ys, h => by
    rw [List.cons_append] at h
    unfold pairy at h ⊢
    split at h
    · rename_i e; cases e
    · rename_i e
      cases e
      exact pairy_app xs ys h
    · cases h
theorem pairy_rep {xs : List D} {n : Nat} (hn : 1 ≤ n) (h : pairy xs = false) : pairy (List.replicate n xs).flatten = false := by
  cases n with
  | zero => omega
  | succ n =>
    rw [List.replicate_succ, List.flatten_cons]
    cases z : pairy (xs ++ (List.replicate n xs).flatten) with
    | false => rfl
    | true => rw [pairy_app _ _ z] at h; cases h
theorem og_repT {K : Fg} : OpG (fun x y H Q => rRepT K x y H Q ∨ rRepT1 K x y H Q) K bRepT := by
  intro Pr H v w x y sv Q tr hv hw e k
  unfold bRepT at e
  split at e
  · rename_i xs n
    split at e
    · rename_i hc
      cases e
      rw [Bool.and_eq_true, Bool.and_eq_true, Bool.and_eq_true, decide_eq_true_eq, decide_eq_true_eq, decide_eq_true_eq, Bool.not_eq_true'] at hc
      obtain ⟨⟨⟨h1, h2⟩, h3⟩, h4⟩ := hc
      obtain ⟨a, ws, rfl, q, r⟩ := hv
      have hw' : w = .int n := hw
      subst hw'
      by_cases z : n = 1
      · subst z
        refine .inr ⟨a, ws, rfl, rfl, hid_le.st q.1, k _ _ (.refl _) ?_⟩
        have e : (List.replicate (Int.toNat 1) xs).flatten = xs := by simp
        rw [e]
        exact Rp.tup q r
      · have hl := r.length
        refine .inl ⟨a, n, ws, rfl, rfl, hid_le.st q.1, fun z => ?_, by omega, h2, by omega, fun p hp => k _ _ (.new hp) (res_tup tr hp (r.rep _) (pairy_rep (by omega) h4))⟩
        rw [z] at hl
        have : xs = [] := List.eq_nil_of_length_eq_zero hl.symm
        rw [this] at h4
        cases h4
    · cases e
  · cases e
theorem op_repTW {X : Cx} : OpR X (binaryOp .Mult) (fun x y H Q => rRepT X.K x y H Q ∨ rRepT1 X.K x y H Q) := fun pins s σ H x y v u Q I rx ry h => h.elim (op_repT pins s σ H x y v u Q I rx ry) (op_repT1 pins s σ H x y v u Q I rx ry)
end MP
/-! ### a table, from what the top has left -/
namespace MP
open PySem PySem.Spec L2
def EntsR : List DictEntry → List (Int × Addr) → Prop
  | [], [] => True
  | e :: r, k :: ks => (∃ t, e.key = .int k.1 t) ∧ e.hash = hashInt k.1 ∧ e.val = .ref k.2 ∧ EntsR r ks
  | _, _ => False
def AllT (K : Fg) : List (Int × Addr) → List (Int × List Int) → Prop
  | [], [] => True
  | a :: r, k :: ks => a.1 = k.1 ∧ TupI K a.2 k.2 ∧ AllT K r ks
  | _, _ => False
theorem ents_mk {K : Fg} : ∀ {es : List DictEntry} {qs : List (Int × Addr)} {ks : List (Int × List Int)}, EntsR es qs → AllT K qs ks → EntsT K es ks
  | [], [], [], _, _ => trivial
  | [], [], _ :: _, _, h => h.elim
  | [], _ :: _, _, h, _ => h.elim
  | _ :: _, [], _, h, _ => h.elim
  | _ :: _, _ :: _, [], _, h => h.elim
  | e :: es, q :: qs, k :: ks, ⟨h1, h2, h3, h4⟩, ⟨g1, g2, g3⟩ => by
    rw [g1] at h1 h2
    exact ⟨h1, h2, ⟨_, h3, g2⟩, ents_mk h4 g3⟩
theorem tupI_mk {K : Fg} {a : Addr} {d : Option Addr} {its : Array Value} {n : Nat} {sl : Array (Option Value)} {is : List Int} (h : K.lookup a = some ⟨.type "tuple", d, .seq its n, sl⟩) (hi : PyProof.Rows.IntsAre its.toList is) (hl : decide (is.length ≤ 16777216) = true) : TupI K a is := by
  have key : ∀ {us : List Value} {is : List Int}, PyProof.Rows.IntsAre us is → Vals (is.map V.int) us ∧ us.length = is.length := by
    intro us is q
    induction q with
    | nil => exact ⟨.nil, rfl⟩
    | cons n t q ih => exact ⟨.cons ⟨t, rfl⟩ ih.1, congrArg (· + 1) ih.2⟩
  obtain ⟨k1, k2⟩ := key hi
  refine ⟨_, its, n, h, rfl, rfl, ?_, k1⟩
  rw [sizeLine_eq, ← Array.length_toList, k2]
  exact of_decide_eq_true hl
end MP
/-! ### a, b = a list -/
namespace MP
open PySem PySem.Spec L2
def sUnpL (tgs : List Tg) (m : ME) : MS := fun ρ => (m ρ).st fun v ρ1 => match toD v with
  | some (.list xs) => (match tgSets tgs xs ρ1 with | some ρ2 => .next ρ2 | none => .stuck)
  | _ => .stuck
def gTL (P : Pk) (tgs : List Tg) : TG := fun v σ H Q => ∃ g ρ xs ρ', Rep P.K g H σ ρ ∧ Rp P.K (hid (Out' g σ ρ) H) v (.list xs) ∧ tgSets tgs xs ρ = some ρ' ∧ ∀ σ', Rep P.K g H σ' ρ' → (∀ a, Own σ' ρ' a → Own σ ρ a) → (σ'.length = σ.length ∧ ∀ j, j ∉ tgSlots tgs → σ'[j]? = σ[j]?) → Q σ' H
section
variable {X : Cx} {P : Pk} {E : St → XK} {a : Expr} {es : List Expr} {tgs : List Tg} {pos : Pos}
theorem g_tl {k : Nat} (hc : X.calm = true) (h : PGs X es (gTs P tgs)) (hK : X.K = P.K := by rfl) (hn : (assignEach es X.env).length = tgs.length := by rfl) (hst : (assignEach es X.env).findIdx? (·.1) = none := by rfl) : PG X (.Tuple es k pos) (gTL P tgs) := by
  obtain ⟨K, CA⟩ := P
  subst hK
  refine PG.imp (pg_lst hc h hn hst) fun v σ H Q ⟨g, ρ, x, ρ', r, q, e, k⟩ => ?_
  cases q with
  | lst q1 q2 => exact ⟨_, _, rfl, hid_le.sl q1, by rw [q2.length]; exact tgSets_len e, g, ρ, _, ρ', r, q2, e, k⟩
theorem z_unpL {m : ME} {x1 : Nat} {p2 : Pos} (he : PE X a (tM P E m)) (hg : PG X (.Tuple es x1 p2) (gTL P tgs)) (hs : swapsWithSole [.Tuple es x1 p2] a pos.line X.env = pure false := by rfl) (hw : swappedStores [.Tuple es x1 p2] a X.env = pure none := by rfl)
    (h1 : (assignEach [.Tuple es x1 p2] X.env).map (·.2) = [assign (.Tuple es x1 p2) X.env] := by rfl) : PS X (.Assign [.Tuple es x1 p2] a pos) (tS P E (sUnpL tgs m)) := by
  refine PS.imp (ps_asg he hg hs hw h1) fun D σ H ⟨g, ρ, r, h⟩ => ?_
  refine ⟨g, ρ, r, stG (R := RVP P) h fun v ρ1 x H1 _ r1 s1 f1 q1 h1 => ?_⟩
  have h1' : PostS P E g σ ρ H H D (match toD v with | some (.list xs) => (match tgSets tgs xs ρ1 with | some ρ2 => .next ρ2 | none => .stuck) | _ => .stuck) := h1
  split at h1'
  · rename_i xs e1
    cases e2 : tgSets tgs xs ρ1 with
    | none =>
      rw [e2] at h1'
      exact h1'.elim
    | some ρ2 =>
      rw [e2] at h1'
      exact ⟨g, ρ1, xs, ρ2, r1, q1.keep e1, e2, fun σ' r' o' _ => h1' σ' H1 r' ⟨f1.keep, f1.stay, fun a z => .inl (s1.symm.own (o' a z))⟩⟩
  · exact h1'.elim
end
end MP
end

section
set_option Elab.async false
set_option linter.all false
set_option maxRecDepth 100000
set_option maxHeartbeats 4000000
set_option autoImplicit false
namespace MP
open PySem PySem.Spec L2
/-! ### a call with one new object that nobody else knows: the callee may change it -/
def callTGo (f : F) (v : SV) (ρ1 : En) : Out SV := match v with
  | .own c => (match f [.ref c] with
    | .ok s [_] => if isRes s = true then .ok s ρ1 else .stuck
    | .raise k x [_] => .raise k x ρ1
    | _ => .stuck)
  | _ => .stuck
def mCallT (f : F) (m : ME) : ME := fun ρ => (m ρ).bind fun v ρ1 => callTGo f v ρ1
section
variable {K : Fg} {g : Gh} {H H0 H1 H' : Hp} {σ : St} {ρ ρ1 ρ2 : En} {v : V} {c c' : Cell} {p : Addr}
/-- what is protected may change -/
theorem Rep.keep {M : Addr → Prop} (r : Rep K g H σ ρ) (f : FrE H M H') (h : ∀ a, M a → g.Pm a) : Rep K g H' σ ρ := by
  have gr : Grow (hid (Out' g σ ρ) H) (hid (Out' g σ ρ) H') := hid_grow fun a o n e => ⟨n, f.keep a o e fun z => n (.inl (h a z))⟩
  refine ⟨r.len, fun i x e => ?_, fun i c e => ?_, r.inj, fun a z => ?_, r.rf, r.rfs, r.noexc, r.nofn⟩
  · obtain ⟨v, h1, h2⟩ := r.d i x e
    exact ⟨v, h1, h2.grow gr⟩
  · obtain ⟨a, h1, h2, h3⟩ := r.cell i c e
    obtain ⟨o, eo⟩ := h3.some
    exact ⟨a, h1, h2, h3.mono gr (by rw [f.keep a o eo fun z => h2 (h a z), eo])⟩
  · obtain ⟨o, e⟩ := r.pm a z
    exact f.stay a o e
def tempG (g : Gh) (σ : St) (ρ : En) (p : Addr) : Gh := ⟨Out' g σ ρ, fun j => if j = 0 then some p else none⟩
theorem one_get {α : Type} {x y : α} {i : Nat} (h : ([some x] : List (Option α))[i]? = some (some y)) : i = 0 ∧ x = y := by
  cases i with
  | zero => simp at h; exact ⟨rfl, h⟩
  | succ i => simp at h
theorem cell_one {c c' : Cell} {i : Nat} (h : cellAt [some (.ref c)] i = some c') : i = 0 ∧ c = c' := by
  cases i with
  | zero => cases h; exact ⟨rfl, rfl⟩
  | succ i => cases h
theorem own_one {c : Cell} {a : Addr} : Own [some (.ref p)] [some (.ref c)] a ↔ a = p := by
  constructor
  · rintro ⟨i, c', h1, h2⟩
    obtain ⟨rfl, _⟩ := cell_one h1
    cases h2
    rfl
  · rintro rfl
    exact ⟨0, c, rfl, rfl⟩
theorem temp_rep (rp : Rep K g H1 σ ρ1) (hc : CellR K (hid (fun a => Out' g σ ρ1 a ∨ a = p) H1) H1 p c) (no : ¬ Out' g σ ρ1 p) : Rep K (tempG g σ ρ1 p) H1 ([V.ref p].map some) ([SV.ref c].map some) := by
  have gr : Grow (hid (fun a => Out' g σ ρ1 a ∨ a = p) H1) (hid (Out' (tempG g σ ρ1 p) [some (V.ref p)] [some (.ref c)]) H1) := hid_grow fun a o n e => ⟨fun z => n (z.imp id fun z => own_one.mp z), e⟩
  refine ⟨rfl, fun i x e => ?_, fun i c' e => ?_, fun i j c1 c2 a q1 q2 _ _ => ?_, fun a z => rp.out_some z, fun i c' e => ?_, fun i a e => ?_, fun i k x e => ?_, fun i n e => ?_⟩
  · obtain ⟨_, e⟩ := one_get e
    cases e
  · obtain ⟨rfl, rfl⟩ := cell_one e
    exact ⟨p, rfl, no, hc.mono gr rfl⟩
  · rw [(cell_one q1).1, (cell_one q2).1]
  · obtain ⟨rfl, _⟩ := one_get e
    exact ⟨p, rfl, rfl⟩
  · have e' : (if i = 0 then some p else none) = some a := e
    split at e'
    · rename_i h0
      subst h0
      exact ⟨c, rfl⟩
    · cases e'
  · obtain ⟨_, e⟩ := one_get e
    cases e
  · obtain ⟨_, e⟩ := one_get e
    cases e
end
section
variable {P : Pk} {E : St → XK} {g : Gh} {H H0 H1 : Hp} {σ : St} {ρ ρ1 : En} {f : F} {Q : VK} {v : V} {sv : SV}
theorem callT_post (rp : Rep P.K g H1 σ ρ1) (sc : SameC ρ ρ1) (fr : FrE H (Own σ ρ) H1) (q : RV P.K g H H1 σ ρ1 v sv) (h : PostE P E g σ ρ H H Q (callTGo f sv ρ1)) : spOf P f 1 [v] H1 Q (E σ) := by
  cases sv with
  | own c =>
    obtain ⟨p, rfl, n0, no, cr⟩ := q.b
    have rx := q.x p rfl
    have h' : PostE P E g σ ρ H H Q (match f [.ref c] with
      | .ok s [_] => if isRes s = true then .ok s ρ1 else .stuck
      | .raise k x [_] => .raise k x ρ1
      | _ => .stuck) := h
    refine ⟨tempG g σ ρ1 p, [.ref c], rfl, fun s hs c' e => ?_, temp_rep rp cr no, ?_⟩
    · rw [List.mem_singleton.mp hs] at e
      cases e
    have mine : ∀ a, Own ([V.ref p].map some) ([SV.ref c].map some) a → (g.add p).Pm a := fun a z => .inr (own_one.mp z)
    have fr2 : ∀ {H' : Hp}, FrE H1 (Own ([V.ref p].map some) ([SV.ref c].map some)) H' → FrE H (Own σ ρ) H' := fun {H'} fc =>
      ⟨fun a o e n => fc.keep a o (fr.keep a o e n) (fun z => by
        rw [own_one.mp z, n0] at e
        cases e), fun a o e => (fr.stay a o e).elim fun o1 e1 => fc.stay a o1 e1⟩
    have outs : ∀ {c' : Cell} {a : Addr}, Out' g σ ρ1 a → Out' (tempG g σ ρ1 p) [some (V.ref p)] [some (.ref c')] a := fun z => .inl z
    split at h'
    · rename_i s c1 ef
      rw [ef]
      by_cases hs : isRes s = true
      case neg => rw [if_neg hs] at h'; exact h'.elim
      rw [if_pos hs] at h'
      intro ρ2 u H' e1 rc fc rv
      cases e1
      have r3 : Rep P.K (g.add p) H' σ ρ1 := rx.keep fc mine
      refine h' u H' (r3.less (Gh.le_add g p)) sc (fr2 fc) ?_
      have hb := rv.b
      have hx := rv.x
      cases s with
      | d x => exact .d (Rp.grow (hid_grow fun a o n e => ⟨fun z => n (outs z), e⟩) hb)
      | own c2 =>
        obtain ⟨p2, rfl, m0, mo, cr2⟩ := hb
        have f0 : ∀ a, H1 a = none → H a = none := fun a e => fr.back e
        refine ⟨⟨p2, rfl, f0 p2 m0, fun z => mo (outs z), cr2.mono (hid_grow fun a o n e => ⟨fun z => n (z.imp outs id), e⟩) rfl⟩, fun p' ep' => ?_⟩
        cases ep'
        -- the slots know nothing of the new object
        have m1 : ∃ o, H' p2 = some o := cr2.some
        have fc2 : FrE H1 (fun a => a = p ∨ a = p2) H' := ⟨fun a o e n => fc.keep a o e fun z => n (.inl (own_one.mp z)), fc.stay⟩
        have hp2 : H1 p2 = none := m0
        have gr : Grow (hid (Out' (g.add p) σ ρ1) H1) (hid (Out' (g.add p2) σ ρ1) H') := hid_grow fun a o n e => ⟨fun z => by
            rcases z with (z | z) | z
            · exact n (.inl (.inl z))
            · rw [z, hp2] at e
              cases e
            · exact n (.inr z), fc.keep a o e fun z => n (.inl (.inr (own_one.mp z)))⟩
        refine ⟨rx.len, fun i x e => ?_, fun i c3 e => ?_, rx.inj, fun a z => ?_, rx.rf, rx.rfs, rx.noexc, rx.nofn⟩
        · obtain ⟨v, w1, w2⟩ := rx.d i x e
          exact ⟨v, w1, w2.grow gr⟩
        · obtain ⟨a, w1, w2, w3⟩ := rx.cell i c3 e
          obtain ⟨o, eo⟩ := w3.some
          refine ⟨a, w1, fun z => ?_, w3.mono gr (by rw [fc.keep a o eo fun z => w2 (.inr (own_one.mp z)), eo])⟩
          rcases z with z | z
          · exact w2 (.inl z)
          · rw [z, hp2] at eo
            cases eo
        · rcases z with z | z
          · obtain ⟨o, e⟩ := rp.pm a z
            exact fc.stay a o e
          · rw [z]
            exact m1
      | pk i => cases hs
      | ref _ => cases hs
      | exc _ _ => cases hs
      | fn _ => cases hs
    · rename_i k x c1 ef
      rw [ef]
      intro ρ2 d u H' e1 rc fc ed rv
      cases e1
      have r3 : Rep P.K (g.add p) H' σ ρ1 := rx.keep fc mine
      exact h' d u H' (r3.less (Gh.le_add g p)) sc (fr2 fc) ed (rv.grow (hid_grow fun a o n e => ⟨fun z => n (outs z), e⟩))
    · exact h'.elim
  | _ => exact h.elim
end
section
variable {X : Cx} {CA : Str → Addr} {k j : Nat} {x : Str} {st : Stmt} {f : F} {E : L2.St → XK} {e : Expr} {p pos : Pos} {m : ME}
theorem one_of {P : Pk} {R : List V → Hp → Prop} : ∀ σ H, (tM P E m σ H fun v H1 => R [v] H1) → tCons (tM P E m) tNil σ H R := fun σ H h => h
/-- f(e): e a new object -/
theorem s_callT (hc : Cal X.prog X.w X.K X.mg X.base CA k st x f 1) (hr : Room j X.A) (hg : X.A.guards = some []) (hx : ∀ σ, PassesAt (L2.CX X.prog X.w) X σ (E σ)) (ha : PE X e (tM ⟨X.K, CA⟩ E m))
    (hb : ∀ (kV dc pm : Value) (an : Option Addr) (cd ct : Value) (us : List Value), us.length = (fPars st).length → bindArgs (PySem.W.fnOf x x (fArgs st) (fBody st) (fScope st) .none kV dc pm an cd ct) ⟨us, []⟩ = pure ((fPars st).zip us))
    (hk : k ≤ j := by first | decide | omega) (hgl : Gl X x := by rfl) (hdb : (x == ("__debug__" : Str)) = false := by decide) (he : starEach [e] X.env = (false, eval e X.env) :: starEach [] X.env := by rfl) (hpl : (backTo pos (starEach [] X.env)).any (·.1) = false := by rfl) :
    PE X (.Call (.Name x p) [e] [] pos) (tM ⟨X.K, CA⟩ E (mCallT f m)) := by
  obtain ⟨a, fd, F, hh⟩ := hc.ex
  obtain ⟨oc, od, kV, dc, pm, an, cd, ct, sl, rfl, lk, hcd⟩ := hh.ex
  refine ⟨fun pins s σ H Q I ⟨g, ρ, rp, h⟩ => ?_⟩
  refine wpAny_Call_Name_kw (ld_glob I hgl hh.named ?_ hdb)
  have pre : tM ⟨X.K, CA⟩ E m σ H fun v H1 => spOf ⟨X.K, CA⟩ f 1 [v] H1 Q (E σ) := by
    refine ⟨g, ρ, rp, ?_⟩
    have h' : PostE ⟨X.K, CA⟩ E g σ ρ H H Q ((m ρ).bind fun v ρ1 => callTGo f v ρ1) := h
    cases em : m ρ with
    | ok sv ρ1 =>
      rw [em] at h'
      exact fun v H1 r1 s1 f1 q1 => callT_post r1 s1 f1 q1 h'
    | raise c y ρ1 => rw [em] at h'; exact h'
    | stuck => rw [em] at h'; exact h'
  refine PySem.W.callWith_K (h₀ := X.base) I.ok.mod.kin hh.kept (thn ((pa_cons ha pa_nil he).run pos pins s σ H _ I (one_of (R := fun vs H1 => spOf ⟨X.K, CA⟩ f 1 vs H1 Q (E σ)) σ H pre)) fun us s1 ⟨vs, H1, I1, r1, q1⟩ => ⟨I1.kIn, ?_⟩) he hpl
  exact run_G (ar := ⟨us, []⟩) F (hr.mono hk) hg (hx σ) I1 r1 (fun l => .of_eq (hb kV dc pm an cd ct us l)) q1
end
end MP
end

section
set_option Elab.async false
set_option linter.all false
set_option maxRecDepth 100000
set_option maxHeartbeats 4000000
set_option autoImplicit false
namespace MP
open PySem PySem.Spec L2
/-! ### zip of two lists, of two tuples -/
def zipL (xs ys : List D) : List D := List.zipWith (fun x y => PyData.tuple [x, y]) xs ys
/-- no part is a pair of pairs -/
def flat2 (zs : List D) : Bool := zs.all fun z => match z with
  | .tuple ds => !pairy ds
  | _ => true
theorem flat2_at {zs : List D} (h : flat2 zs = true) {ds : List D} (hz : PyData.tuple ds ∈ zs) : pairy ds = false := by
  have := List.all_eq_true.mp h _ hz
  simpa using this
def zipD : D → D → Option (List D)
  | .list xs, .list ys => if flat2 (zipL xs ys) = true then some (zipL xs ys) else none
  | .tuple xs, .tuple ys => if flat2 (zipL xs ys) = true then some (zipL xs ys) else none
  | _, _ => none
theorem zipL_len (xs ys : List D) : (zipL xs ys).length = min xs.length ys.length := List.length_zipWith
theorem zipL_get {xs ys : List D} {i : Nat} {x : D} (h : (zipL xs ys)[i]? = some x) : ∃ a b, xs[i]? = some a ∧ ys[i]? = some b ∧ x = .tuple [a, b] := by
  unfold zipL at h
  rw [List.getElem?_zipWith] at h
  cases ha : xs[i]? with
  | none => rw [ha] at h; simp at h
  | some a =>
    cases hb : ys[i]? with
    | none => rw [ha, hb] at h; simp at h
    | some b =>
      rw [ha, hb] at h
      exact ⟨a, b, rfl, rfl, (Option.some.inj h).symm⟩
theorem pair_yld {K : Fg} {Pr : Addr → Prop} {H1 H : Hp} {u w : V} {a b : D} {T : Addr} (lt : Later Pr H1 H) (hT : H T = none) (ra : Rp K (hid Pr H1) u a) (rb : Rp K (hid Pr H1) w b) (hn : pairy [a, b] = false) :
    Grow H (upd H T (.tup [u, w])) ∧ ∃ N : Addr → Prop, (∀ a, N a → H a = none) ∧ Rp K (joinN N Pr H1 (upd H T (.tup [u, w]))) (.ref T) (.tuple [a, b]) := by
  have nT : ∀ a o, hid Pr H1 a = some o → a ≠ T := fun a o q z => by
    obtain ⟨n, q⟩ := hid_some.mp q
    rw [z] at q
    by_cases hp : Pr T
    · exact n (by rw [z]; exact hp)
    · rw [lt T o q hp] at hT
      cases hT
  have gr : Grow (hid Pr H1) (joinN (· = T) Pr H1 (upd H T (.tup [u, w]))) := fun a o q => by
    unfold joinN
    rw [if_neg (nT a o q)]
    exact q
  refine ⟨.new hT, (· = T), fun a z => by rw [z]; exact hT, ?_⟩
  refine Rp.tup (xs := [u, w]) ⟨SqT.of ?_, fun z => by rw [hn] at z; cases z⟩ (.cons (ra.grow gr) (.cons (rb.grow gr) .nil))
  unfold joinN
  rw [if_pos rfl]
  exact upd_same
theorem jok_zip {K : Fg} {Pr : Addr → Prop} {H1 : Hp} {l m : Addr} {vs ws : List V} {xs ys : List D} (h : SqL K (hid Pr H1) l vs) (r : RpAll K (hid Pr H1) vs xs) (h2 : SqL K (hid Pr H1) m ws) (r2 : RpAll K (hid Pr H1) ws ys) (hf : flat2 (zipL xs ys) = true) : JOk K (Itz K l m) (zipL xs ys) Pr H1 := by
  refine ⟨fun H lt i hi => ?_, fun H lt => ?_, fun H lt i x v H' e y => ?_⟩
  · rw [zipL_len, ← r.length, ← r2.length] at hi
    exact ⟨vs, ws, vs[i], ws[i], later_sl lt h, later_sl lt h2, List.getElem?_eq_getElem (by omega), List.getElem?_eq_getElem (by omega)⟩
  · rw [zipL_len, ← r.length, ← r2.length]
    exact ⟨vs, ws, later_sl lt h, later_sl lt h2, by omega⟩
  · obtain ⟨T, z, z2, rfl, hT, rfl, hz, hz2⟩ := y
    obtain ⟨a, b, e1, e2, rfl⟩ := zipL_get e
    obtain ⟨u, u1, u2⟩ := r.get e1
    obtain ⟨w, w1, w2⟩ := r2.get e2
    have ez : u = z := Option.some.inj (u1.symm.trans (hz vs (later_sl lt h)))
    have ez2 : w = z2 := Option.some.inj (w1.symm.trans (hz2 ws (later_sl lt h2)))
    subst ez ez2
    exact pair_yld lt hT u2 w2 (flat2_at hf (List.mem_of_getElem? e))
theorem jok_zipT {K : Fg} {Pr : Addr → Prop} {H1 : Hp} {l m : Addr} {vs ws : List V} {xs ys : List D} (h : SqT K (hid Pr H1) l vs) (r : RpAll K (hid Pr H1) vs xs) (h2 : SqT K (hid Pr H1) m ws) (r2 : RpAll K (hid Pr H1) ws ys) (hf : flat2 (zipL xs ys) = true) : JOk K (RZ.ItzT K l m) (zipL xs ys) Pr H1 := by
  refine ⟨fun H lt i hi => ?_, fun H lt => ?_, fun H lt i x v H' e y => ?_⟩
  · rw [zipL_len, ← r.length, ← r2.length] at hi
    exact ⟨vs, ws, vs[i], ws[i], later_st lt h, later_st lt h2, List.getElem?_eq_getElem (by omega), List.getElem?_eq_getElem (by omega)⟩
  · rw [zipL_len, ← r.length, ← r2.length]
    exact ⟨vs, ws, later_st lt h, later_st lt h2, by omega⟩
  · obtain ⟨T, z, z2, rfl, hT, rfl, hz, hz2⟩ := y
    obtain ⟨a, b, e1, e2, rfl⟩ := zipL_get e
    obtain ⟨u, u1, u2⟩ := r.get e1
    obtain ⟨w, w1, w2⟩ := r2.get e2
    have ez : u = z := Option.some.inj (u1.symm.trans (hz vs (later_st lt h)))
    have ez2 : w = z2 := Option.some.inj (w1.symm.trans (hz2 ws (later_st lt h2)))
    subst ez ez2
    exact pair_yld lt hT u2 w2 (flat2_at hf (List.mem_of_getElem? e))
/-- range(i, j, -1) -/
def downD (i : Int) (n : Nat) : List D := (List.range n).map fun (k : Nat) => PyData.int (i + (k : Int) * (-1))
def range3 : List D → Option (List D)
  | [.int i, .int j, .int c] => if (small62 i && small62 j && decide (c = -1)) = true then some (downD i (i - j).toNat) else none
  | _ => none
def zipA : List D → Option (List D)
  | [x, y] => zipD x y
  | _ => none
def iA (f : List D → Option (List D)) (ms : List ME) : MI := fun ρ => (mArgs ms ρ).bind fun vs ρ1 => opt ((allD vs).bind f) ρ1
theorem jok_down {K : Fg} {Pr : Addr → Prop} {H1 : Hp} (lo : Int) (n : Nat) : JOk K (Itc lo (-1) n) (downD lo n) Pr H1 := by
  have hl : ((List.range n).map fun (k : Nat) => V.int (lo + (k : Int) * (-1))).length = n := by rw [List.length_map, List.length_range]
  have rp : RpAll K (hid Pr H1) ((List.range n).map fun (k : Nat) => V.int (lo + (k : Int) * (-1))) (downD lo n) := by
    unfold downD
    generalize List.range n = ks
    induction ks with
    | nil => exact .nil
    | cons k ks ih => exact .cons (.int _) ih
  refine jok_items rp (fun H lt i h => ?_) (fun H lt => ?_) fun H lt i v H' y => ?_
  · rw [hl] at h
    exact h
  · rw [hl]
    exact Nat.le_refl n
  · obtain ⟨e1, e2⟩ := y
    refine ⟨e1, fun w hw => ?_⟩
    rw [e2]
    rw [List.getElem?_map] at hw
    cases e3 : (List.range n)[i]? with
    | none => rw [e3] at hw; cases hw
    | some k =>
      rw [e3] at hw
      have hk : k = i := by
        have := (List.getElem?_eq_some_iff.mp e3).2
        rw [List.getElem_range] at this
        exact this.symm
      subst hk
      exact Option.some.inj hw
section
variable {X : Cx} {P : Pk} {E : St → XK} {te a b c : Expr} {ma mb mc : ME} {p pos p2 p3 p4 : Pos}
theorem i_zip {elts : List Expr} {kk : Nat} (hm : X.mg "zip" = none) (ha : PA X [a, b] (tAs P E [ma, mb])) (hK : X.K = P.K := by rfl) (hg : Gl X "zip" := by rfl) (hs : starEach [a, b] X.env = (false, eval a X.env) :: starEach [b] X.env := by rfl)
    (hpl : (backTo pos (starEach [b] X.env)).any (·.1) = false := by rfl) : PI X (.Tuple elts kk p4) (.Call (.Name "zip" p) [a, b] [] pos) (iM P E (iA zipA [ma, mb])) := by
  obtain ⟨K, CA⟩ := P
  subst hK
  refine PI.imp (RZ.pi_zipA hg hm ha hs hpl) fun σ H R ⟨g, ρ, r, h⟩ => ?_
  refine ⟨g, ρ, r, bindG (R := RAP _) (R' := RJ _) h fun ss ρ1 vs H1 r1 s1 f1 q1 h1 => ?_⟩
  obtain ⟨xs, ez, h1⟩ := opt_of h1
  obtain ⟨ds, e1, e2⟩ := Option.bind_eq_some_iff.mp ez
  have rr := q1.allD e1
  unfold zipA at e2
  split at e2
  · rename_i x y
    cases rr with
    | cons k1 rr =>
      cases rr with
      | cons k2 rr =>
        cases rr
        unfold zipD at e2
        split at e2
        · split at e2
          · rename_i hf
            cases e2
            cases k1 with
            | lst a1 a2 =>
              cases k2 with
              | lst b1 b2 => exact ⟨_, _, _, _, rfl, .inl ⟨hid_le.sl a1, hid_le.sl b1, h1 _ H1 r1 (.refl _) (.refl _ _) (jok_zip a1 a2 b1 b2 hf)⟩⟩
          · cases e2
        · split at e2
          · rename_i hf
            cases e2
            cases k1 with
            | tup a1 a2 =>
              cases k2 with
              | tup b1 b2 => exact ⟨_, _, _, _, rfl, .inr ⟨hid_le.st a1.1, hid_le.st b1.1, h1 _ H1 r1 (.refl _) (.refl _ _) (jok_zipT a1.1 a2 b1.1 b2 hf)⟩⟩
          · cases e2
        · cases e2
  · cases e2
theorem i_range3 (hm : X.mg "range" = none) (ha : PA X [a, b, c] (tAs P E [ma, mb, mc])) (hK : X.K = P.K := by rfl) (hg : Gl X "range" := by rfl)
    (hs : starEach [a, b, c] X.env = (false, eval a X.env) :: starEach [b, c] X.env := by rfl) (hpl : (backTo pos (starEach [b, c] X.env)).any (·.1) = false := by rfl) : PI X te (.Call (.Name "range" p) [a, b, c] [] pos) (iM P E (iA range3 [ma, mb, mc])) := by
  obtain ⟨K, CA⟩ := P
  subst hK
  refine PI.imp (pi_range3 hg hm ha hs hpl) fun σ H R ⟨g, ρ, r, h⟩ => ?_
  refine ⟨g, ρ, r, bindG (R := RAP _) (R' := RJ _) h fun ss ρ1 vs H1 r1 s1 f1 q1 h1 => ?_⟩
  obtain ⟨xs, ez, h1⟩ := opt_of h1
  obtain ⟨ds, e1, e2⟩ := Option.bind_eq_some_iff.mp ez
  have rr := q1.allD e1
  unfold range3 at e2
  split at e2
  · rename_i i j k
    split at e2
    · rename_i hc
      cases e2
      rw [Bool.and_eq_true, Bool.and_eq_true, decide_eq_true_eq] at hc
      obtain ⟨⟨n1, n2⟩, rfl⟩ := hc
      obtain ⟨m1, m2⟩ := small62_of n1
      obtain ⟨m3, m4⟩ := small62_of n2
      cases rr with
      | cons k1 rr =>
        cases rr with
        | cons k2 rr =>
          cases rr with
          | cons k3 rr =>
            cases rr
            cases k1
            cases k2
            cases k3
            exact ⟨i, j, -1, (i - j).toNat, rfl, RgC.neg m1 m2 m3 m4, h1 _ H1 r1 (.refl _) (.refl _ _) (jok_down i _)⟩
    · cases e2
  · cases e2
end
end MP
end

section
set_option Elab.async false
set_option linter.all false
set_option maxRecDepth 100000
set_option maxHeartbeats 4000000
set_option autoImplicit false
namespace MP
open PySem PySem.Spec L2
/-! ### repr of data with dicts and lists in one another -/
/-- sys.modules stands in the base -/
structure Sys (base : Heap) : Prop where
  ns : ∃ m, base.Ns sysModules m
section
variable {X : Cx} {pins : List (Addr × Obj)} {σ : St} {H : Hp} {s : Shared}
theorem lst_notSys (I : Inv X pins σ H s) (hK : Sys X.base) {a : Addr} {xs : List V} (h : SqL X.K H a xs) : sysModules ≠ a := fun z => by
  subst z
  obtain ⟨m, o, es, ep, e, d, _⟩ := hK.ns
  have n := (I.bs _ _ e).2
  rcases h with (h | ⟨_, h⟩) | ⟨o', its, k, h, _, _, d', _⟩
  · rw [n] at h; cases h
  · rw [n] at h; cases h
  · have e' := I.mod.kin _ _ h
    rw [e] at e'
    cases e'
    rw [d] at d'
    cases d'
mutual
theorem Rp.reads3 (I : Inv X pins σ H s) (hK : Sys X.base) : ∀ (d : D) (v : V) (u : Value), Rp X.K H v d → RelV v u → ∃ as, Reads s.heap u d as ∧ sysModules ∉ as
  | .none, _, _, h, r => by
    cases h
    cases r
    exact ⟨_, Reads.none, fun z => nomatch z⟩
  | .bool b, _, _, h, r => by
    cases h
    cases r
    exact ⟨_, Reads.bool b, fun z => nomatch z⟩
  | .int i, _, _, h, r => by
    cases h
    obtain ⟨t, rfl⟩ := r
    exact ⟨_, Reads.int i t, fun z => nomatch z⟩
  | .str x, _, _, h, r => by
    cases h
    obtain ⟨t, rfl⟩ := r
    exact ⟨_, Reads.str x t, fun z => nomatch z⟩
  | .list ds, _, _, h, r => by
    cases h with
    | lst hs ha =>
      cases r
      obtain ⟨its, rv, ⟨o, n, ho, hc, _, hd⟩, _⟩ := I.list hs
      obtain ⟨as, hr, hn⟩ := RpAll.reads3 I hK ds _ its ha rv
      refine ⟨_, Reads.list ho hc hd hr, fun z => ?_⟩
      rcases List.mem_cons.mp z with z | z
      · exact lst_notSys I hK hs z
      · exact hn z
  | .tuple ds, _, _, h, r => by
    cases h with
    | tup hs ha =>
      cases r
      obtain ⟨its, rv, ⟨o, ho, hc, n, hd⟩, _⟩ := I.tuple hs.1
      obtain ⟨as, hr, hn⟩ := RpAll.reads3 I hK ds _ its ha rv
      exact ⟨_, Reads.tuple ho hc hd hr, hn⟩
  | .dict kvs, _, _, h, r => by
    cases h with
    | dic hs ha =>
      cases r
      obtain ⟨_, nS, vs, kv, o, es, ep, ho, hx, hd, ks, hp, _⟩ := dk_rd I.hok hs
      obtain ⟨as, bs, r1, r2, n1, n2⟩ := RpKv.reads3 I hK kvs _ vs es.toList ha kv hp
      refine ⟨_, Reads.dict ho hx.1 hd r1 r2, fun y => ?_⟩
      rcases List.mem_cons.mp (List.cons_append ▸ y) with y | y
      · rw [← y] at nS
        simp at nS
      · rcases List.mem_append.mp y with y | y
        · exact n1 y
        · exact n2 y
theorem RpAll.reads3 (I : Inv X pins σ H s) (hK : Sys X.base) : ∀ (ds : List D) (vs : List V) (us : List Value), RpAll X.K H vs ds → Vals vs us → ∃ as, ReadsAll s.heap us ds as ∧ sysModules ∉ as
  | [], _, _, h, r => by
    cases h
    cases r
    exact ⟨_, ReadsAll.nil, fun z => nomatch z⟩
  | d :: ds, _, _, h, r => by
    cases h with
    | cons h1 h2 =>
      cases r with
      | cons r1 r2 =>
        obtain ⟨as, q1, n1⟩ := Rp.reads3 I hK d _ _ h1 r1
        obtain ⟨bs, q2, n2⟩ := RpAll.reads3 I hK ds _ _ h2 r2
        refine ⟨_, ReadsAll.cons q1 q2, fun y => ?_⟩
        rcases List.mem_append.mp y with y | y
        · exact n1 y
        · exact n2 y
theorem RpKv.reads3 (I : Inv X pins σ H s) (hK : Sys X.base) : ∀ (ds : List (D × D)) (vs : List (Key × V)) (us : List (Key × Value)) (es : List DictEntry), RpKv X.K H vs ds → KV vs us → Pairs (mixKind X.prog X.w) es us →
    ∃ as bs, ReadsAll s.heap (es.map (·.key)) (ds.map (·.1)) as ∧ ReadsAll s.heap (es.map (·.val)) (ds.map (·.2)) bs ∧ sysModules ∉ as ∧ sysModules ∉ bs
  | [], _, _, _, h, r, p => by
    cases h
    cases r
    cases p
    exact ⟨_, _, ReadsAll.nil, ReadsAll.nil, (fun z => nomatch z), fun z => nomatch z⟩
  | d :: ds, _, _, _, h, r, p => by
    cases h with
    | cons h1 h2 =>
      cases r with
      | cons r1 r2 =>
        cases p with
        | cons k1 e1 p' =>
          obtain ⟨as, bs, q1, q2, n1, n2⟩ := RpKv.reads3 I hK ds _ _ _ h2 r2 p'
          obtain ⟨r1a, r1b⟩ := r1
          obtain ⟨cs, q3, n3⟩ := Rp.reads3 I hK _ _ _ h1 r1b
          have r1c := r1a
          simp only at r1c
          rw [← e1] at q3
          rcases keyIs_shape k1 with ⟨i, t, h3, h4⟩ | ⟨x, t, h3, h4⟩
          · rw [r1c, h3]
            refine ⟨_, _, ReadsAll.cons (show Reads s.heap _ (keyD (.inl i)) [] by simp only [h4]; exact Reads.int i t) q1, ReadsAll.cons q3 q2, n1, fun y => ?_⟩
            rcases List.mem_append.mp y with y | y
            · exact n3 y
            · exact n2 y
          · rw [r1c, h3]
            refine ⟨_, _, ReadsAll.cons (show Reads s.heap _ (keyD (.inr x)) [] by simp only [h4]; exact Reads.str x t) q1, ReadsAll.cons q3 q2, n1, fun y => ?_⟩
            rcases List.mem_append.mp y with y | y
            · exact n3 y
            · exact n2 y
end
end
def repOkW (x : D) : Bool := x.showable && decide (x.shown.length ≤ line) && decide (x.depth ≤ 50)
def gReprW : List D → Option SV
  | [x] => if repOkW x = true then some (.d (.str x.shown)) else none
  | _ => none
def rReprW (K : Fg) : List V → Hp → VK → Prop := fun vs H Q => ∃ v x, vs = [v] ∧ Rp K H v x ∧ repOkW x = true ∧ Q (.str x.shown) H
theorem cr_reprW {X : Cx} (hK : Sys X.base) (hg : X.A.guards = some []) (hu : X.A.units + 64 < cLine) : CallR X (.builtin "repr") (rReprW X.K) := by
  intro pins s σ H vs us Q I r h
  obtain ⟨v, x, rfl, hx, ok, q⟩ := h
  obtain ⟨u, rfl, rv⟩ := vals1 r
  unfold repOkW at ok
  rw [Bool.and_eq_true, Bool.and_eq_true, decide_eq_true_eq, decide_eq_true_eq] at ok
  obtain ⟨⟨k1, k2⟩, k3⟩ := ok
  have k2' : x.shown.length ≤ sizeLine := by rw [sizeLine_eq]; exact k2
  obtain ⟨as, rd, ns⟩ := Rp.reads3 I hK x v u hx rv
  have hsm : x.hasDict = true → sysModules ∉ as := fun _ => ns
  have done : ∀ {h' : Heap} {tk u'}, (∀ b o, s.heap.get? b = some o → h'.get? b = some o) → EP X pins σ Q (.str x.shown u') { s with heap := h', toks := tk } := fun {h' tk u'} kp => ⟨.str x.shown, H, I.kept kp, ⟨_, rfl⟩, q⟩
  have ref : ∀ a, u = .ref a → wpAny (model X.prog X.w) X.A (call (.builtin "repr") [u]) (EP X pins σ Q) X.xe s := fun a e => by
    subst e
    exact repr_of_reads' rd k1 hsm hg (by omega) (fun _ _ z => z) (fun h' u' tk kp => done kp) k2'
  cases x with
  | none =>
    cases hx
    cases rv
    exact PySem.P.repr_of_none (done fun _ _ z => z)
  | bool b =>
    cases hx
    cases rv
    exact PySem.P.repr_of_bool (done fun _ _ z => z)
  | int i =>
    cases hx
    obtain ⟨t, rfl⟩ := rv
    have k1' : decide (i.natAbs.log2 < 1920) = true := by simpa [PyData.showable] using k1
    exact PySem.P.repr_of_int (of_decide_eq_true k1') (done fun _ _ z => z)
  | str y =>
    cases hx
    obtain ⟨t, rfl⟩ := rv
    exact PySem.P.repr_of_str (done fun _ _ z => z) k2'
  | list ds => cases hx with | lst hs ha => exact ref _ rv
  | tuple ds => cases hx with | tup hs ha => exact ref _ rv
  | dict ds => cases hx with | dic hs ha => exact ref _ rv
theorem og_reprW {K : Fg} : CallG (rReprW K) K gReprW := by
  intro Pr H vs xs sv Q tr hv e k
  unfold gReprW at e
  split at e
  · split at e
    · cases e
      cases hv with
      | cons h1 h2 =>
        cases h2
        exact ⟨_, _, rfl, h1.rp hid_le, by assumption, k _ _ (.refl _) res_str⟩
    · cases e
  · cases e
/-! ### any of a list of ints -/
def gAnyL : List D → Option SV
  | [.list xs] => match boolsOf xs with
    | some bs => some (.d (.bool (bs.any id)))
    | none => (intsOf xs).map fun is => .d (.bool (is.any fun i => i != 0))
  | xs => gAnyW xs
def rAnyL (K : Fg) : List V → Hp → VK → Prop := fun vs H Q => ∃ (a : Addr) (is : List Int), vs = [V.ref a] ∧ SqL K H a (is.map V.int) ∧ Q (.bl (is.any fun i => i != 0)) H
section
variable {X : Cx}
theorem cr_anyL (hc : X.calm = true) : CallR X (.builtin "any") (rAnyL X.K) := by
  intro pins s σ H vs us Q I r h
  obtain ⟨a, is, rfl, hs, q⟩ := h
  obtain ⟨its, rv, hl, _⟩ := I.list hs
  rw [Vals.ref1 r]
  refine call_any_walk (iter_any hl.isList fun s₂ e2 st hne => ?_)
  subst e2
  refine ⟨_, _, _, _, _, _, _, rfl, Walks.list (A := X.A.in1) (I.ok.hd hc) _ a hne its.toArray, st, truth_ints rv.ints, fun h' tk hk => ?_⟩
  refine ⟨.bl _, H, I.kept fun b o eo => hk b o (fun hmem => ?_) (Heap.get?_push_of_some _ eo), ?_, q⟩
  · rcases List.mem_cons.mp hmem with e1 | hmem
    · exact absurd (e1 ▸ Heap.lt_size eo) (Nat.lt_irrefl _)
    · cases hmem
  · show Value.bool _ = Value.bool _
    have hn : its.length = is.length := by rw [← rv.length, List.length_map]
    have := any_range (is.map fun j => j != 0)
    rw [List.length_map, List.any_map] at this
    rw [List.size_toArray, hn, this]
    rfl
theorem og_anyL {K : Fg} : CallG (fun xs H Q => (rAny K xs H Q ∨ rAnyT K xs H Q) ∨ rAnyL K xs H Q) K gAnyL := by
  intro Pr H vs xs sv Q tr hv e k
  unfold gAnyL at e
  split at e
  · rename_i ys
    split at e
    · rename_i bs hb
      exact .inl (og_anyW Pr H vs [.list ys] sv Q tr hv (by unfold gAnyW gAny; simp only [hb, Option.map_some]; exact e) k)
    · obtain ⟨is, e1, e2⟩ := Option.map_eq_some_iff.mp e
      subst e2
      cases hv with
      | cons h1 h2 =>
        cases h2
        obtain ⟨a, ws, rfl, q, r⟩ := h1
        rw [rp_intsOf e1 r] at q
        exact .inr ⟨a, is, rfl, q, k _ _ (.refl _) res_bool⟩
  · exact .inl (og_anyW Pr H vs xs sv Q tr hv e k)
/-! ### either product -/
def bMulX : D → D → Option SV
  | .tuple xs, y => bRepT (.tuple xs) y
  | x, y => bMulI x y
theorem og_mulX {K : Fg} : OpG (fun x y H Q => rI IntMulOk (fun i j => .int (i * j)) x y H Q ∨ (rRepT K x y H Q ∨ rRepT1 K x y H Q)) K bMulX := by
  intro Pr H v w x y sv Q tr hv hw e k
  unfold bMulX at e
  split at e
  · exact .inr (og_repT Pr H v w _ y sv Q tr hv hw e k)
  · exact .inl (og_mul (K := K) Pr H v w _ y sv Q tr hv hw e k)
theorem op_mulX : OpR X (binaryOp .Mult) (fun x y H Q => rI IntMulOk (fun i j => .int (i * j)) x y H Q ∨ (rRepT X.K x y H Q ∨ rRepT1 X.K x y H Q)) := opOr op_mulA op_repTW
end
/-! ### {'a': x} -/
section
variable {K : Fg} {g : Gh} {H : Hp} {σ : St} {ρ : En} {p : Addr} {o : HO}
theorem hid_poke (hp : g.Pm p) : MP.hid (Out' g σ ρ) (upd H p o) = MP.hid (Out' g σ ρ) H := by
  funext a
  unfold MP.hid
  by_cases h : Out' g σ ρ a
  · rw [if_pos h, if_pos h]
  · rw [if_neg h, if_neg h, upd_ne fun z => h (.inl (by rw [z]; exact hp))]
theorem Rep.poke (r : Rep K g H σ ρ) (hp : g.Pm p) : Rep K g (upd H p o) σ ρ := by
  refine ⟨r.len, fun i x h => ?_, fun i c h => ?_, r.inj, fun a h => ?_, r.rf, r.rfs, r.noexc, r.nofn⟩
  · rw [hid_poke hp]
    exact r.d i x h
  · obtain ⟨a, h1, h2, h3⟩ := r.cell i c h
    refine ⟨a, h1, h2, ?_⟩
    rw [hid_poke hp]
    exact h3.mono (.refl _) (upd_ne fun z => h2 (by rw [z]; exact hp))
  · by_cases z : a = p
    · subst z
      exact ⟨o, upd_same⟩
    · obtain ⟨u, e⟩ := r.pm a h
      exact ⟨u, (upd_ne z).trans e⟩
end
def mDctS (k : Str) (m : ME) : ME := fun ρ => (m ρ).bind fun v ρ1 => toB v fun x => .ok (.own (.dct [(.str k, x)])) ρ1
section
variable {X : Cx} {P : Pk} {E : St → XK} {b : Expr} {mb : ME} {pos p2 : Pos}
theorem s_dS {k : Str} {j : Nat} (hb : PE X b (tM P E mb)) : PE X (.Dict [some (.Constant (.str k) j p2)] [b] pos) (tM P E (mDctS k mb)) := by
  refine PE.imp (pe_disp (pps_cons pe_str hb pps_nil) rfl rfl (by intro h; cases h) (by show 1 ≤ 15; decide)) fun σ H Q ⟨g, ρ, rp, h⟩ p hp => ?_
  have h' : PostE P E g σ ρ H H Q ((mb ρ).bind fun v ρ1 => toB v fun x => .ok (.own (.dct [(.str k, x)])) ρ1) := h
  have rp' := rp.add_new hp (.new hp) ⟨(.dK [] : HO), upd_same⟩
  refine ⟨g.add p, ρ, rp', ?_⟩
  cases e : mb ρ with
  | stuck => rw [e] at h'; exact h'.elim
  | raise c x ρ1 =>
    rw [e] at h'
    have h2 : RX P E g σ ρ H c x ρ1 := h'
    have h3 := h2.step (.refl _) (.of_grow (.new (o := .dK []) hp))
    exact fun d v H' r s f ee q => h3 d v H' (r.less (g.le_add p)) s f ee (q.grow (g.le_add p).hid)
  | ok sv ρ1 =>
    rw [e] at h'
    intro y H2 r2 s2 f2 q2
    have h3 : PostE P E g σ ρ H H Q (toB sv fun x => .ok (.own (.dct [(.str k, x)])) ρ1) := h'
    obtain ⟨x, ex, h3⟩ := toB_some h3
    have no : ¬ Own σ ρ p := fun ⟨i, c, z1, z2⟩ => by
      obtain ⟨a, y1, y2, _⟩ := rp'.cell i c z1
      rw [z2] at y1
      cases y1
      exact y2 (.inr rfl)
    have hp2 : H2 p = some (.dK []) := f2.keep p _ upd_same no
    refine ⟨hp2, [(.inr k, y)], rfl, (by show 1 ≤ 15; decide), ?_⟩
    show Q (.ref p) (upd H2 p (.dK [(.inr k, y)]))
    have rr := r2.poke (o := .dK [(.inr k, y)]) (p := p) (.inr rfl)
    have rx := q2.keep ex
    have no1 : ¬ Out' g σ ρ1 p := fun z => z.elim (fun z => by
      obtain ⟨u, eu⟩ := rp.pm p z
      rw [hp] at eu
      cases eu) fun z => no (s2.symm.own z)
    refine h3 (.ref p) _ (rr.less (g.le_add p)) s2 ⟨fun a u eu n => ?_, fun a u eu => ?_⟩ ⟨⟨p, rfl, hp, no1, [(.inr k, y)], upd_same, .cons (rx.grow (hid_grow fun a u n eu => ?_)) .nil⟩, fun p' ee => ?_⟩
    · have z : a ≠ p := ne_of_none eu hp
      rw [upd_ne z]
      exact f2.keep a u ((upd_ne z).trans eu) n
    · have z : a ≠ p := ne_of_none eu hp
      obtain ⟨u', eu'⟩ := f2.stay a u ((upd_ne z).trans eu)
      exact ⟨u', (upd_ne z).trans eu'⟩
    · have z : a ≠ p := fun z => n (.inl (.inr z))
      exact ⟨fun w => w.elim (fun w => n (w.imp .inl id)) z, (upd_ne z).trans eu⟩
    · cases ee
      exact rr
/-! ### [..].index(i) -/
def idxI (xs : List D) : D → Option SV
  | .int i => (intsOf xs).bind fun is => if is.contains i = true then some (.d (.int (is.findIdx (· == i) : Nat))) else none
  | _ => none
def mIdxL (a b : ME) : ME := fun ρ => (a ρ).bind fun v ρ1 => toB v fun x => match x with
  | .list xs => (b ρ1).bind fun w ρ2 => viewB ρ2 w fun y => opt (idxI xs y) ρ2
  | _ => .stuck
theorem s_index {o a : Expr} {apos : Pos} {mo ma : ME} (ho : PE X o (tM P E mo)) (ha : PE X a (tM P E ma)) (hK : X.K = P.K := by rfl)
    (hbase : attributeBase o "index" X.env (eval o X.env) = eval o X.env := by rfl)
    (hfew : ((backTo pos (starEach [a] X.env)).all (fun x => !x.1) && (backToKw pos (keywordEach [] X.env)).all (fun x => x.1.isSome)
      && decide ([a].length + ([] : List Keyword).length + (if ([] : List Keyword).isEmpty then 0 else 1) < 30)) = true := by rfl)
    (hline : (apos.endLine == pos.line) = true := by rfl) (hs : starEach [a] X.env = (false, eval a X.env) :: starEach [] X.env := by rfl) (hplain : (backTo pos (starEach [] X.env)).any (·.1) = false := by rfl) :
    PE X (.Call (.Attribute o "index" apos) [a] [] pos) (tM P E (mIdxL mo ma)) := by
  obtain ⟨K, CA⟩ := P
  subst hK
  refine PE.imp (pe_bm F.plainAttrs_list F.slot_list_index F.type_list_index mt_index ho (pa_cons ha pa_nil hs) hbase hfew hline hs hplain) fun σ H Q ⟨g, ρ, rp, h⟩ => ?_
  have h' : PostE ⟨X.K, CA⟩ E g σ ρ H H Q ((mo ρ).bind fun v ρ1 => toB v fun x => match x with
  | .list xs => (ma ρ1).bind fun w ρ2 => viewB ρ2 w fun y => opt (idxI xs y) ρ2
  | _ => .stuck) := h
  refine ⟨g, ρ, rp, bindG (R := RVP _) (R' := RVP _) h' fun sv ρ1 v H1 r1 s1 f1 q1 h1 => ?_⟩
  obtain ⟨x, ex, h1⟩ := toB_some h1
  cases x with
  | list xs =>
    have k1 := (q1.keep ex)
    cases k1 with
    | @lst l vs _ k2 k3 =>
    refine ⟨.inl ⟨rfl, vs, hid_le.sl k2⟩, g, ρ1, r1, bindG (R := RVP _) (R' := RVP _) h1 fun sw ρ2 w H2 r2 s2 f2 q2 h2 => ?_⟩
    obtain ⟨y, ey, h2⟩ := viewB_some' h2
    obtain ⟨z, ez, h2⟩ := opt_of h2
    have gr := hid_later (g := g) s2 f2
    have k2' := hid_le.sl (gr.sl k2)
    have k3' := k3.grow gr
    have ty := q2.top r2 ey
    unfold idxI at ez
    split at ez
    · rename_i i
      have ty' : w = .int i := ty
      subst ty'
      obtain ⟨is, e1, e2⟩ := Option.bind_eq_some_iff.mp ez
      split at e2
      · rename_i hc
        cases e2
        rw [rp_intsOf e1 k3'] at k2'
        have hm : i ∈ is := by simpa using hc
        have hlt : is.findIdx (· == i) < is.length := List.findIdx_lt_length_of_exists ⟨i, hm, by simp⟩
        have hat := List.findIdx_getElem (w := hlt)
        have hat' : is[is.findIdx (· == i)] = i := by simpa using hat
        refine ⟨l, is.map V.int, .int i, is.findIdx (· == i), .int i, rfl, rfl, k2', rfl, ?_, ?_, ?_, fun m z' hm' hz' => ?_, ?_⟩
        · rw [List.all_eq_true]
          intro x hx
          obtain ⟨j, _, rfl⟩ := List.mem_map.mp hx
          rfl
        · rw [List.getElem?_map, List.getElem?_eq_getElem hlt, hat']; rfl
        · show decide (i = i) = true
          exact decide_eq_true rfl
        · have hm2 : m < is.length := Nat.lt_trans hm' hlt
          rw [List.getElem?_map, List.getElem?_eq_getElem hm2] at hz'
          cases hz'
          have := List.not_of_lt_findIdx hm'
          have hne : ¬ is[m] = i := by simpa using this
          show decide (is[m] = i) = false
          exact decide_eq_false hne
        · exact post_res r2 (f1.free.trans f2.free) h2 (.refl _) res_int
      · cases e2
    · cases ez
  | _ => exact h1.elim
end
end MP
namespace MP
open PySem PySem.Spec PyProof.Rows L2
/-- the law's def called by the claim's caller: its promise, read at the heap that the top left -/
theorem law_G2 {PP : Program} {w : World} {K : Fg} {mg mb : Str → Option Value} {k : Nat} {fa a : Addr} {fd : FuncData} {x : Str} {sp : Sp} {z1 : Shared} {vs : List Value} {ns : List Int}
    (inK : K.In z1.heap) (gl : z1.heap.Ns mainGlobals mg) (bl : z1.heap.Ns builtinsNs mb) (boot : ∀ y : Str, y ≠ "__name__" → mb y = bootBuiltins y) (nl : z1.heap.NoLimit) (gn : z1.gens = #[])
    (ha : z1.heap.get? a = some { cls := .type "list", data := .seq vs.toArray }) (hi : IntsAre vs ns) (hz : ns.length ≤ sizeLine) (room : Room k callerA)
    (ms : ∃ mm, z1.heap.Ns sysModules mm) (F : ∀ base : Heap, K.In base → base.Ns mainGlobals mg → Sys base → FnG PP w K mg base k fa fd [x] sp) (bd : ∀ (s : Shared) (u : Value), BindsTo s fd ⟨[u], []⟩ [(x, u)])
    (hsp : ∀ H : Hp, SqL K H a (ns.map V.int) → sp [.ref a] H (fun v _ => v = .bl true) fun _ _ _ => False) :
    codeAny (model PP w) callerA (.call (.ref fa) ⟨[.ref a], []⟩) (fun r s' => r = .ok (.ret (.bool true)) ∧ OldK z1.heap s'.heap ∧ s'.os = z1.os ∧ AllBare s'.gens) z1 := by
  have vi := vals_ints hi
  have li := hi.length
  have main : ∀ H : Hp, (∀ b, H b = none ∨ ∃ o xs, H b = some (.frz o (.lst xs))) → SqL K H a (ns.map V.int) → HOk PP w H z1.heap → (∀ b, H b ≠ none → b = a) → (H a ≠ none → K.lookup a = none) →
      codeAny (model PP w) callerA (.call (.ref fa) ⟨[.ref a], []⟩) (fun r s' => r = .ok (.ret (.bool true)) ∧ OldK z1.heap s'.heap ∧ s'.os = z1.os ∧ AllBare s'.gens) z1 := by
    intro H only sq ok one free
    have noA : ∀ {b : Addr} {o : Obj} {es : Array DictEntry} {ep : Nat}, z1.heap.get? b = some o → o.data = .dict es ep → H b = none := fun {b o es ep} e d => by
      cases q : H b with
      | none => rfl
      | some u =>
        obtain rfl : b = a := one b (by rw [q]; simp)
        rw [ha] at e
        cases e
        have d' : Data.seq vs.toArray _ = Data.dict es ep := d
        cases d'
    have nsB : ∀ {b : Addr} {m : Str → Option Value}, z1.heap.Ns b m → (hidT z1.heap H).Ns b m := fun {b m} ⟨o, es, ep, e, d, r⟩ => ⟨o, es, ep, hidT_get e (noA e d), d, r⟩
    have inB : K.In (hidT z1.heap H) := fun b o e => hidT_get (inK b o e) (by
      cases q : H b with
      | none => rfl
      | some u =>
        obtain rfl : b = a := one b (by rw [q]; simp)
        rw [free (by rw [q]; simp)] at e
        cases e)
    have mod : Mod K mg (hidT z1.heap H) := ⟨inB, nsB gl, ⟨mb, nsB bl, boot⟩, let ⟨mc, h1, h2⟩ := nl; ⟨mc, nsB h1, h2⟩⟩
    have e0 : Env0 PP w K mg (hidT z1.heap H) callerA [] z1 H := ⟨rfl, mod, fun b o e => of_hidT e, Nat.le_of_eq (hidT_size _ _), trivial, fun b hb => absurd (show b ∈ ([] : List Addr) from hb) (by simp), ok, .of_eq gn⟩
    refine codeAny_mono ((F _ inB (nsB gl) (let ⟨_, z⟩ := ms; ⟨⟨_, nsB z⟩⟩)).go callerA [] z1 H ⟨[.ref a], []⟩ [.ref a] [.ref a] _ _ room rfl e0 (bd z1 (.ref a)) (.cons rfl .nil) (hsp H sq)) fun r s' h => ?_
    cases r with
    | error e =>
      obtain ⟨_, _, _, _, _, _, _, _, _, _, _, _, z⟩ := h
      exact z.elim
    | ok fl => cases fl with
      | next => exact False.elim h
      | brk => exact False.elim h
      | cont => exact False.elim h
      | ret u =>
        obtain ⟨v, H', os, bare, un, ok', r', rfl⟩ := h
        obtain rfl : u = Value.bool true := r'
        refine ⟨rfl, OldK.of_keep fun b o e => ?_, os, bare⟩
        cases q : H b with
        | none => exact un.keep b o e q (by intro z; exact absurd (show b ∈ ([] : List Addr) from z) (by simp)) (by simp)
        | some u =>
          rcases only b with z | ⟨ob, xs, z⟩
          · rw [q] at z
            cases z
          · obtain ⟨e1, _⟩ := ok b _ z
            obtain ⟨e2, _⟩ := ok' b _ (un.frzs b ob _ z)
            rw [e] at e1
            cases e1
            exact e2
  cases hk : K.lookup a with
  | some o =>
    have e := inK a o hk
    rw [ha] at e
    cases e
    exact main (fun _ => none) (fun _ => .inl rfl) (.inr ⟨_, vs.toArray, _, hk, rfl, rfl, rfl, by rw [List.size_toArray, li]; exact hz, by simpa using vi⟩) (fun b u z => nomatch (show (none : Option HO) = some u from z)) (fun b z => absurd rfl z) fun z => absurd rfl z
  | none =>
    refine main (fun b => if b = a then some (.frz { cls := .type "list", data := .seq vs.toArray } (.lst (ns.map V.int))) else none) (fun b => ?_) (.inl (.inr ⟨{ cls := .type "list", data := .seq vs.toArray }, if_pos rfl⟩)) (fun b u z => ?_) (fun b z => ?_) fun _ => hk
    · by_cases hb : b = a
      · exact .inr ⟨_, _, if_pos hb⟩
      · exact .inl (if_neg hb)
    · by_cases hb : b = a
      · have y := (if_pos hb).symm.trans z
        cases y
        subst hb
        exact ⟨ha, by rw [List.length_map]; exact hz, vs, _, vi, ha⟩
      · cases (if_neg hb).symm.trans z
    · by_cases hb : b = a
      · exact hb
      · exact absurd (if_neg hb) z
/-- the goal that k_head leaves, from the law's promise -/
theorem walk_G2 {l : PySem.W.OpenLaw} {n k : Nat} {q : Program} {loose : List Str} {XP : (Str → Option Value) → Heap → Prop} {YP : World → Heap → Prop} {d : DefRec} {K : Params → Fg} {sp : Fg → Sp} {x : Str}
    (hn : l.most = some n) (hn2 : n ≤ sizeLine) (hdf : d.params.defaults = []) (room : Room k callerA)
    (hq : importsNone q = true) (hY : ∀ (w : World) (h : Heap), YP w h → (K w.params).In h)
    (F : ∀ (w : World) (mg : Str → Option Value) (fa : Addr) (h : Heap), (K w.params).In h → h.Ns mainGlobals mg → mg d.name = some (.ref fa) →
      ∃ fd : FuncData, (∀ (s : Shared) (u : Value), BindsTo s fd ⟨[u], []⟩ [(x, u)]) ∧
        ∀ base : Heap, (K w.params).In base → base.Ns mainGlobals mg → Sys base → FnG l.prog w (K w.params) mg base k fa fd [x] (sp (K w.params)))
    (hsp : ∀ (K : Fg) (H : Hp) (a : Addr) (ns : List Int), ns.length ≤ n → SqL K H a (ns.map V.int) → sp K [.ref a] H (fun v _ => v = .bl true) fun _ _ _ => False) :
    PySem.W.WalkO q loose XP YP l.row.toRowW d [] (fun f vs => PySem.call f vs) := by
  refine Att.attach_call hn hdf fun w z0 z1 mg mb fa o pm cd doc a vs ns G Y ho hd hcd hmg hobj hints hlen hg => ?_
  have inK := hY w _ Y
  obtain ⟨fd, bd, hF⟩ := F w mg fa _ inK G.T.g hmg
  exact law_G2 inK G.T.g G.T.b G.T.builtins G.T.nolimit hg hobj hints (Nat.le_trans hlen hn2) room (let ⟨mm, z, _⟩ := (G.T.seer hq).mods; ⟨mm, z⟩) hF bd fun H hS => hsp (K w.params) H a ns hlen hS
end MP
end

section
set_option Elab.async false
set_option linter.all false
set_option maxRecDepth 100000
set_option maxHeartbeats 4000000
set_option autoImplicit false
namespace MP
open PySem PySem.Spec L2
/-! ### a, b = x, y where a pair is made (a name is used in a comprehension) -/
section
variable {X : Cx} {P : Pk} {E : St → XK} {a b : Expr} {ma mb : ME} {pos : Pos}
theorem z_par2c (i j k l : Nat) {x y : Str} {px py pt : Pos} {kt k2 pt2} (ha : PE X a (tM P E ma)) (hb : PE X b (tM P E mb)) (hc : X.calm = true) (hN : X.N.Nodup) (hw : swappedStores [.Tuple [.Name x px, .Name y py] kt pt] (.Tuple [a, b] k2 pt2) X.env = pure none)
    (hi : X.N[i]? = some x := by rfl) (hj : X.N[j]? = some y := by rfl) (hij : i ≠ j := by decide)
    (hx : Loc X.env.scope x := by first | exact Or.inl rfl | exact Or.inr rfl) (hfx : X.fn x = true ∨ X.env.scope.names.lookup x = some .local := by first | exact .inl rfl | exact .inr rfl | assumption)
    (hy : Loc X.env.scope y := by first | exact Or.inl rfl | exact Or.inr rfl) (hfy : X.fn y = true ∨ X.env.scope.names.lookup y = some .local := by first | exact .inl rfl | exact .inr rfl | assumption)
    (h1 : starEach (a :: [b]) X.env = (false, eval a X.env) :: starEach [b] X.env := by rfl) (h2 : starEach (b :: []) X.env = (false, eval b X.env) :: starEach [] X.env := by rfl)
    (hs : swapsWithSole [.Tuple [.Name x px, .Name y py] kt pt] (.Tuple [a, b] k2 pt2) pos.line X.env = pure false := by rfl)
    (hg1 : (assignEach [.Name x px, .Name y py] X.env).map (·.2) = assign (.Name x px) X.env :: (assignEach [.Name y py] X.env).map (·.2) := by rfl) (hg2 : (assignEach [.Name y py] X.env).map (·.2) = assign (.Name y py) X.env :: (assignEach [] X.env).map (·.2) := by rfl)
    (hn : (assignEach [.Name x px, .Name y py] X.env).length = 2 := by rfl) (hst : (assignEach [.Name x px, .Name y py] X.env).findIdx? (·.1) = none := by rfl)
    (ht : (assignEach [.Tuple [.Name x px, .Name y py] kt pt] X.env).map (·.2) = [assign (.Tuple [.Name x px, .Name y py] kt pt) X.env] := by rfl) :
    PS X (.Assign [.Tuple [.Name x px, .Name y py] kt pt] (.Tuple [a, b] k2 pt2) pos) (tS P E (sPar2 k i l j ma mb)) := by
  refine PS.imp (ps_asg (pe_tup (pa_cons ha (pa_cons hb pa_nil h2) h1)) (pg_tup hc (pgs_cons (pg_name hN hi hx hfx) (pgs_cons (pg_name hN hj hy hfy) pgs_nil hg2) hg1) hn hst) hs hw ht) fun D σ H ⟨g, ρ, rp, h⟩ => ?_
  have h' : PostS P E g σ ρ H H D ((ma ρ).st fun v ρ1 => (mb ρ1).st fun w ρ2 => (setS (l == 1) j w ρ2).seq fun ρ3 => setS (k == 1) i v ρ3) := h
  refine ⟨g, ρ, rp, stG (R := RVP P) h' fun s1 ρ1 v H1 _ r1 sc1 f1 q1 h1 => ?_⟩
  refine ⟨gadd g v s1, ρ1, q1.gadd r1, ?_⟩
  cases e : mb ρ1 with
  | ok s2 ρ2 =>
    rw [e] at h1
    refine fun w H2 r2 sc2 f2 q2 => ⟨(by show 2 ≤ sizeLine; decide), fun T hT => ?_⟩
    have gr : Grow H2 (upd H2 T (.tup [v, w])) := .new hT
    have f2' : FrE H1 (Own σ ρ1) (upd H2 T (.tup [v, w])) := f2.trans (.of_grow (M := fun _ => False) gr) fun _ z => z.elim
    have q2' : RV P.K (gadd g v s1) H1 (upd H2 T (.tup [v, w])) σ ρ2 w s2 := q2.later_own (.refl _) (.of_grow gr) ((q2.gadd r2).grow gr)
    have fin := after2 sc1 f1 q1 sc2 f2' (r2.grow gr) q2' hij h1
    exact ⟨T, [v, w], rfl, .of upd_same, rfl, v, [w], rfl, w, [], rfl, rfl, fin⟩
  | raise c x ρ2 =>
    rw [e] at h1
    exact PostG.more (R := RVP P) (H0 := H1) less_V (o := .raise c x ρ2) (RX.step (RX.ofS h1) sc1 f1) (le_gadd g v s1)
  | stuck =>
    rw [e] at h1
    exact h1
end
end MP
end

section
set_option Elab.async false
set_option linter.all false
set_option maxRecDepth 100000
set_option maxHeartbeats 4000000
set_option autoImplicit false
namespace MP
open PySem PySem.Spec L2
/-! ### comprehensions with two fors -/
def compGo2 (vs : List Nat) (tg : Tg) (t : MT) (vs1 : List Nat) (tg1 : Tg) (it1 : MI) (t1 : MT) (e : ME) : List D → List D → En → Out SV
  | [], acc, ρ => .ok (.own (.lst acc)) ρ
  | x :: xs, acc, ρ =>
    match tgSet tg x (wipeE ρ vs) with
    | none => .stuck
    | some ρa => noRaise (t ρa) fun c ρb =>
      if c = true then noRaise (it1 ρb) fun ys ρc => if (plainAt ρc vs1 && tgIn tg1 vs1 && decide (acc.length + ys.length ≤ 16777216)) = true then
          noRaise (compGo vs1 tg1 t1 e ys acc ρc) fun v ρd => match v with
            | .own (.lst acc') => compGo2 vs tg t vs1 tg1 it1 t1 e xs acc' (back ρ ρd vs)
            | _ => .stuck
        else .stuck
      else compGo2 vs tg t vs1 tg1 it1 t1 e xs acc (back ρ ρb vs)
def mComp2 (vs : List Nat) (tg : Tg) (it : MI) (t : MT) (vs1 : List Nat) (tg1 : Tg) (it1 : MI) (t1 : MT) (e : ME) : ME := fun ρ => (it ρ).bind fun xs ρ1 => if (plainAt ρ1 vs && tgIn tg vs) = true then compGo2 vs tg t vs1 tg1 it1 t1 e xs [] ρ1 else .stuck
/-- all but D and what is owned is kept -/
structure FrD (H : Hp) (M : Addr → Prop) (Dn : Addr) (H' : Hp) : Prop where
  keep : ∀ a o, a ≠ Dn → H a = some o → ¬ M a → H' a = some o
  stay : ∀ a o, H a = some o → ∃ o', H' a = some o'
theorem FrD.refl (H : Hp) (M : Addr → Prop) (Dn : Addr) : FrD H M Dn H := ⟨fun _ _ _ h _ => h, fun _ o h => ⟨o, h⟩⟩
theorem FrD.of {H H' : Hp} {M : Addr → Prop} {Dn : Addr} (f : FrE H M H') : FrD H M Dn H' := ⟨fun a o _ e n => f.keep a o e n, f.stay⟩
theorem FrD.trans {H H1 H2 : Hp} {M M1 : Addr → Prop} {Dn : Addr} (a : FrD H M Dn H1) (b : FrD H1 M1 Dn H2) (h : ∀ x, M1 x → M x) : FrD H M Dn H2 :=
  ⟨fun x o z e n => b.keep x o z (a.keep x o z e n) (fun q => n (h x q)), fun x o e => let ⟨_, q⟩ := a.stay x o e; b.stay x _ q⟩
theorem FrD.upd {H H' : Hp} {M : Addr → Prop} {Dn : Addr} {o : HO} (a : FrD H M Dn H') : FrD H M Dn (upd H' Dn o) :=
  ⟨fun x u z e n => (upd_ne z).trans (a.keep x u z e n), fun x u e => by
    by_cases z : x = Dn
    · exact ⟨o, by rw [z]; exact upd_same⟩
    · obtain ⟨o', e'⟩ := a.stay x u e
      exact ⟨o', (upd_ne z).trans e'⟩⟩
theorem FrD.fix {H H' : Hp} {M : Addr → Prop} {Dn : Addr} {o : HO} (a : FrD H M Dn H') (h : H' Dn = some o) : FrE (L2.upd H Dn o) M H' :=
  ⟨fun x u e n => by
    by_cases z : x = Dn
    · subst z
      rw [upd_same] at e
      cases e
      exact h
    · rw [upd_ne z] at e
      exact a.keep x u z e n, fun x u e => by
    by_cases z : x = Dn
    · subst z
      exact ⟨o, h⟩
    · rw [upd_ne z] at e
      exact a.stay x u e⟩
theorem FrD.none {H H' : Hp} {M : Addr → Prop} {Dn : Addr} (a : FrD H M Dn H') (h : H Dn = none) : FrE H M H' :=
  ⟨fun x u e n => a.keep x u (ne_of_none e h) e n, a.stay⟩
theorem noR_ok {α β : Type} {o : Out α} {f : α → En → Out β} {b : β} {ρ : En} (h : noRaise o f = .ok b ρ) : ∃ a ρ', o = .ok a ρ' ∧ f a ρ' = .ok b ρ := by
  unfold noRaise at h
  split at h
  · exact ⟨_, _, rfl, h⟩
  · cases h
section
variable {X : Cx} {P : Pk} {E : St → XK} {elt te iter te1 iter1 : Expr} {ifs ifs1 : List Expr} {scope : Scope} {own : List (Str × Nat)} {vs vs1 : List Nat} {tg tg1 : Tg} {it it1 : MI} {t t1 : MT} {e : ME} {pos : Pos}
theorem inner_of {g : Gh} {Dn : Addr} (hPD : g.Pm Dn) {σ : St} {ρ1 ρd : En} {H1 : Hp} {J : It} {ys zs : List D} {av0 : List V} {ad0 : List D} (r1 : Rep P.K g H1 σ ρ1) (q1 : JOk P.K J ys (Out' g σ ρ1) H1) (hD0 : H1 Dn = some (.lst av0)) (ra0 : RpAll P.K (hid (Out' g σ ρ1) H1) av0 ad0)
    (hlen : av0.length + ys.length ≤ 16777216) (hpl : plainAt ρ1 vs = true) (htg : tgIn tg vs = true) (res : compGo vs tg t e ys ad0 ρ1 = .ok (.own (.lst zs)) ρd) (Nx : Hp → Prop)
    (hNx : ∀ H' avz, Rep P.K g H' σ ρd → SameC ρ1 ρd → FrD H1 (Own σ ρ1) Dn H' → H' Dn = some (.lst avz) → RpAll P.K (hid (Out' g σ ρd) H') avz zs → avz.length ≤ av0.length + ys.length → Nx H') :
    ∃ W1 : Nat → Nat → Hp → Prop, (∃ m, W1 0 m H1) ∧ ∀ j k H, W1 j k H → (J.stop j H ∧ Nx H) ∨ (J.go j H ∧ ∃ Nx1 : Hp → Prop, (∀ H', Nx1 H' → ∃ k', k' < k ∧ W1 (j + 1) k' H') ∧ ∀ x H', J.yld j H x H' → gT P tg x (wipe σ vs) H' fun σ3 H5 => wipe σ3 vs = wipe σ vs ∧ tT P E00 t σ3 H5 fun b H6 =>
        if b = true then tM P E00 e σ3 H6 fun y H7 => ∃ acc, H7 Dn = some (.lst acc) ∧ acc.length < sizeLine ∧ Nx1 (upd H7 Dn (.lst (acc ++ [y]))) else Nx1 H6) := by
  have htg' : ∀ j, j ∈ tg.slots → j ∈ vs := fun j hj => by
    unfold tgIn at htg
    rw [List.all_eq_true] at htg
    exact List.contains_iff_mem.mp (htg j hj)
  refine ⟨fun i m H2 => ∃ ρ2 av ad, m = ys.length - i ∧ i ≤ ys.length ∧ Rep P.K g H2 σ ρ2 ∧ SameC ρ1 ρ2 ∧ FrD H1 (Own σ ρ1) Dn H2 ∧ H2 Dn = some (.lst av) ∧ RpAll P.K (hid (Out' g σ ρ2) H2) av ad ∧ av.length ≤ av0.length + i ∧ plainAt ρ2 vs = true ∧ compGo vs tg t e (ys.drop i) ad ρ2 = .ok (.own (.lst zs)) ρd,
    ⟨_, ρ1, av0, ad0, rfl, Nat.zero_le _, r1, .refl _, .refl _ _ _, hD0, ra0, Nat.le_refl _, hpl, res⟩, ?_⟩
  rintro i m H2 ⟨ρ2, av, ad, rfl, hi, r2, s2, f2, hDn, ra, hal, hp2, h2⟩
  have lt2 : Later (Out' g σ ρ1) H1 H2 := fun a o e n => f2.keep a o (fun z => n (.inl (by rw [z]; exact hPD))) e fun z => n (.inr z)
  have nOwn : ∀ {σ' : St} {ρ' : En} {H' : Hp}, Rep P.K g H' σ' ρ' → ¬ Own σ' ρ' Dn := fun r' ⟨j, c, z1, z2⟩ => by
    obtain ⟨a, w1, w2, _⟩ := r'.cell j c z1
    rw [z2] at w1
    cases w1
    exact w2 hPD
  by_cases hlt : i < ys.length
  · rw [drop_cons hlt] at h2
    refine .inr ⟨q1.go H2 lt2 i hlt, fun H3 => ∃ ρ2 av ad, i + 1 ≤ ys.length ∧ Rep P.K g H3 σ ρ2 ∧ SameC ρ1 ρ2 ∧ FrD H1 (Own σ ρ1) Dn H3 ∧ H3 Dn = some (.lst av) ∧ RpAll P.K (hid (Out' g σ ρ2) H3) av ad ∧ av.length ≤ av0.length + (i + 1) ∧ plainAt ρ2 vs = true ∧ compGo vs tg t e (ys.drop (i + 1)) ad ρ2 = .ok (.own (.lst zs)) ρd,
      fun H3 ⟨ρ2, av, ad, z⟩ => ⟨ys.length - (i + 1), by omega, ρ2, av, ad, rfl, z⟩, fun v H3 y => ?_⟩
    obtain ⟨gr, N, hN, rv⟩ := q1.yld H2 lt2 i ys[i] v H3 (List.getElem?_eq_getElem hlt) y
    have r3 := r2.grow gr
    have r3w := r3.wipe hp2
    have out2 : ∀ a o, ¬ Out' g σ ρ1 a → H1 a = some o → ¬ Out' g (wipe σ vs) (wipeE ρ2 vs) a := fun a o n e z => z.elim (fun z => n (.inl z)) fun z => n (.inr (s2.symm.own (own_wipe hp2 z)))
    have rv' : Rp P.K (hid (Out' g (wipe σ vs) (wipeE ρ2 vs)) H3) v ys[i] := rv.grow (joinN_out hN (fun a z => (r2.wipe hp2).out_some z) lt2 gr out2)
    unfold compGo at h2
    cases e1 : tgSet tg ys[i] (wipeE ρ2 vs) with
    | none => rw [e1] at h2; cases h2
    | some ρa =>
      rw [e1] at h2
      obtain ⟨b, ρb, eb, h3⟩ := noR_ok h2
      refine ⟨g, wipeE ρ2 vs, _, ρa, r3w, rv', e1, fun σ3 r3' o3 ⟨l3, a3⟩ => ?_⟩
      have hlρ : ρ2.length = σ.length := r2.len.symm
      have a3' : ∀ j, j ∉ vs → σ3[j]? = σ[j]? := fun j hj => by rw [a3 j fun z => hj (htg' j z), wipe_get, if_neg (fun z => hj z.1)]
      refine ⟨?_, g, ρa, r3', ?_⟩
      · apply List.ext_getElem?
        intro j
        rw [wipe_get, wipe_get]
        rw [wipe_length] at l3
        by_cases hj : j ∈ vs
        · by_cases hjl : j < σ.length
          · rw [if_pos ⟨hj, by omega⟩, if_pos ⟨hj, hjl⟩]
          · rw [if_neg (fun z => by omega), if_neg (fun z => hjl z.2), List.getElem?_eq_none (by omega), List.getElem?_eq_none (by omega)]
        · rw [if_neg (fun z => hj z.1), if_neg (fun z => hj z.1), a3' j hj]
      · rw [eb]
        intro b' H4 r4 s4 f4 q4
        subst q4
        have scA : SameC (wipeE ρ2 vs) ρa := fun j => by rw [tgSet_cell e1 (fun j hj => by rw [cellAt_wipe hp2]; exact (plainAt_of hp2 (htg' j hj)).1) j]
        have lnA : ρa.length = ρ2.length := by have := r3'.len; rw [wipe_length] at l3; omega
        have lnB : ρb.length = ρ2.length := by have := r4.len; rw [wipe_length] at l3; omega
        have ownA : ∀ a, Own σ3 ρa a → Own σ ρ2 a := fun a z => own_wipe hp2 (o3 a z)
        have fA : FrE H2 (Own σ ρ2) H4 := (FrE.of_grow (M := Own σ ρ2) gr).trans f4 ownA
        have f14 : FrD H1 (Own σ ρ1) Dn H4 := f2.trans (.of fA) fun a z => s2.symm.own z
        have hDn4 : H4 Dn = some (.lst av) := fA.keep Dn _ hDn (nOwn r2)
        cases b' with
        | false =>
          rw [if_neg Bool.false_ne_true]
          rw [if_neg Bool.false_ne_true] at h3
          obtain ⟨rb, sb, _⟩ := r2.backed r4 hp2 a3' (scA.trans s4) lnB fA
          exact ⟨back ρ2 ρb vs, av, ad, hlt, rb, s2.trans sb, f14, hDn4, ra.grow (hid_later sb fA), by omega, plainAt_same hp2 sb (by rw [back_length]; exact lnB), h3⟩
        | true =>
          rw [if_pos rfl]
          rw [if_pos rfl] at h3
          obtain ⟨sv, ρc, ec, h3⟩ := noR_ok h3
          obtain ⟨z, ez, h3⟩ := toB_ok h3
          refine ⟨g, ρb, r4, ?_⟩
          rw [ec]
          intro w H5 r5 s5 f5 q5
          have lnC : ρc.length = ρ2.length := by have := r5.len; rw [wipe_length] at l3; omega
          have ownB : ∀ a, Own σ3 ρb a → Own σ ρ2 a := fun a z => ownA a (s4.symm.own z)
          have fB : FrE H2 (Own σ ρ2) H5 := fA.trans f5 ownB
          have f15 : FrD H1 (Own σ ρ1) Dn H5 := f2.trans (.of fB) fun a z => s2.symm.own z
          have hDn5 : H5 Dn = some (.lst av) := fB.keep Dn _ hDn (nOwn r2)
          obtain ⟨rb, sb, ob⟩ := r2.backed r5 hp2 a3' ((scA.trans s4).trans s5) lnC fB
          have grD : Grow (hid (Out' g σ (back ρ2 ρc vs)) H5) (hid (Out' g σ (back ρ2 ρc vs)) (upd H5 Dn (.lst (av ++ [w])))) := hid_grow fun a o n e => ⟨n, (upd_ne fun z => n (.inl (by rw [z]; exact hPD))).trans e⟩
          have rz : Rp P.K (hid (Out' g σ (back ρ2 ρc vs)) H5) w z := (q5.keep ez).grow (hid_grow fun a o n e => ⟨fun z => n (z.imp id (ob a)), e⟩)
          refine ⟨av, hDn5, ?_, back ρ2 ρc vs, av ++ [w], ad ++ [z], hlt, rb.upd_pm hPD, s2.trans sb, f15.upd, upd_same, ((ra.grow (hid_later sb fB)).grow grD).append (.cons (rz.grow grD) .nil), by rw [List.length_append]; exact Nat.succ_le_succ hal, plainAt_same hp2 sb (by rw [back_length]; exact lnC), h3⟩
          rw [← line_eq]
          show av.length < 16777216
          omega
  · have ei : i = ys.length := by omega
    subst ei
    rw [List.drop_length] at h2
    unfold compGo at h2
    cases h2
    exact .inl ⟨q1.stop H2 lt2, hNx H2 av r2 s2 f2 hDn ra hal⟩
theorem comp2_of (vs vs1 : List Nat) (hv : ∀ i ∈ vs1, i ∈ vs) : ∀ σ H Q, tM P E (mComp2 vs tg it t vs1 tg1 it1 t1 e) σ H Q → tLc2 (iM P E it) (gT P tg) (tT P E00 t) (iM P E00 it1) (gT P tg1) (tT P E00 t1) (tM P E00 e) vs vs1 σ H Q := fun σ H Q ⟨g, ρ, rp, h⟩ => by
  refine ⟨g, ρ, rp, bindG' (R := RJ P) (R' := RVP P) h fun xs ρ1 J H1 _ r1 s1 f1 q1 h1 => ?_⟩
  have h1' : PostE P E g σ ρ1 H H1 Q (if (plainAt ρ1 vs && tgIn tg vs) = true then compGo2 vs tg t vs1 tg1 it1 t1 e xs [] ρ1 else .stuck) := h1
  by_cases hc : (plainAt ρ1 vs && tgIn tg vs) = true
  case neg =>
    rw [if_neg hc] at h1'
    exact h1'.elim
  rw [if_pos hc] at h1'
  rw [Bool.and_eq_true] at hc
  obtain ⟨hpl, htg⟩ := hc
  have htg' : ∀ j, j ∈ tg.slots → j ∈ vs := fun j hj => by
    unfold tgIn at htg
    rw [List.all_eq_true] at htg
    exact List.contains_iff_mem.mp (htg j hj)
  intro Dn hD
  have hD0 : H Dn = none := f1.free Dn hD
  have r1' : Rep P.K (g.add Dn) (upd H1 Dn (.lst [])) σ ρ1 := r1.add_new hD (.new hD) ⟨_, upd_same⟩
  have hPD : (g.add Dn).Pm Dn := .inr rfl
  refine ⟨fun i m H2 => ∃ ρ2 av ad, m = xs.length - i ∧ i ≤ xs.length ∧ Rep P.K (g.add Dn) H2 σ ρ2 ∧ SameC ρ1 ρ2 ∧ FrE H1 (Own σ ρ1) H2 ∧ H2 Dn = some (.lst av) ∧ RpAll P.K (hid (Out' (g.add Dn) σ ρ2) H2) av ad ∧ plainAt ρ2 vs = true ∧ PostE P E g σ ρ1 H H1 Q (compGo2 vs tg t vs1 tg1 it1 t1 e (xs.drop i) ad ρ2),
    ⟨_, ρ1, [], [], rfl, Nat.zero_le _, r1', .refl _, .of_grow (.new hD), upd_same, .nil, hpl, h1'⟩, ?_⟩
  rintro i m H2 ⟨ρ2, av, ad, rfl, hi, r2, s2, f2, hDn, ra, hp2, h2⟩
  have lt2 : Later (Out' g σ ρ1) H1 H2 := fun a o e n => f2.keep a o e fun z => n (.inr z)
  have hnD : ¬ g.Pm Dn := fun z => by
    obtain ⟨o, eo⟩ := r1.pm Dn z
    rw [hD] at eo
    cases eo
  have nOwn : ∀ {σ' : St} {ρ' : En} {H' : Hp}, Rep P.K (g.add Dn) H' σ' ρ' → ¬ Own σ' ρ' Dn := fun r' ⟨j, c, z1, z2⟩ => by
    obtain ⟨a, w1, w2, _⟩ := r'.cell j c z1
    rw [z2] at w1
    cases w1
    exact w2 (.inr rfl)
  by_cases hlt : i < xs.length
  · rw [drop_cons hlt] at h2
    refine .inr ⟨q1.go H2 lt2 i hlt, fun H3 => ∃ ρ2 av ad, i + 1 ≤ xs.length ∧ Rep P.K (g.add Dn) H3 σ ρ2 ∧ SameC ρ1 ρ2 ∧ FrE H1 (Own σ ρ1) H3 ∧ H3 Dn = some (.lst av) ∧ RpAll P.K (hid (Out' (g.add Dn) σ ρ2) H3) av ad ∧ plainAt ρ2 vs = true ∧ PostE P E g σ ρ1 H H1 Q (compGo2 vs tg t vs1 tg1 it1 t1 e (xs.drop (i + 1)) ad ρ2),
      fun H3 ⟨ρ2, av, ad, z⟩ => ⟨xs.length - (i + 1), by omega, ρ2, av, ad, rfl, z⟩, fun v H3 y => ?_⟩
    obtain ⟨gr, N, hN, rv⟩ := q1.yld H2 lt2 i xs[i] v H3 (List.getElem?_eq_getElem hlt) y
    have r3 := r2.grow gr
    have r3w := r3.wipe hp2
    have out2 : ∀ a o, ¬ Out' g σ ρ1 a → H1 a = some o → ¬ Out' (g.add Dn) (wipe σ vs) (wipeE ρ2 vs) a := fun a o n e z => z.elim (fun z => z.elim (fun z => n (.inl z)) fun z => by rw [z, hD] at e; cases e) fun z => n (.inr (s2.symm.own (own_wipe hp2 z)))
    have rv' : Rp P.K (hid (Out' (g.add Dn) (wipe σ vs) (wipeE ρ2 vs)) H3) v xs[i] := rv.grow (joinN_out hN (fun a z => (r2.wipe hp2).out_some z) lt2 gr out2)
    unfold compGo2 at h2
    cases e1 : tgSet tg xs[i] (wipeE ρ2 vs) with
    | none => rw [e1] at h2; exact h2.elim
    | some ρa =>
      rw [e1] at h2
      obtain ⟨b, ρb, eb, h3⟩ := noRaise_ok' h2
      refine ⟨g.add Dn, wipeE ρ2 vs, _, ρa, r3w, rv', e1, fun σ3 r3' o3 ⟨l3, a3⟩ => ?_⟩
      have hlρ : ρ2.length = σ.length := r2.len.symm
      have a3' : ∀ j, j ∉ vs → σ3[j]? = σ[j]? := fun j hj => by rw [a3 j fun z => hj (htg' j z), wipe_get, if_neg (fun z => hj z.1)]
      refine ⟨?_, g.add Dn, ρa, r3', ?_⟩
      · apply List.ext_getElem?
        intro j
        rw [wipe_get, wipe_get]
        rw [wipe_length] at l3
        by_cases hj : j ∈ vs
        · by_cases hjl : j < σ.length
          · rw [if_pos ⟨hj, by omega⟩, if_pos ⟨hj, hjl⟩]
          · rw [if_neg (fun z => by omega), if_neg (fun z => hjl z.2), List.getElem?_eq_none (by omega), List.getElem?_eq_none (by omega)]
        · rw [if_neg (fun z => hj z.1), if_neg (fun z => hj z.1), a3' j hj]
      · rw [eb]
        intro b' H4 r4 s4 f4 q4
        subst q4
        have scA : SameC (wipeE ρ2 vs) ρa := fun j => by rw [tgSet_cell e1 (fun j hj => by rw [cellAt_wipe hp2]; exact (plainAt_of hp2 (htg' j hj)).1) j]
        have lnA : ρa.length = ρ2.length := by have := r3'.len; rw [wipe_length] at l3; omega
        have lnB : ρb.length = ρ2.length := by have := r4.len; rw [wipe_length] at l3; omega
        have ownA : ∀ a, Own σ3 ρa a → Own σ ρ2 a := fun a z => own_wipe hp2 (o3 a z)
        have fA : FrE H2 (Own σ ρ2) H4 := (FrE.of_grow (M := Own σ ρ2) gr).trans f4 ownA
        have f14 : FrE H1 (Own σ ρ1) H4 := f2.trans fA fun a z => s2.symm.own z
        have hDn4 : H4 Dn = some (.lst av) := fA.keep Dn _ hDn (nOwn r2)
        cases b' with
        | false =>
          rw [if_neg Bool.false_ne_true]
          rw [if_neg Bool.false_ne_true] at h3
          obtain ⟨rb, sb, _⟩ := r2.backed r4 hp2 a3' (scA.trans s4) lnB fA
          exact ⟨back ρ2 ρb vs, av, ad, hlt, rb, s2.trans sb, f14, hDn4, ra.grow (hid_later sb fA), plainAt_same hp2 sb (by rw [back_length]; exact lnB), h3⟩
        | true =>
          rw [if_pos rfl]
          rw [if_pos rfl] at h3
          obtain ⟨ys, ρc, ec, h3⟩ := noRaise_ok' h3
          by_cases hc2 : (plainAt ρc vs1 && tgIn tg1 vs1 && decide (ad.length + ys.length ≤ 16777216)) = true
          case neg =>
            rw [if_neg hc2] at h3
            exact h3.elim
          rw [if_pos hc2] at h3
          rw [Bool.and_eq_true, Bool.and_eq_true, decide_eq_true_eq] at hc2
          obtain ⟨⟨hpl1, htg1⟩, hlen⟩ := hc2
          obtain ⟨sv, ρd, ed, h3⟩ := noRaise_ok' h3
          refine ⟨g.add Dn, ρb, r4, ?_⟩
          rw [ec]
          intro J1 H5 r5 s5 f5 q5
          have lnC : ρc.length = ρ2.length := by have := r5.len; rw [wipe_length] at l3; omega
          have ownB : ∀ a, Own σ3 ρb a → Own σ ρ2 a := fun a z => ownA a (s4.symm.own z)
          have ownC : ∀ a, Own σ3 ρc a → Own σ ρ2 a := fun a z => ownB a (s5.symm.own z)
          have fB : FrE H2 (Own σ ρ2) H5 := fA.trans f5 ownB
          have hDn5 : H5 Dn = some (.lst av) := fB.keep Dn _ hDn (nOwn r2)
          have scC : SameC (wipeE ρ2 vs) ρc := (scA.trans s4).trans s5
          have ra5 : RpAll P.K (hid (Out' (g.add Dn) σ3 ρc) H5) av ad := ra.grow (hid_grow fun a o n eo => ⟨fun z => n (z.imp id (ownC a)), fB.keep a o eo fun z => n (.inr z)⟩)
          -- what the inner loop leaves
          cases sv with
          | own c =>
            cases c with
            | lst zs =>
              have h4 : PostE P E g σ ρ1 H H1 Q (compGo2 vs tg t vs1 tg1 it1 t1 e (xs.drop (i + 1)) zs (back ρ2 ρd vs)) := h3
              refine inner_of (e := e) (t := t1) hPD r5 q5 hDn5 ra5 (by rw [ra.length]; exact hlen) hpl1 htg1 ed _ fun H6 avz r6 s6 f6 hD6 ra6 hl6 => ?_
              have lnD : ρd.length = ρ2.length := by have := r6.len; rw [wipe_length] at l3; omega
              have fT : FrD H2 (Own σ ρ2) Dn H6 := (FrD.of fB).trans f6 ownC
              have rx : Rep P.K (g.add Dn) (upd H2 Dn (.lst avz)) σ ρ2 := r2.upd_pm hPD
              obtain ⟨rb, sb, ob⟩ := rx.backed r6 hp2 a3' (scC.trans s6) lnD (fT.fix hD6)
              have f16 : FrE H1 (Own σ ρ1) H6 := ((FrD.of f2).trans fT fun a z => s2.symm.own z).none hD
              exact ⟨back ρ2 ρd vs, avz, zs, hlt, rb, s2.trans sb, f16, hD6, ra6.grow (hid_grow fun a o n eo => ⟨fun z => n (z.imp id (ob a)), eo⟩), plainAt_same hp2 sb (by rw [back_length]; exact lnD), h4⟩
            | dct _ => exact h3.elim
          | _ => exact h3.elim
  · have ei : i = xs.length := by omega
    subst ei
    rw [List.drop_length] at h2
    refine .inl ⟨q1.stop H2 lt2, h2 (.ref Dn) H2 (r2.less (g.le_add Dn)) s2 f2 ⟨⟨Dn, rfl, hD0, fun z => z.elim hnD (nOwn r2), av, hDn, ra.grow (hid_grow fun a o n e => ⟨fun z => n (z.elim (fun z => z.elim (fun z => .inl (.inl z)) .inr) fun z => .inl (.inr z)), e⟩)⟩, fun p ep => ?_⟩⟩
    cases ep
    exact r2
theorem s_lc2 (vs1 : List Nat) (hc : X.calm = true) (hN : X.N.Nodup) (hi : PI X te iter (iM P E it)) (ok : BlkOk X.N X.env.scope scope own) (hv : ∀ i ∈ vs1, i ∈ own.map (·.2))
    (hg : ∀ (s : Shared) (H : Hp) (C : Addr) (cl : List (Str × Addr)) (fp : List Addr), PG (X.blk s H scope (compEnvC scope cl C X.env) fp) te (gT P tg))
    (ht : ∀ (s : Shared) (H : Hp) (C : Addr) (cl : List (Str × Addr)) (fp : List Addr), PTs (X.blk s H scope (compEnvC scope cl C X.env) fp) ifs (tT P E00 t))
    (hi1 : ∀ (s : Shared) (H : Hp) (C : Addr) (cl : List (Str × Addr)) (fp : List Addr), PI (X.blk s H scope (compEnvC scope cl C X.env) fp) te1 iter1 (iM P E00 it1))
    (hg1 : ∀ (s : Shared) (H : Hp) (C : Addr) (cl : List (Str × Addr)) (fp : List Addr), PG (X.blk s H scope (compEnvC scope cl C X.env) fp) te1 (gT P tg1))
    (ht1 : ∀ (s : Shared) (H : Hp) (C : Addr) (cl : List (Str × Addr)) (fp : List Addr), PTs (X.blk s H scope (compEnvC scope cl C X.env) fp) ifs1 (tT P E00 t1))
    (he : ∀ (s : Shared) (H : Hp) (C : Addr) (cl : List (Str × Addr)) (fp : List Addr), PE (X.blk s H scope (compEnvC scope cl C X.env) fp) elt (tM P E00 e)) (hs : ∀ x, foldedSetIterable iter X.env x = pure x := by intro _; rfl) (hs1 : ∀ env x, foldedSetIterable iter1 env x = pure x := by intro _ _; rfl) :
    PE X (.ListComp elt [⟨te, iter, ifs, 0⟩, ⟨te1, iter1, ifs1, 0⟩] scope pos) (tM P E (mComp2 (own.map (·.2)) tg it t vs1 tg1 it1 t1 e)) := PE.imp (pe_lc2 hc hN hi ok hv hg ht hi1 hg1 ht1 he hs hs1) (comp2_of _ _ hv)
theorem z_lc2 (i : Nat) (k : Bool) (vs1 : List Nat) {y : Str} {py spos : Pos} (hc : X.calm = true) (hN : X.N.Nodup) (hi : PI X te iter (iM P E it)) (ok : BlkOk X.N X.env.scope scope own) (hv : ∀ i ∈ vs1, i ∈ own.map (·.2))
    (hg : ∀ (s : Shared) (H : Hp) (C : Addr) (cl : List (Str × Addr)) (fp : List Addr), PG (X.blk s H scope (compEnvC scope cl C X.env) fp) te (gT P tg))
    (ht : ∀ (s : Shared) (H : Hp) (C : Addr) (cl : List (Str × Addr)) (fp : List Addr), PTs (X.blk s H scope (compEnvC scope cl C X.env) fp) ifs (tT P E00 t))
    (hi1 : ∀ (s : Shared) (H : Hp) (C : Addr) (cl : List (Str × Addr)) (fp : List Addr), PI (X.blk s H scope (compEnvC scope cl C X.env) fp) te1 iter1 (iM P E00 it1))
    (hg1 : ∀ (s : Shared) (H : Hp) (C : Addr) (cl : List (Str × Addr)) (fp : List Addr), PG (X.blk s H scope (compEnvC scope cl C X.env) fp) te1 (gT P tg1))
    (ht1 : ∀ (s : Shared) (H : Hp) (C : Addr) (cl : List (Str × Addr)) (fp : List Addr), PTs (X.blk s H scope (compEnvC scope cl C X.env) fp) ifs1 (tT P E00 t1))
    (he : ∀ (s : Shared) (H : Hp) (C : Addr) (cl : List (Str × Addr)) (fp : List Addr), PE (X.blk s H scope (compEnvC scope cl C X.env) fp) elt (tM P E00 e))
    (hsw : swapsWith (.ListComp elt [⟨te, iter, ifs, 0⟩, ⟨te1, iter1, ifs1, 0⟩] scope pos) (some (.Name y py)) spos.line X.env = pure true) (hy : X.N[i]? = some y := by rfl) (hyl : X.env.scope.names.lookup y = some .local := by rfl) (hs : ∀ x, foldedSetIterable iter X.env x = pure x := by intro _; rfl) (hs1 : ∀ env x, foldedSetIterable iter1 env x = pure x := by intro _ _; rfl) :
    PS X (.Assign [.Name y py] (.ListComp elt [⟨te, iter, ifs, 0⟩, ⟨te1, iter1, ifs1, 0⟩] scope pos) spos) (tS P E (sSet k i (mComp2 (own.map (·.2)) tg it t vs1 tg1 it1 t1 e))) := by
  refine PS.imp (ps_setLc2 hc hN hy hyl hsw hi ok hv hg ht hi1 hg1 ht1 he hs hs1) fun D σ H ⟨g, ρ, r, h⟩ => ?_
  exact comp2_of _ _ hv σ H _ ⟨g, ρ, r, stG (R := RVP P) h fun v ρ1 x H1 _ r1 s1 f1 q1 h1 => setS_post r1 s1 f1 q1 h1⟩
end
end MP
end

section
set_option Elab.async false
set_option linter.all false
set_option maxRecDepth 100000
set_option maxHeartbeats 4000000
set_option autoImplicit false
namespace MP
open PySem PySem.Spec L2
/-! ### a dict is locked while it is walked -/
/-- all that H can read H' can read -/
structure RdLe (H H' : Hp) : Prop where
  rd : ∀ a u, (∀ o v, u ≠ HO.frz o v) → Rd H a u → Rd H' a u
  su : ∀ a o xs, H a = some (.frz o (.tup xs)) → H' a = some (.frz o (.tup xs))
theorem RdLe.sl {K : Fg} {H H' : Hp} (e : RdLe H H') {a : Addr} {xs : List V} (h : SqL K H a xs) : SqL K H' a xs := h.imp (e.rd a _ (fun _ _ z => nomatch z)) id
theorem RdLe.st {K : Fg} {H H' : Hp} (e : RdLe H H') {a : Addr} {xs : List V} (h : SqT K H a xs) : SqT K H' a xs := h.imp (e.rd a _ (fun _ _ z => nomatch z)) id
theorem RdLe.dk {H H' : Hp} (e : RdLe H H') {a : Addr} {xs : List (Key × V)} (h : Rd H a (.dK xs)) : Rd H' a (.dK xs) := e.rd a _ (fun _ _ z => nomatch z) h
theorem RdLe.sq {K : Fg} {H H' : Hp} (e : RdLe H H') {a : Addr} {xs : List V} {ds : List D} (h : SqU K H a xs ds) : SqU K H' a xs ds := ⟨e.st h.1, fun z => let ⟨o, q, n⟩ := h.2 z; ⟨o, e.su a o xs q, n⟩⟩
mutual
theorem Rp.rdle {K : Fg} {H H' : Hp} (e : RdLe H H') : ∀ {v : V} {d : D}, Rp K H v d → Rp K H' v d
  | _, _, .non => .non
  | _, _, .bl b => .bl b
  | _, _, .int b => .int b
  | _, _, .str b => .str b
  | _, _, .lst h r => .lst (e.sl h) (RpAll.rdle e r)
  | _, _, .tup h r => .tup (e.sq h) (RpAll.rdle e r)
  | _, _, .dic h r => .dic (e.dk h) (RpKv.rdle e r)
theorem RpAll.rdle {K : Fg} {H H' : Hp} (e : RdLe H H') : ∀ {v : List V} {d : List D}, RpAll K H v d → RpAll K H' v d
  | _, _, .nil => .nil
  | _, _, .cons h r => .cons (Rp.rdle e h) (RpAll.rdle e r)
theorem RpKv.rdle {K : Fg} {H H' : Hp} (e : RdLe H H') : ∀ {v : List (Key × V)} {d : List (D × D)}, RpKv K H v d → RpKv K H' v d
  | _, _, .nil => .nil
  | _, _, .cons h r => .cons (Rp.rdle e h) (RpKv.rdle e r)
end
section
variable {K : Fg} {g : Gh} {H : Hp} {σ : St} {ρ : En} {a : Addr}
/-- what stands at a, locked or not, may be swapped -/
theorem rdle_swap {Pr : Addr → Prop} {H H' : Hp} (hb : ∀ b, b ≠ a → H' b = H b) (ha : ∀ u, (∀ o v, u ≠ HO.frz o v) → Rd H a u → Rd H' a u) (hs : ∀ o xs, H a ≠ some (.frz o (.tup xs))) : RdLe (MP.hid Pr H) (MP.hid Pr H') := by
  refine ⟨fun b u n h => ?_, fun b o xs h => ?_⟩
  case refine_2 =>
    obtain ⟨low, h⟩ := hid_some.mp h
    refine hid_some.mpr ⟨low, ?_⟩
    rw [hb b fun z => hs o xs (by rw [← z]; exact h)]
    exact h
  have low : ¬ Pr b := by
    rcases h with h | ⟨o, h⟩ <;> exact (hid_some.mp h).1
  have h' : Rd H b u := hid_le.rd h
  have h2 : Rd H' b u := by
    by_cases z : b = a
    · subst z
      exact ha u n h'
    · rcases h' with h' | ⟨o, h'⟩
      · exact .inl (by rw [hb b z]; exact h')
      · exact .inr ⟨o, by rw [hb b z]; exact h'⟩
  rcases h2 with h2 | ⟨o, h2⟩
  · exact .inl (hid_some.mpr ⟨low, h2⟩)
  · exact .inr ⟨o, hid_some.mpr ⟨low, h2⟩⟩
theorem Rep.swap {H' : Hp} (r : Rep K g H σ ρ) (no : ¬ Out' g σ ρ a) (hb : ∀ b, b ≠ a → H' b = H b) (ha : ∀ u, (∀ o v, u ≠ HO.frz o v) → Rd H a u → Rd H' a u) (ex : ∃ o, H' a = some o) (hs : ∀ o xs, H a ≠ some (.frz o (.tup xs))) : Rep K g H' σ ρ := by
  have rl : RdLe (MP.hid (Out' g σ ρ) H) (MP.hid (Out' g σ ρ) H') := rdle_swap hb ha hs
  refine ⟨r.len, fun i x h => ?_, fun i c h => ?_, r.inj, fun b h => ?_, r.rf, r.rfs, r.noexc, r.nofn⟩
  · obtain ⟨v, h1, h2⟩ := r.d i x h
    exact ⟨v, h1, h2.rdle rl⟩
  · obtain ⟨b, h1, h2, h3⟩ := r.cell i c h
    have z : b ≠ a := fun z => no (.inr ⟨i, c, h, by rw [← z]; exact h1⟩)
    refine ⟨b, h1, h2, ?_⟩
    cases c with
    | lst ds => obtain ⟨xs, e, q⟩ := h3; exact ⟨xs, (hb b z).trans e, q.rdle rl⟩
    | dct ds => obtain ⟨xs, e, q⟩ := h3; exact ⟨xs, (hb b z).trans e, q.rdle rl⟩
  · have z : b ≠ a := fun z => no (.inl (by rw [← z]; exact h))
    obtain ⟨o, e⟩ := r.pm b h
    exact ⟨o, (hb b z).trans e⟩
end
def sForD (i : Nat) (tg : Tg) (b : MS) : MS := fun ρ => match ρ[i]? with
  | some (some (.d (.dict kvs))) => (match forGo tg b (kvs.map (·.1)) ρ with | .next ρ' => .next ρ' | _ => .stuck)
  | _ => .stuck
theorem psOr {X : Cx} {st : Stmt} {t t' : TS} (h : PS X st t) (h' : PS X st t') : PS X st (fun D σ H => t D σ H ∨ t' D σ H) := ⟨fun pins s σ H D I q => q.elim (h.run pins s σ H D I) (h'.run pins s σ H D I)⟩
theorem jok_keys {K : Fg} {Pr : Addr → Prop} {H1 : Hp} {a : Addr} {od : Obj} {xs : List (Key × V)} {kvs : List (D × D)} (hf : H1 a = some (.frz od (.dK xs))) (no : ¬ Pr a) (r : RpKv K (hid Pr H1) xs kvs) : JOk K (Itk a od xs) (kvs.map (·.1)) Pr H1 := by
  have key : ∀ {xs : List (Key × V)} {kvs : List (D × D)}, RpKv K (hid Pr H1) xs kvs → RpAll K (hid Pr H1) (xs.map fun kv => kV kv.1) (kvs.map (·.1)) := by
    intro xs
    induction xs with
    | nil => intro kvs r; cases r; exact .nil
    | cons p xs ih =>
      intro kvs r
      cases r with
      | @cons k v vs d ds h r =>
        refine .cons ?_ (ih r)
        cases k with
        | inl i => exact .int i
        | inr x => exact .str x
  refine jok_items (key r) (fun H lt i h => ⟨lt a _ hf no, by simpa using h⟩) (fun H lt => ⟨lt a _ hf no, by simp⟩) fun H lt i v H' y => ?_
  obtain ⟨e, k, w, h1, h2⟩ := y
  refine ⟨e, fun u hu => ?_⟩
  rw [List.getElem?_map, h1] at hu
  rw [h2]
  exact Option.some.inj hu
section
variable {X : Cx} {P : Pk} {E : St → XK} {te : Expr} {body : List Stmt} {tg : Tg} {b : MS} {pos p2 : Pos}
theorem forD_core {g : Gh} {σ : St} {ρ1 : En} {H1 : Hp} {D : Ends} {J : It} {xs : List PyData} (r1 : Rep P.K g H1 σ ρ1) (q1 : JOk P.K J xs (Out' g σ ρ1) H1) (h1' : PostS P E g σ ρ1 H1 H1 D (forGo tg b xs ρ1)) :
    ∃ W : Nat → Nat → St → Hp → Prop, (∃ m, W 0 m σ H1) ∧ ∀ i m σ H, W i m σ H →
  (J.stop i H ∧ D.nx σ H) ∨ (J.go i H ∧ ∃ N : St → Hp → Prop, (∀ σ' H', N σ' H' → ∃ m', m' < m ∧ W (i + 1) m' σ' H') ∧ ∀ x H', J.yld i H x H' → gT P tg x σ H' fun σ2 H2 => tS P E b { D with nx := N, ct := N, bk := D.nx } σ2 H2) := by
  refine ⟨fun i m σ2 H2 => ∃ ρ2, m = xs.length - i ∧ i ≤ xs.length ∧ Rep P.K g H2 σ2 ρ2 ∧ FrS H1 (Own σ ρ1) H2 (Own σ2 ρ2) ∧ PostS P E g σ2 ρ2 H1 H2 D (forGo tg b (xs.drop i) ρ2), ⟨_, ρ1, rfl, Nat.zero_le _, r1, .refl _ _, by rw [List.drop_zero]; exact h1'⟩, ?_⟩
  rintro i m σ2 H2 ⟨ρ2, rfl, hi, r2, f2, h2⟩
  have lt2 : Later (Out' g σ ρ1) H1 H2 := fun a o e n => f2.keep a o e fun z => n (.inr z)
  by_cases hlt : i < xs.length
  · rw [drop_cons hlt] at h2
    refine .inr ⟨q1.go H2 lt2 i hlt, fun σ' H' => ∃ ρ', Rep P.K g H' σ' ρ' ∧ FrS H1 (Own σ ρ1) H' (Own σ' ρ') ∧ PostS P E g σ' ρ' H1 H' D (forGo tg b (xs.drop (i + 1)) ρ'), fun σ' H' ⟨ρ', a1, a2, a3⟩ => ⟨xs.length - (i + 1), by omega, ρ', rfl, hlt, a1, a2, a3⟩, fun v H3 y => ?_⟩
    obtain ⟨gr, N, hN, rv⟩ := q1.yld H2 lt2 i xs[i] v H3 (List.getElem?_eq_getElem hlt) y
    have r3 := r2.grow gr
    have out2 : ∀ a o, ¬ Out' g σ ρ1 a → H1 a = some o → ¬ Out' g σ2 ρ2 a := fun a o n e z => z.elim (fun z => n (.inl z)) fun z => (f2.new a z).elim (fun z => n (.inr z)) fun z => by rw [e] at z; cases z
    have rv' : Rp P.K (hid (Out' g σ2 ρ2) H3) v xs[i] := rv.grow (joinN_out hN (fun a z => r2.out_some z) lt2 gr out2)
    unfold forGo at h2
    cases e1 : tgSet tg xs[i] ρ2 with
    | none => rw [e1] at h2; exact h2.elim
    | some ρ3 =>
      rw [e1] at h2
      refine ⟨g, ρ2, _, ρ3, r3, rv', e1, fun σ3 r3' o3 _ => ?_⟩
      have f3 : FrS H2 (Own σ2 ρ2) H3 (Own σ3 ρ3) := ⟨fun a o e _ => gr a o e, fun a o e => ⟨o, gr a o e⟩, fun a z => .inl (o3 a z)⟩
      refine ⟨g, ρ3, r3', ?_⟩
      have fr : Free H1 H3 := f2.free.trans f3.free
      have h3 := PostS.step (σ1 := σ3) (ρ1 := ρ3) h2 f3
      have h3' : PostS P E g σ3 ρ3 H1 H3 D (match b ρ3 with
      | .next ρ2 => forGo tg b (xs.drop (i + 1)) ρ2
      | .cont ρ2 => forGo tg b (xs.drop (i + 1)) ρ2
      | .brk ρ2 => .next ρ2
      | .ret v ρ2 => .ret v ρ2
      | .raise c x ρ2 => .raise c x ρ2
      | .stuck => .stuck) := h3
      cases e2 : b ρ3 with
      | next ρ4 =>
        rw [e2] at h3'
        exact fun σ4 H4 r4 f4 => ⟨ρ4, r4, (f2.trans f3).trans f4, h3'.step f4⟩
      | cont ρ4 =>
        rw [e2] at h3'
        exact fun σ4 H4 r4 f4 => ⟨ρ4, r4, (f2.trans f3).trans f4, h3'.step f4⟩
      | brk ρ4 =>
        rw [e2] at h3'
        exact h3'
      | ret s ρ4 =>
        rw [e2] at h3'
        exact fun v σ4 H4 r4 f4 q4 => h3' v σ4 H4 r4 f4 (q4.older fr)
      | raise c x ρ4 =>
        rw [e2] at h3'
        exact h3'
      | stuck =>
        rw [e2] at h3'
        exact h3'.elim
  · have ei : i = xs.length := by omega
    subst ei
    rw [List.drop_length] at h2
    exact .inl ⟨q1.stop H2 lt2, h2 σ2 H2 r2 (.refl _ _)⟩
theorem z_forD (i : Nat) {x : Str} (hp : PassesOwn (model X.prog X.w) X.A X.env X.xe) (hc : X.calm = true) (hg : PG X te (gT P tg)) (hb : PSs X body (tS P E b))
    (hs : ∀ y, foldedSetIterable (.Name x p2) X.env y = pure y := by intro _; rfl)
    (hN : X.N[i]? = some x := by rfl) (hv : Vis X.env.scope x := by first | exact Or.inl rfl | exact Or.inr (Or.inl rfl) | exact Or.inr (Or.inr rfl)) (hd : (x == ("__debug__" : Str)) = false := by decide)
    (hcd : (x == ("__classdict__" : Str)) = false := by decide) : PS X (.For te (.Name x p2) body [] pos) (tS P E (sForD i tg b)) := by
  have F := ps_for (pos := pos) hp hc (pi_keys (tg := te) (pe_var hN hv hd hcd)) hg hb hs
  refine PS.imp (psOr (ps_lock F) F) fun D σ H ⟨g, ρ, rp, h⟩ => ?_
  have h' : PostS P E g σ ρ H H D (match ρ[i]? with
  | some (some (.d (.dict kvs))) => (match forGo tg b (kvs.map (·.1)) ρ with | .next ρ' => .next ρ' | _ => .stuck)
  | _ => .stuck) := h
  split at h'
  · rename_i kvs e
    obtain ⟨v, q1, q2⟩ := rp.d i _ e
    cases q2 with
    | @dic a xs _ q3 q4 =>
    have no : ¬ Out' g σ ρ a := by rcases q3 with q3 | ⟨o, q3⟩ <;> exact (hid_some.mp q3).1
    have h2 : ∃ ρ', forGo tg b (kvs.map (·.1)) ρ = .next ρ' ∧ PostS P E g σ ρ H H D (.next ρ') := by
      cases ef : forGo tg b (kvs.map (·.1)) ρ with
      | next ρ' => rw [ef] at h'; exact ⟨ρ', rfl, h'⟩
      | _ => rw [ef] at h'; exact h'.elim
    obtain ⟨ρ', ef, h2⟩ := h2
    rcases q3 with q3 | ⟨od, q3⟩
    · have ha := (hid_some.mp q3).2
      refine .inl ⟨a, .dK xs, ha, trivial, fun od => ?_⟩
      have r0 : Rep P.K g (upd H a (.frz od (.dK xs))) σ ρ := rp.swap no (fun c z => upd_ne z) (fun u n z => by
        rcases z with z | ⟨o, z⟩
        · rw [ha] at z
          cases z
          exact .inr ⟨od, upd_same⟩
        · rw [ha] at z
          cases z) ⟨_, upd_same⟩ (fun o ys z => by rw [ha] at z; cases z)
      have rl : RdLe (hid (Out' g σ ρ) H) (hid (Out' g σ ρ) (upd H a (.frz od (.dK xs)))) := rdle_swap (fun c z => upd_ne z) (fun u n z => by
        rcases z with z | ⟨o, z⟩
        · rw [ha] at z
          cases z
          exact .inr ⟨od, upd_same⟩
        · rw [ha] at z
          cases z) (fun o ys z => by rw [ha] at z; cases z)
      have jk := jok_keys (K := P.K) (Pr := Out' g σ ρ) (upd_same (H := H) (a := a) (o := .frz od (.dK xs))) no (q4.rdle rl)
      refine ⟨.ref a, q1, a, od, rfl, .inl ⟨xs, upd_same, forD_core r0 jk ?_⟩⟩
      rw [ef]
      intro σ' H' r' f'
      have hk : H' a = some (.frz od (.dK xs)) := f'.keep a _ upd_same fun z => no (.inr z)
      have no' : ¬ Out' g σ' ρ' a := fun z => z.elim (fun z => no (.inl z)) fun z => (f'.new a z).elim (fun z => no (.inr z)) fun z => by rw [upd_same] at z; cases z
      refine ⟨hk, h2 σ' (upd H' a (.dK xs)) (r'.swap no' (fun c z => upd_ne z) (fun u n z => ?_) ⟨_, upd_same⟩ (fun o ys z => by rw [hk] at z; cases z)) ⟨fun c u eu n => ?_, fun c u eu => ?_, fun c z => ?_⟩⟩
      · rcases z with z | ⟨o, z⟩
        · rw [hk] at z
          cases z
          exact absurd rfl (n _ _)
        · rw [hk] at z
          cases z
          exact .inl upd_same
      · by_cases z : c = a
        · subst z
          rw [ha] at eu
          cases eu
          exact upd_same
        · rw [upd_ne z]
          exact f'.keep c u ((upd_ne z).trans eu) n
      · by_cases z : c = a
        · subst z
          exact ⟨_, upd_same⟩
        · obtain ⟨u', eu'⟩ := f'.stay c u ((upd_ne z).trans eu)
          exact ⟨u', (upd_ne z).trans eu'⟩
      · rcases f'.new c z with w | w
        · exact .inl w
        · refine .inr ?_
          by_cases y : c = a
          · subst y
            rw [upd_same] at w
            cases w
          · rw [upd_ne y] at w
            exact w
    · have ha := (hid_some.mp q3).2
      refine .inr ⟨.ref a, q1, a, od, rfl, .inl ⟨xs, ha, forD_core rp (jok_keys ha no q4) ?_⟩⟩
      rw [ef]
      exact h2
  · exact h'.elim
end
end MP
end

section
set_option Elab.async false
set_option linter.all false
set_option maxRecDepth 100000
set_option maxHeartbeats 4000000
set_option autoImplicit false
namespace MP
open PySem PySem.Spec L2
/-! ### dicts with ints and texts as keys -/
def keyOf : D → Option Key
  | .int i => some (.inl i)
  | .str x => some (.inr x)
  | _ => none
theorem keyOf_D (k : Key) : keyOf (keyD k) = some k := by cases k <;> rfl
theorem keyOf_eq {d : D} {k : Key} (h : keyOf d = some k) : d = keyD k := by
  unfold keyOf at h
  split at h <;> cases h <;> rfl
def dFind (kvs : List (D × D)) (k : Key) : Option D := (kvs.find? fun kv => decide (keyOf kv.1 = some k)).map (·.2)
def dPut (kvs : List (D × D)) (k : Key) (x : D) : List (D × D) :=
  if (kvs.any fun kv => decide (keyOf kv.1 = some k)) = true then kvs.map (fun kv => if keyOf kv.1 = some k then (kv.1, x) else kv) else kvs ++ [(keyD k, x)]
theorem RpKv.find {K : Fg} {H : Hp} {k : Key} : ∀ {xs : List (Key × V)} {ds : List (D × D)}, RpKv K H xs ds → (valV xs k = none ∧ dFind ds k = none) ∨ ∃ v d, valV xs k = some v ∧ dFind ds k = some d ∧ Rp K H v d
  | _, _, .nil => .inl ⟨rfl, rfl⟩
  | _, _, .cons (k := k') (v := v) (d := d) (ds := ds) (vs := vs) h r => by
    by_cases e : k' = k
    · refine .inr ⟨v, d, valV_pos e, ?_, h⟩
      unfold dFind
      rw [List.find?_cons, keyOf_D, e, decide_eq_true rfl] <;> rfl
    · rw [valV_neg (show ¬ (k', v).1 = k from e)]
      have e2 : dFind ((keyD k', d) :: ds) k = dFind ds k := by
        unfold dFind
        rw [List.find?_cons, keyOf_D, decide_eq_false (fun z => e (Option.some.inj z))]
      rw [e2]
      exact r.find
theorem RpKv.any {K : Fg} {H : Hp} {k : Key} : ∀ {xs : List (Key × V)} {ds : List (D × D)}, RpKv K H xs ds → (xs.any fun kv => decide (kv.1 = k)) = ds.any fun kv => decide (keyOf kv.1 = some k)
  | _, _, .nil => rfl
  | _, _, .cons (k := k') h r => by
    rw [List.any_cons, List.any_cons, r.any, keyOf_D]
    congr 1
    by_cases e : k' = k
    · subst e; simp
    · rw [decide_eq_false e, decide_eq_false (fun z => e (Option.some.inj z))]
theorem RpKv.repl {K : Fg} {H : Hp} {k : Key} {v : V} {d : D} (q : Rp K H v d) : ∀ {xs : List (Key × V)} {ds : List (D × D)}, RpKv K H xs ds → RpKv K H (xs.map fun kv => if kv.1 = k then (kv.1, v) else kv) (ds.map fun kv => if keyOf kv.1 = some k then (kv.1, d) else kv)
  | _, _, .nil => .nil
  | _, _, .cons (k := k') h r => by
    rw [List.map_cons, List.map_cons]
    by_cases e : k' = k
    · subst e
      rw [if_pos rfl, if_pos (keyOf_D _)]
      exact .cons q (r.repl q)
    · rw [if_neg e, if_neg (fun z => e (by rw [keyOf_D] at z; exact Option.some.inj z))]
      exact .cons h (r.repl q)
theorem RpKv.snoc {K : Fg} {H : Hp} {k : Key} {v : V} {d : D} (q : Rp K H v d) : ∀ {xs : List (Key × V)} {ds : List (D × D)}, RpKv K H xs ds → RpKv K H (xs ++ [(k, v)]) (ds ++ [(keyD k, d)])
  | _, _, .nil => .cons q .nil
  | _, _, .cons h r => .cons h (r.snoc q)
theorem RpKv.put {K : Fg} {H : Hp} {k : Key} {v : V} {d : D} (q : Rp K H v d) {xs : List (Key × V)} {ds : List (D × D)} (r : RpKv K H xs ds) : RpKv K H (putK xs k v) (dPut ds k d) := by
  unfold putK dPut
  rw [r.any]
  by_cases h : (ds.any fun kv => decide (keyOf kv.1 = some k)) = true
  · rw [if_pos h, if_pos h]
    exact r.repl q
  · rw [if_neg h, if_neg h]
    exact r.snoc q
theorem rp_key {K : Fg} {H : Hp} {v : V} {k : Key} (h : Rp K H v (keyD k)) : v = kV k := by
  cases k with
  | inl i => cases h; rfl
  | inr x => cases h; rfl
theorem top_key {K : Fg} {Hh H : Hp} {v : V} {k : Key} (h : Top K Hh H v (keyD k)) : v = kV k := by
  cases k with
  | inl i => exact h
  | inr x => exact h
/-! d[k] -/
def bIdxD : D → D → Option SV
  | .dict kvs, y => (keyOf y).bind fun k => (dFind kvs k).map SV.d
  | x, y => bIdx x y
def rIxD : R2 := fun x y H Q => ∃ a v, x = .ref a ∧ DGet H a y (some v) ∧ Q v H
section
variable {X : Cx} {P : Pk} {E : St → XK} {a b c d : Expr} {ma mb mc md : ME} {pos apos p2 p3 : Pos}
theorem ix_dict (hu : X.A.units + 65 < cLine) : IxR X rIxD := by
  intro value slice pins s σ H x y v u Q I rx ry h hs
  obtain ⟨a, w, rfl, g, q⟩ := h
  obtain rfl : v = Value.ref a := rx
  exact PyProof.Rows.tail_any (dict_typeIs I g) PySem.F.slot_dict_getitem.lookup (d_getItem (by omega) I g ry fun w' s3 I3 rw' => ⟨w, H, I3, rw', q⟩) hs
theorem ixOr {r r' : R2} (h : IxR X r) (h' : IxR X r') : IxR X (fun x y H Q => r x y H Q ∨ r' x y H Q) := fun value slice pins s σ H x y v u Q I rx ry q hs => q.elim (fun q => h value slice pins s σ H x y v u Q I rx ry q hs) fun q => h' value slice pins s σ H x y v u Q I rx ry q hs
theorem og_idxD {K : Fg} {r : R2} (h : OpG r K bIdx) : OpG (fun x y H Q => r x y H Q ∨ rIxD x y H Q) K bIdxD := by
  intro Pr H v w x y sv Q tr hv hw e k
  unfold bIdxD at e
  split at e
  · rename_i kvs
    obtain ⟨kk, e1, e2⟩ := Option.bind_eq_some_iff.mp e
    obtain ⟨z, e3, e4⟩ := Option.map_eq_some_iff.mp e2
    subst e4
    obtain ⟨l, xs, rfl, q, rk⟩ := hv
    rw [keyOf_eq e1] at hw
    rcases rk.find (k := kk) with ⟨_, f2⟩ | ⟨u, d, f1, f2, f3⟩
    · rw [f2] at e3; cases e3
    · rw [f2] at e3
      cases e3
      exact .inr ⟨l, u, rfl, .inl ⟨xs, kk, q, top_key hw, f1.symm⟩, k _ _ (.refl _) f3⟩
  · exact .inl (h Pr H v w _ y sv Q tr hv hw e k)
/-! d.get(k, z) -/
def isDd : D → Bool
  | .dict _ => true
  | _ => false
def getD (x y z : D) : Option SV := match x with
  | .dict kvs => (keyOf y).map fun k => SV.d ((dFind kvs k).getD z)
  | _ => none
def mGet (a b c : ME) : ME := fun ρ => (a ρ).bind fun v ρ1 => viewB ρ1 v fun x0 => if isDd x0 = true then (b ρ1).bind fun w ρ2 => (c ρ2).bind fun u ρ3 => viewB ρ3 v fun x => viewB ρ3 w fun y => toB u fun z => opt (getD x y z) ρ3 else .stuck
theorem s_get (ho : PE X a (tM P E ma)) (hb : PE X b (tM P E mb)) (hcc : PE X c (tM P E mc)) (hu : X.A.units + 65 < cLine) (hK : X.K = P.K := by rfl) (m : M2 X a "get" apos b c pos := by exact ⟨rfl, rfl, rfl, rfl⟩) :
    PE X (.Call (.Attribute a "get" apos) [b, c] [] pos) (tM P E (mGet ma mb mc)) := by
  obtain ⟨K, CA⟩ := P
  subst hK
  refine PE.imp (pe_dget2 (by omega) ho hb hcc m) fun σ H Q ⟨g, ρ, rp, h⟩ => ?_
  refine ⟨g, ρ, rp, bindG (R := RVP _) (R' := RVP _) h fun sv ρ1 v H1 r1 s1 f1 q1 h1 => ?_⟩
  obtain ⟨x0, ex0, h1⟩ := viewB_some' h1
  by_cases hd : isDd x0 = true
  case neg => rw [if_neg hd] at h1; exact h1.elim
  rw [if_pos hd] at h1
  cases x0 with
  | dict kvs0 =>
    obtain ⟨l, xs0, rfl, k0, _⟩ := q1.top r1 ex0
    refine ⟨l, rfl, .inl ⟨xs0, k0⟩, g, ρ1, r1, bindG (R := RVP _) (R' := RVP _) h1 fun sw ρ2 w H2 r2 s2 f2 q2 h2 => ?_⟩
    refine ⟨g, ρ2, r2, bindG (R := RVP _) (R' := RVP _) h2 fun su ρ3 u H3 r3 s3 f3 q3 h3 => ?_⟩
    obtain ⟨x, ex, h3⟩ := viewB_some' h3
    obtain ⟨y, ey, h3⟩ := viewB_some' h3
    obtain ⟨z, ez, h3⟩ := toB_some h3
    obtain ⟨t, et, h3⟩ := opt_of h3
    unfold getD at et
    split at et
    · rename_i kvs
      obtain ⟨kk, e1, e2⟩ := Option.map_eq_some_iff.mp et
      subst e2
      have s23 := s2.trans s3
      have f23 : FrE H1 (Own σ ρ1) H3 := f2.trans f3 fun _ z => s2.symm.own z
      have tx := (show RV0 _ _ _ _ _ _ _ _ from q1.later s23 f23).top r3 ex
      obtain ⟨l', xs, el, k1, rk⟩ := tx
      cases el
      have ty := (show RV0 _ _ _ _ _ _ _ _ from q2.later s3 f3).top r3 ey
      rw [keyOf_eq e1] at ty
      have kz := q3.keep ez
      rcases rk.find (k := kk) with ⟨g1, g2⟩ | ⟨uu, dd, g1, g2, g3⟩
      · refine ⟨none, .inl ⟨xs, kk, k1, top_key ty, g1.symm⟩, ?_⟩
        rw [g2] at h3
        exact post_res r3 ((f1.free.trans f2.free).trans f3.free) h3 (.refl _) kz
      · refine ⟨some uu, .inl ⟨xs, kk, k1, top_key ty, g1.symm⟩, ?_⟩
        rw [g2] at h3
        exact post_res r3 ((f1.free.trans f2.free).trans f3.free) h3 (.refl _) g3
    · cases et
  | _ => cases hd
/-! d[k] = v -/
def isDc (ρ : En) (i : Nat) : Bool := match cellAt ρ i with
  | some (.dct _) => true
  | _ => false
def dItemGo (i : Nat) (w k : SV) (ρ2 : En) : SOut := match toD w with
  | some y => (match k with
    | .d kd => (match keyOf kd with
      | some kk => (match cellAt ρ2 i with
        | some (.dct kvs) => if kvs.length < line then .next (putCell ρ2 i (.dct (dPut kvs kk y))) else .stuck
        | _ => .stuck)
      | none => .stuck)
    | _ => .stuck)
  | none => .stuck
def sDItem (i : Nat) (a v : ME) : MS := fun ρ => (v ρ).st fun w ρ1 => if isDc ρ1 i = true then (a ρ1).st fun k ρ2 => dItemGo i w k ρ2 else .stuck
theorem dItemGo_inv {i : Nat} {w k : SV} {ρ : En} : dItemGo i w k ρ = .stuck ∨ ∃ y kk kvs, toD w = some y ∧ k = .d (keyD kk) ∧ cellAt ρ i = some (.dct kvs) ∧ kvs.length < line ∧ dItemGo i w k ρ = .next (putCell ρ i (.dct (dPut kvs kk y))) := by
  unfold dItemGo
  cases h1 : toD w with
  | none => exact .inl rfl
  | some y =>
    cases k with
    | d kd =>
      cases h2 : keyOf kd with
      | none => simp only [h2]; exact .inl trivial
      | some kk =>
        simp only [h2]
        cases h3 : cellAt ρ i with
        | none => exact .inl rfl
        | some c =>
          cases c with
          | lst _ => exact .inl rfl
          | dct kvs =>
            by_cases h4 : kvs.length < line
            · refine .inr ⟨y, kk, kvs, rfl, by rw [keyOf_eq h2], rfl, h4, if_pos h4⟩
            · exact .inl (if_neg h4)
    | _ => exact .inl rfl
theorem z_ditem (i : Nat) {x : Str} (ho : PE X (.Name x p2) (tM P E (mV i))) (ha : PE X a (tM P E ma)) (hv : PE X b (tM P E mb)) (hu : X.A.units + 65 < cLine)
    (hs : swapsWith b (some (.Subscript (.Name x p2) a p3)) pos.line X.env = pure false := by rfl) : PS X (.Assign [.Subscript (.Name x p2) a p3] b pos) (tS P E (sDItem i ma mb)) := by
  refine PS.imp (ps_dput (by omega) ho ha hv hs) fun D σ H ⟨g, ρ, rp, h⟩ => ?_
  refine ⟨g, ρ, rp, stG (R := RVP P) h fun sw ρ1 w H1 _ r1 s1 f1 q1 h1 => ?_⟩
  have f1' := frS_of s1 f1
  have h1' : PostS P E g σ ρ H H D (if isDc ρ1 i = true then (ma ρ1).st fun k ρ2 => dItemGo i sw k ρ2 else .stuck) := h1
  by_cases hl : isDc ρ1 i = true
  case neg =>
    rw [if_neg hl] at h1'
    exact h1'.elim
  rw [if_pos hl] at h1'
  obtain ⟨kvs0, e0⟩ : ∃ kvs, cellAt ρ1 i = some (.dct kvs) := by
    unfold isDc at hl
    split at hl
    · exact ⟨_, by assumption⟩
    · cases hl
  refine ⟨g, ρ1, r1, ?_⟩
  rw [mV_cell e0]
  intro v H2 r2 s2 f2 q2
  obtain ⟨c1, z1, z2⟩ := q2.b
  have f2' := f1'.trans (frS_of s2 f2)
  refine ⟨g, ρ1, r2, stG (R := RVP P) (h1'.step f2') fun sk ρ2 k H3 _ r3 s3 f3 q3 h3 => ?_⟩
  rcases dItemGo_inv (i := i) (w := sw) (k := sk) (ρ := ρ2) with e | ⟨y, kk, kvs, ey, rfl, ec, ej, e⟩
  · rw [e] at h3
    exact h3.elim
  · rw [e] at h3
    obtain ⟨l, y1, y2, xs, e1, e2⟩ := r3.cell i _ ec
    rw [z2] at y1
    cases y1
    have ekv : k = kV kk := rp_key (show Rp _ _ k (keyD kk) from q3.b)
    have rw' := ((q1.later s2 f2).later s3 f3).keep ey
    obtain ⟨r4, s4, f4⟩ := r3.put (o := .dK (putK xs kk w)) (c' := .dct (dPut kvs kk y)) ec z2 ⟨_, rfl, e2.put rw'⟩
    exact ⟨l, _, rfl, .inl ⟨xs, kk, e1, ekv, by rw [e2.length, ← line_eq]; exact ej, rfl⟩, h3 σ _ r4 ((frS_of s3 f3).trans (frS_of s4 f4))⟩
/-! sorted(d), list(d) -/
def keysI : List (D × D) → Option (List Int)
  | [] => some []
  | (.int i, _) :: r => (keysI r).map fun is => i :: is
  | _ => none
def gSortD : List D → Option SV
  | [.dict kvs] => (keysI kvs).map fun is => .own (.lst ((sortI is).map PyData.int))
  | xs => gSort xs
def gLstD : List D → Option SV
  | [.dict kvs] => some (.own (.lst (kvs.map (·.1))))
  | xs => gLst xs
theorem rp_keysI {K : Fg} {H : Hp} : ∀ {xs : List (Key × V)} {ds : List (D × D)} {is : List Int}, RpKv K H xs ds → keysI ds = some is → xs.map (·.1) = is.map Sum.inl
  | _, _, _, .nil, e => by cases e; rfl
  | _, _, _, .cons (k := k) h r, e => by
    cases k with
    | inl i =>
      obtain ⟨js, e1, e2⟩ := Option.map_eq_some_iff.mp (show (keysI _).map _ = some _ from e)
      subst e2
      rw [List.map_cons, List.map_cons, rp_keysI r e1]
    | inr x => cases e
theorem rp_keys {K : Fg} {H : Hp} : ∀ {xs : List (Key × V)} {ds : List (D × D)}, RpKv K H xs ds → RpAll K H (xs.map fun kv => kV kv.1) (ds.map (·.1))
  | _, _, .nil => .nil
  | _, _, .cons (k := k) h r => by
    refine .cons ?_ (rp_keys r)
    cases k with
    | inl i => exact .int i
    | inr x => exact .str x
def rSortDI : List V → Hp → VK → Prop := fun xs H Q => ∃ (a : Addr) (kvs : List (Key × V)) (ks : List Int), xs = [.ref a] ∧ Rd H a (.dK kvs) ∧ kvs.map (·.1) = ks.map Sum.inl ∧
    ∀ (ys : List Int) (p : Addr), ys.Perm ks → ys.Pairwise (· ≤ ·) → H p = none → Q (.ref p) (upd H p (.lst (ys.map V.int)))
theorem cr_sortDI (hcalm : X.calm = true) : CallR X (.builtin "sorted") rSortDI := by
  rintro pins s σ H xs us Q I r ⟨a, kvs, ks, rfl, hd, hks, q⟩
  obtain ⟨u, rfl, rx⟩ := vals1 r
  obtain rfl : u = Value.ref a := rx
  obtain ⟨z, lo, ws, rel, dd⟩ := dk_rd I.hok hd
  obtain ⟨ep, hat⟩ := dd.dictAt
  have hwk : ws.map (·.1) = ks.map Sum.inl := rel.keys.symm.trans hks
  have hl : ws.length = ks.length := by simpa using congrArg List.length hwk
  have hz : ws.length ≤ sizeLine := by rw [← rel.length]; exact z
  refine Calls.call_function_entry PyProof.Rows.kind_sorted PyProof.Rows.plain_sorted PyProof.Rows.entry_sorted (PyProof.Rows.args_sorted1 _) ?_
  unfold Builtin.«sorted»
  refine wpAny_bind (m := checkCount "sorted" 1 1 _) (wpAny_pure ?_)
  refine wpAny_bind (PySem.W.kdu_collect (A := X.A.in1) (PySem.W.kdl_dict (knd := mixKind X.prog X.w) (kvs := ws) (ep := ep) lo) (I.ok.hd hcalm) hat hz fun h' tk acc hk hacc => ?_)
  have hal : acc.toList.length = ks.length := by rw [Array.length_toList, hacc.1, hl]
  have hS : PyProof.Rows.IntsAre acc.toList ks := ints_each hal fun j v e => by
    obtain ⟨k, x, e1, e2⟩ := hacc.2 j v (by rw [← Array.getElem?_toList]; exact e)
    have e3 : (ks.map Sum.inl)[j]? = some k := by rw [← hwk, List.getElem?_map, e1]; rfl
    rw [List.getElem?_map] at e3
    obtain ⟨y, e4, e5⟩ := Option.map_eq_some_iff.mp e3
    subst e5
    rcases keyIs_shape (show keyIs (Sum.inl y) v = true from e2) with ⟨i, t, ek, ev⟩ | ⟨w, t, ek, _⟩
    · cases ek
      exact ⟨y, t, e4, ev⟩
    · cases ek
  have I1 : Inv X pins σ H { s with heap := h', toks := tk } := I.kept hk
  refine wpAny_bind (wpAny_newList ?_ (by rw [hal, ← hl]; exact hz))
  have hoL : (h'.push (PyProof.Rows.seqObj "list" acc.toList.toArray 0)).get? h'.objs.size = some (PyProof.Rows.seqObj "list" acc.toList.toArray 0) := Heap.get?_push_size _ rfl
  show wpAny _ _ _ _ _ { s with heap := h'.push (PyProof.Rows.seqObj "list" acc.toList.toArray 0), toks := tk }
  refine wpAny_bind (wpAny_holding (wpAny_call_entry PyProof.Rows.slot_list_sort ⟨_, hoL, rfl⟩ PyProof.Rows.entry_list_sort
    (SrtO.list_sort_ord (s := { s with heap := h'.push (PyProof.Rows.seqObj "list" acc.toList.toArray 0), toks := tk }) SrtO.swo_int hoL (by rw [hal, ← hl]; exact hz) (fun h2 => SrtO.ints_sortable hS h2) fun out h1 h2 => ⟨_, rfl, ?_⟩) (PyProof.Rows.args_list_sort _)))
  obtain ⟨g1, g2, g3⟩ := SrtO.ints_out hS h1 h2
  obtain ⟨e', he'⟩ := PyProof.Rows.sortedHeap_at (vs := acc.toList) (out := out.toArray) hoL
  have hlen : ((out.map SrtO.iv).map V.int).length ≤ sizeLine := by
    rw [List.length_map, g2.length_eq, ← hl]
    exact hz
  refine wpAny_pure ⟨_, rfl, .ref h'.objs.size, upd H h'.objs.size (.lst ((out.map SrtO.iv).map V.int)), I1.laid (t' := tk) (fun b u e => ?_) (Nat.le_refl _)
    (show ObjOk X.prog X.w _ _ _ (.lst ((out.map SrtO.iv).map V.int)) from ⟨hlen, out, e', vals_of_ints g1, he'⟩), rfl, q _ _ g2 g3 (I1.hok.fresh (Nat.le_refl _))⟩
  have hb : b < h'.objs.size := Heap.lt_size e
  rw [PyProof.Rows.sortedHeap_old (Nat.ne_of_lt hb) (by rw [PyProof.Rows.size_push']; exact Nat.lt_succ_of_lt hb)]
  exact Heap.get?_push_of_some _ e
theorem og_sortD {K : Fg} : CallG (fun xs H Q => rSortedI K xs H Q ∨ rSortDI xs H Q) K gSortD := by
  intro Pr H vs xs sv Q tr hv e k
  unfold gSortD at e
  split at e
  · obtain ⟨is, e1, e2⟩ := Option.map_eq_some_iff.mp e
    subst e2
    cases hv with
    | cons h1 h2 =>
      cases h2
      obtain ⟨a, ws, rfl, q, r⟩ := h1
      refine .inr ⟨a, ws, is, rfl, q, rp_keysI r e1, fun js p h1 h2 hp => ?_⟩
      rw [sortI_of h1 h2]
      exact k _ _ (.new hp) (res_lst hp (rp_ints_map _))
  · exact .inl (og_sort Pr H vs _ sv Q tr hv e k)
theorem og_lstD {K : Fg} : CallG (fun xs H Q => (∃ p ys, xs = [.ref p] ∧ (SqL K H p ys ∨ SqT K H p ys) ∧ ∀ l, H l = none → Q (.ref l) (upd H l (.lst ys))) ∨
    (∃ (a : Addr) (kvs : List (Key × V)), xs = [.ref a] ∧ Rd H a (.dK kvs) ∧ ∀ p, H p = none → Q (.ref p) (upd H p (.lst (kvs.map fun kv => kV kv.1))))) K gLstD := by
  intro Pr H vs xs sv Q tr hv e k
  unfold gLstD at e
  split at e
  · cases e
    cases hv with
    | cons h1 h2 =>
      cases h2
      obtain ⟨a, ws, rfl, q, r⟩ := h1
      exact .inr ⟨a, ws, rfl, q, fun p hp => k _ _ (.new hp) (res_lst hp (rp_keys r))⟩
  · exact .inl (og_lst Pr H vs _ sv Q tr hv e k)
end
end MP
end

section
set_option Elab.async false
set_option linter.all false
set_option maxRecDepth 100000
set_option maxHeartbeats 4000000
set_option autoImplicit false
namespace MP
open PySem PySem.Spec L2
/-! ### bits -/
def bShl : D → D → Option SV
  | .int i, .int j => if (decide (0 ≤ j) && decide ((i.natAbs.log2 : Int) + 1 + j ≤ 134217728)) = true then some (.d (.int (i * 2 ^ j.toNat))) else none
  | _, _ => none
def bShr : D → D → Option SV
  | .int i, .int j => if 0 ≤ j then some (.d (.int (i / 2 ^ j.toNat))) else none
  | _, _ => none
def bBand : D → D → Option SV
  | .int i, .int j => some (.d (.int (Builtin.bitAnd i j)))
  | _, _ => none
def bBor : D → D → Option SV
  | .int i, .int j => some (.d (.int (Builtin.bitOr i j)))
  | _, _ => none
theorem shl_c {i j : Int} (h : (decide (0 ≤ j) && decide ((i.natAbs.log2 : Int) + 1 + j ≤ 134217728)) = true) : CShl i j := by
  rw [Bool.and_eq_true, decide_eq_true_eq, decide_eq_true_eq] at h
  have b : Builtin.Int.intBits i ≤ i.natAbs.log2 + 1 := by
    unfold Builtin.Int.intBits
    split <;> omega
  refine ⟨h.1, ?_⟩
  have : (2 : Int) ^ 27 = 134217728 := by decide
  rw [this]
  omega
theorem og_shl {K : Fg} : OpG (rI CShl fun i j => .int (i * 2 ^ j.toNat)) K bShl := og_IC (g := fun i j => .int (i * 2 ^ j.toNat)) (g' := fun i j => .int (i * 2 ^ j.toNat)) (C := CShl) (fun _ _ _ => .int _) (fun i j H Q c q => ⟨i, j, rfl, rfl, c, q⟩) fun x y sv e => by
  unfold bShl at e
  split at e
  · split at e
    · cases e; exact ⟨_, _, rfl, rfl, rfl, shl_c (by assumption)⟩
    · cases e
  · cases e
theorem og_shr {K : Fg} : OpG (rI (fun _ j => 0 ≤ j) fun i j => .int (i / 2 ^ j.toNat)) K bShr := og_IC (g := fun i j => .int (i / 2 ^ j.toNat)) (g' := fun i j => .int (i / 2 ^ j.toNat)) (C := fun _ j => 0 ≤ j) (fun _ _ _ => .int _) (fun i j H Q c q => ⟨i, j, rfl, rfl, c, q⟩) fun x y sv e => by
  unfold bShr at e
  split at e
  · split at e
    · cases e; exact ⟨_, _, rfl, rfl, rfl, by assumption⟩
    · cases e
  · cases e
theorem og_band {K : Fg} : OpG (rI0 fun i j => .int (Builtin.bitAnd i j)) K bBand := og_I0 (g := fun i j => .int (Builtin.bitAnd i j)) (g' := fun i j => .int (Builtin.bitAnd i j)) (fun _ _ _ => .int _) (fun i j H Q q => ⟨i, j, rfl, rfl, q⟩) fun x y sv e => by
  unfold bBand at e
  split at e
  · cases e; exact ⟨_, _, rfl, rfl, rfl⟩
  · cases e
theorem og_bor {K : Fg} : OpG (rI0 fun i j => .int (Builtin.bitOr i j)) K bBor := og_I0 (g := fun i j => .int (Builtin.bitOr i j)) (g' := fun i j => .int (Builtin.bitOr i j)) (fun _ _ _ => .int _) (fun i j H Q q => ⟨i, j, rfl, rfl, q⟩) fun x y sv e => by
  unfold bBor at e
  split at e
  · cases e; exact ⟨_, _, rfl, rfl, rfl⟩
  · cases e
/-! ### reversed(a list) -/
def revL : D → Option (List D)
  | .list xs => some xs.reverse
  | _ => none
theorem rpAll_rev {K : Fg} {H : Hp} : ∀ {vs : List V} {xs : List D}, RpAll K H vs xs → RpAll K H vs.reverse xs.reverse
  | _, _, .nil => .nil
  | _, _, .cons h r => by
    rw [List.reverse_cons, List.reverse_cons]
    exact (rpAll_rev r).append (.cons h .nil)
theorem rev_at {α : Type} {xs : List α} {i : Nat} (h : i < xs.length) : xs[xs.length - 1 - i]? = xs.reverse[i]? := by
  rw [List.getElem?_reverse h]
theorem jok_rev {K : Fg} {Pr : Addr → Prop} {H1 : Hp} {l : Addr} {vs : List V} {xs : List D} (h : SqL K (hid Pr H1) l vs) (r : RpAll K (hid Pr H1) vs xs) : JOk K (Itv K l vs.length) xs.reverse Pr H1 := by
  refine jok_items (rpAll_rev r) (fun H lt i hi => ?_) (fun H lt => ?_) fun H lt i v H' y => ?_
  · rw [List.length_reverse] at hi
    exact ⟨hi, vs, vs.reverse[i]'(by rw [List.length_reverse]; exact hi), later_sl lt h, by rw [rev_at hi, List.getElem?_eq_getElem]⟩
  · rw [List.length_reverse]
    exact Nat.le_refl vs.length
  · obtain ⟨e1, e2⟩ := y
    refine ⟨e1, fun w hw => ?_⟩
    have hi : i < vs.length := by
      have := (List.getElem?_eq_some_iff.mp hw).1
      rw [List.length_reverse] at this
      exact this
    have e3 := e2 vs (later_sl lt h)
    rw [rev_at hi, hw] at e3
    exact (Option.some.inj e3).symm
section
variable {X : Cx} {P : Pk} {E : St → XK} {te a b c d : Expr} {ma mb mc md : ME} {pos apos p p2 p3 : Pos}
theorem i_rev (hm : X.mg "reversed" = none) (ha : PE X a (tM P E ma)) (hK : X.K = P.K := by rfl) (hg : Gl X "reversed" := by rfl) (he : starEach [a] X.env = (false, eval a X.env) :: starEach [] X.env := by rfl) (hs : starEach [a] X.env = [(false, eval a X.env)] := by rfl) :
    PI X te (.Call (.Name "reversed" p) [a] [] pos) (iM P E (i1 revL ma)) := by
  obtain ⟨K, CA⟩ := P
  subst hK
  refine PI.imp (pi_reversed hg hm (pa_cons ha pa_nil he) hs) fun σ H R ⟨g, ρ, r, h⟩ => ?_
  refine ⟨g, ρ, r, bindG (R := RVP _) (R' := RJ _) h fun sv ρ1 v H1 r1 s1 f1 q1 h1 => ?_⟩
  obtain ⟨x, ex, h1⟩ := toB_some h1
  obtain ⟨z, ez, h1⟩ := opt_of h1
  have k := q1.keep ex
  unfold revL at ez
  split at ez
  · cases ez
    cases k with
    | lst k1 k2 => exact ⟨_, _, rfl, hid_le.sl k1, h1 _ H1 r1 (.refl _) (.refl _ _) (jok_rev k1 k2)⟩
  · cases ez
/-! ### dict(pairs) -/
def pairsD : List D → Option (List (D × D))
  | [] => some []
  | .tuple [k, v] :: r => (keyOf k).bind fun _ => (pairsD r).map fun ps => (k, v) :: ps
  | _ => none
def mergeD (kvs : List (D × D)) (ps : List (D × D)) : List (D × D) := ps.foldl (fun acc kv => match keyOf kv.1 with | some k => dPut acc k kv.2 | none => acc) kvs
def gDct : List D → Option SV
  | [.list xs] => (pairsD xs).map fun ps => .own (.dct (mergeD [] ps))
  | [.tuple xs] => (pairsD xs).map fun ps => .own (.dct (mergeD [] ps))
  | [.dict kvs] => some (.own (.dct kvs))
  | _ => none
/-- the pairs in the heap -/
theorem rp_pairs {K : Fg} {H : Hp} : ∀ {vs : List V} {xs : List D} {ps : List (D × D)}, RpAll K H vs xs → pairsD xs = some ps →
    ∃ (as : List Addr) (kvs : List (Key × V)), vs = as.map V.ref ∧ Paired (fun p kv => SqT K H p [kV kv.1, kv.2]) as kvs ∧ RpKv K H kvs ps
  | _, _, _, .nil, e => by cases e; exact ⟨[], [], rfl, .nil, .nil⟩
  | _, _, _, .cons h rr, e => by
    unfold pairsD at e
    split at e
    · rename_i h0; cases h0
    · rename_i k v r' h0
      cases h0
      obtain ⟨kk, e1, e2⟩ := Option.bind_eq_some_iff.mp e
      obtain ⟨qs, e3, e4⟩ := Option.map_eq_some_iff.mp e2
      subst e4
      obtain ⟨as, kvs, h1, h2, h3⟩ := rp_pairs rr e3
      have ek := keyOf_eq e1
      subst ek
      cases h with
      | tup t1 t2 =>
        cases t2 with
        | cons t2 t3 =>
          cases t3 with
          | cons t3 t4 =>
            cases t4
            rw [rp_key t2] at t1
            exact ⟨_ :: as, (kk, _) :: kvs, by rw [h1] <;> rfl, .cons t1.1 h2, .cons t3 h3⟩
    · cases e
theorem rp_merge {K : Fg} {H : Hp} : ∀ {kvs : List (Key × V)} {ps : List (D × D)} {as : List (Key × V)} {bs : List (D × D)}, RpKv K H kvs ps → RpKv K H as bs → RpKv K H (mergeK as kvs) (mergeD bs ps)
  | _, _, _, _, .nil, h => h
  | _, _, _, _, .cons (k := k) (v := v) (d := d) (ds := ds) h r, h2 => by
    unfold mergeK mergeD
    rw [List.foldl_cons, List.foldl_cons]
    simp only [keyOf_D]
    exact rp_merge r (h2.put h)
theorem pairs2 {pins : List (Addr × Obj)} {σ : St} {H : Hp} {s : Shared} (I : Inv X pins σ H s) : ∀ {ps : List Addr} {kvs : List (Key × V)}, Paired (fun p kv => SqT X.K H p [kV kv.1, kv.2]) ps kvs →
    ∃ (prs : List (Key × Value)) (us : List Value), KV kvs prs ∧ prs.length = ps.length ∧ us.length = ps.length ∧ ∀ (j : Nat) (q : Key × Value) (u : Value), prs[j]? = some q → us[j]? = some u → ∃ b : Addr, ps[j]? = some b ∧ PyProof.Rows.IsTup s.heap b #[u, q.2] ∧ keyIs q.1 u = true
  | _, _, .nil => ⟨[], [], .nil, rfl, rfl, fun j q u e => by simp at e⟩
  | _, _, .cons (a := p) (b := kv) h t => by
    obtain ⟨prs, us, r, hl, hl2, hp⟩ := pairs2 I t
    obtain ⟨its, rv, ht, _⟩ := I.tuple h
    obtain ⟨u, y, ei, ru, ry⟩ := vals2 rv
    subst ei
    refine ⟨(kv.1, y) :: prs, u :: us, .cons ⟨rfl, ry⟩ r, by rw [List.length_cons, List.length_cons, hl], by rw [List.length_cons, List.length_cons, hl2], fun j q w e e2 => ?_⟩
    cases j with
    | zero =>
      have e' : (kv.1, y) = q := Option.some.inj e
      have e2' : u = w := Option.some.inj e2
      subst e' e2'
      exact ⟨p, rfl, ht, kV_is (P := X.prog) (w := X.w) ru⟩
    | succ j =>
      obtain ⟨b, e1, e2, e3⟩ := hp j q w (by simpa using e) (by simpa using e2)
      exact ⟨b, by simpa using e1, e2, e3⟩
/-- dict(xs) of a tuple of pairs -/
def rDctT (K : Fg) : List V → Hp → VK → Prop := fun xs H Q => ∃ (a : Addr) (ps : List Addr) (kvs : List (Key × V)), xs = [.ref a] ∧ Sure H a (ps.map V.ref) ∧ Paired (fun p kv => SqT K H p [kV kv.1, kv.2]) ps kvs ∧
    ∀ p, H p = none → Q (.ref p) (upd H p (.dK (mergeK [] kvs)))
theorem cr_dctT (hcalm : X.calm = true) : CallR X (.type "dict") (rDctT X.K) := by
  intro pins s σ H xs us Q I r q
  obtain ⟨a, ps, kvs, ex, ⟨o, ho, hdn⟩, hp, q⟩ := q
  subst ex
  obtain ⟨u, eu, rx⟩ := vals1 r
  subst eu
  cases rx
  obtain ⟨ho2, hz, its, rv, ⟨o', ho', hc, n, hdat⟩⟩ := I.hok a _ ho
  rw [ho2] at ho'
  cases ho'
  have ei := refs_at rv
  subst ei
  rw [List.length_map] at hz
  obtain ⟨prs, us, rel, hl, hl2, hpr⟩ := pairs2 I hp
  have hzl : (us.zip (prs.map (·.2))).length = ps.length := by rw [List.length_zip, List.length_map, hl, hl2, Nat.min_self]
  have zat : ∀ (j : Nat) (k v : Value), (us.zip (prs.map (·.2)))[j]? = some (k, v) → us[j]? = some k ∧ ∃ q, prs[j]? = some q ∧ q.2 = v := fun j k v e => by
    rw [List.getElem?_zip_eq_some] at e
    obtain ⟨e1, e2⟩ := e
    rw [List.getElem?_map] at e2
    obtain ⟨q, q1, q2⟩ := Option.map_eq_some_iff.mp e2
    exact ⟨e1, q, q1, q2⟩
  refine call_dict_pairs (knd := mixKind X.prog X.w) (kvs := prs) (PairArg.tuple a (ps.map Value.ref).toArray (fun j => ps.getD j 0) (us.zip (prs.map (·.2)))) (I.ok.hd hcalm) ⟨⟨o, n, ho2, hc, hdn, hdat⟩, by rw [List.size_toArray, List.length_map, hzl], fun j k v e => ?_⟩ ⟨by rw [hl, hzl], fun j k v e => ?_⟩ (by rw [hzl]; exact hz) fun h' tk hd' kk => ?_
  · obtain ⟨e1, q', e2, e3⟩ := zat j k v e
    obtain ⟨b, b1, b2, b3⟩ := hpr j q' k e2 e1
    subst e3
    have eb : ps.getD j 0 = b := by rw [List.getD_eq_getElem?_getD, b1]; rfl
    show (ps.map Value.ref).toArray[j]? = some (.ref (ps.getD j 0)) ∧ PairAt s.heap (ps.getD j 0) k q'.2
    rw [eb]
    exact ⟨by simp [b1], .inl b2⟩
  · obtain ⟨e1, q', e2, e3⟩ := zat j k v e
    obtain ⟨b, b1, b2, b3⟩ := hpr j q' k e2 e1
    subst e3
    exact ⟨q'.1, e2, b3⟩
  · have hm : (s.heap.objs.size == sysModules) = false := beq_eq_false_iff_ne.mpr (Nat.ne_of_gt I.big)
    have hlen : (mergeK [] kvs).length ≤ sizeLine := by
      refine Nat.le_trans (length_mergeK kvs []) ?_
      rw [List.length_nil, Nat.zero_add, rel.length, hl]
      exact hz
    exact ⟨.ref s.heap.objs.size, upd H s.heap.objs.size (.dK (mergeK [] kvs)), I.laid (t' := tk) (fun b ob e => kk b ob (by simp) e) (Nat.le_refl _) (show ObjOk X.prog X.w _ _ _ (.dK (mergeK [] kvs)) from ⟨hlen, hm, merged [] prs, KV.merge rel .nil, hd'⟩), rfl, q _ (I.hok.fresh (Nat.le_refl _))⟩
def rDctL (K : Fg) : List V → Hp → VK → Prop := fun xs H Q => ∃ (a : Addr) (ps : List Addr) (kvs : List (Key × V)), xs = [.ref a] ∧ SqL K H a (ps.map V.ref) ∧ Paired (fun p kv => SqT K H p [kV kv.1, kv.2]) ps kvs ∧
    ∀ p, H p = none → Q (.ref p) (upd H p (.dK (mergeK [] kvs)))
def rDctC : List V → Hp → VK → Prop := fun xs H Q => ∃ (a : Addr) (kvs : List (Key × V)), xs = [.ref a] ∧ Rd H a (.dK kvs) ∧ ∀ p, H p = none → Q (.ref p) (upd H p (.dK kvs))
theorem cr_dctC : CallR X (.type "dict") rDctC := by
  intro pins s σ H xs us Q I r q
  obtain ⟨a, kvs, ex, e, q⟩ := q
  subst ex
  obtain ⟨u, eu, rx⟩ := vals1 r
  subst eu
  cases rx
  exact d_copyOf I e fun p s' hp I' => ⟨.ref p, _, I', rfl, q p hp⟩
def rDct (K : Fg) : List V → Hp → VK → Prop := fun xs H Q => rDctL K xs H Q ∨ (rDctT K xs H Q ∨ rDctC xs H Q)
theorem cr_dct (hcalm : X.calm = true) : CallR X (.type "dict") (rDct X.K) := CallR.or (call_dictP hcalm) (CallR.or (cr_dctT hcalm) cr_dctC)
theorem paired_imp {α β : Type} {R S : α → β → Prop} (h : ∀ a b, R a b → S a b) : ∀ {as : List α} {bs : List β}, Paired R as bs → Paired S as bs
  | _, _, .nil => .nil
  | _, _, .cons r t => .cons (h _ _ r) (paired_imp h t)
theorem pairs_pairy : ∀ {xs : List D} {ps : List (D × D)}, pairsD xs = some ps → pairy xs = true
  | [], _, _ => rfl
  | x :: xs, ps, e => by
    unfold pairsD at e
    split at e
    · rename_i h; cases h
    · rename_i h
      cases h
      obtain ⟨_, _, e2⟩ := Option.bind_eq_some_iff.mp e
      obtain ⟨qs, e3, _⟩ := Option.map_eq_some_iff.mp e2
      exact pairs_pairy (xs := xs) e3
    · cases e
theorem og_dct {K : Fg} : CallG (rDct K) K gDct := by
  intro Pr H vs xs sv Q tr hv e k
  unfold gDct at e
  split at e
  · obtain ⟨ps, e1, e2⟩ := Option.map_eq_some_iff.mp e
    subst e2
    obtain ⟨a, ws, rfl, q, r⟩ := one_list hv
    obtain ⟨as, kvs, rfl, h1, h2⟩ := rp_pairs r e1
    exact .inl ⟨a, as, kvs, rfl, q, paired_imp (fun x y z => hid_le.st z) h1, fun p hp => k _ _ (.new hp) ⟨p, rfl, hp, _, upd_same, (rp_merge h2 .nil).grow (hid_new hp)⟩⟩
  · obtain ⟨ps, e1, e2⟩ := Option.map_eq_some_iff.mp e
    subst e2
    obtain ⟨a, ws, rfl, q, r⟩ := one_tupU hv
    obtain ⟨as, kvs, rfl, h1, h2⟩ := rp_pairs r e1
    obtain ⟨o, ho, hn⟩ := q.2 (pairs_pairy e1)
    exact .inr (.inl ⟨a, as, kvs, rfl, ⟨o, (hid_some.mp ho).2, hn⟩, paired_imp (fun x y z => hid_le.st z) h1, fun p hp => k _ _ (.new hp) ⟨p, rfl, hp, _, upd_same, (rp_merge h2 .nil).grow (hid_new hp)⟩⟩)
  · cases e
    cases hv with
    | cons h1 h2 =>
      cases h2
      obtain ⟨a, ws, rfl, q, r⟩ := h1
      exact .inr (.inr ⟨a, ws, rfl, q, fun p hp => k _ _ (.new hp) ⟨p, rfl, hp, _, upd_same, r.grow (hid_new hp)⟩⟩)
  · cases e
end
end MP
end

section
set_option Elab.async false
set_option linter.all false
set_option maxRecDepth 100000
set_option maxHeartbeats 4000000
/-! sets of ints made by two fors; what is sorted of them -/
namespace MP
open PySem PySem.Spec PyProof.Rows L2
theorem addI_ok {X : Cx} {pins : List (Addr × Obj)} {σ : L2.St} {H : Hp} {s : Shared} {E : Value → Shared → Prop} {D : Addr} {S : Int → Bool} {n : Nat} {y : Int} {tk : Tok} {Q : Value → Shared → Prop} (I : L2.Inv X pins σ H s) (hD : H D = some (SetO X.w D S n)) (room : n + 1 < scanBound)
    (h : ∀ s', L2.Inv X pins σ (upd H D (SetO X.w D (fun j => S j || decide (j = y)) (if S y = true then n else n + 1))) s' → Q .none s') : wpAny (model X.prog X.w) X.A (call (.builtin "set.add") [.ref D, .int y tk]) Q E s := by
  refine setR_add (setO_get I hD) room fun h' sb new => ?_
  have he : ∃ u, h'.get? D = some u := by
    obtain ⟨o, _, _, _, ho, _⟩ := new
    exact ⟨o, ho⟩
  exact h _ (I.write (e := D) (t' := s.toks + 1) (by rw [hD]; trivial) (.inl rfl) (fun b u hb hu => (sb.2 b hb).trans hu) he (setO_new new))
section
theorem stepS_out (elt t0 i0 t1 i1 : Expr) (ifs0 ifs1 : List Expr) (scope : Scope) (pos : Pos) (it acc : Value) (env : Env) :
    compTurn (.SetComp elt [⟨t0, i0, ifs0, 0⟩, ⟨t1, i1, ifs1, 0⟩] scope pos) 0 it acc env = (do
      standAt i0.pos
      match ← pyNext it with
      | none => pure (.done .next)
      | some v =>
        letOwnedTupleGo t0 it v
        assign t0 env v
        let mut ok := true
        for c in ifs0 do
          if ok then ok ← isTrue c env (eval c env)
        if ok then
          let x ← eval i1 env
          standAt i1.pos
          let x ← foldedSetIterable i1 env x
          let _ ← runOwn (.compStart (.SetComp elt [⟨t0, i0, ifs0, 0⟩, ⟨t1, i1, ifs1, 0⟩] scope pos) 1 (← holding [x] (pyIter x)) acc env) env
        again (.compLoop (.SetComp elt [⟨t0, i0, ifs0, 0⟩, ⟨t1, i1, ifs1, 0⟩] scope pos) 0 it acc env)) := by rfl
theorem stepS_in (elt t0 i0 t1 i1 : Expr) (ifs0 ifs1 : List Expr) (scope : Scope) (pos : Pos) (it acc : Value) (env : Env) :
    compTurn (.SetComp elt [⟨t0, i0, ifs0, 0⟩, ⟨t1, i1, ifs1, 0⟩] scope pos) 1 it acc env = (do
      standAt i1.pos
      match ← pyNext it with
      | none => pure (.done .next)
      | some v =>
        letOwnedTupleGo t1 it v
        assign t1 env v
        let mut ok := true
        for c in ifs1 do
          if ok then ok ← isTrue c env (eval c env)
        if ok then
          (do let v ← eval elt env; standAt elt.pos; let _ ← call (.builtin "set.add") [acc, v])
        again (.compLoop (.SetComp elt [⟨t0, i0, ifs0, 0⟩, ⟨t1, i1, ifs1, 0⟩] scope pos) 1 it acc env)) := by rfl

section
variable {prog : Program} {w : World} {A : Around} {R : Result → Shared → Prop} {s : Shared} {elt t0 i0 t1 i1 : Expr} {ifs0 ifs1 : List Expr} {scope : Scope} {pos : Pos} {it acc : Value} {env : Env}
/-- the loop of the first clause -/
theorem loopS_out (hs : ∀ x, foldedSetIterable i1 env x = pure x) (I : Nat → Shared → Prop)
    (turn : ∀ n s, I n s → wpAny (model prog w) A (pyNext it) (fun r t₁ => match r with
      | none => R (.ok .next) t₁
      | some v => wpAny (model prog w) A (letOwnedTupleGo t0 it v) (fun _ s₁' => wpAny (model prog w) A (assign t0 env v) (fun _ t₂ =>
          wpAny (model prog w) A (forIn ifs0 true fun c r => if r = true then do let ok ← isTrue c env (eval c env); pure (ForInStep.yield ok) else pure (ForInStep.yield r)) (fun ok t₃ =>
            if ok = true then wpAny (model prog w) A (eval i1 env) (fun x t₄ => wpAny (model prog w) A (pyIter x) (fun it1 t₅ =>
              codeAny (model prog w) A (.compStart (.SetComp elt [⟨t0, i0, ifs0, 0⟩, ⟨t1, i1, ifs1, 0⟩] scope pos) 1 it1 acc env) (fun r s' => match r with
                | .ok _ => ∃ m, m < n ∧ I m s'
                | .error _ => False) t₅) (notedBy (model prog w) A env fun e s' => R (.error e) s') t₄) (notedBy (model prog w) A env fun e s' => R (.error e) s') t₃
            else ∃ m, m < n ∧ I m t₃) (notedBy (model prog w) A env fun e s' => R (.error e) s') t₂) (notedBy (model prog w) A env fun e s' => R (.error e) s') s₁') (notedBy (model prog w) A env fun e s' => R (.error e) s') t₁) (notedBy (model prog w) A env fun e s' => R (.error e) s') s)
    (n : Nat) (h : I n s) :
    codeAny (model prog w) A (.compLoop (.SetComp elt [⟨t0, i0, ifs0, 0⟩, ⟨t1, i1, ifs1, 0⟩] scope pos) 0 it acc env) R s := by
  refine codeAny_loop rfl I (fun n s hI => ?_) n h
  show wpAny _ A ((compTurn (.SetComp elt [⟨t0, i0, ifs0, 0⟩, ⟨t1, i1, ifs1, 0⟩] scope pos) 0 it acc env).onRaise (fun x => do noteFrame x env; theTreesLotGoes x)) _ _ s
  refine wpAny_noted ?_
  rw [stepS_out]
  refine wpAny_bind (wpAny_standAt (wpAny_bind (wpAny_mono (turn n s hI) (fun r t₁ h₁ => ?_) fun _ _ h' => h')))
  cases r with
  | none => exact wpAny_pure h₁
  | some v =>
    refine wpAny_bind (wpAny_mono h₁ (fun _ s₁' h₁' => ?_) fun _ _ h' => h')
    refine wpAny_bind (wpAny_mono h₁' (fun _ t₂ h₂ => wpAny_bind (wpAny_mono h₂ (fun ok t₃ h₃ => ?_) fun _ _ h' => h')) fun _ _ h' => h')
    cases ok with
    | false => exact wpAny_pure ⟨rfl, h₃⟩
    | true =>
      refine wpAny_bind (wpAny_mono h₃ (fun x t₄ h₄ => ?_) fun _ _ h' => h')
      refine wpAny_bind (wpAny_standAt (wpAny_bind (wpAny_of_eq (hs x) (wpAny_bind (wpAny_holding (wpAny_mono h₄ (fun it1 t₅ h₅ => ?_) fun _ _ h' => h'))))))
      refine wpAny_bind (wpAny_runOwn ?_)
      rw [Around.mark_none]
      refine codeAny_mono h₅ fun r s' hr => ?_
      cases r with
      | ok f =>
        first
          | exact wpAny_pure ⟨rfl, hr⟩
          | exact wpAny_bind (wpAny_pure (wpAny_pure ⟨rfl, hr⟩))
      | error e => exact hr.elim
/-- the loop of the second -/
theorem loopS_in (I : Nat → Shared → Prop)
    (turn : ∀ n s, I n s → wpAny (model prog w) A (pyNext it) (fun r t₁ => match r with
      | none => R (.ok .next) t₁
      | some v => wpAny (model prog w) A (letOwnedTupleGo t1 it v) (fun _ s₁' => wpAny (model prog w) A (assign t1 env v) (fun _ t₂ =>
          wpAny (model prog w) A (forIn ifs1 true fun c r => if r = true then do let ok ← isTrue c env (eval c env); pure (ForInStep.yield ok) else pure (ForInStep.yield r)) (fun ok t₃ =>
            if ok = true then wpAny (model prog w) A (eval elt env) (fun x t₄ =>
              wpAny (model prog w) A (call (.builtin "set.add") [acc, x]) (fun _ t₅ => ∃ m, m < n ∧ I m t₅) (notedBy (model prog w) A env fun e s' => R (.error e) s') t₄) (notedBy (model prog w) A env fun e s' => R (.error e) s') t₃
            else ∃ m, m < n ∧ I m t₃) (notedBy (model prog w) A env fun e s' => R (.error e) s') t₂) (notedBy (model prog w) A env fun e s' => R (.error e) s') s₁') (notedBy (model prog w) A env fun e s' => R (.error e) s') t₁) (notedBy (model prog w) A env fun e s' => R (.error e) s') s)
    (n : Nat) (h : I n s) :
    codeAny (model prog w) A (.compLoop (.SetComp elt [⟨t0, i0, ifs0, 0⟩, ⟨t1, i1, ifs1, 0⟩] scope pos) 1 it acc env) R s := by
  refine codeAny_loop rfl I (fun n s hI => ?_) n h
  show wpAny _ A ((compTurn (.SetComp elt [⟨t0, i0, ifs0, 0⟩, ⟨t1, i1, ifs1, 0⟩] scope pos) 1 it acc env).onRaise (fun x => do noteFrame x env; theTreesLotGoes x)) _ _ s
  refine wpAny_noted ?_
  rw [stepS_in]
  refine wpAny_bind (wpAny_standAt (wpAny_bind (wpAny_mono (turn n s hI) (fun r t₁ h₁ => ?_) fun _ _ h' => h')))
  cases r with
  | none => exact wpAny_pure h₁
  | some v =>
    refine wpAny_bind (wpAny_mono h₁ (fun _ s₁' h₁' => ?_) fun _ _ h' => h')
    refine wpAny_bind (wpAny_mono h₁' (fun _ t₂ h₂ => wpAny_bind (wpAny_mono h₂ (fun ok t₃ h₃ => ?_) fun _ _ h' => h')) fun _ _ h' => h')
    cases ok with
    | false => exact wpAny_pure ⟨rfl, h₃⟩
    | true =>
      exact wpAny_bind (wpAny_bind (wpAny_mono h₃ (fun x t₄ h₄ => wpAny_bind (wpAny_standAt (wpAny_bind (wpAny_mono h₄ (fun _ t₅ h₅ => wpAny_pure (wpAny_pure ⟨rfl, h₅⟩)) fun _ _ h' => h')))) fun _ _ h' => h'))
/-- the second clause's start -/
theorem startS_in (h0 : codeAny (model prog w) A (.compLoop (.SetComp elt [⟨t0, i0, ifs0, 0⟩, ⟨t1, i1, ifs1, 0⟩] scope pos) 1 it acc env) R s)
    (h : wpAny (model prog w) A (pyIter it) (fun it' s' => codeAny (model prog w) A (.compLoop (.SetComp elt [⟨t0, i0, ifs0, 0⟩, ⟨t1, i1, ifs1, 0⟩] scope pos) 1 it' acc env) R s')
      (notedBy (model prog w) A env fun x s' => R (.error x) s') s) :
    codeAny (model prog w) A (.compStart (.SetComp elt [⟨t0, i0, ifs0, 0⟩, ⟨t1, i1, ifs1, 0⟩] scope pos) 1 it acc env) R s := by
  refine codeAny_of_tree ?_
  show wpAny _ _ ((compStart (.SetComp elt [⟨t0, i0, ifs0, 0⟩, ⟨t1, i1, ifs1, 0⟩] scope pos) 1 it acc env).onRaise (fun x => do noteFrame x env; standAt theWindowsPlace)) _ _ s
  refine wpAny_notedAt ?_
  unfold compStart
  show wpAny _ _ (ask >>= _) _ _ s
  refine wpAny_bind (wpAny_askSetting (wpAny_ite ?_))
  split
  · first
      | exact wpAny_bind (wpAny_pure (wpAny_pure (And.intro rfl h0)))
      | exact wpAny_pure (And.intro rfl h0)
  · first
      | exact wpAny_bind (wpAny_rule (wpAny_bind (wpAny_standAt (wpAny_bind (wpAny_mono h (fun it' s' h' => wpAny_pure (And.intro rfl h')) fun _ _ x => x)))))
      | (refine wpAny_bind (wpAny_rule ?_); show wpAny _ _ (standAt i1.pos >>= _) _ _ s; exact wpAny_bind (wpAny_standAt (wpAny_bind (wpAny_mono h (fun it' s' h' => wpAny_pure (And.intro rfl h')) fun _ _ x => x))))
end

section
variable {X : Cx}
/-- [elt for tg in iter if .. for tg1 in iter1 if ..]: behind the first clause's store and tests the second source's own loop, from which Nx is reached. vs: the block's names; vs1: those of the second target -/
def tSc2 (w : World) (wi : TI) (g : TG) (tt : TT) (wi1 : TI) (g1 : TG) (tt1 : TT) (te : TE) (vs vs1 : List Nat) : TE := fun σ H Q => wi σ H fun J H1 => ∀ D, H1 D = none → ∃ W : Nat → Nat → Hp → Prop, (∃ m, W 0 m (upd H1 D (SetO w D (fun _ => false) 0))) ∧ ∀ i m H, W i m H →
  (J.stop i H ∧ Q (.ref D) H) ∨ (J.go i H ∧ ∃ Nx : Hp → Prop, (∀ H', Nx H' → ∃ m', m' < m ∧ W (i + 1) m' H') ∧ ∀ x H', J.yld i H x H' → g x (wipe σ vs) H' fun σ2 H2 => wipe σ2 vs = wipe σ vs ∧ tt σ2 H2 fun b H3 =>
    if b = true then wi1 σ2 H3 fun J1 H4 => ∃ W1 : Nat → Nat → Hp → Prop, (∃ m, W1 0 m H4) ∧ ∀ j k H, W1 j k H →
      (J1.stop j H ∧ Nx H) ∨ (J1.go j H ∧ ∃ Nx1 : Hp → Prop, (∀ H', Nx1 H' → ∃ k', k' < k ∧ W1 (j + 1) k' H') ∧ ∀ x H', J1.yld j H x H' → g1 x (wipe σ2 vs1) H' fun σ3 H5 => wipe σ3 vs1 = wipe σ2 vs1 ∧ tt1 σ3 H5 fun b H6 =>
        if b = true then te σ3 H6 fun y H7 => ∃ (c : Int) (S : Int → Bool) (n : Nat), y = .int c ∧ H7 D = some (SetO w D S n) ∧ n + 1 < scanBound ∧ Nx1 (upd H7 D (SetO w D (fun j => S j || decide (j = c)) (if S c = true then n else n + 1))) else Nx1 H6)
    else Nx H3)
theorem sc2_core {pins : List (Addr × Obj)} {s : Shared} {σ : L2.St} {H : Hp} {Q : VK} {elt tg iter tg1 iter1 : Expr} {ifs ifs1 : List Expr} {scope : Scope} {own : List (Str × Nat)} {vs1 : List Nat} {pos pos' : Pos} {wi wi1 : TI} {g g1 : TG} {tt tt1 : TT} {te : TE} {use : Option (Value → Sem Unit)} {Qf : Value → Shared → Prop}
    (hc : X.calm = true) (hN : X.N.Nodup) (I : Inv X pins σ H s) (hi : PI X tg iter wi) (ok : BlkOk X.N X.env.scope scope own) (hv : ∀ i ∈ vs1, i ∈ own.map (·.2))
    (hg : ∀ (s : Shared) (H : Hp) (C : Addr) (cl : List (Str × Addr)) (fp : List Addr), PG (X.blk s H scope (compEnvC scope cl C X.env) fp) tg g) (ht : ∀ (s : Shared) (H : Hp) (C : Addr) (cl : List (Str × Addr)) (fp : List Addr), PTs (X.blk s H scope (compEnvC scope cl C X.env) fp) ifs tt)
    (he : ∀ (s : Shared) (H : Hp) (C : Addr) (cl : List (Str × Addr)) (fp : List Addr), PE (X.blk s H scope (compEnvC scope cl C X.env) fp) elt te) (hs : ∀ x, foldedSetIterable iter X.env x = pure x)
    (hi1 : ∀ (s : Shared) (H : Hp) (C : Addr) (cl : List (Str × Addr)) (fp : List Addr), PI (X.blk s H scope (compEnvC scope cl C X.env) fp) tg1 iter1 wi1)
    (hg1 : ∀ (s : Shared) (H : Hp) (C : Addr) (cl : List (Str × Addr)) (fp : List Addr), PG (X.blk s H scope (compEnvC scope cl C X.env) fp) tg1 g1)
    (ht1 : ∀ (s : Shared) (H : Hp) (C : Addr) (cl : List (Str × Addr)) (fp : List Addr), PTs (X.blk s H scope (compEnvC scope cl C X.env) fp) ifs1 tt1)
    (hs1 : ∀ env x, foldedSetIterable iter1 env x = pure x)
    (h : tSc2 X.w wi g tt wi1 g1 tt1 te (own.map (·.2)) vs1 σ H Q)
    (hRR : ∀ D C s' m H', Inv X pins σ H' s' → Q (.ref D) H' → s'.heap.Ns C m → FpOk X pins H' C → compPost (model X.prog X.w) X.A X.xe use Qf (.ref D) C (.ok .next) s') :
    wpAny (model X.prog X.w) X.A (comprehension (.SetComp elt [⟨tg, iter, ifs, 0⟩, ⟨tg1, iter1, ifs1, 0⟩] scope pos) scope X.env pos' (newSet (.type "set")) false (eval iter X.env) use) Qf X.xe s := by
  have hfr : ∀ y ∈ scope.names, y.2 = .free → ∃ c, X.env.cells.lookup y.1 = some c := fun y hy e => by
    rcases ok.free y hy e with k | k
    · exact I.ok.has _ (.inl k)
    · exact I.ok.has _ (.inr k)
  refine wpAny_comprehension_free (use := use) rfl hs (closure_ok hfr) ok.kind (fun y hy e => by rw [ok.uniq y hy, e])
    (thn (hi.run pins s σ H _ I h) fun xv s1 hx => thn hx fun itv s2 h2 => ?_)
  obtain ⟨it, fp, tn, J, H2, e, I2, T, st2, f2, q⟩ := h2
  subst e
  refine PpSet.newSet_ok (newEnv_comp ?_)
  generalize hD : s2.heap.objs.size = D
  have hDn : H2 D = none := I2.hok.fresh (Nat.le_of_eq hD)
  obtain ⟨W, ⟨m0, w0⟩, turn⟩ := q D hDn
  -- the new list
  generalize hs3 : ({ s2 with heap := s2.heap.push { cls := .type "set", dict := none, data := .set #[] 0 (.fresh 0 0 (!X.w.params.followText "set-order")) } } : Shared) = s3
  have I3 : Inv X pins σ (upd H2 D (SetO X.w D (fun _ => false) 0)) s3 := by
    rw [← hs3]
    refine I2.laid (t' := s2.toks) (fun b o e => Heap.get?_push_of_some _ e) (Nat.le_of_eq hD) ?_
    rw [← hD]
    exact setO_new (setR_fresh X.w)
  have h3 : s3.heap = s2.heap.push { cls := .type "set", dict := none, data := .set #[] 0 (.fresh 0 0 (!X.w.params.followText "set-order")) } := by rw [← hs3]
  have sZ : ∀ b ∈ fp, b < s2.heap.objs.size := fun b hb => by
    obtain ⟨o, e, _⟩ := T.obj _ _ st2 b hb
    exact Heap.lt_size e
  have f3 : ∀ b ∈ fp, FpOk X pins (upd H2 D (SetO X.w D (fun _ => false) 0)) b ∧ b < s3.heap.objs.size := fun b hb => by
    have hlt := sZ b hb
    refine ⟨⟨?_, (f2 b hb).2⟩, by rw [h3, Heap.size_push]; exact Nat.lt_succ_of_lt hlt⟩
    rw [upd_ne (by rw [← hD]; exact Nat.ne_of_lt hlt)]
    exact (f2 b hb).1
  have sT3 : tn 0 s3.heap := T.keep _ _ _ st2 fun b _ o e => by rw [h3]; exact Heap.get?_push_of_some _ e
  have I4 := block_start I3 ok hN f3
  have pg := hg s3 (upd H2 D (SetO X.w D (fun _ => false) 0)) s3.heap.objs.size (cellsFrom (s3.heap.objs.size + 1) scope.names (cloFrom X.env.cells scope.names [])) fp
  have pt := ht s3 (upd H2 D (SetO X.w D (fun _ => false) 0)) s3.heap.objs.size (cellsFrom (s3.heap.objs.size + 1) scope.names (cloFrom X.env.cells scope.names [])) fp
  have pe := he s3 (upd H2 D (SetO X.w D (fun _ => false) 0)) s3.heap.objs.size (cellsFrom (s3.heap.objs.size + 1) scope.names (cloFrom X.env.cells scope.names [])) fp
  have pi1 := hi1 s3 (upd H2 D (SetO X.w D (fun _ => false) 0)) s3.heap.objs.size (cellsFrom (s3.heap.objs.size + 1) scope.names (cloFrom X.env.cells scope.names [])) fp
  have pg1 := hg1 s3 (upd H2 D (SetO X.w D (fun _ => false) 0)) s3.heap.objs.size (cellsFrom (s3.heap.objs.size + 1) scope.names (cloFrom X.env.cells scope.names [])) fp
  have pt1 := ht1 s3 (upd H2 D (SetO X.w D (fun _ => false) 0)) s3.heap.objs.size (cellsFrom (s3.heap.objs.size + 1) scope.names (cloFrom X.env.cells scope.names [])) fp
  show codeAny _ _ (.compStart (.SetComp elt [⟨tg, iter, ifs, 0⟩, ⟨tg1, iter1, ifs1, 0⟩] scope pos) 0 (.ref it) (.ref D) (compEnvC scope (cellsFrom (s3.heap.objs.size + 1) scope.names (cloFrom X.env.cells scope.names [])) s3.heap.objs.size X.env)) (compPost (model X.prog X.w) X.A X.xe use Qf (.ref D) s3.heap.objs.size) { s3 with heap := pushCells (s3.heap.push { cls := .type "dict", data := .dict #[] }) scope.names }
  have nF : ∀ b ∈ fp, (upd H2 D (SetO X.w D (fun _ => false) 0)) b = none := fun b hb => (f3 b hb).1.1
  generalize eCe : compEnvC scope (cellsFrom (s3.heap.objs.size + 1) scope.names (cloFrom X.env.cells scope.names [])) s3.heap.objs.size X.env = ce at I4 pg pt pe pi1 pg1 pt1 ⊢
  have lC : ce.locals = s3.heap.objs.size := by subst eCe; rfl
  generalize hH3 : upd H2 D (SetO X.w D (fun _ => false) 0) = H3 at I3 I4 pg pt pe pi1 pg1 pt1 w0 nF f3
  generalize hs4 : ({ s3 with heap := pushCells (s3.heap.push { cls := .type "dict", data := .dict #[] }) scope.names } : Shared) = s4 at I4 ⊢
  have sT4 : tn 0 s4.heap := T.keep _ _ _ sT3 fun b _ o e => by rw [← hs4]; exact pushCells_keeps _ _ _ _ (Heap.get?_push_of_some _ e)
  have sta : ∀ {σ' : L2.St} {H' : Hp} {s' : Shared}, Inv (X.blk s3 H3 scope ce fp) [] σ' H' s' → (∀ b ∈ fp, H' b = none) → ∀ b ∈ fp, FpOk (X.blk s3 H3 scope ce fp) [] H' b := fun {σ' H' s'} I' hn b hb =>
    ⟨hn b hb, (I'.ok.exf b hb).1, I'.ok.exfs b hb, .inl hb, fun x c e => (I'.ok.exf b hb).2 x c e, fun p hp => absurd (show p ∈ ([] : List (Addr × Obj)) ++ [] from hp) (by simp)⟩
  have loop : codeAny (model X.prog X.w) X.A (.compLoop (.SetComp elt [⟨tg, iter, ifs, 0⟩, ⟨tg1, iter1, ifs1, 0⟩] scope pos) 0 (.ref it) (.ref D) ce) (compPost (model X.prog X.w) X.A X.xe use Qf (.ref D) s3.heap.objs.size) s4 := by
    refine loopS_out (hs1 ce) (fun n s' => ∃ i H', Inv (X.blk s3 H3 scope ce fp) [] (wipe σ (own.map (·.2))) H' s' ∧ tn i s'.heap ∧ (∀ b ∈ fp, H' b = none) ∧ W i n H') ?_ m0 ⟨0, H3, I4, sT4, nF, w0⟩
    rintro n s5 ⟨i, H5, I5, st5, n5, w5⟩
    rcases turn i n H5 w5 with ⟨stop, qq⟩ | ⟨go, Nx, nX, step⟩
    · have td := T.done (X.blk s3 H3 scope ce fp) rfl rfl rfl hc i [] s5 _ H5 (fun _ _ => False) I5 (sta I5 n5) st5 stop
      refine thnF td fun r s6 ⟨hr, I6⟩ => ?_
      subst hr
      -- back in the def's context
      have I7 : Inv X pins σ H5 s6 := I3.call' (ch := fp) I6.os I6.base I6.hok I6.bare fun b hb => ⟨(f3 b hb).1.2.2.2.1, (f3 b hb).1.2.1, (f3 b hb).1.2.2.2.2.1, (f3 b hb).1.2.2.2.2.2⟩
      have nC : H5 s3.heap.objs.size = none := by
        have z : H5 ce.locals = none := I6.free
        rw [lC] at z
        exact z
      obtain ⟨m, hn, _⟩ := I6.loc
      have hn : s6.heap.Ns ce.locals m := hn
      rw [lC] at hn
      exact hRR D s3.heap.objs.size s6 m H5 I7 qq hn (I3.fpOk (Nat.le_refl _) nC)
    · have ti := T.item (X.blk s3 H3 scope ce fp) rfl rfl rfl hc i [] s5 _ H5 (fun _ _ => False) I5 (sta I5 n5) st5 go
      refine thnF ti fun r s6 ⟨u, hr, h6⟩ => ?_
      subst hr
      refine thnF h6 fun _ s7 ⟨x, H7, I7, r7, y7, st7, n7⟩ => ?_
      have I7' := I7.pinned (sta I7 n7) (T.obj _ _ st7)
      refine thnF (pg.run _ s7 _ H7 x u _ I7' r7 (step x H7 y7)) fun _ s8 ⟨σ8, H8, I8, hw8, q8⟩ => ?_
      refine thnF (pt.run _ s8 σ8 H8 _ I8 q8) fun b s9 ⟨H9, I9, q9⟩ => ?_
      -- the turn's end, from any slots that know what the block knew at its start
      have ends : ∀ {σ9 : L2.St} {s' : Shared} {H' : Hp}, Inv (X.blk s3 H3 scope ce fp) ([] ++ pinsAt fp s7.heap) σ9 H' s' → (wipe σ (own.map (·.2))).length = σ9.length → (∀ (j : Nat) v, (wipe σ (own.map (·.2)))[j]? = some (some v) → σ9[j]? = some (some v)) → Nx H' →
          ∃ m, m < n ∧ ∃ i H', Inv (X.blk s3 H3 scope ce fp) [] (wipe σ (own.map (·.2))) H' s' ∧ tn i s'.heap ∧ (∀ b ∈ fp, H' b = none) ∧ W i m H' := fun {σ9 s' H'} I' hl hk nx => by
        obtain ⟨m', hm, w'⟩ := nX H' nx
        have pn' : ∀ b ∈ fp, ∀ o, s7.heap.get? b = some o → s'.heap.get? b = some o ∧ H' b = none := fun b hb o e =>
          let z := I'.pin (b, o) (List.mem_append_right _ (List.mem_append_right _ (mem_pinsAt hb e)))
          ⟨z.1, z.2.1⟩
        refine ⟨m', hm, i + 1, H', (I'.unpinned (pins := [])).weak hl hk, T.keep _ _ _ st7 fun b hb o e => (pn' b hb o e).1, fun b hb => ?_, w'⟩
        obtain ⟨o, e, _⟩ := T.obj _ _ st7 b hb
        exact (pn' b hb o e).2
      have ll8 : (wipe σ (own.map (·.2))).length = σ8.length := by rw [← hw8, wipe_length]
      have kk8 : ∀ (j : Nat) v, (wipe σ (own.map (·.2)))[j]? = some (some v) → σ8[j]? = some (some v) := fun j v e => by
        rw [← hw8] at e
        exact (wipe_some e).1
      have kk9 : ∀ (j : Nat) v, (wipe σ (own.map (·.2)))[j]? = some (some v) → (wipe σ8 vs1)[j]? = some (some v) := fun j v e => by
        rw [← hw8] at e
        obtain ⟨e1, e2⟩ := wipe_some e
        rw [wipe_out fun z => e2 (hv j z)]
        exact e1
      cases b with
      | false =>
        simp only [Bool.false_eq_true, if_false] at q9 ⊢
        exact ends I9 ll8 kk8 q9
      | true =>
        simp only [if_true] at q9 ⊢
        refine thnF (pi1.run _ s9 σ8 H9 _ I9 q9) fun xv s10 hx => thnF hx fun itv s11 h11 => ?_
        obtain ⟨it1, fp1, tn1, J1, H11, e1, I11, T1, st11, f11, W1, ⟨m1, w1⟩, tu1⟩ := h11
        subst e1
        -- the inner loop
        have sta1 : ∀ {H' : Hp}, (∀ b ∈ fp1, H' b = none) → ∀ b ∈ fp1, FpOk (X.blk s3 H3 scope ce fp) ([] ++ pinsAt fp s7.heap) H' b := fun hn b hb => ⟨hn b hb, (f11 b hb).2⟩
        have lp1 : codeAny (model X.prog X.w) X.A (.compLoop (.SetComp elt [⟨tg, iter, ifs, 0⟩, ⟨tg1, iter1, ifs1, 0⟩] scope pos) 1 (.ref it1) (.ref D) ce)
            (fun r s' => match r with
              | .ok _ => ∃ m, m < n ∧ ∃ i H', Inv (X.blk s3 H3 scope ce fp) [] (wipe σ (own.map (·.2))) H' s' ∧ tn i s'.heap ∧ (∀ b ∈ fp, H' b = none) ∧ W i m H'
              | .error _ => False) s11 := by
          refine loopS_in (fun k s' => ∃ j H', Inv (X.blk s3 H3 scope ce fp) ([] ++ pinsAt fp s7.heap) (wipe σ8 vs1) H' s' ∧ tn1 j s'.heap ∧ (∀ b ∈ fp1, H' b = none) ∧ W1 j k H') ?_ m1 ⟨0, H11, I11.weak (wipe_length _ _) (fun j v e => (wipe_some e).1), st11, fun b hb => (f11 b hb).1, w1⟩
          rintro k s12 ⟨j, H12, I12, st12, n12, w12⟩
          rcases tu1 j k H12 w12 with ⟨stop1, nx1⟩ | ⟨go1, Nx1, nX1, sp1⟩
          · refine thnF (T1.done (X.blk s3 H3 scope ce fp) rfl rfl rfl hc j _ s12 (wipe σ8 vs1) H12 (fun _ _ => False) I12 (sta1 n12) st12 stop1) fun r s13 ⟨hr, I13⟩ => ?_
            subst hr
            exact ends I13 (ll8.trans (wipe_length σ8 vs1).symm) kk9 nx1
          · refine thnF (T1.item (X.blk s3 H3 scope ce fp) rfl rfl rfl hc j _ s12 (wipe σ8 vs1) H12 (fun _ _ => False) I12 (sta1 n12) st12 go1) fun r s13 ⟨u1, hr, h13⟩ => ?_
            subst hr
            refine thnF h13 fun _ s14 ⟨x1, H14, I14, r14, y14, st14, n14⟩ => ?_
            have I14' := I14.pinned (sta1 n14) (T1.obj _ _ st14)
            refine thnF (pg1.run _ s14 (wipe σ8 vs1) H14 x1 u1 _ I14' r14 (sp1 x1 H14 y14)) fun _ s15 ⟨σ15, H15, I15, hw15, q15⟩ => ?_
            refine thnF (pt1.run _ s15 σ15 H15 _ I15 q15) fun b1 s16 ⟨H16, I16, q16⟩ => ?_
            have ends1 : ∀ {s' : Shared} {H' : Hp}, Inv (X.blk s3 H3 scope ce fp) (([] ++ pinsAt fp s7.heap) ++ pinsAt fp1 s14.heap) σ15 H' s' → Nx1 H' → ∃ m, m < k ∧ ∃ j H', Inv (X.blk s3 H3 scope ce fp) ([] ++ pinsAt fp s7.heap) (wipe σ8 vs1) H' s' ∧ tn1 j s'.heap ∧ (∀ b ∈ fp1, H' b = none) ∧ W1 j m H' := fun {s' H'} I' nx => by
              obtain ⟨m', hm, w'⟩ := nX1 H' nx
              have pn' : ∀ b ∈ fp1, ∀ o, s14.heap.get? b = some o → s'.heap.get? b = some o ∧ H' b = none := fun b hb o e =>
                let z := I'.pin (b, o) (List.mem_append_right _ (List.mem_append_right _ (mem_pinsAt hb e)))
                ⟨z.1, z.2.1⟩
              refine ⟨m', hm, j + 1, H', I'.unpinned.weak (by rw [← hw15, wipe_length]) (fun j v e => by rw [← hw15] at e; exact (wipe_some e).1), T1.keep _ _ _ st14 fun b hb o e => (pn' b hb o e).1, fun b hb => ?_, w'⟩
              obtain ⟨o, e, _⟩ := T1.obj _ _ st14 b hb
              exact (pn' b hb o e).2
            cases b1 with
            | false =>
              simp only [Bool.false_eq_true, if_false] at q16 ⊢
              exact ends1 I16 q16
            | true =>
              simp only [if_true] at q16 ⊢
              refine thnF (pe.run _ s16 σ15 H16 _ I16 q16) fun z s17 ⟨yv, H17, I17, r17, cb, S0, n0, ey, hD17, hz17, nx⟩ => ?_
              subst ey
              obtain ⟨tk, rfl⟩ := r17
              exact addI_ok (X := X.blk s3 H3 scope ce fp) I17 hD17 hz17 fun s18 I18 => ends1 I18 nx
        exact startS_in lp1 (T1.self X.A 0 _ _ _ st11 lp1)
  exact PpSet.codeAny_compStart_set loop (T.self X.A 0 _ _ _ sT4 loop)
/-- as a value -/
theorem pe_sc2 {elt tg iter tg1 iter1 : Expr} {ifs ifs1 : List Expr} {scope : Scope} {own : List (Str × Nat)} {vs1 : List Nat} {pos : Pos} {wi wi1 : TI} {g g1 : TG} {tt tt1 : TT} {te : TE} (hc : X.calm = true) (hN : X.N.Nodup) (hi : PI X tg iter wi) (ok : BlkOk X.N X.env.scope scope own) (hv : ∀ i ∈ vs1, i ∈ own.map (·.2))
    (hg : ∀ (s : Shared) (H : Hp) (C : Addr) (cl : List (Str × Addr)) (fp : List Addr), PG (X.blk s H scope (compEnvC scope cl C X.env) fp) tg g) (ht : ∀ (s : Shared) (H : Hp) (C : Addr) (cl : List (Str × Addr)) (fp : List Addr), PTs (X.blk s H scope (compEnvC scope cl C X.env) fp) ifs tt)
    (hi1 : ∀ (s : Shared) (H : Hp) (C : Addr) (cl : List (Str × Addr)) (fp : List Addr), PI (X.blk s H scope (compEnvC scope cl C X.env) fp) tg1 iter1 wi1)
    (hg1 : ∀ (s : Shared) (H : Hp) (C : Addr) (cl : List (Str × Addr)) (fp : List Addr), PG (X.blk s H scope (compEnvC scope cl C X.env) fp) tg1 g1) (ht1 : ∀ (s : Shared) (H : Hp) (C : Addr) (cl : List (Str × Addr)) (fp : List Addr), PTs (X.blk s H scope (compEnvC scope cl C X.env) fp) ifs1 tt1)
    (he : ∀ (s : Shared) (H : Hp) (C : Addr) (cl : List (Str × Addr)) (fp : List Addr), PE (X.blk s H scope (compEnvC scope cl C X.env) fp) elt te) (hs : ∀ x, foldedSetIterable iter X.env x = pure x := by intro _; rfl) (hs1 : ∀ env x, foldedSetIterable iter1 env x = pure x := by intro _ _; rfl) :
    PE X (.SetComp elt [⟨tg, iter, ifs, 0⟩, ⟨tg1, iter1, ifs1, 0⟩] scope pos) (tSc2 X.w wi g tt wi1 g1 tt1 te (own.map (·.2)) vs1) := by
  refine ⟨fun pins s σ H Q I h => ?_⟩
  rw [PpSet.eval_SetComp]
  refine sc2_core hc hN I hi ok hv hg ht he hs hi1 hg1 ht1 hs1 h fun D C s' m H' I' q hn f => ⟨m, hn, fun h'' sb => ?_⟩
  obtain ⟨f0, f1, f2, f3, f4, f5⟩ := f
  exact ⟨.ref D, H', I'.turned (t' := s'.toks) (fun b o hb e => (sb.2 b hb).trans e) f0 f1 f3 f4 f5, rfl, q⟩
end
end
end MP
namespace MP
open PySem PySem.Spec PyProof.Rows L2
/-! sorted(a set), of any size that a set has here -/
theorem sorted_setB {prog : Program} {w : World} {A : Around} {E : Value → Shared → Prop} {s : Shared} {a : Addr} {S : Int → Bool} {n : Nat} {Q : Value → Shared → Prop} (R : SetR w s.heap a S n) (hh : A.handled = none)
    (hQ : ∀ (s' : Shared) (p : Addr) (out : List Value) (c : Nat) (ns : List Int), (∀ b o, s.heap.get? b = some o → s'.heap.get? b = some o) → s'.gens = s.gens → s'.os = s.os → s.heap.objs.size ≤ p →
      s'.heap.get? p = some (seqObj "list" out.toArray c) → IntsAre out ns → ns.Pairwise (· < ·) → (∀ k, k ∈ ns ↔ S k = true) → ns.length = n → n < scanBound → Q (.ref p) s') :
    wpAny (model prog w) A (call (.builtin "sorted") [.ref a]) Q E s := by
  obtain ⟨o, es, ep, t, ho, hex, hd, g, nd, hm, hb, hf, hn, hr, hl⟩ := R
  refine Calls.call_function_entry kind_sorted plain_sorted entry_sorted (args_sorted1 _) ?_
  unfold Builtin.«sorted»
  refine wpAny_bind (m := checkCount "sorted" 1 1 _) (wpAny_pure ?_)
  refine wpAny_bind (collect_set (A := A.in1) hh ⟨o, ho, hex.1, hd⟩ hf hb hr hl fun s1 ws k1 hz g1 o1 pm => ?_)
  have hwl : ws.length = n := by rw [pm.length_eq, List.length_map, Array.length_toList]; exact hn
  have nB : n < scanBound := by rw [← hn]; exact hb
  have nB2 : n < 4096 := nB
  have hI : IntsAre ws (ws.map Builtin.Re.reRawOf) := ints_of ws fun v hv => by
    obtain ⟨e, he, q⟩ := List.mem_map.mp (pm.mem_iff.mp hv)
    obtain ⟨k, tk, h1, _⟩ := g e he
    exact ⟨k, tk, by rw [← q]; exact h1⟩
  have pk : (ws.map Builtin.Re.reRawOf).Perm (es.toList.map L2.keyOf) := by
    have q := pm.map Builtin.Re.reRawOf
    rw [List.map_map] at q
    exact q
  have hsz : ws.length ≤ sizeLine := by rw [hwl, sizeLine_eq]; omega
  refine wpAny_bind (wpAny_newList ?_ hsz)
  have hoL : (s1.heap.push (seqObj "list" ws.toArray 0)).get? s1.heap.objs.size = some (seqObj "list" ws.toArray 0) := Heap.get?_push_size _ rfl
  refine wpAny_bind (wpAny_holding (wpAny_call_entry slot_list_sort ⟨_, hoL, rfl⟩ entry_list_sort (SrtO.list_sort_ord (s := { s1 with heap := s1.heap.push (seqObj "list" ws.toArray 0) }) SrtO.swo_int hoL hsz (fun h2 => SrtO.ints_sortable hI h2) fun out h1 h2 => ⟨_, rfl, ?_⟩) (args_list_sort _)))
  obtain ⟨a1, a2, a3⟩ := SrtO.ints_out hI h1 h2
  obtain ⟨c, hcc⟩ := sortedHeap_at (vs := ws) (out := out.toArray) hoL
  have pn : (out.map SrtO.iv).Perm (es.toList.map L2.keyOf) := a2.trans pk
  refine wpAny_pure ⟨_, rfl, hQ _ s1.heap.objs.size out c (out.map SrtO.iv) (fun b u e => ?_) g1 o1 hz hcc a1 (lt_of_le_nodup _ a3 (pn.nodup_iff.mpr nd)) (fun k => by rw [pn.mem_iff, ← hm k]) ?_ nB⟩
  · have q := k1 b u e
    have hlt := Heap.lt_size q
    show (sortedHeap (s1.heap.push (seqObj "list" ws.toArray 0)) s1.heap.objs.size ws out.toArray).get? b = some u
    rw [sortedHeap_old (Nat.ne_of_lt hlt) (by rw [size_push']; exact Nat.lt_succ_of_lt hlt)]
    exact Heap.get?_push_of_some _ q
  · rw [pn.length_eq, List.length_map, Array.length_toList]; exact hn
def rSortS (w : World) : List V → Hp → VK → Prop := fun vs H Q => ∃ (a : Addr) (S : Int → Bool) (n : Nat), vs = [V.ref a] ∧ H a = some (SetO w a S n) ∧
  ∀ (ns : List Int) (p : Addr), ns.Pairwise (· < ·) → (∀ k : Int, k ∈ ns ↔ S k = true) → H p = none → Q (.ref p) (upd H p (.lst (ns.map V.int)))
theorem cr_sortS {X : Cx} (hc : X.calm = true) : CallR X (.builtin "sorted") (rSortS X.w) := by
  intro pins s σ H vs us Q I r h
  obtain ⟨a, S, n, rfl, ha, q⟩ := h
  have R := setO_get I ha
  rw [Vals.ref1 r]
  refine sorted_setB R (I.ok.hd hc) fun s' p out c ns k g o hp hg hi hs hm hl nB => ?_
  have nB2 : n < 4096 := nB
  have hlen : (ns.map V.int).length ≤ sizeLine := by rw [List.length_map, hl, sizeLine_eq]; omega
  have hn : H p = none := I.hok.fresh hp
  have J : L2.Inv X pins σ (upd H p (.lst (ns.map V.int))) { s with heap := s'.heap, gens := s'.gens, drawn := s'.drawn, toks := s'.toks } :=
    I.call (ch := []) (Un.laid k hp hn) (I.hok.laid k hp ⟨hlen, out, c, vals_of_ints hi, hg⟩) (by rw [g]; exact I.bare) (fun _ z => nomatch z)
  have e : s' = { s with heap := s'.heap, gens := s'.gens, drawn := s'.drawn, toks := s'.toks } := by
    cases s'
    cases s
    cases o
    rfl
  rw [e]
  exact ⟨.ref p, _, J, rfl, q ns p hs hm hn⟩
end MP
end

section
set_option Elab.async false
set_option linter.all false
set_option maxRecDepth 100000
set_option maxHeartbeats 4000000
set_option autoImplicit false
namespace MP
open PySem PySem.Spec L2
/-! ### sorted({e for x in a for y in b}) -/
def uniq : List Int → List Int
  | [] => []
  | x :: xs => if x ∈ xs then uniq xs else x :: uniq xs
theorem uniq_mem {p : Int} : ∀ xs : List Int, p ∈ uniq xs ↔ p ∈ xs
  | [] => Iff.rfl
  | x :: xs => by
    rw [uniq]
    split
    · rename_i h
      rw [uniq_mem xs]
      exact ⟨fun z => List.mem_cons_of_mem _ z, fun z => (List.mem_cons.mp z).elim (fun z => by rw [z]; exact h) id⟩
    · rw [List.mem_cons, uniq_mem xs, List.mem_cons]
theorem uniq_nd : ∀ xs : List Int, (uniq xs).Nodup
  | [] => List.nodup_nil
  | x :: xs => by
    rw [uniq]
    split
    · exact uniq_nd xs
    · rename_i h
      exact List.nodup_cons.mpr ⟨fun z => h ((uniq_mem xs).mp z), uniq_nd xs⟩
def sortU (is : List Int) : List Int := sortI (uniq is)
theorem nd_perm : ∀ {as bs : List Int}, as.Nodup → bs.Nodup → (∀ k, k ∈ as ↔ k ∈ bs) → as.Perm bs
  | [], bs, _, _, h => by
    have : bs = [] := by
      cases bs with
      | nil => rfl
      | cons b bs => exact absurd ((h b).mpr List.mem_cons_self) (by simp)
    rw [this]
  | a :: as, bs, h1, h2, h => by
    obtain ⟨n1, n2⟩ := List.nodup_cons.mp h1
    have hb : a ∈ bs := (h a).mp List.mem_cons_self
    have hp := List.perm_cons_erase hb
    refine (List.Perm.cons a (nd_perm n2 (h2.erase a) fun k => ?_)).trans hp.symm
    rw [List.Nodup.mem_erase_iff h2]
    constructor
    · intro z
      exact ⟨fun e => n1 (by rw [← e]; exact z), (h k).mp (List.mem_cons_of_mem _ z)⟩
    · rintro ⟨z1, z2⟩
      exact ((List.mem_cons.mp ((h k).mpr z2)).resolve_left z1)
theorem sortU_of {ns is : List Int} (h1 : ns.Pairwise (· < ·)) (h2 : ∀ k, k ∈ ns ↔ k ∈ is) : ns = sortU is := by
  refine sortI_of (nd_perm (h1.imp fun h => by omega) (uniq_nd is) fun k => by rw [h2, uniq_mem]) (h1.imp fun h => by omega)
theorem ints_map0 (is : List Int) : intsOf (is.map PyData.int) = some is := by
  induction is with
  | nil => rfl
  | cons i is ih =>
    show (intsOf (is.map PyData.int)).map _ = _
    rw [ih] <;> rfl
structure Sm (S : Int → Bool) (n : Nat) (zs : List D) : Prop where
  ex : ∃ is : List Int, zs = is.map PyData.int ∧ ∀ k, S k = true ↔ k ∈ is
  le : n ≤ zs.length
theorem Sm.nil : Sm (fun _ => false) 0 [] := ⟨⟨[], rfl, fun k => by simp⟩, Nat.le_refl _⟩
theorem Sm.add {S : Int → Bool} {n : Nat} {zs : List D} (h : Sm S n zs) (c : Int) : Sm (fun j => S j || decide (j = c)) (if S c = true then n else n + 1) (zs ++ [.int c]) := by
  obtain ⟨⟨is, e, hS⟩, hl⟩ := h
  refine ⟨⟨is ++ [c], by rw [e, List.map_append] <;> rfl, fun k => ?_⟩, ?_⟩
  · rw [Bool.or_eq_true, decide_eq_true_eq, hS, List.mem_append, List.mem_singleton]
  · rw [List.length_append]
    show _ ≤ zs.length + 1
    split <;> omega
def mOnlyI (e : ME) : ME := fun ρ => (e ρ).bind fun v ρ1 => match v with
  | .d (.int i) => .ok (.d (.int i)) ρ1
  | _ => .stuck
theorem onlyI_ok {e : ME} {ρ ρ' : En} {v : SV} (h : mOnlyI e ρ = .ok v ρ') : ∃ i, e ρ = .ok (.d (.int i)) ρ' ∧ v = .d (.int i) := by
  unfold mOnlyI at h
  cases h1 : e ρ with
  | ok w ρ1 =>
    rw [h1] at h
    change (match w with | .d (.int i) => Out.ok (SV.d (.int i)) ρ1 | _ => Out.stuck) = _ at h
    split at h
    · cases h
      exact ⟨_, rfl, rfl⟩
    · cases h
  | raise c x ρ1 => rw [h1] at h; cases h
  | stuck => rw [h1] at h; cases h
def compGoS (vs : List Nat) (tg : Tg) (t : MT) (vs1 : List Nat) (tg1 : Tg) (it1 : MI) (t1 : MT) (e : ME) : List D → List D → En → Out SV
  | [], acc, ρ => opt ((intsOf acc).map fun is => SV.own (.lst ((sortU is).map PyData.int))) ρ
  | x :: xs, acc, ρ =>
    match tgSet tg x (wipeE ρ vs) with
    | none => .stuck
    | some ρa => noRaise (t ρa) fun c ρb =>
      if c = true then noRaise (it1 ρb) fun ys ρc => if (plainAt ρc vs1 && tgIn tg1 vs1 && decide (acc.length + ys.length ≤ 4000)) = true then
          noRaise (compGo vs1 tg1 t1 (mOnlyI e) ys acc ρc) fun v ρd => match v with
            | .own (.lst acc') => compGoS vs tg t vs1 tg1 it1 t1 e xs acc' (back ρ ρd vs)
            | _ => .stuck
        else .stuck
      else compGoS vs tg t vs1 tg1 it1 t1 e xs acc (back ρ ρb vs)
def mSortS (vs : List Nat) (tg : Tg) (it : MI) (t : MT) (vs1 : List Nat) (tg1 : Tg) (it1 : MI) (t1 : MT) (e : ME) : ME := fun ρ => (it ρ).bind fun xs ρ1 => if (plainAt ρ1 vs && tgIn tg vs) = true then compGoS vs tg t vs1 tg1 it1 t1 e xs [] ρ1 else .stuck
section
variable {X : Cx} {P : Pk} {E : St → XK} {elt te iter te1 iter1 : Expr} {ifs ifs1 : List Expr} {scope : Scope} {own : List (Str × Nat)} {vs vs1 : List Nat} {tg tg1 : Tg} {it it1 : MI} {t t1 : MT} {e : ME} {pos : Pos}
theorem innerS_of {g : Gh} {Dn : Addr} (hPD : g.Pm Dn) {σ : St} {ρ1 ρd : En} {H1 : Hp} {J : It} {ys zs : List D} {S0 : Int → Bool} {c0 : Nat} {ad0 : List D} {w : World} (r1 : Rep P.K g H1 σ ρ1) (q1 : JOk P.K J ys (Out' g σ ρ1) H1) (hD0 : H1 Dn = some (SetO w Dn S0 c0)) (ra0 : Sm S0 c0 ad0)
    (hlen : ad0.length + ys.length ≤ 4000) (hpl : plainAt ρ1 vs = true) (htg : tgIn tg vs = true) (res : compGo vs tg t (mOnlyI e) ys ad0 ρ1 = .ok (.own (.lst zs)) ρd) (Nx : Hp → Prop)
    (hNx : ∀ H' Sf cn, Rep P.K g H' σ ρd → SameC ρ1 ρd → FrD H1 (Own σ ρ1) Dn H' → H' Dn = some (SetO w Dn Sf cn) → Sm Sf cn zs → Nx H') :
    ∃ W1 : Nat → Nat → Hp → Prop, (∃ m, W1 0 m H1) ∧ ∀ j k H, W1 j k H → (J.stop j H ∧ Nx H) ∨ (J.go j H ∧ ∃ Nx1 : Hp → Prop, (∀ H', Nx1 H' → ∃ k', k' < k ∧ W1 (j + 1) k' H') ∧ ∀ x H', J.yld j H x H' → gT P tg x (wipe σ vs) H' fun σ3 H5 => wipe σ3 vs = wipe σ vs ∧ tT P E00 t σ3 H5 fun b H6 =>
        if b = true then tM P E00 e σ3 H6 fun y H7 => ∃ (c : Int) (S : Int → Bool) (n : Nat), y = .int c ∧ H7 Dn = some (SetO w Dn S n) ∧ n + 1 < scanBound ∧ Nx1 (upd H7 Dn (SetO w Dn (fun j => S j || decide (j = c)) (if S c = true then n else n + 1))) else Nx1 H6) := by
  have htg' : ∀ j, j ∈ tg.slots → j ∈ vs := fun j hj => by
    unfold tgIn at htg
    rw [List.all_eq_true] at htg
    exact List.contains_iff_mem.mp (htg j hj)
  refine ⟨fun i m H2 => ∃ ρ2 Sf cn ad, m = ys.length - i ∧ i ≤ ys.length ∧ Rep P.K g H2 σ ρ2 ∧ SameC ρ1 ρ2 ∧ FrD H1 (Own σ ρ1) Dn H2 ∧ H2 Dn = some (SetO w Dn Sf cn) ∧ Sm Sf cn ad ∧ ad.length ≤ ad0.length + i ∧ plainAt ρ2 vs = true ∧ compGo vs tg t (mOnlyI e) (ys.drop i) ad ρ2 = .ok (.own (.lst zs)) ρd,
    ⟨_, ρ1, S0, c0, ad0, rfl, Nat.zero_le _, r1, .refl _, .refl _ _ _, hD0, ra0, Nat.le_refl _, hpl, res⟩, ?_⟩
  rintro i m H2 ⟨ρ2, Sf, cn, ad, rfl, hi, r2, s2, f2, hDn, ra, hal, hp2, h2⟩
  have lt2 : Later (Out' g σ ρ1) H1 H2 := fun a o e n => f2.keep a o (fun z => n (.inl (by rw [z]; exact hPD))) e fun z => n (.inr z)
  have nOwn : ∀ {σ' : St} {ρ' : En} {H' : Hp}, Rep P.K g H' σ' ρ' → ¬ Own σ' ρ' Dn := fun r' ⟨j, c, z1, z2⟩ => by
    obtain ⟨a, w1, w2, _⟩ := r'.cell j c z1
    rw [z2] at w1
    cases w1
    exact w2 hPD
  by_cases hlt : i < ys.length
  · rw [drop_cons hlt] at h2
    refine .inr ⟨q1.go H2 lt2 i hlt, fun H3 => ∃ ρ2 Sf cn ad, i + 1 ≤ ys.length ∧ Rep P.K g H3 σ ρ2 ∧ SameC ρ1 ρ2 ∧ FrD H1 (Own σ ρ1) Dn H3 ∧ H3 Dn = some (SetO w Dn Sf cn) ∧ Sm Sf cn ad ∧ ad.length ≤ ad0.length + (i + 1) ∧ plainAt ρ2 vs = true ∧ compGo vs tg t (mOnlyI e) (ys.drop (i + 1)) ad ρ2 = .ok (.own (.lst zs)) ρd,
      fun H3 ⟨ρ2, Sf, cn, ad, z⟩ => ⟨ys.length - (i + 1), by omega, ρ2, Sf, cn, ad, rfl, z⟩, fun v H3 y => ?_⟩
    obtain ⟨gr, N, hN, rv⟩ := q1.yld H2 lt2 i ys[i] v H3 (List.getElem?_eq_getElem hlt) y
    have r3 := r2.grow gr
    have r3w := r3.wipe hp2
    have out2 : ∀ a o, ¬ Out' g σ ρ1 a → H1 a = some o → ¬ Out' g (wipe σ vs) (wipeE ρ2 vs) a := fun a o n e z => z.elim (fun z => n (.inl z)) fun z => n (.inr (s2.symm.own (own_wipe hp2 z)))
    have rv' : Rp P.K (hid (Out' g (wipe σ vs) (wipeE ρ2 vs)) H3) v ys[i] := rv.grow (joinN_out hN (fun a z => (r2.wipe hp2).out_some z) lt2 gr out2)
    unfold compGo at h2
    cases e1 : tgSet tg ys[i] (wipeE ρ2 vs) with
    | none => rw [e1] at h2; cases h2
    | some ρa =>
      rw [e1] at h2
      obtain ⟨b, ρb, eb, h3⟩ := noR_ok h2
      refine ⟨g, wipeE ρ2 vs, _, ρa, r3w, rv', e1, fun σ3 r3' o3 ⟨l3, a3⟩ => ?_⟩
      have hlρ : ρ2.length = σ.length := r2.len.symm
      have a3' : ∀ j, j ∉ vs → σ3[j]? = σ[j]? := fun j hj => by rw [a3 j fun z => hj (htg' j z), wipe_get, if_neg (fun z => hj z.1)]
      refine ⟨?_, g, ρa, r3', ?_⟩
      · apply List.ext_getElem?
        intro j
        rw [wipe_get, wipe_get]
        rw [wipe_length] at l3
        by_cases hj : j ∈ vs
        · by_cases hjl : j < σ.length
          · rw [if_pos ⟨hj, by omega⟩, if_pos ⟨hj, hjl⟩]
          · rw [if_neg (fun z => by omega), if_neg (fun z => hjl z.2), List.getElem?_eq_none (by omega), List.getElem?_eq_none (by omega)]
        · rw [if_neg (fun z => hj z.1), if_neg (fun z => hj z.1), a3' j hj]
      · rw [eb]
        intro b' H4 r4 s4 f4 q4
        subst q4
        have scA : SameC (wipeE ρ2 vs) ρa := fun j => by rw [tgSet_cell e1 (fun j hj => by rw [cellAt_wipe hp2]; exact (plainAt_of hp2 (htg' j hj)).1) j]
        have lnA : ρa.length = ρ2.length := by have := r3'.len; rw [wipe_length] at l3; omega
        have lnB : ρb.length = ρ2.length := by have := r4.len; rw [wipe_length] at l3; omega
        have ownA : ∀ a, Own σ3 ρa a → Own σ ρ2 a := fun a z => own_wipe hp2 (o3 a z)
        have fA : FrE H2 (Own σ ρ2) H4 := (FrE.of_grow (M := Own σ ρ2) gr).trans f4 ownA
        have f14 : FrD H1 (Own σ ρ1) Dn H4 := f2.trans (.of fA) fun a z => s2.symm.own z
        have hDn4 : H4 Dn = some (SetO w Dn Sf cn) := fA.keep Dn _ hDn (nOwn r2)
        cases b' with
        | false =>
          rw [if_neg Bool.false_ne_true]
          rw [if_neg Bool.false_ne_true] at h3
          obtain ⟨rb, sb, _⟩ := r2.backed r4 hp2 a3' (scA.trans s4) lnB fA
          exact ⟨back ρ2 ρb vs, Sf, cn, ad, hlt, rb, s2.trans sb, f14, hDn4, ra, by omega, plainAt_same hp2 sb (by rw [back_length]; exact lnB), h3⟩
        | true =>
          rw [if_pos rfl]
          rw [if_pos rfl] at h3
          obtain ⟨sv, ρc, ec, h3⟩ := noR_ok h3
          obtain ⟨k0, ec2, esv⟩ := onlyI_ok ec
          subst esv
          obtain ⟨z, ez, h3⟩ := toB_ok h3
          cases ez
          refine ⟨g, ρb, r4, ?_⟩
          rw [ec2]
          intro w5 H5 r5 s5 f5 q5
          have ew : w5 = .int k0 := q5.is_int
          have lnC : ρc.length = ρ2.length := by have := r5.len; rw [wipe_length] at l3; omega
          have ownB : ∀ a, Own σ3 ρb a → Own σ ρ2 a := fun a z => ownA a (s4.symm.own z)
          have fB : FrE H2 (Own σ ρ2) H5 := fA.trans f5 ownB
          have f15 : FrD H1 (Own σ ρ1) Dn H5 := f2.trans (.of fB) fun a z => s2.symm.own z
          have hDn5 : H5 Dn = some (SetO w Dn Sf cn) := fB.keep Dn _ hDn (nOwn r2)
          obtain ⟨rb, sb, ob⟩ := r2.backed r5 hp2 a3' ((scA.trans s4).trans s5) lnC fB
          have rl := ra.le
          refine ⟨k0, Sf, cn, ew, hDn5, by show cn + 1 < 4096; omega, back ρ2 ρc vs, _, _, ad ++ [.int k0], hlt, rb.upd_pm hPD, s2.trans sb, f15.upd, upd_same, ra.add k0, by rw [List.length_append]; exact Nat.succ_le_succ hal, plainAt_same hp2 sb (by rw [back_length]; exact lnC), h3⟩
  · have ei : i = ys.length := by omega
    subst ei
    rw [List.drop_length] at h2
    unfold compGo at h2
    cases h2
    exact .inl ⟨q1.stop H2 lt2, hNx H2 Sf cn r2 s2 f2 hDn ra⟩
theorem compS_of (vs vs1 : List Nat) (hv : ∀ i ∈ vs1, i ∈ vs) : ∀ σ H Q, tM P E (mSortS vs tg it t vs1 tg1 it1 t1 e) σ H Q → tSc2 X.w (iM P E it) (gT P tg) (tT P E00 t) (iM P E00 it1) (gT P tg1) (tT P E00 t1) (tM P E00 e) vs vs1 σ H (fun v H1 => rSortS X.w [v] H1 Q) := fun σ H Q ⟨g, ρ, rp, h⟩ => by
  refine ⟨g, ρ, rp, bindG' (R := RJ P) (R' := RVP P) h fun xs ρ1 J H1 _ r1 s1 f1 q1 h1 => ?_⟩
  have h1' : PostE P E g σ ρ1 H H1 Q (if (plainAt ρ1 vs && tgIn tg vs) = true then compGoS vs tg t vs1 tg1 it1 t1 e xs [] ρ1 else .stuck) := h1
  by_cases hc : (plainAt ρ1 vs && tgIn tg vs) = true
  case neg =>
    rw [if_neg hc] at h1'
    exact h1'.elim
  rw [if_pos hc] at h1'
  rw [Bool.and_eq_true] at hc
  obtain ⟨hpl, htg⟩ := hc
  have htg' : ∀ j, j ∈ tg.slots → j ∈ vs := fun j hj => by
    unfold tgIn at htg
    rw [List.all_eq_true] at htg
    exact List.contains_iff_mem.mp (htg j hj)
  intro Dn hD
  have hD0 : H Dn = none := f1.free Dn hD
  have r1' : Rep P.K (g.add Dn) (upd H1 Dn (SetO X.w Dn (fun _ => false) 0)) σ ρ1 := r1.add_new hD (.new hD) ⟨_, upd_same⟩
  have hPD : (g.add Dn).Pm Dn := .inr rfl
  refine ⟨fun i m H2 => ∃ ρ2 Sf cn ad, m = xs.length - i ∧ i ≤ xs.length ∧ Rep P.K (g.add Dn) H2 σ ρ2 ∧ SameC ρ1 ρ2 ∧ FrE H1 (Own σ ρ1) H2 ∧ H2 Dn = some (SetO X.w Dn Sf cn) ∧ Sm Sf cn ad ∧ plainAt ρ2 vs = true ∧ PostE P E g σ ρ1 H H1 Q (compGoS vs tg t vs1 tg1 it1 t1 e (xs.drop i) ad ρ2),
    ⟨_, ρ1, _, _, [], rfl, Nat.zero_le _, r1', .refl _, .of_grow (.new hD), upd_same, Sm.nil, hpl, h1'⟩, ?_⟩
  rintro i m H2 ⟨ρ2, Sf, cn, ad, rfl, hi, r2, s2, f2, hDn, ra, hp2, h2⟩
  have lt2 : Later (Out' g σ ρ1) H1 H2 := fun a o e n => f2.keep a o e fun z => n (.inr z)
  have hnD : ¬ g.Pm Dn := fun z => by
    obtain ⟨o, eo⟩ := r1.pm Dn z
    rw [hD] at eo
    cases eo
  have nOwn : ∀ {σ' : St} {ρ' : En} {H' : Hp}, Rep P.K (g.add Dn) H' σ' ρ' → ¬ Own σ' ρ' Dn := fun r' ⟨j, c, z1, z2⟩ => by
    obtain ⟨a, w1, w2, _⟩ := r'.cell j c z1
    rw [z2] at w1
    cases w1
    exact w2 (.inr rfl)
  by_cases hlt : i < xs.length
  · rw [drop_cons hlt] at h2
    refine .inr ⟨q1.go H2 lt2 i hlt, fun H3 => ∃ ρ2 Sf cn ad, i + 1 ≤ xs.length ∧ Rep P.K (g.add Dn) H3 σ ρ2 ∧ SameC ρ1 ρ2 ∧ FrE H1 (Own σ ρ1) H3 ∧ H3 Dn = some (SetO X.w Dn Sf cn) ∧ Sm Sf cn ad ∧ plainAt ρ2 vs = true ∧ PostE P E g σ ρ1 H H1 Q (compGoS vs tg t vs1 tg1 it1 t1 e (xs.drop (i + 1)) ad ρ2),
      fun H3 ⟨ρ2, Sf, cn, ad, z⟩ => ⟨xs.length - (i + 1), by omega, ρ2, Sf, cn, ad, rfl, z⟩, fun v H3 y => ?_⟩
    obtain ⟨gr, N, hN, rv⟩ := q1.yld H2 lt2 i xs[i] v H3 (List.getElem?_eq_getElem hlt) y
    have r3 := r2.grow gr
    have r3w := r3.wipe hp2
    have out2 : ∀ a o, ¬ Out' g σ ρ1 a → H1 a = some o → ¬ Out' (g.add Dn) (wipe σ vs) (wipeE ρ2 vs) a := fun a o n e z => z.elim (fun z => z.elim (fun z => n (.inl z)) fun z => by rw [z, hD] at e; cases e) fun z => n (.inr (s2.symm.own (own_wipe hp2 z)))
    have rv' : Rp P.K (hid (Out' (g.add Dn) (wipe σ vs) (wipeE ρ2 vs)) H3) v xs[i] := rv.grow (joinN_out hN (fun a z => (r2.wipe hp2).out_some z) lt2 gr out2)
    unfold compGoS at h2
    cases e1 : tgSet tg xs[i] (wipeE ρ2 vs) with
    | none => rw [e1] at h2; exact h2.elim
    | some ρa =>
      rw [e1] at h2
      obtain ⟨b, ρb, eb, h3⟩ := noRaise_ok' h2
      refine ⟨g.add Dn, wipeE ρ2 vs, _, ρa, r3w, rv', e1, fun σ3 r3' o3 ⟨l3, a3⟩ => ?_⟩
      have hlρ : ρ2.length = σ.length := r2.len.symm
      have a3' : ∀ j, j ∉ vs → σ3[j]? = σ[j]? := fun j hj => by rw [a3 j fun z => hj (htg' j z), wipe_get, if_neg (fun z => hj z.1)]
      refine ⟨?_, g.add Dn, ρa, r3', ?_⟩
      · apply List.ext_getElem?
        intro j
        rw [wipe_get, wipe_get]
        rw [wipe_length] at l3
        by_cases hj : j ∈ vs
        · by_cases hjl : j < σ.length
          · rw [if_pos ⟨hj, by omega⟩, if_pos ⟨hj, hjl⟩]
          · rw [if_neg (fun z => by omega), if_neg (fun z => hjl z.2), List.getElem?_eq_none (by omega), List.getElem?_eq_none (by omega)]
        · rw [if_neg (fun z => hj z.1), if_neg (fun z => hj z.1), a3' j hj]
      · rw [eb]
        intro b' H4 r4 s4 f4 q4
        subst q4
        have scA : SameC (wipeE ρ2 vs) ρa := fun j => by rw [tgSet_cell e1 (fun j hj => by rw [cellAt_wipe hp2]; exact (plainAt_of hp2 (htg' j hj)).1) j]
        have lnA : ρa.length = ρ2.length := by have := r3'.len; rw [wipe_length] at l3; omega
        have lnB : ρb.length = ρ2.length := by have := r4.len; rw [wipe_length] at l3; omega
        have ownA : ∀ a, Own σ3 ρa a → Own σ ρ2 a := fun a z => own_wipe hp2 (o3 a z)
        have fA : FrE H2 (Own σ ρ2) H4 := (FrE.of_grow (M := Own σ ρ2) gr).trans f4 ownA
        have f14 : FrE H1 (Own σ ρ1) H4 := f2.trans fA fun a z => s2.symm.own z
        have hDn4 : H4 Dn = some (SetO X.w Dn Sf cn) := fA.keep Dn _ hDn (nOwn r2)
        cases b' with
        | false =>
          rw [if_neg Bool.false_ne_true]
          rw [if_neg Bool.false_ne_true] at h3
          obtain ⟨rb, sb, _⟩ := r2.backed r4 hp2 a3' (scA.trans s4) lnB fA
          exact ⟨back ρ2 ρb vs, Sf, cn, ad, hlt, rb, s2.trans sb, f14, hDn4, ra, plainAt_same hp2 sb (by rw [back_length]; exact lnB), h3⟩
        | true =>
          rw [if_pos rfl]
          rw [if_pos rfl] at h3
          obtain ⟨ys, ρc, ec, h3⟩ := noRaise_ok' h3
          by_cases hc2 : (plainAt ρc vs1 && tgIn tg1 vs1 && decide (ad.length + ys.length ≤ 4000)) = true
          case neg =>
            rw [if_neg hc2] at h3
            exact h3.elim
          rw [if_pos hc2] at h3
          rw [Bool.and_eq_true, Bool.and_eq_true, decide_eq_true_eq] at hc2
          obtain ⟨⟨hpl1, htg1⟩, hlen⟩ := hc2
          obtain ⟨sv, ρd, ed, h3⟩ := noRaise_ok' h3
          refine ⟨g.add Dn, ρb, r4, ?_⟩
          rw [ec]
          intro J1 H5 r5 s5 f5 q5
          have lnC : ρc.length = ρ2.length := by have := r5.len; rw [wipe_length] at l3; omega
          have ownB : ∀ a, Own σ3 ρb a → Own σ ρ2 a := fun a z => ownA a (s4.symm.own z)
          have ownC : ∀ a, Own σ3 ρc a → Own σ ρ2 a := fun a z => ownB a (s5.symm.own z)
          have fB : FrE H2 (Own σ ρ2) H5 := fA.trans f5 ownB
          have hDn5 : H5 Dn = some (SetO X.w Dn Sf cn) := fB.keep Dn _ hDn (nOwn r2)
          have scC : SameC (wipeE ρ2 vs) ρc := (scA.trans s4).trans s5
          -- what the inner loop leaves
          cases sv with
          | own c =>
            cases c with
            | lst zs =>
              have h4 : PostE P E g σ ρ1 H H1 Q (compGoS vs tg t vs1 tg1 it1 t1 e (xs.drop (i + 1)) zs (back ρ2 ρd vs)) := h3
              refine innerS_of (e := e) (t := t1) hPD r5 q5 hDn5 ra hlen hpl1 htg1 ed _ fun H6 Sz cz r6 s6 f6 hD6 ra6 => ?_
              have lnD : ρd.length = ρ2.length := by have := r6.len; rw [wipe_length] at l3; omega
              have fT : FrD H2 (Own σ ρ2) Dn H6 := (FrD.of fB).trans f6 ownC
              have rx : Rep P.K (g.add Dn) (upd H2 Dn (SetO X.w Dn Sz cz)) σ ρ2 := r2.upd_pm hPD
              obtain ⟨rb, sb, ob⟩ := rx.backed r6 hp2 a3' (scC.trans s6) lnD (fT.fix hD6)
              have f16 : FrE H1 (Own σ ρ1) H6 := ((FrD.of f2).trans fT fun a z => s2.symm.own z).none hD
              exact ⟨back ρ2 ρd vs, Sz, cz, zs, hlt, rb, s2.trans sb, f16, hD6, ra6, plainAt_same hp2 sb (by rw [back_length]; exact lnD), h4⟩
            | dct _ => exact h3.elim
          | _ => exact h3.elim
  · have ei : i = xs.length := by omega
    subst ei
    rw [List.drop_length] at h2
    unfold compGoS at h2
    obtain ⟨is, ed, hS⟩ := ra.ex
    obtain ⟨z, ez, h2⟩ := opt_of h2
    rw [ed, ints_map0] at ez
    cases ez
    refine .inl ⟨q1.stop H2 lt2, Dn, Sf, cn, rfl, hDn, fun ns p hn hm hp => ?_⟩
    have en : ns = sortU is := sortU_of hn fun k => (hm k).trans (hS k)
    have rl := r2.less (g.le_add Dn)
    rw [en]
    exact post_res rl (f1.free.trans f2.free) (PostG.step h2 s2 f2) (.new hp) (res_lst hp (rp_ints_map _))

theorem s_sortS {p : Pos} {p2 : Pos} (hm : X.mg "sorted" = none) (vs1 : List Nat) (hc : X.calm = true) (hN : X.N.Nodup) (hi : PI X te iter (iM P E it)) (ok : BlkOk X.N X.env.scope scope own) (hv : ∀ i ∈ vs1, i ∈ own.map (·.2))
    (hg : ∀ (s : Shared) (H : Hp) (C : Addr) (cl : List (Str × Addr)) (fp : List Addr), PG (X.blk s H scope (compEnvC scope cl C X.env) fp) te (gT P tg))
    (ht : ∀ (s : Shared) (H : Hp) (C : Addr) (cl : List (Str × Addr)) (fp : List Addr), PTs (X.blk s H scope (compEnvC scope cl C X.env) fp) ifs (tT P E00 t))
    (hi1 : ∀ (s : Shared) (H : Hp) (C : Addr) (cl : List (Str × Addr)) (fp : List Addr), PI (X.blk s H scope (compEnvC scope cl C X.env) fp) te1 iter1 (iM P E00 it1))
    (hg1 : ∀ (s : Shared) (H : Hp) (C : Addr) (cl : List (Str × Addr)) (fp : List Addr), PG (X.blk s H scope (compEnvC scope cl C X.env) fp) te1 (gT P tg1))
    (ht1 : ∀ (s : Shared) (H : Hp) (C : Addr) (cl : List (Str × Addr)) (fp : List Addr), PTs (X.blk s H scope (compEnvC scope cl C X.env) fp) ifs1 (tT P E00 t1))
    (he : ∀ (s : Shared) (H : Hp) (C : Addr) (cl : List (Str × Addr)) (fp : List Addr), PE (X.blk s H scope (compEnvC scope cl C X.env) fp) elt (tM P E00 e)) (hs : ∀ x, foldedSetIterable iter X.env x = pure x := by intro _; rfl) (hs1 : ∀ env x, foldedSetIterable iter1 env x = pure x := by intro _ _; rfl)
    (hgl : Gl X "sorted" := by rfl) (hst : starEach [Expr.SetComp elt [⟨te, iter, ifs, 0⟩, ⟨te1, iter1, ifs1, 0⟩] scope p2] X.env = (false, eval (Expr.SetComp elt [⟨te, iter, ifs, 0⟩, ⟨te1, iter1, ifs1, 0⟩] scope p2) X.env) :: starEach [] X.env := by rfl)
    (hpl : (backTo pos (starEach [] X.env)).any (·.1) = false := by rfl) :
    PE X (.Call (.Name "sorted" p) [.SetComp elt [⟨te, iter, ifs, 0⟩, ⟨te1, iter1, ifs1, 0⟩] scope p2] [] pos) (tM P E (mSortS (own.map (·.2)) tg it t vs1 tg1 it1 t1 e)) := by
  refine PE.imp (pe_callB (cr_sortS hc) hgl hm (by decide +kernel) (pa_cons (pe_sc2 hc hN hi ok hv hg ht hi1 hg1 ht1 he hs hs1) pa_nil hst) (by decide) (by decide) hst hpl) fun σ H Q h => ?_
  exact compS_of _ _ hv σ H Q h
end
end MP
namespace MP
open PySem PySem.Spec L2
/-- x += y of ints -/
def bAddI : D → D → Option SV := f2 fun i j => .int (i + j)
theorem og_addI {K : Fg} : OpG (rI0 fun i j => .int (i + j)) K bAddI := og_I0 (g := fun i j => .int (i + j)) (g' := fun i j => .int (i + j)) (fun _ _ _ => .int _) (fun i j H Q q => ⟨i, j, rfl, rfl, q⟩) fun x y sv e => f2_inv e
end MP
end

section
set_option Elab.async false
set_option linter.all false
set_option maxRecDepth 100000
set_option maxHeartbeats 4000000
/-! zip of a tuple and a list -/
namespace MP
open PySem PySem.Spec PyProof.Rows L2 RZ
open PySem.Sem (wp)
section
variable {prog : Program} {w : World} {A : Around} {E : Value → Shared → Prop} {s : Shared}
theorem zipM_next_item {z TI TO i1 i2 l1 l2 : Addr} {k1 k2 : Nat} {xs ys : Array Value} {x y a b : Value} {Q : Value → Shared → Prop} (Ap : ZipApart z TI TO i1 i2 l1 l2)
    (ez : IsZip s.heap z TI TO .none) (eTI : IsPair s.heap TI (.ref i1) (.ref i2)) (eTO : IsPair s.heap TO a b)
    (h1 : s.heap.IsTupleIter i1 l1 k1) (h2 : s.heap.IsListIter i2 l2 k2) (hl1 : s.heap.IsTuple l1 xs) (hl2 : s.heap.IsList l2 ys) (ex : xs[k1]? = some x) (ey : ys[k2]? = some y)
    (hQ : ∀ h', IsZip h' z TI TO (rawInt s.heap.objs.size) → IsPair h' TO x y → h'.IsTupleIter i1 l1 (k1 + 1) → h'.IsListIter i2 l2 (k2 + 1) → IsPair h' s.heap.objs.size x y → h'.objs.size = s.heap.objs.size + 1 →
      (∀ c o, c ≠ z → c ≠ TO → c ≠ i1 → c ≠ i2 → s.heap.get? c = some o → h'.get? c = some o) → Q (.ref s.heap.objs.size) { s with heap := h' }) :
    wpAny (model prog w) A (Builtin.«zip.__next__» ⟨[.ref z], []⟩) (fun fin s' => ∃ v, fin = .done (.ret v) ∧ Q v s') E s := by
  show wpAny _ _ (field (.ref z) 2 >>= _) _ _ _
  refine wpAny_bind (wpAny_field ez rfl (x := .bool false) rfl ?_)
  show wpAny _ _ (field (.ref z) 3 >>= _) _ _ _
  refine wpAny_bind (wpAny_field ez rfl (x := .ref TI) rfl ?_)
  refine wpAny_bind (wpAny_seqItems eTI rfl ?_)
  show wpAny _ _ (Builtin.SmallTypes.ownedTupleIsFree (.ref z) >>= _) _ _ _
  refine wpAny_bind ?_
  unfold Builtin.SmallTypes.ownedTupleIsFree
  refine wpAny_bind (wpAny_field ez rfl (x := .none) rfl (wpAny_pure ?_))
  simp only [if_true]
  refine wpAny_bind (wpAny_rule ?_)
  refine wpAny_bind (wpAny_field ez rfl (x := .ref TO) rfl ?_)
  refine wpAny_bind (wpAny_setField_rec ez (by simp) fun k₁ ez₁ sb₁ => ?_)
  replace ez₁ : IsZip k₁ z TI TO .ellipsis := ez₁
  refine wpAny_bind ?_
  simp only [List.zipIdx_cons, List.zipIdx_nil, List.forIn_cons, List.forIn_nil]

  refine wpAny_bind (wpAny_bind (wpAny_onRaise ?_))
  show wpAny _ _ (Builtin.SmallTypes.nextOf (.ref i1) >>= _) _ _ _
  refine wpAny_bind (nextOf_tuple_item (h1.extBut sb₁.extBut Ap.i1z) (hl1.extBut sb₁.extBut Ap.l1z) ex fun k₂ h1₂ sb₂ => wpAny_pure ?_)
  have eTO₂ : IsPair k₂ TO a b := sb₂.extBut _ _ Ap.TOi1 (sb₁.extBut _ _ Ap.TOz eTO)
  refine wpAny_bind (wpAny_seqItems eTO₂ rfl ?_)
  refine wpAny_bind (wpAny_updateSeq_pair eTO₂ fun k₃ eTO₃ sb₃ => ?_)
  replace eTO₃ : IsPair k₃ TO x b := eTO₃
  refine wpAny_bind (wpAny_letGo (wpAny_pure ?_))

  refine wpAny_bind (wpAny_bind (wpAny_onRaise ?_))
  show wpAny _ _ (Builtin.SmallTypes.nextOf (.ref i2) >>= _) _ _ _
  refine wpAny_bind (wpAny_nextOf_list_item (((h2.extBut sb₁.extBut Ap.i2z).extBut sb₂.extBut Ap.i12.symm).extBut sb₃.extBut Ap.TOi2.symm)
    (((hl2.extBut sb₁.extBut Ap.l2z).extBut sb₂.extBut Ap.l2i1).extBut sb₃.extBut Ap.l2TO) ey fun k₄ h2₄ sb₄ => wpAny_pure ?_)
  have eTO₄ : IsPair k₄ TO x b := sb₄.extBut _ _ Ap.TOi2 eTO₃
  refine wpAny_bind (wpAny_seqItems eTO₄ rfl ?_)
  refine wpAny_bind (wpAny_updateSeq_pair eTO₄ fun k₅ eTO₅ sb₅ => ?_)
  replace eTO₅ : IsPair k₅ TO x y := eTO₅
  refine wpAny_bind (wpAny_letGo (wpAny_pure (wpAny_pure ?_)))

  refine wpAny_bind (wpAny_seqItems eTO₅ rfl ?_)
  refine wpAny_bind (wpAny_newTuple ?_)
  have esz : k₅.objs.size = s.heap.objs.size := by rw [sb₅.1, sb₄.1, sb₃.1, sb₂.1, sb₁.1]
  have ez₅ : IsZip k₅ z TI TO .ellipsis := sb₅.extBut _ _ Ap.TOz.symm (sb₄.extBut _ _ Ap.i2z.symm (sb₃.extBut _ _ Ap.TOz.symm (sb₂.extBut _ _ Ap.i1z.symm ez₁)))
  have kk₅ : ∀ c o, c ≠ z → c ≠ TO → c ≠ i1 → c ≠ i2 → s.heap.get? c = some o → k₅.get? c = some o := fun c o c1 c2 c3 c4 e =>
    sb₅.extBut _ _ c2 (sb₄.extBut _ _ c4 (sb₃.extBut _ _ c2 (sb₂.extBut _ _ c3 (sb₁.extBut _ _ c1 e))))
  have h1₅ : k₅.IsTupleIter i1 l1 (k1 + 1) := ((h1₂.extBut sb₃.extBut Ap.TOi1.symm).extBut sb₄.extBut Ap.i12).extBut sb₅.extBut Ap.TOi1.symm
  have h2₅ : k₅.IsListIter i2 l2 (k2 + 1) := h2₄.extBut sb₅.extBut Ap.TOi2.symm
  have ltz : z < k₅.objs.size := Heap.lt_size ez₅
  have ltTO : TO < k₅.objs.size := Heap.lt_size eTO₅
  have lti1 : i1 < k₅.objs.size := by obtain ⟨_, e, _⟩ := h1₅; exact Heap.lt_size e
  have lti2 : i2 < k₅.objs.size := by obtain ⟨_, e, _⟩ := h2₅; exact Heap.lt_size e
  show wpAny _ _ (Builtin.SmallTypes.ownedTupleHandOut (.ref z) (.ref k₅.objs.size) >>= _) _ _ _
  refine wpAny_bind ?_
  unfold Builtin.SmallTypes.ownedTupleHandOut
  have ez₆ : IsZip (k₅.push { cls := .type "tuple", data := .seq #[x, y] }) z TI TO .ellipsis := Heap.get?_push_of_some _ ez₅
  refine wpAny_bind (wpAny_setField_rec ez₆ (by simp) fun k₇ ez₇ sb₇ => ?_)
  replace ez₇ : IsZip k₇ z TI TO (rawInt k₅.objs.size) := ez₇
  refine wpAny_setField_rec ez₇ (by simp) fun k₈ ez₈ sb₈ => ?_
  replace ez₈ : IsZip k₈ z TI TO (rawInt k₅.objs.size) := ez₈
  have up : ∀ c o, c ≠ z → k₅.get? c = some o → k₈.get? c = some o := fun c o c1 e => sb₈.extBut _ _ c1 (sb₇.extBut _ _ c1 (Heap.get?_push_of_some _ e))
  have eT₈ : IsPair k₈ k₅.objs.size x y := sb₈.extBut _ _ (Nat.ne_of_gt ltz) (sb₇.extBut _ _ (Nat.ne_of_gt ltz) (Heap.get?_push_size _ rfl))
  have esz8 : k₈.objs.size = k₅.objs.size + 1 := by rw [sb₈.1, sb₇.1, Heap.size_push]
  rw [esz] at ez₈ eT₈ esz8
  refine wpAny_pure ⟨_, rfl, ?_⟩
  show Q (.ref k₅.objs.size) _
  rw [esz]
  exact hQ k₈ ez₈ (up _ _ Ap.TOz eTO₅) (h1₅.at fun o e => up _ o Ap.i1z e) (h2₅.at fun o e => up _ o Ap.i2z e) eT₈ esz8 fun c o c1 c2 c3 c4 e => up c o c1 (kk₅ c o c1 c2 c3 c4 e)

theorem zipM_next_end {z TI TO i1 i2 l1 l2 : Addr} {k1 k2 : Nat} {xs ys : Array Value} {a b : Value} {Q : Fin → Shared → Prop} (hh : A.handled = none) (Ap : ZipApart z TI TO i1 i2 l1 l2)
    (ez : IsZip s.heap z TI TO .none) (eTI : IsPair s.heap TI (.ref i1) (.ref i2)) (eTO : IsPair s.heap TO a b)
    (h1 : s.heap.IsTupleIter i1 l1 k1) (h2 : s.heap.IsListIter i2 l2 k2) (hl1 : s.heap.IsTuple l1 xs) (hl2 : s.heap.IsList l2 ys) (hend : xs[k1]? = none ∨ ys[k2]? = none)
    (hE : ∀ h' e, (∀ c o, c ≠ z → c ≠ TO → c ≠ i1 → c ≠ i2 → s.heap.get? c = some o → h'.get? c = some o) → (∃ o, h'.get? e = some o ∧ o.cls = .type "StopIteration") → E (.ref e) { s with heap := h' }) :
    wpAny (model prog w) A (Builtin.«zip.__next__» ⟨[.ref z], []⟩) Q E s := by
  show wpAny _ _ (field (.ref z) 2 >>= _) _ _ _
  refine wpAny_bind (wpAny_field ez rfl (x := .bool false) rfl ?_)
  show wpAny _ _ (field (.ref z) 3 >>= _) _ _ _
  refine wpAny_bind (wpAny_field ez rfl (x := .ref TI) rfl ?_)
  refine wpAny_bind (wpAny_seqItems eTI rfl ?_)
  show wpAny _ _ (Builtin.SmallTypes.ownedTupleIsFree (.ref z) >>= _) _ _ _
  refine wpAny_bind ?_
  unfold Builtin.SmallTypes.ownedTupleIsFree
  refine wpAny_bind (wpAny_field ez rfl (x := .none) rfl (wpAny_pure ?_))
  simp only [if_true]
  refine wpAny_bind (wpAny_rule ?_)
  refine wpAny_bind (wpAny_field ez rfl (x := .ref TO) rfl ?_)
  refine wpAny_bind (wpAny_setField_rec ez (by simp) fun k₁ ez₁ sb₁ => ?_)
  replace ez₁ : IsZip k₁ z TI TO .ellipsis := ez₁
  refine wpAny_bind ?_
  simp only [List.zipIdx_cons, List.zipIdx_nil, List.forIn_cons, List.forIn_nil]
  refine wpAny_bind (wpAny_bind (wpAny_onRaise ?_))
  show wpAny _ _ (Builtin.SmallTypes.nextOf (.ref i1) >>= _) _ _ _
  cases ex : xs[k1]? with
  | none =>
    refine wpAny_bind (nextOf_tuple_end hh (h1.extBut sb₁.extBut Ap.i1z) (hl1.extBut sb₁.extBut Ap.l1z) ex fun k₂ e sb₂ he => ?_)
    obtain ⟨oe, oeq, ceq⟩ := he
    have ez₂ : IsZip k₂ z TI TO .ellipsis := sb₂ _ _ Ap.i1z.symm ez₁
    have nez : e ≠ z := fun x => by subst x; rw [ez₂] at oeq; cases oeq; simp at ceq
    refine wpAny_setField_rec ez₂ (by simp) fun k₃ _ sb₃ => hE k₃ e (fun c o c1 _ c3 _ x => sb₃.extBut _ _ c1 (sb₂ _ _ c3 (sb₁.extBut _ _ c1 x))) ⟨oe, sb₃.extBut _ _ nez oeq, ceq⟩
  | some x =>
    have ey : ys[k2]? = none := by rcases hend with h | h; rw [ex] at h; cases h; exact h
    refine wpAny_bind (nextOf_tuple_item (h1.extBut sb₁.extBut Ap.i1z) (hl1.extBut sb₁.extBut Ap.l1z) ex fun k₂ h1₂ sb₂ => wpAny_pure ?_)
    have eTO₂ : IsPair k₂ TO a b := sb₂.extBut _ _ Ap.TOi1 (sb₁.extBut _ _ Ap.TOz eTO)
    refine wpAny_bind (wpAny_seqItems eTO₂ rfl ?_)
    refine wpAny_bind (wpAny_updateSeq_pair eTO₂ fun k₃ eTO₃ sb₃ => ?_)
    refine wpAny_bind (wpAny_letGo (wpAny_pure ?_))
    refine wpAny_bind (wpAny_bind (wpAny_onRaise ?_))
    show wpAny _ _ (Builtin.SmallTypes.nextOf (.ref i2) >>= _) _ _ _
    refine wpAny_bind (wpAny_nextOf_list_end hh (((h2.extBut sb₁.extBut Ap.i2z).extBut sb₂.extBut Ap.i12.symm).extBut sb₃.extBut Ap.TOi2.symm)
      (((hl2.extBut sb₁.extBut Ap.l2z).extBut sb₂.extBut Ap.l2i1).extBut sb₃.extBut Ap.l2TO) ey fun k₄ e sb₄ he => ?_)
    obtain ⟨oe, oeq, ceq⟩ := he
    have ez₄ : IsZip k₄ z TI TO .ellipsis := sb₄ _ _ Ap.i2z.symm (sb₃.extBut _ _ Ap.TOz.symm (sb₂.extBut _ _ Ap.i1z.symm ez₁))
    have nez : e ≠ z := fun x => by subst x; rw [ez₄] at oeq; cases oeq; simp at ceq
    refine wpAny_setField_rec ez₄ (by simp) fun k₅ _ sb₅ => hE k₅ e (fun c o c1 c2 c3 c4 x => sb₅.extBut _ _ c1 (sb₄ _ _ c4 (sb₃.extBut _ _ c2 (sb₂.extBut _ _ c3 (sb₁.extBut _ _ c1 x))))) ⟨oe, sb₅.extBut _ _ nez oeq, ceq⟩

theorem pyNext_zipM_item {z TI TO i1 i2 l1 l2 : Addr} {k1 k2 : Nat} {xs ys : Array Value} {x y a b : Value} {Q : Option Value → Shared → Prop} (Ap : ZipApart z TI TO i1 i2 l1 l2)
    (ez : IsZip s.heap z TI TO .none) (eTI : IsPair s.heap TI (.ref i1) (.ref i2)) (eTO : IsPair s.heap TO a b)
    (h1 : s.heap.IsTupleIter i1 l1 k1) (h2 : s.heap.IsListIter i2 l2 k2) (hl1 : s.heap.IsTuple l1 xs) (hl2 : s.heap.IsList l2 ys) (ex : xs[k1]? = some x) (ey : ys[k2]? = some y)
    (hQ : ∀ h', IsZip h' z TI TO (rawInt s.heap.objs.size) → IsPair h' TO x y → h'.IsTupleIter i1 l1 (k1 + 1) → h'.IsListIter i2 l2 (k2 + 1) → IsPair h' s.heap.objs.size x y → h'.objs.size = s.heap.objs.size + 1 →
      (∀ c o, c ≠ z → c ≠ TO → c ≠ i1 → c ≠ i2 → s.heap.get? c = some o → h'.get? c = some o) → Q (some (.ref s.heap.objs.size)) { s with heap := h' }) :
    wpAny (model prog w) A (pyNext (.ref z)) Q E s := by
  have hT : s.TypeIs (.ref z) "zip" := ⟨_, ez, rfl⟩
  unfold pyNext
  exact wpAny_bind (wpAny_attempt (wpAny_callSpecial?_slot (name := Str.ofString "__next__") hT F.slot_zip_next
    (wpAny_call_entry F.slot_zip_next hT F.entry_zip_next
      (zipM_next_item Ap ez eTI eTO h1 h2 hl1 hl2 ex ey fun h' a1 a2 a3 a4 a5 a6 a7 => wpAny_pure (hQ h' a1 a2 a3 a4 a5 a6 a7)) (F.args_zip_next_1 _))))

theorem pyNext_zipM_end {z TI TO i1 i2 l1 l2 : Addr} {k1 k2 : Nat} {xs ys : Array Value} {a b : Value} {Q : Option Value → Shared → Prop} (hh : A.handled = none) (Ap : ZipApart z TI TO i1 i2 l1 l2)
    (ez : IsZip s.heap z TI TO .none) (eTI : IsPair s.heap TI (.ref i1) (.ref i2)) (eTO : IsPair s.heap TO a b)
    (h1 : s.heap.IsTupleIter i1 l1 k1) (h2 : s.heap.IsListIter i2 l2 k2) (hl1 : s.heap.IsTuple l1 xs) (hl2 : s.heap.IsList l2 ys) (hend : xs[k1]? = none ∨ ys[k2]? = none)
    (hQ : ∀ h', (∀ c o, c ≠ z → c ≠ TO → c ≠ i1 → c ≠ i2 → s.heap.get? c = some o → h'.get? c = some o) → Q none { s with heap := h' }) : wpAny (model prog w) A (pyNext (.ref z)) Q E s := by
  have hT : s.TypeIs (.ref z) "zip" := ⟨_, ez, rfl⟩
  unfold pyNext
  refine wpAny_bind (wpAny_attempt (wpAny_callSpecial?_slot (name := Str.ofString "__next__") hT F.slot_zip_next
    (wpAny_call_entry F.slot_zip_next hT F.entry_zip_next (zipM_next_end hh Ap ez eTI eTO h1 h2 hl1 hl2 hend fun h' e hk he => ?_) (F.args_zip_next_1 _))))
  obtain ⟨o, ho, hc⟩ := he
  refine wpAny_bind (wpAny_isInstance (T := "StopIteration") (b := true) ⟨o, ho, hc⟩ isSubtype_stop ?_)
  exact wpAny_pure (hQ _ hk)
end

abbrev zipMH1 (h : Heap) (l1 : Addr) : Heap := h.push { cls := .type "tuple_iterator", data := .fields #[.ref l1, .int 0 0] }
abbrev zipMH2 (h : Heap) (l1 l2 : Addr) : Heap := (zipMH1 h l1).push { cls := .type "list_iterator", data := .fields #[.ref l2, .int 0 0] }
abbrev zipMH3 (h : Heap) (l1 l2 : Addr) : Heap := (zipMH2 h l1 l2).push { cls := .type "tuple", data := .seq #[.ref h.objs.size, .ref (zipMH1 h l1).objs.size] }
abbrev zipMH4 (h : Heap) (l1 l2 : Addr) : Heap := (zipMH3 h l1 l2).push { cls := .type "tuple", data := .seq #[.none, .none] }
abbrev zipMH5 (h : Heap) (l1 l2 : Addr) : Heap := (zipMH4 h l1 l2).push { cls := .type "zip", data := .fields #[.none, .bool false, .bool false, .ref (zipMH2 h l1 l2).objs.size, .ref (zipMH3 h l1 l2).objs.size] }

theorem meets_zipM_new (l1 l2 : Addr) (xs ys : Array Value) :
    Meets (Builtin.«zip.__new__» ⟨[.type "zip", .ref l1, .ref l2], []⟩) (fun _ R s => s.heap.IsTuple l1 xs ∧ s.heap.IsList l2 ys ∧
      R (.ok (.ret (.ref (zipMH4 s.heap l1 l2).objs.size))) { s with heap := zipMH5 s.heap l1 l2 }) :=
  .of_wp fun prog w A R s h => by
    obtain ⟨hp, g, d, tk, os⟩ := s; obtain ⟨hl1, hl2, h⟩ := h
    have hsub := sub_zip
    have iL1 : Heap.IsTuple (Shared.heap ⟨hp, g, d, tk, os⟩) l1 xs := hl1
    have iL2 : Heap.IsList (Shared.heap ⟨hp.push { cls := .type "tuple_iterator", data := .fields #[.ref l1, .int 0 0] }, g, d, tk, os⟩) l2 ys := Heap.IsList.push hl2 _
    wp_walk using wpAny_pyIter_tuple iL1, wpAny_pyIter_list iL2
    exact ⟨_, rfl, h⟩

section
variable {prog : Program} {w : World} {A : Around} {E : Value → Shared → Prop} {s : Shared}

theorem call_zipM {l1 l2 : Addr} {xs ys : Array Value} {Q : Value → Shared → Prop} (hl1 : s.heap.IsTuple l1 xs) (hl2 : s.heap.IsList l2 ys)
    (h : ∀ h', IsZip h' (s.heap.objs.size + 4) (s.heap.objs.size + 2) (s.heap.objs.size + 3) .none → IsPair h' (s.heap.objs.size + 2) (.ref s.heap.objs.size) (.ref (s.heap.objs.size + 1)) →
      IsPair h' (s.heap.objs.size + 3) .none .none → h'.IsTupleIter s.heap.objs.size l1 0 → h'.IsListIter (s.heap.objs.size + 1) l2 0 → h'.objs.size = s.heap.objs.size + 5 →
      (∀ c o, s.heap.get? c = some o → h'.get? c = some o) → Q (.ref (s.heap.objs.size + 4)) { s with heap := h' }) :
    wpAny (model prog w) A (call (.type "zip") [.ref l1, .ref l2]) Q E s := by
  refine callType_new F.called_zip (by decide) (F.typeCall_zip_2 _ _) (F.newCall_zip_2 _ _) (fun obj => F.args_object_init_3 obj _ _) F.entry_zip_new
    (meets_zipM_new l1 l2 xs ys) ⟨hl1, hl2, ?_⟩
  have y1 : (zipMH1 s.heap l1).objs.size = s.heap.objs.size + 1 := Heap.size_push ..
  have y2 : (zipMH2 s.heap l1 l2).objs.size = s.heap.objs.size + 2 := by rw [Heap.size_push, y1]
  have y3 : (zipMH3 s.heap l1 l2).objs.size = s.heap.objs.size + 3 := by rw [Heap.size_push, y2]
  have y4 : (zipMH4 s.heap l1 l2).objs.size = s.heap.objs.size + 4 := by rw [Heap.size_push, y3]
  have y5 : (zipMH5 s.heap l1 l2).objs.size = s.heap.objs.size + 5 := by rw [Heap.size_push, y4]
  have w5 : (zipMH5 s.heap l1 l2).get? (zipMH4 s.heap l1 l2).objs.size = some _ := Heap.get?_push_size _ rfl
  have w4 : (zipMH5 s.heap l1 l2).get? (zipMH3 s.heap l1 l2).objs.size = some _ := Heap.get?_push_of_some _ (Heap.get?_push_size _ rfl)
  have w3 : (zipMH5 s.heap l1 l2).get? (zipMH2 s.heap l1 l2).objs.size = some _ := Heap.get?_push_of_some _ (Heap.get?_push_of_some _ (Heap.get?_push_size _ rfl))
  have w2 : (zipMH5 s.heap l1 l2).get? (zipMH1 s.heap l1).objs.size = some _ := Heap.get?_push_of_some _ (Heap.get?_push_of_some _ (Heap.get?_push_of_some _ (Heap.get?_push_size _ rfl)))
  have w1 : (zipMH5 s.heap l1 l2).get? s.heap.objs.size = some _ := Heap.get?_push_of_some _ (Heap.get?_push_of_some _ (Heap.get?_push_of_some _ (Heap.get?_push_of_some _ (Heap.get?_push_size _ rfl))))
  show _ ∧ _
  rw [y2, y3, y4] at w5
  rw [y1, y2] at w3
  rw [y3] at w4
  rw [y1] at w2
  rw [y4]
  exact ⟨⟨_, w5, rfl⟩, h _ w5 w3 w4 ⟨_, w1, rfl, rfl⟩ ⟨_, w2, rfl, rfl⟩ y5 fun c o x =>
    Heap.get?_push_of_some _ (Heap.get?_push_of_some _ (Heap.get?_push_of_some _ (Heap.get?_push_of_some _ (Heap.get?_push_of_some _ x))))⟩
end

def ItzM (K : PySem.W.Frag) (a b : Addr) : It :=
  ⟨fun i H => ∃ (xs ys : List V) (x y : V), SqT K H a xs ∧ SqL K H b ys ∧ xs[i]? = some x ∧ ys[i]? = some y,
    fun i H v H' => ∃ T x y, v = .ref T ∧ H T = none ∧ H' = upd H T (.tup [x, y]) ∧ (∀ xs, SqT K H a xs → xs[i]? = some x) ∧ ∀ ys, SqL K H b ys → ys[i]? = some y,
    fun i H => ∃ xs ys : List V, SqT K H a xs ∧ SqL K H b ys ∧ (xs.length ≤ i ∨ ys.length ≤ i)⟩
theorem turn_zipM {P : Program} {w : World} {K : PySem.W.Frag} {elts : List Expr} {kk : Nat} {tpos : Pos} {a b z TI TO i1 i2 : Addr} (Ap : ZipApart z TI TO i1 i2 a b) :
    Turn P w K (.Tuple elts kk tpos) (ItzM K a b) [z, TI, TO, i1, i2] z (fun i h => IsZip h z TI TO .none ∧ IsPair h TI (.ref i1) (.ref i2) ∧ (∃ x y, IsPair h TO x y) ∧ h.IsTupleIter i1 a i ∧ h.IsListIter i2 b i) where
  mem := by simp
  obj := fun i h st c hc => by
    obtain ⟨ez, eTI, ⟨x, y, eTO⟩, ⟨o1, e1, _, d1⟩, ⟨o2, e2, _, d2⟩⟩ := st
    have e' : c = z ∨ c = TI ∨ c = TO ∨ c = i1 ∨ c = i2 := by simpa using hc
    rcases e' with q | q | q | q | q
    · rw [q]; exact ⟨_, ez, fun v q => nomatch q⟩
    · rw [q]; exact ⟨_, eTI, fun v q => nomatch q⟩
    · rw [q]; exact ⟨_, eTO, fun v q => nomatch q⟩
    · rw [q]; exact ⟨o1, e1, fun v q => by rw [d1] at q; cases q⟩
    · rw [q]; exact ⟨o2, e2, fun v q => by rw [d2] at q; cases q⟩
  keep := fun i h h' st k => by
    obtain ⟨ez, eTI, ⟨x, y, eTO⟩, h1, h2⟩ := st
    exact ⟨k z (by simp) _ ez, k TI (by simp) _ eTI, ⟨x, y, k TO (by simp) _ eTO⟩, h1.at fun o q => k i1 (by simp) o q, h2.at fun o q => k i2 (by simp) o q⟩
  item := by
    intro X hP hw hK hc i pins s σ H E I hf st hg
    subst hP hw hK
    obtain ⟨ez, eTI, ⟨x0, y0, eTO⟩, h1, h2⟩ := st
    obtain ⟨xs, ys, x, y, qx, qy, ex, ey⟩ := hg
    obtain ⟨its, rv, p, _⟩ := I.tuple qx
    obtain ⟨its2, rv2, p2, _⟩ := I.list qy
    obtain ⟨u, hu, ru⟩ := rv.get ex
    obtain ⟨u2, hu2, ru2⟩ := rv2.get ey
    have lz : z < s.heap.objs.size := Heap.lt_size ez
    refine pyNext_zipM_item Ap ez eTI eTO h1 h2 p p2.isList (x := u) (y := u2) (by simpa using hu) (by simpa using hu2) fun h' z' TO' h1' h2' hT esz hk => ?_
    refine ⟨_, rfl, wpAny_letOwnedTupleGo_zip (s := { s with heap := h' }) z' fun h'' z'' sb => ?_⟩
    have eT2 : h''.get? s.heap.objs.size = some { cls := .type "tuple", data := .seq #[u, u2] } := (sb.2 _ (Nat.ne_of_gt lz)).trans hT
    have new : ObjOk X.prog X.w (upd H s.heap.objs.size (.tup [x, y])) h'' s.heap.objs.size (.tup [x, y]) :=
      ⟨by show 2 ≤ sizeLine; decide, [u, u2], .cons ru (.cons ru2 .nil), ⟨_, eT2, rfl, _, rfl⟩⟩
    have I1 : Inv X pins σ (upd H s.heap.objs.size (.tup [x, y])) { s with heap := h'' } :=
      I.turnedNew (t' := s.toks) (ch := [z, TI, TO, i1, i2]) (fun c o hb q => (sb.2 c (fun q' => hb (by simp [q']))).trans (hk c o (fun q' => hb (by simp [q'])) (fun q' => hb (by simp [q'])) (fun q' => hb (by simp [q'])) (fun q' => hb (by simp [q'])) q)) hf (Nat.le_refl _) new
    refine ⟨.ref s.heap.objs.size, _, I1, rfl, ⟨_, x, y, rfl, I.hok.fresh (Nat.le_refl _), rfl, fun l hl => by rw [I.tuple_inj hl qx]; exact ex, fun l hl => by rw [I.list_inj hl qy]; exact ey⟩, ⟨z'', ?_, ⟨u, u2, ?_⟩, ?_, ?_⟩, fun c hcm => ?_⟩
    · exact (sb.2 _ Ap.TIz).trans (hk _ _ Ap.TIz Ap.TITO Ap.TIi1 Ap.TIi2 eTI)
    · exact (sb.2 _ Ap.TOz).trans TO'
    · exact h1'.at fun o q => (sb.2 _ Ap.i1z).trans q
    · exact h2'.at fun o q => (sb.2 _ Ap.i2z).trans q
    · have hlt : c < s.heap.objs.size := by
        have e' : c = z ∨ c = TI ∨ c = TO ∨ c = i1 ∨ c = i2 := by simpa using hcm
        rcases e' with q | q | q | q | q
        · rw [q]; exact lz
        · rw [q]; exact Heap.lt_size eTI
        · rw [q]; exact Heap.lt_size eTO
        · rw [q]; obtain ⟨_, e1, _⟩ := h1; exact Heap.lt_size e1
        · rw [q]; obtain ⟨_, e2, _⟩ := h2; exact Heap.lt_size e2
      rw [upd_ne (Nat.ne_of_lt hlt)]
      exact (hf c hcm).1
  done := by
    intro X hP hw hK hc i pins s σ H E I hf st hg
    subst hP hw hK
    obtain ⟨ez, eTI, ⟨x0, y0, eTO⟩, h1, h2⟩ := st
    obtain ⟨xs, ys, qx, qy, hend⟩ := hg
    obtain ⟨its, rv, p, _⟩ := I.tuple qx
    obtain ⟨its2, rv2, p2, _⟩ := I.list qy
    have l1 := rv.length
    have l2 := rv2.length
    have he : its.toArray[i]? = none ∨ its2.toArray[i]? = none := by
      rcases hend with q | q
      · exact .inl (by simp; omega)
      · exact .inr (by simp; omega)
    exact pyNext_zipM_end (I.ok.hd hc) Ap ez eTI eTO h1 h2 p p2.isList he fun h' hk => ⟨rfl, I.turnedL (t' := s.toks) (ch := [z, TI, TO, i1, i2]) (fun c o hb q =>
      hk c o (fun q' => hb (by simp [q'])) (fun q' => hb (by simp [q'])) (fun q' => hb (by simp [q'])) (fun q' => hb (by simp [q'])) q) hf⟩
  self := fun A i s Q E st h => wpAny_pyIter_zip st.1 h


def rZipM (K : Fg) (ta : TA) : TI := fun σ H R => ta σ H fun vs H1 => ∃ a b xs ys, vs = [.ref a, .ref b] ∧ SqT K H1 a xs ∧ SqL K H1 b ys ∧ R (ItzM K a b) H1
theorem pi_zipM {X : Cx} {e e2 : Expr} {ta : TA} {p pos tpos : Pos} {elts : List Expr} {kk : Nat} (hg : Gl X "zip") (hm : X.mg "zip" = none) (ha : PA X [e, e2] ta)
    (hs : starEach [e, e2] X.env = (false, eval e X.env) :: starEach [e2] X.env := by rfl) (hpl : (backTo pos (starEach [e2] X.env)).any (·.1) = false := by rfl) :
    PI X (.Tuple elts kk tpos) (.Call (.Name "zip" p) [e, e2] [] pos) (rZipM X.K ta) := by
  refine ⟨fun pins s σ H R I h => ?_⟩
  refine Call_ (ld_blt I hg hm PyProof.Rows.boot_zip (PyProof.Rows.callWith_type1 (thn (ha.run pos pins s σ H _ I h) fun us s1 ⟨vs, H1, I1, r1, q1⟩ => ?_) hs hpl))
  obtain ⟨a, b, xs, ys, ex, hqx, hqy, q⟩ := q1
  subst ex
  cases r1 with
  | cons r rr =>
    cases rr with
    | cons r' rr =>
      cases rr
      cases r
      cases r'
      have all5 : ∀ c, c ∈ [s1.heap.objs.size + 4, s1.heap.objs.size + 2, s1.heap.objs.size + 3, s1.heap.objs.size, s1.heap.objs.size + 1] → FpOk X pins H1 c := fun c hcm => by
        have le : s1.heap.objs.size ≤ c := by
          have e' : c = s1.heap.objs.size + 4 ∨ c = s1.heap.objs.size + 2 ∨ c = s1.heap.objs.size + 3 ∨ c = s1.heap.objs.size ∨ c = s1.heap.objs.size + 1 := by simpa using hcm
          generalize s1.heap.objs.size = n at e'
          change Nat at c
          change (n : Nat) ≤ c
          rcases e' with z | z | z | z | z <;> (rw [z]; simp)
        exact I1.fpOk le (I1.hok.fresh le)
      obtain ⟨its, rv, p1, _⟩ := I1.tuple hqx
      obtain ⟨its2, rv2, p2, _⟩ := I1.list hqy
      obtain ⟨o1, ho1, _⟩ := id p1
      refine call_zipM (show s1.heap.IsTuple a its.toArray from p1) p2.isList fun h' hz hTI hTO h1 h2 hsz hk => wpAny_pyIter_zip hz ?_
      have I2 : Inv X pins σ H1 { s1 with heap := h' } := I1.kept (t' := s1.toks) hk
      exact ⟨s1.heap.objs.size + 4, [s1.heap.objs.size + 4, s1.heap.objs.size + 2, s1.heap.objs.size + 3, s1.heap.objs.size, s1.heap.objs.size + 1], _, _, H1, rfl, I2, turn_zipM (PySem.W.ktu_apart s1.heap.objs.size a b (Heap.lt_size ho1) p2.lt), ⟨hz, hTI, ⟨_, _, hTO⟩, h1, h2⟩, all5, q⟩

end MP
namespace MP
open PySem PySem.Spec L2
def zipA3 : List D → Option (List D)
  | [.tuple xs, .list ys] => if flat2 (zipL xs ys) = true then some (zipL xs ys) else none
  | vs => zipA vs
theorem jok_zipM {K : Fg} {Pr : Addr → Prop} {H1 : Hp} {l m : Addr} {vs ws : List V} {xs ys : List D} (h : SqT K (hid Pr H1) l vs) (r : RpAll K (hid Pr H1) vs xs) (h2 : SqL K (hid Pr H1) m ws) (r2 : RpAll K (hid Pr H1) ws ys) (hf : flat2 (zipL xs ys) = true) : JOk K (ItzM K l m) (zipL xs ys) Pr H1 := by
  refine ⟨fun H lt i hi => ?_, fun H lt => ?_, fun H lt i x v H' e y => ?_⟩
  · rw [zipL_len, ← r.length, ← r2.length] at hi
    exact ⟨vs, ws, vs[i], ws[i], later_st lt h, later_sl lt h2, List.getElem?_eq_getElem (by omega), List.getElem?_eq_getElem (by omega)⟩
  · rw [zipL_len, ← r.length, ← r2.length]
    exact ⟨vs, ws, later_st lt h, later_sl lt h2, by omega⟩
  · obtain ⟨T, z, z2, rfl, hT, rfl, hz, hz2⟩ := y
    obtain ⟨a, b, e1, e2, rfl⟩ := zipL_get e
    obtain ⟨u, u1, u2⟩ := r.get e1
    obtain ⟨w, w1, w2⟩ := r2.get e2
    have ez : u = z := Option.some.inj (u1.symm.trans (hz vs (later_st lt h)))
    have ez2 : w = z2 := Option.some.inj (w1.symm.trans (hz2 ws (later_sl lt h2)))
    subst ez ez2
    exact pair_yld lt hT u2 w2 (flat2_at hf (List.mem_of_getElem? e))
section
variable {X : Cx} {P : Pk} {E : St → XK} {te a b c : Expr} {ma mb mc : ME} {p pos p2 p3 p4 : Pos}
theorem zip_of {K : Fg} {CA : Str → Addr} {g : Gh} {σ : St} {ρ : En} {H : Hp} {R : It → Hp → Prop} (r : Rep K g H σ ρ) (h : PostG (RJ ⟨K, CA⟩) ⟨K, CA⟩ E g σ ρ H H R (iA zipA [ma, mb] ρ)) : RZ.iZipA K (tAs ⟨K, CA⟩ E [ma, mb]) σ H R := by
  refine ⟨g, ρ, r, bindG (R := RAP ⟨K, CA⟩) (R' := RJ ⟨K, CA⟩) h fun ss ρ1 vs H1 r1 s1 f1 q1 h1 => ?_⟩
  obtain ⟨xs, ez, h1⟩ := opt_of h1
  obtain ⟨ds, e1, e2⟩ := Option.bind_eq_some_iff.mp ez
  have rr := q1.allD e1
  unfold zipA at e2
  split at e2
  · rename_i x y
    cases rr with
    | cons k1 rr =>
      cases rr with
      | cons k2 rr =>
        cases rr
        unfold zipD at e2
        split at e2
        · split at e2
          · rename_i hf
            cases e2
            cases k1 with
            | lst a1 a2 =>
              cases k2 with
              | lst b1 b2 => exact ⟨_, _, _, _, rfl, .inl ⟨hid_le.sl a1, hid_le.sl b1, h1 _ H1 r1 (.refl _) (.refl _ _) (jok_zip a1 a2 b1 b2 hf)⟩⟩
          · cases e2
        · split at e2
          · rename_i hf
            cases e2
            cases k1 with
            | tup a1 a2 =>
              cases k2 with
              | tup b1 b2 => exact ⟨_, _, _, _, rfl, .inr ⟨hid_le.st a1.1, hid_le.st b1.1, h1 _ H1 r1 (.refl _) (.refl _ _) (jok_zipT a1.1 a2 b1.1 b2 hf)⟩⟩
          · cases e2
        · cases e2
  · cases e2

theorem piOr3 {t t' : TI} (h : PI X te a t) (h' : PI X te a t') : PI X te a (fun σ H R => t σ H R ∨ t' σ H R) := ⟨fun pins s σ H R I q => q.elim (h.run pins s σ H R I) (h'.run pins s σ H R I)⟩
theorem i_zip3 {elts : List Expr} {kk : Nat} (hm : X.mg "zip" = none) (ha : PA X [a, b] (tAs P E [ma, mb])) (hK : X.K = P.K := by rfl) (hg : Gl X "zip" := by rfl) (hs : starEach [a, b] X.env = (false, eval a X.env) :: starEach [b] X.env := by rfl)
    (hpl : (backTo pos (starEach [b] X.env)).any (·.1) = false := by rfl) : PI X (.Tuple elts kk p4) (.Call (.Name "zip" p) [a, b] [] pos) (iM P E (iA zipA3 [ma, mb])) := by
  obtain ⟨K, CA⟩ := P
  subst hK
  refine PI.imp (piOr3 (RZ.pi_zipA hg hm ha hs hpl) (pi_zipM hg hm ha hs hpl)) fun σ H R ⟨g, ρ, r, h⟩ => ?_
  cases e : mArgs [ma, mb] ρ with
  | ok ss ρ1 =>
    by_cases hh : ∃ xs ys, allD ss = some [.tuple xs, .list ys]
    · obtain ⟨xs, ys, ea⟩ := hh
      have h' : PostG (RJ ⟨X.K, CA⟩) ⟨X.K, CA⟩ E g σ ρ H H R ((mArgs [ma, mb] ρ).bind fun vs ρ1 => opt ((allD vs).bind zipA3) ρ1) := h
      refine .inr ⟨g, ρ, r, ?_⟩
      rw [e]
      rw [e, Out.bind_ok, ea] at h'
      intro vs H1 r1 s1 f1 q1
      have h1 := PostG.step h' s1 f1
      obtain ⟨zs, ez, h1⟩ := opt_of h1
      have ez' : (if flat2 (zipL xs ys) = true then some (zipL xs ys) else none) = some zs := ez
      by_cases hf : flat2 (zipL xs ys) = true
      · rw [if_pos hf] at ez'
        cases ez'
        have rr := q1.allD ea
        cases rr with
        | cons k1 rr =>
          cases rr with
          | cons k2 rr =>
            cases rr
            cases k1 with
            | tup a1 a2 =>
              cases k2 with
              | lst b1 b2 => exact ⟨_, _, _, _, rfl, hid_le.st a1.1, hid_le.sl b1, h1 _ H1 r1 (.refl _) (.refl _ _) (jok_zipM a1.1 a2 b1 b2 hf)⟩
      · rw [if_neg hf] at ez'
        cases ez'
    · have eq : iA zipA3 [ma, mb] ρ = iA zipA [ma, mb] ρ := by
        show ((mArgs [ma, mb] ρ).bind fun vs ρ1 => opt ((allD vs).bind zipA3) ρ1) = ((mArgs [ma, mb] ρ).bind fun vs ρ1 => opt ((allD vs).bind zipA) ρ1)
        rw [e, Out.bind_ok, Out.bind_ok]
        congr 1
        cases ea : allD ss with
        | none => rfl
        | some ds =>
          show zipA3 ds = zipA ds
          unfold zipA3
          split
          · exact absurd ⟨_, _, ea⟩ hh
          · rfl
      rw [eq] at h
      exact .inl (zip_of r h)
  | raise c x ρ1 =>
    have eq : iA zipA3 [ma, mb] ρ = iA zipA [ma, mb] ρ := by
      show ((mArgs [ma, mb] ρ).bind fun vs ρ1 => opt ((allD vs).bind zipA3) ρ1) = ((mArgs [ma, mb] ρ).bind fun vs ρ1 => opt ((allD vs).bind zipA) ρ1)
      rw [e] <;> rfl
    rw [eq] at h
    exact .inl (zip_of r h)
  | stuck =>
    have eq : iA zipA3 [ma, mb] ρ = iA zipA [ma, mb] ρ := by
      show ((mArgs [ma, mb] ρ).bind fun vs ρ1 => opt ((allD vs).bind zipA3) ρ1) = ((mArgs [ma, mb] ρ).bind fun vs ρ1 => opt ((allD vs).bind zipA) ρ1)
      rw [e] <;> rfl
    rw [eq] at h
    exact .inl (zip_of r h)
end
end MP
end

section
set_option linter.all false
set_option autoImplicit true
namespace MP
open PySem
/-! ### what the combinators do, for simp -/
@[simp] theorem p_C : mC x ρ = .ok (.d x) ρ := rfl
@[simp] theorem p_V : mV i ρ = (match ρ[i]? with
  | some (some (.d x)) => .ok (.d x) ρ
  | some (some (.own _)) => .ok (.pk i) ρ
  | some (some (.ref _)) => .ok (.pk i) ρ
  | some (some (.exc c x)) => .ok (.exc c x) ρ
  | some (some (.fn n)) => .ok (.fn n) ρ
  | _ => .stuck) := rfl
@[simp] theorem p_1 : m1 f a ρ = (a ρ).bind fun v ρ1 => viewB ρ1 v fun x => opt (f x) ρ1 := rfl
@[simp] theorem p_2 : m2 f a b ρ = (a ρ).bind fun v ρ1 => (b ρ1).bind fun w ρ2 => viewB ρ2 v fun x => viewB ρ2 w fun y => opt (f x y) ρ2 := rfl
@[simp] theorem p_tup : mTup ms ρ = (mArgs ms ρ).bind fun vs ρ1 => opt ((allD vs).map fun xs => SV.d (.tuple xs)) ρ1 := rfl
@[simp] theorem p_lst : mLst ms ρ = (mArgs ms ρ).bind fun vs ρ1 => opt ((allD vs).map fun xs => SV.own (.lst xs)) ρ1 := rfl
@[simp] theorem p_B : mB f ms ρ = (mArgs ms ρ).bind fun vs ρ1 => opt ((allV ρ1 vs).bind f) ρ1 := rfl
@[simp] theorem p_tr : mTr a ρ = (a ρ).bind fun v ρ1 => viewB ρ1 v fun x => opt (truth x) ρ1 := rfl
@[simp] theorem p_kand : kAnd a b ρ = (a ρ).bind fun c ρ1 => if c = true then b ρ1 else .ok false ρ1 := rfl
@[simp] theorem p_kor : kOr a b ρ = (a ρ).bind fun c ρ1 => if c = true then .ok true ρ1 else b ρ1 := rfl
@[simp] theorem p_knot : kNot a ρ = (a ρ).bind fun c ρ1 => .ok (!c) ρ1 := rfl
@[simp] theorem p_and : mAnd a b ρ = (a ρ).bind fun v ρ1 => toB v fun x => (opt (truth x) ρ1).bind fun c ρ2 => if c = true then b ρ2 else .ok (.d x) ρ2 := rfl
@[simp] theorem p_or : mOr a b ρ = (a ρ).bind fun v ρ1 => toB v fun x => (opt (truth x) ρ1).bind fun c ρ2 => if c = true then .ok (.d x) ρ2 else b ρ2 := rfl
@[simp] theorem p_not : mNot a ρ = (mTr a ρ).bind fun c ρ1 => .ok (.d (.bool (!c))) ρ1 := rfl
@[simp] theorem p_if : mIf t a b ρ = (t ρ).bind fun c ρ1 => if c = true then a ρ1 else b ρ1 := rfl
@[simp] theorem p_ch : mCh f g a b c ρ = (a ρ).bind fun u ρ1 => (b ρ1).bind fun v ρ2 => toB u fun x => toB v fun y => (opt ((f x y).bind boolOf) ρ2).bind fun k ρ3 =>
  if k = true then (c ρ3).bind fun w ρ4 => toB w fun z => opt (((g y z).bind boolOf).map fun q => SV.d (.bool q)) ρ4 else .ok (.d (.bool false)) ρ3 := rfl
@[simp] theorem p_i1 : i1 f a ρ = (a ρ).bind fun v ρ1 => toB v fun x => opt (f x) ρ1 := rfl
@[simp] theorem p_i2 : i2 f a b ρ = (a ρ).bind fun v ρ1 => (b ρ1).bind fun w ρ2 => toB v fun x => toB w fun y => opt (f x y) ρ2 := rfl
@[simp] theorem p_comp : mComp vs tg it t e ρ = (it ρ).bind fun xs ρ1 => if (plainAt ρ1 vs && tgIn tg vs && decide (xs.length ≤ 16777216)) = true then compGo vs tg t e xs [] ρ1 else .stuck := rfl
@[simp] theorem p_call : mCall f ms ρ = (mArgs ms ρ).bind fun vs ρ1 => mCallGo f vs ρ1 := rfl
@[simp] theorem p_callK : mCallK f perm ms ρ = (mArgs ms ρ).bind fun vs ρ1 => mCallGo f (perm.map fun j => vs[j]?.getD (.d .none)) ρ1 := rfl
@[simp] theorem p_callGo : mCallGo f vs ρ = (match argsOf ρ vs with
  | none => .stuck
  | some as => if (refIx vs).Nodup then MP.callEnd ρ (refIx vs) (f as) else .stuck) := rfl
@[simp] theorem p_end : MP.callEnd ρ is (.ok v outs) = if isRes v = true then (match putCells ρ is outs with | some ρ2 => .ok v ρ2 | none => .stuck) else .stuck := rfl
@[simp] theorem p_putN : putCells ρ [] [] = some ρ := rfl
@[simp] theorem p_putC : putCells ρ (i :: is) (c :: cs) = putCells (putCell ρ i c) is cs := rfl
@[simp] theorem p_refN : refIx [] = [] := rfl
@[simp] theorem p_refD : refIx (.d x :: vs) = refIx vs := rfl
@[simp] theorem p_refO : refIx (.own x :: vs) = refIx vs := rfl
@[simp] theorem p_refP : refIx (.pk i :: vs) = i :: refIx vs := rfl
@[simp] theorem p_next : sNext ρ = .next ρ := rfl
@[simp] theorem p_seq : sSeq a b ρ = (a ρ).seq b := rfl
@[simp] theorem p_expr : sExpr m ρ = (m ρ).st fun _ ρ1 => .next ρ1 := rfl
@[simp] theorem p_ret : sRet m ρ = (m ρ).st fun v ρ1 => .ret v ρ1 := rfl
@[simp] theorem p_retN : sRetN ρ = .ret (.d .none) ρ := rfl
@[simp] theorem p_sif : sIf t a b ρ = (t ρ).st fun c ρ1 => if c = true then a ρ1 else b ρ1 := rfl
@[simp] theorem p_set : sSet k i m ρ = (m ρ).st fun v ρ1 => setS k i v ρ1 := rfl
@[simp] theorem p_setS : setS k i v ρ = if free ρ i = true then (match kept k v with | some w => .next (ρ.set i (some w)) | none => .stuck) else .stuck := rfl
@[simp] theorem p_unp : sUnp tg m ρ = (m ρ).st fun v ρ1 => match toD v with
  | some x => (match tgSet tg x ρ1 with | some ρ2 => .next ρ2 | none => .stuck)
  | none => .stuck := rfl
@[simp] theorem p_par2 : sPar2 k i l j a b ρ = (a ρ).st fun v ρ1 => (b ρ1).st fun w ρ2 => (setS (l == 1) j w ρ2).seq fun ρ3 => setS (k == 1) i v ρ3 := rfl
@[simp] theorem p_for : sFor tg it b ρ = (it ρ).st fun xs ρ1 => forGo tg b xs ρ1 := rfl
@[simp] theorem p_free : free ρ i = (match ρ[i]? with
  | some (some (.ref _)) => false
  | some _ => true
  | none => false) := rfl
@[simp] theorem p_sl : mSl a lo hi ρ = (a ρ).bind fun v ρ1 => (mPart lo ρ1).bind fun l ρ2 => (mPart hi ρ2).bind fun h ρ3 => viewB ρ3 v fun x => opt (slD x l h) ρ3 := rfl
@[simp] theorem p_item : sItem i a v ρ = (v ρ).st fun w ρ1 => if isL ρ1 i = true then (a ρ1).st fun k ρ2 => itemGo i w k ρ2 else .stuck := rfl
@[simp] theorem p_semDef : semDef n b as = (match b (as.map some ++ List.replicate (n - as.length) none) with
  | .ret v ρ => finish as v ρ
  | .next ρ => finish as (.d .none) ρ
  | .raise c x ρ => (match outsOf as ρ with | some outs => .raise c x outs | none => .stuck)
  | _ => .stuck) := rfl
@[simp] theorem p_fin : finish as v ρ = (match resOf ρ v, outsOf as ρ with
  | some w, some outs => .ok w outs
  | _, _ => .stuck) := rfl
@[simp] theorem p_resD : resOf ρ (.d x) = some (.d x) := rfl
@[simp] theorem p_resO : resOf ρ (.own x) = some (.own x) := rfl
@[simp] theorem p_resP : resOf ρ (.pk i) = (match ρ[i]? with | some (some (.own c)) => some (.own c) | _ => none) := rfl
@[simp] theorem p_outN : outsOf [] ρ = some [] := rfl
@[simp] theorem p_outR : outsOf (.ref c :: as) (some (.ref c') :: r) = (outsOf as r).map fun cs => c' :: cs := rfl
@[simp] theorem p_outD : outsOf (.d x :: as) ρ = outsOf as ρ.tail := rfl
@[simp] theorem p_tgN : tgSet (.n i) x ρ = if free ρ i = true then some (ρ.set i (some (.d x))) else none := by unfold tgSet; rfl
@[simp] theorem p_tgT : tgSet (.t ts) (.tuple xs) ρ = tgSets ts xs ρ := by rw [tgSet]
@[simp] theorem p_tgsN : tgSets [] [] ρ = some ρ := by rw [tgSets]
@[simp] theorem p_tgsC : tgSets (t :: ts) (x :: xs) ρ = (tgSet t x ρ).bind fun ρ1 => tgSets ts xs ρ1 := by rw [tgSets]
@[simp] theorem p_wipeN : wipeE ρ [] = ρ := rfl
@[simp] theorem p_wipeC : wipeE ρ (v :: vs) = (wipeE ρ vs).set v none := rfl
@[simp] theorem p_backN : back ρ ρ' [] = ρ' := rfl
@[simp] theorem p_backC : back ρ ρ' (v :: vs) = (back ρ ρ' vs).set v (ρ[v]?.getD none) := rfl
@[simp] theorem p_plain : plainAt ρ vs = vs.all fun i => (cellAt ρ i).isNone && decide (i < ρ.length) := rfl
@[simp] theorem p_tgIn : tgIn tg vs = tg.slots.all fun i => vs.contains i := rfl
@[simp] theorem p_slN : Tg.slots (.n i) = [i] := by rw [Tg.slots]
@[simp] theorem p_slT : Tg.slots (.t ts) = tgSlots ts := by rw [Tg.slots]
@[simp] theorem p_slsN : tgSlots [] = [] := by rw [tgSlots]
@[simp] theorem p_slsC : tgSlots (t :: ts) = t.slots ++ tgSlots ts := by rw [tgSlots]
@[simp] theorem p_cell : cellAt ρ i = (match ρ[i]? with
  | some (some (.own c)) => some c
  | some (some (.ref c)) => some c
  | _ => none) := rfl
@[simp] theorem p_putCell : putCell ρ i c = (match ρ[i]? with
  | some (some (.own _)) => ρ.set i (some (.own c))
  | some (some (.ref _)) => ρ.set i (some (.ref c))
  | _ => ρ) := rfl
@[simp] theorem p_isL : isL ρ i = (match cellAt ρ i with
  | some (.lst _) => true
  | _ => false) := rfl
/-! a comprehension whose parts leave all as it was -/
theorem comp_map {vs : List Nat} {tg : Tg} {t : MT} {e : ME} {ρ : En} {c : D → Bool} {y : D → D} : ∀ {xs acc : List D},
    (∀ x ∈ xs, ∃ ρa ρb ρc, tgSet tg x (wipeE ρ vs) = some ρa ∧ t ρa = .ok (c x) ρb ∧ (c x = false → back ρ ρb vs = ρ) ∧ (c x = true → ∃ v, e ρb = .ok v ρc ∧ toD v = some (y x) ∧ back ρ ρc vs = ρ)) →
    compGo vs tg t e xs acc ρ = .ok (.own (.lst (acc ++ (xs.filter c).map y))) ρ
  | [], acc, h => by unfold compGo; simp
  | x :: xs, acc, h => by
    obtain ⟨ρa, ρb, ρc, h1, h2, h3, h4⟩ := h x List.mem_cons_self
    have hr : ∀ x ∈ xs, _ := fun z hz => h z (List.mem_cons_of_mem _ hz)
    unfold compGo
    rw [h1]
    simp only [h2, noRaise_ok]
    cases ec : c x with
    | false =>
      simp only [h3 ec, if_neg Bool.false_ne_true]
      rw [comp_map (c := c) (y := y) hr, List.filter_cons_of_neg (by simp [ec])]
    | true =>
      obtain ⟨v, h5, h6, h7⟩ := h4 ec
      simp only [if_pos, h5, noRaise_ok]
      unfold toB
      rw [h6]
      simp only [h7]
      rw [comp_map (c := c) (y := y) hr, List.filter_cons_of_pos ec]
      simp
/-- the same where nothing is left out -/
theorem comp_all {vs : List Nat} {tg : Tg} {e : ME} {ρ : En} {y : D → D} {xs acc : List D}
    (h : ∀ x ∈ xs, ∃ ρa ρc v, tgSet tg x (wipeE ρ vs) = some ρa ∧ e ρa = .ok v ρc ∧ toD v = some (y x) ∧ back ρ ρc vs = ρ) :
    compGo vs tg mYes e xs acc ρ = .ok (.own (.lst (acc ++ xs.map y))) ρ := by
  have := comp_map (vs := vs) (tg := tg) (t := mYes) (e := e) (ρ := ρ) (c := fun _ => true) (y := y) (xs := xs) (acc := acc) fun x hx => by
    obtain ⟨ρa, ρc, v, h1, h2, h3, h4⟩ := h x hx
    exact ⟨ρa, ρa, ρc, h1, rfl, (fun z => nomatch z), fun _ => ⟨v, h2, h3, h4⟩⟩
  have e : xs.filter (fun _ => true) = xs := List.filter_eq_self.mpr fun _ _ => rfl
  rw [e] at this
  exact this
theorem bools_map {α : Type} (f : α → Bool) : ∀ xs : List α, boolsOf (xs.map fun x => PyData.bool (f x)) = some (xs.map f)
  | [] => rfl
  | x :: xs => by
    show (boolsOf (xs.map fun x => PyData.bool (f x))).map _ = _
    rw [bools_map f xs] <;> rfl
theorem ints_map {α : Type} (f : α → Int) : ∀ xs : List α, intsOf (xs.map fun x => PyData.int (f x)) = some (xs.map f)
  | [] => rfl
  | x :: xs => by
    show (intsOf (xs.map fun x => PyData.int (f x))).map _ = _
    rw [ints_map f xs] <;> rfl
end MP
namespace MP
open PySem
/-! more for simp -/
@[simp] theorem cEq_int {a b : Int} : cEq (.int a) (.int b) = some (.d (.bool (a == b))) := by
  simp [cEq, eqOk, noItem, PyData.plain, PyData.depth, PyData.eqv]
@[simp] theorem cNe_int {a b : Int} : cNe (.int a) (.int b) = some (.d (.bool (!(a == b)))) := by
  simp [cNe, eqOk, noItem, PyData.plain, PyData.depth, PyData.eqv]
@[simp] theorem cEq_str {a b : Str} : cEq (.str a) (.str b) = some (.d (.bool (PyData.eqv (.str a) (.str b)))) := by
  simp [cEq, eqOk, noItem, PyData.plain, PyData.depth]
@[simp] theorem cLt_int {a b : Int} : cLt (.int a) (.int b) = some (.d (.bool (decide (a < b)))) := rfl
@[simp] theorem cLe_int {a b : Int} : cLe (.int a) (.int b) = some (.d (.bool (decide (a ≤ b)))) := rfl
@[simp] theorem cGt_int {a b : Int} : cGt (.int a) (.int b) = some (.d (.bool (decide (b < a)))) := rfl
@[simp] theorem cGe_int {a b : Int} : cGe (.int a) (.int b) = some (.d (.bool (decide (b ≤ a)))) := rfl
@[simp] theorem cIsN_s {x : D} : cIsN x = some (.d (.bool (isN x))) := rfl
@[simp] theorem cNotN_s {x : D} : cNotN x = some (.d (.bool (!isN x))) := rfl
@[simp] theorem bAdd_int {a b : Int} : bAdd (.int a) (.int b) = some (.d (.int (a + b))) := rfl
@[simp] theorem bSub_int {a b : Int} : bSub (.int a) (.int b) = some (.d (.int (a - b))) := rfl
@[simp] theorem uNeg_int {a : Int} : uNeg (.int a) = some (.d (.int (-a))) := rfl
@[simp] theorem lenD_list {xs : List D} : lenD [.list xs] = some (.d (.int (xs.length : Nat))) := rfl
@[simp] theorem lenD_tup {xs : List D} : lenD [.tuple xs] = some (.d (.int (xs.length : Nat))) := rfl
@[simp] theorem gAll_list {xs : List D} : gAll [.list xs] = (boolsOf xs).map fun is => .d (.bool (is.all id)) := rfl
@[simp] theorem gSum_list {xs : List D} : gSum [.list xs] = (intsOf xs).map fun is => .d (.int is.sum) := rfl
@[simp] theorem gTup_list {xs : List D} : gTup [.list xs] = some (.d (.tuple xs)) := rfl
@[simp] theorem gTup_tup {xs : List D} : gTup [.tuple xs] = some (.d (.tuple xs)) := rfl
@[simp] theorem gLst_list {xs : List D} : gLst [.list xs] = some (.own (.lst xs)) := rfl
@[simp] theorem gLst_tup {xs : List D} : gLst [.tuple xs] = some (.own (.lst xs)) := rfl
@[simp] theorem gInt_int {i : Int} : gInt [.int i] = some (.d (.int i)) := rfl
@[simp] theorem gInt_bool {b : Bool} : gInt [.bool b] = some (.d (.int (if b then 1 else 0))) := rfl
@[simp] theorem gAbs_int {i : Int} : gAbs [.int i] = some (.d (.int (if i < 0 then -i else i))) := rfl
@[simp] theorem gMax_int {i j : Int} : gMax [.int i, .int j] = some (.d (.int (if j > i then j else i))) := rfl
@[simp] theorem gMin_int {i j : Int} : gMin [.int i, .int j] = some (.d (.int (if j < i then j else i))) := rfl
@[simp] theorem bIdx_tup {xs : List D} {i : Int} : bIdx (.tuple xs) (.int i) = (atD xs i).map SV.d := rfl
@[simp] theorem bIdx_list {xs : List D} {i : Int} : bIdx (.list xs) (.int i) = (atD xs i).map SV.d := rfl
@[simp] theorem isinst_s {T : String} {x : D} : isinst T x = some (.d (.bool (subTy (tyD x) T))) := rfl
@[simp] theorem boolOf_s {b : Bool} : boolOf (.d (.bool b)) = some b := rfl
@[simp] theorem ty_none : tyD .none = "NoneType" := rfl
@[simp] theorem ty_bool {b : Bool} : tyD (.bool b) = "bool" := rfl
@[simp] theorem ty_int {i : Int} : tyD (.int i) = "int" := rfl
@[simp] theorem ty_str {x : Str} : tyD (.str x) = "str" := rfl
@[simp] theorem ty_list {x : List D} : tyD (.list x) = "list" := rfl
@[simp] theorem ty_tup {x : List D} : tyD (.tuple x) = "tuple" := rfl
@[simp] theorem ty_dict {x : List (D × D)} : tyD (.dict x) = "dict" := rfl
theorem atD_nat {xs : List D} {i : Nat} : atD xs (i : Int) = xs[i]? := by
  unfold atD ix
  rw [if_pos (by omega)]
  by_cases h : i < xs.length
  · rw [if_pos (by omega)]
    simp
  · rw [if_neg (by omega), List.getElem?_eq_none (by omega)] <;> rfl
@[simp] theorem atD_0 {x : D} {xs : List D} : atD (x :: xs) 0 = some x := by
  have := atD_nat (xs := x :: xs) (i := 0)
  simpa using this
@[simp] theorem atD_1 {x y : D} {xs : List D} : atD (x :: y :: xs) 1 = some y := by
  have := atD_nat (xs := x :: y :: xs) (i := 1)
  simpa using this
@[simp] theorem atD_2 {x y z : D} {xs : List D} : atD (x :: y :: z :: xs) 2 = some z := by
  have := atD_nat (xs := x :: y :: z :: xs) (i := 2)
  simpa using this
/-! a loop that goes on or returns -/
def scan {S : Type} (step : S → D → Option S) : S → List D → Option S
  | s, [] => some s
  | s, x :: xs => (step s x).bind fun s' => scan step s' xs
def Goes {S : Type} (o : Option S) (f : S → Prop) (g : Prop) : Prop := match o with
  | some s => f s
  | none => g
@[simp] theorem goes_some {S : Type} {s : S} {f : S → Prop} {g : Prop} : Goes (some s) f g = f s := rfl
@[simp] theorem goes_none {S : Type} {f : S → Prop} {g : Prop} : Goes none f g = g := rfl
theorem for_scan {S : Type} {tg : Tg} {b : MS} {r : SV} {Env : Option SV → S → En} {step : S → D → Option S} : ∀ (xs : List D) (p : Option SV) (s : S),
    (∀ x ∈ xs, ∀ p s, (∀ c, p ≠ some (.ref c)) → tgSet tg x (Env p s) = some (Env (some (.d x)) s)) → (∀ c, p ≠ some (.ref c)) →
    (∀ x ∈ xs, ∀ s, Goes (step s x) (fun s' => b (Env (some (.d x)) s) = .next (Env (some (.d x)) s')) (∃ ρ', b (Env (some (.d x)) s) = .ret r ρ')) →
    Goes (scan step s xs) (fun s' => ∃ p', forGo tg b xs (Env p s) = .next (Env p' s')) (∃ ρ', forGo tg b xs (Env p s) = .ret r ρ')
  | [], p, s, _, _, _ => ⟨p, rfl⟩
  | x :: xs, p, s, h1, hp, h2 => by
    have h := h2 x List.mem_cons_self s
    unfold scan
    cases e : step s x with
    | none =>
      rw [e] at h
      obtain ⟨ρ', h⟩ := h
      refine ⟨ρ', ?_⟩
      unfold forGo
      rw [h1 x List.mem_cons_self p s hp]
      simp only [h]
    | some s' =>
      rw [e] at h
      have ih := for_scan (tg := tg) (b := b) (r := r) (Env := Env) (step := step) xs (some (.d x)) s' (fun y hy => h1 y (List.mem_cons_of_mem _ hy)) (fun c z => by cases z) fun y hy => h2 y (List.mem_cons_of_mem _ hy)
      have e2 : forGo tg b (x :: xs) (Env p s) = forGo tg b xs (Env (some (.d x)) s') := by
        conv => lhs; unfold forGo
        rw [h1 x List.mem_cons_self p s hp]
        have h' : b (Env (some (.d x)) s) = .next (Env (some (.d x)) s') := h
        simp only [h']
      rw [e2]
      exact ih
theorem scan_unit {ok : D → Bool} : ∀ xs : List D, scan (fun (_ : Unit) x => if ok x = true then some () else none) () xs = if xs.all ok = true then some () else none
  | [] => rfl
  | x :: xs => by
    unfold scan
    rw [List.all_cons]
    cases h : ok x with
    | false => rfl
    | true => exact scan_unit xs
theorem free_at {ρ : En} {i : Nat} {p : Option SV} (h : ρ[i]? = some p) (n : ∀ c, p ≠ some (.ref c)) : free ρ i = true := by
  unfold free
  rw [h]
  cases p with
  | none => rfl
  | some s =>
    cases s with
    | ref c => exact (n c rfl).elim
    | _ => rfl
theorem tg_n {ρ : En} {i : Nat} {p : Option SV} {x : D} (h : ρ[i]? = some p) (n : ∀ c, p ≠ some (.ref c)) : tgSet (.n i) x ρ = some (ρ.set i (some (.d x))) := by
  rw [p_tgN, if_pos (free_at h n)]
end MP
namespace MP
open PySem
theorem comp_pure {vs : List Nat} {tg : Tg} {e : ME} {ρ : En} {y : D → D} {xs acc : List D}
    (h : ∀ x ∈ xs, ∃ ρa v, tgSet tg x (wipeE ρ vs) = some ρa ∧ e ρa = .ok v ρa ∧ toD v = some (y x) ∧ back ρ ρa vs = ρ) :
    compGo vs tg mYes e xs acc ρ = .ok (.own (.lst (acc ++ xs.map y))) ρ :=
  comp_all fun x hx => let ⟨ρa, v, h1, h2, h3, h4⟩ := h x hx; ⟨ρa, ρa, v, h1, h2, h3, h4⟩
end MP
namespace MP
open PySem
theorem mem_intsD {n : Nat} {x : D} (h : x ∈ intsD 0 n) : ∃ k, k < n ∧ x = .int (k : Nat) := by
  unfold intsD at h
  obtain ⟨k, hk, e⟩ := List.mem_map.mp h
  exact ⟨k, List.mem_range.mp hk, by rw [← e, Int.zero_add]⟩
theorem intsD_len {lo : Int} {n : Nat} : (intsD lo n).length = n := by
  unfold intsD
  rw [List.length_map, List.length_range]
end MP
namespace MP
open PySem
/-- a comprehension that changes a state as it goes -/
theorem comp_st {S : Type} {vs : List Nat} {tg : Tg} {e : ME} {Env : S → En} {J : Nat → S → Prop} {P : D → D → Prop} : ∀ (xs acc : List D) (i : Nat) (s : S), J i s →
    (∀ x ∈ xs, ∀ k s, k < i + xs.length → J k s → ∃ ρa ρc v y s', tgSet tg x (wipeE (Env s) vs) = some ρa ∧ e ρa = .ok v ρc ∧ toD v = some y ∧ back (Env s) ρc vs = Env s' ∧ J (k + 1) s' ∧ P x y) →
    ∃ ys s', compGo vs tg mYes e xs acc (Env s) = .ok (.own (.lst (acc ++ ys))) (Env s') ∧ J (i + xs.length) s' ∧ ys.length = xs.length ∧ ∀ (j : Nat) (x y : D), xs[j]? = some x → ys[j]? = some y → P x y
  | [], acc, i, s, hJ, _ => ⟨[], s, by unfold compGo; simp, hJ, rfl, fun j x y h => by simp at h⟩
  | x :: xs, acc, i, s, hJ, h => by
    obtain ⟨ρa, ρc, v, y, s', h1, h2, h3, h4, h5, h6⟩ := h x List.mem_cons_self i s (by rw [List.length_cons]; omega) hJ
    obtain ⟨ys, s2, k1, k2, k3, k4⟩ := comp_st xs (acc ++ [y]) (i + 1) s' h5 fun z hz k t hk => h z (List.mem_cons_of_mem _ hz) k t (by rw [List.length_cons]; omega)
    refine ⟨y :: ys, s2, ?_, ?_, by rw [List.length_cons, List.length_cons, k3], fun j a b ha hb => ?_⟩
    · unfold compGo
      rw [h1]
      simp only [mYes, noRaise_ok, if_pos, h2]
      unfold toB
      rw [h3]
      simp only [h4]
      rw [k1]
      simp
    · have e : i + 1 + xs.length = i + (x :: xs).length := by rw [List.length_cons]; omega
      rw [← e]
      exact k2
    · cases j with
      | zero =>
        simp at ha hb
        subst ha hb
        exact h6
      | succ j => exact k4 j a b (by simpa using ha) (by simpa using hb)
end MP
namespace MP
open PySem
theorem mul_ok {i j : Int} (h : mulOk i j = true) : bMulI (.int i) (.int j) = some (.d (.int (i * j))) := if_pos h
theorem mul_l {i j : Int} (h : i.natAbs < 2 ^ 64) : bMulI (.int i) (.int j) = some (.d (.int (i * j))) := mul_ok (by
  unfold mulOk
  rw [decide_eq_true h] <;> rfl)
theorem mul_r {i j : Int} (h : j.natAbs < 2 ^ 64) : bMulI (.int i) (.int j) = some (.d (.int (i * j))) := mul_ok (by
  unfold mulOk
  rw [decide_eq_true h, Bool.or_true] <;> rfl)
theorem mul_b {i j : Int} (h : i.natAbs.log2 + j.natAbs.log2 < 60000000) : bMulI (.int i) (.int j) = some (.d (.int (i * j))) := mul_ok (by
  unfold mulOk
  rw [decide_eq_true h, Bool.or_true])
theorem mod_p {i j : Int} (h : 0 < j) : bMod (.int i) (.int j) = some (.d (.int (i % j))) := if_pos h
theorem div_p {i j : Int} (h : 0 < j) (h2 : j.natAbs.log2 < 9000) : bDiv (.int i) (.int j) = some (.d (.int (i / j))) := if_pos ⟨h, h2⟩
theorem log_lt {n k : Nat} (h : n < 2 ^ k) (hk : 0 < k) : n.log2 < k := by
  by_cases h0 : n = 0
  · subst h0
    simpa using hk
  · exact (Nat.log2_lt h0).mpr h
theorem pow_p {i j : Int} (h0 : 0 ≤ j) (h : (i.natAbs.log2 + 1) * j.toNat ≤ 134217728) : bPow (.int i) (.int j) = some (.d (.int (i ^ j.toNat))) := if_pos ⟨h0, h⟩
end MP
namespace MP
open PySem
@[simp] theorem p_itemGo {i : Nat} {w : D} {k : Int} {ρ : En} : itemGo i (.d w) (.d (.int k)) ρ = (match cellAt ρ i with
  | some (.lst xs) => (match ix xs.length k with | some j => .next (putCell ρ i (.lst (xs.set j w))) | none => .stuck)
  | _ => .stuck) := by
  unfold itemGo
  cases cellAt ρ i with
  | none => rfl
  | some c => cases c <;> rfl
@[simp] theorem ix_0 {n : Nat} : ix (n + 1) 0 = some 0 := by
  unfold ix
  rw [if_pos (by omega), if_pos (by omega)] <;> rfl
@[simp] theorem ix_1 {n : Nat} : ix (n + 1 + 1) 1 = some 1 := by
  unfold ix
  rw [if_pos (by omega), if_pos (by omega)] <;> rfl
@[simp] theorem ix_2 {n : Nat} : ix (n + 1 + 1 + 1) 2 = some 2 := by
  unfold ix
  rw [if_pos (by omega), if_pos (by omega)] <;> rfl
@[simp] theorem ix3_0 : ix 3 0 = some 0 := rfl
@[simp] theorem ix3_1 : ix 3 1 = some 1 := rfl
@[simp] theorem ix3_2 : ix 3 2 = some 2 := rfl
end MP
namespace MP
open PySem
@[simp] theorem p_viewPk {β : Type} {ρ : En} {i : Nat} {f : D → Out β} : viewB ρ (.pk i) f = (match cellAt ρ i with
  | some c => f c.py
  | none => .stuck) := by
  show (match (cellAt ρ i).map Cell.py with | some x => f x | none => .stuck) = _
  cases cellAt ρ i <;> rfl
end MP
end

section
set_option linter.all false
set_option autoImplicit true
namespace MP
open PySem
/-! data that can be shown -/
structure Fine (b d : Nat) (x : D) : Prop where
  short : x.leavesShort 700 = true
  shw : x.showable = true
  bulk : x.bulk ≤ b
  dep : x.depth ≤ d
theorem Fine.mono {b d b' d' : Nat} {x : D} (h : Fine b d x) (hb : b ≤ b') (hd : d ≤ d') : Fine b' d' x := ⟨h.short, h.shw, Nat.le_trans h.bulk hb, Nat.le_trans h.dep hd⟩
theorem fine_int {i : Int} (h : i.natAbs.log2 < 600) : Fine 0 0 (.int i) := by
  refine ⟨?_, ?_, ?_, ?_⟩
  · have := int_text_length_le (k := 600) (by decide) h
    have e : (PyData.shown (.int i)).length = (toString i).length := by
      unfold PyData.shown
      exact ofString_length _
    simp only [PyData.leavesShort, decide_eq_true_eq]
    omega
  · simp only [PyData.showable, decide_eq_true_eq]
    omega
  · simp [PyData.bulk]
  · simp [PyData.depth]
theorem fine_small {i : Int} (h : i.natAbs < 2 ^ 500) : Fine 0 0 (.int i) := fine_int (Nat.lt_trans (log_lt h (by decide)) (by decide))
theorem fine_none : Fine 0 0 .none := ⟨by simp [PyData.leavesShort], by simp [PyData.showable], by simp [PyData.bulk], by simp [PyData.depth]⟩
theorem fine_bool {b : Bool} : Fine 0 0 (.bool b) := ⟨by simp [PyData.leavesShort], by simp [PyData.showable], by simp [PyData.bulk], by simp [PyData.depth]⟩
theorem short_all {xs : List D} (h : ∀ x ∈ xs, x.leavesShort 700 = true) : PyData.leavesShortAll 700 xs = true := by
  induction xs with
  | nil => rfl
  | cons x xs ih =>
    show (x.leavesShort 700 && PyData.leavesShortAll 700 xs) = true
    rw [h x List.mem_cons_self, ih fun y hy => h y (List.mem_cons_of_mem _ hy)] <;> rfl
theorem shw_all {xs : List D} (h : ∀ x ∈ xs, x.showable = true) : PyData.showableAll xs = true := by
  induction xs with
  | nil => rfl
  | cons x xs ih =>
    show (x.showable && PyData.showableAll xs) = true
    rw [h x List.mem_cons_self, ih fun y hy => h y (List.mem_cons_of_mem _ hy)] <;> rfl
theorem bulk_all {xs : List D} {b : Nat} (h : ∀ x ∈ xs, x.bulk ≤ b) : PyData.bulkAll xs ≤ xs.length * (b + 1) := by
  induction xs with
  | nil => simp [PyData.bulkAll]
  | cons x xs ih =>
    have h1 := h x List.mem_cons_self
    have h2 := ih fun y hy => h y (List.mem_cons_of_mem _ hy)
    simp only [PyData.bulkAll, List.length_cons, Nat.add_mul]
    omega
theorem dep_all {xs : List D} {d : Nat} (h : ∀ x ∈ xs, x.depth ≤ d) : PyData.depthAll xs ≤ d := by
  induction xs with
  | nil => simp [PyData.depthAll]
  | cons x xs ih =>
    have h1 := h x List.mem_cons_self
    have h2 := ih fun y hy => h y (List.mem_cons_of_mem _ hy)
    simp only [PyData.depthAll]
    omega
theorem fine_tuple {xs : List D} {b d n : Nat} (h : ∀ x ∈ xs, Fine b d x) (hn : xs.length ≤ n) : Fine (n * (b + 1)) (d + 1) (.tuple xs) := by
  refine ⟨?_, ?_, ?_, ?_⟩
  · simpa only [PyData.leavesShort] using short_all fun x hx => (h x hx).short
  · simpa only [PyData.showable] using shw_all fun x hx => (h x hx).shw
  · have := bulk_all fun x hx => (h x hx).bulk
    simp only [PyData.bulk]
    exact Nat.le_trans this (Nat.mul_le_mul_right _ hn)
  · have := dep_all fun x hx => (h x hx).dep
    simp only [PyData.depth]
    omega
theorem fine_list {xs : List D} {b d n : Nat} (h : ∀ x ∈ xs, Fine b d x) (hn : xs.length ≤ n) : Fine (n * (b + 1)) (d + 1) (.list xs) := by
  have := fine_tuple h hn
  exact ⟨by simpa only [PyData.leavesShort] using this.short, by simpa only [PyData.showable] using this.shw, by simpa only [PyData.bulk] using this.bulk, by simpa only [PyData.depth] using this.dep⟩
theorem Fine.rep {b d : Nat} {x : D} (h : Fine b d x) (hb : b ≤ 20000) (hd : d ≤ 50) (k : x.hasDict = false ∨ noL x = true) : repOk x = true := by
  unfold repOk
  have h1 := PyData.shown_le_bulk 700 (by decide) x h.short
  have h2 := h.bulk
  have h3 := h.dep
  have h4 : x.shown.length ≤ line := by
    unfold line
    have : (700 + 2) * x.bulk ≤ (700 + 2) * 20000 := Nat.mul_le_mul_left _ (by omega)
    omega
  rw [h.shw, decide_eq_true h4, decide_eq_true (show x.depth ≤ 50 by omega)]
  rcases k with k | k
  · rw [k] <;> rfl
  · rw [k] <;> simp
end MP
end

section
set_option linter.all false
set_option autoImplicit true
namespace MP
open PySem
@[simp] theorem p_unpL : sUnpL tgs m ρ = (m ρ).st fun v ρ1 => match toD v with
  | some (.list xs) => (match tgSets tgs xs ρ1 with | some ρ2 => .next ρ2 | none => .stuck)
  | _ => .stuck := rfl
@[simp] theorem p_callT : mCallT f m ρ = (m ρ).bind fun v ρ1 => callTGo f v ρ1 := rfl
theorem callT_ok {f : F} {c c' : Cell} {s : SV} (h : f [.ref c] = .ok s [c']) (hs : isRes s = true) : callTGo f (.own c) ρ = .ok s ρ := by
  unfold callTGo
  simp only [h, if_pos hs]
@[simp] theorem p_rep : mRep a b ρ = (a ρ).bind fun v ρ1 => (b ρ1).bind fun w ρ2 => match v with
  | .own (.lst xs) => (match w with
    | .d (.int k) => if (small62 k && decide (xs.length * k.toNat ≤ line)) = true then .ok (.own (.lst ((List.replicate k.toNat xs).flatten))) ρ2 else .stuck
    | _ => .stuck)
  | _ => .stuck := rfl
@[simp] theorem p_cell1 : mCell1 i g a ρ = if isL ρ i = true then (a ρ).bind fun v ρ1 => toB v fun x => cellB ρ1 i fun c => match g c x with
  | some (c', r) => .ok (.d r) (putCell ρ1 i c')
  | none => .stuck
  else .stuck := rfl
@[simp] theorem p_cellB {β : Type} {f : Cell → Out β} : cellB ρ i f = match cellAt ρ i with
  | some c => f c
  | none => .stuck := rfl
@[simp] theorem p_cell0 : mCell0 i g ρ = if isL ρ i = true then cellB ρ i fun c => match g c with
  | some (c', r) => .ok (.d r) (putCell ρ i c')
  | none => .stuck
  else .stuck := rfl
@[simp] theorem p_while : sWhile fu t b ρ = whileGo t b (fu ρ) ρ := rfl
@[simp] theorem p_iA : iA f ms ρ = (mArgs ms ρ).bind fun vs ρ1 => opt ((allD vs).bind f) ρ1 := rfl
@[simp] theorem p_frz : sFrz is a ρ = a (frz ρ is) := rfl
@[simp] theorem p_brk : sBreak ρ = .brk ρ := rfl
theorem gApp_l {xs : List D} {x : D} (h : xs.length < 16777216) : gApp (.lst xs) x = some (.lst (xs ++ [x]), .none) := if_pos h
@[simp] theorem gAnyW_tup {xs : List D} : gAnyW [.tuple xs] = (intsOf xs).map fun is => .d (.bool (is.any fun i => i != 0)) := rfl
@[simp] theorem gAnyL_lst {xs : List D} : gAnyL [.list xs] = (match boolsOf xs with
    | some bs => some (.d (.bool (bs.any id)))
    | none => (intsOf xs).map fun is => .d (.bool (is.any fun i => i != 0))) := rfl
@[simp] theorem gAnyL_tup {xs : List D} : gAnyL [.tuple xs] = gAnyW [.tuple xs] := rfl
@[simp] theorem p_idxL : mIdxL a b ρ = (a ρ).bind fun v ρ1 => toB v fun x => match x with
  | .list xs => (b ρ1).bind fun w ρ2 => viewB ρ2 w fun y => opt (idxI xs y) ρ2
  | _ => .stuck := rfl
@[simp] theorem p_dctS {k : Str} : mDctS k m ρ = (m ρ).bind fun v ρ1 => toB v fun x => .ok (.own (.dct [(.str k, x)])) ρ1 := rfl
@[simp] theorem p_dct0 : mDct0 ρ = .ok (.own (.dct [])) ρ := rfl
theorem bools_ints : ∀ {xs : List Int}, xs ≠ [] → boolsOf (xs.map PyData.int) = none
  | [], h => absurd rfl h
  | x :: xs, _ => rfl
/-- any of a list of ints -/
theorem anyL_ints (xs : List Int) : gAnyL [.list (xs.map PyData.int)] = some (.d (.bool (xs.any fun i => i != 0))) := by
  cases xs with
  | nil => rfl
  | cons x xs =>
    rw [gAnyL_lst, bools_ints (by simp)]
    have := ints_map (fun x : Int => x) (x :: xs)
    simp only [List.map_id'] at this
    show Option.map _ (intsOf ((x :: xs).map fun x => PyData.int x)) = _
    rw [this] <;> rfl
theorem Fine.repW {b d : Nat} {x : D} (h : Fine b d x) (hb : b ≤ 20000) (hd : d ≤ 50) : repOkW x = true := by
  unfold repOkW
  have h1 := PyData.shown_le_bulk 700 (by decide) x h.short
  have h2 := h.bulk
  have h3 := h.dep
  have h4 : x.shown.length ≤ line := by
    unfold line
    have : (700 + 2) * x.bulk ≤ (700 + 2) * 20000 := Nat.mul_le_mul_left _ (by omega)
    omega
  rw [h.shw, decide_eq_true h4, decide_eq_true (show x.depth ≤ 50 by omega)] <;> rfl
@[simp] theorem cNe_str {a b : Str} : cNe (.str a) (.str b) = some (.d (.bool (!PyData.eqv (.str a) (.str b)))) := by
  simp [cNe, eqOk, noItem, PyData.plain, PyData.depth]
theorem eqv_str_refl (a : Str) : PyData.eqv (.str a) (.str a) = true := by
  simp [PyData.eqv]
theorem reprW_ok {x : D} (h : repOkW x = true) : gReprW [x] = some (.d (.str x.shown)) := if_pos h
theorem Fine.raise {b d : Nat} {x : D} (b' d' : Nat) (h : Fine b d x) (hb : b ≤ b') (hd : d ≤ d') : Fine b' d' x := h.mono hb hd
theorem bRepT_ok {xs : List D} {k : Int} (h1 : 1 ≤ k) (h2 : k ≤ 1000) (h3 : xs.length ≤ 1000) (h4 : pairy xs = false) : bRepT (.tuple xs) (.int k) = some (.d (.tuple (List.replicate k.toNat xs).flatten)) := by
  refine if_pos ?_
  rw [decide_eq_true h1, decide_eq_true h2, decide_eq_true h3, h4] <;> rfl
theorem pairy_ints {xs : List Int} (h : xs ≠ []) : pairy (xs.map PyData.int) = false := by
  cases xs with
  | nil => exact absurd rfl h
  | cons x xs => rfl
theorem ints_id (xs : List Int) : intsOf (xs.map PyData.int) = some xs := by
  have := ints_map (fun x : Int => x) xs
  simpa using this
set_option autoImplicit false
/-- a loop that goes on to its end, with what holds each time -/
theorem for_inv {tg : Tg} {b : MS} {J : Nat → En → Prop} : ∀ (xs : List D) (i : Nat) (ρ : En), J i ρ →
    (∀ k x ρ, x ∈ xs → k < i + xs.length → J k ρ → ∃ ρ1 ρ2, tgSet tg x ρ = some ρ1 ∧ b ρ1 = .next ρ2 ∧ J (k + 1) ρ2) → ∃ ρ', forGo tg b xs ρ = .next ρ' ∧ J (i + xs.length) ρ'
  | [], i, ρ, hJ, _ => ⟨ρ, rfl, hJ⟩
  | x :: xs, i, ρ, hJ, h => by
    obtain ⟨ρ1, ρ2, h1, h2, h3⟩ := h i x ρ List.mem_cons_self (by rw [List.length_cons]; omega) hJ
    obtain ⟨ρ', k1, k2⟩ := for_inv xs (i + 1) ρ2 h3 fun k y ρ hy hk => h k y ρ (List.mem_cons_of_mem _ hy) (by rw [List.length_cons]; omega)
    refine ⟨ρ', ?_, ?_⟩
    · unfold forGo
      rw [h1]
      simp only [h2]
      exact k1
    · have e : i + 1 + xs.length = i + (x :: xs).length := by rw [List.length_cons]; omega
      rw [← e]
      exact k2
/-- of each part of what a comprehension makes -/
theorem each_of {P : D → Prop} {xs ys : List D} (hl : ys.length = xs.length) (h : ∀ (j : Nat) (x y : D), xs[j]? = some x → ys[j]? = some y → P y) : ∀ y ∈ ys, P y := fun y hy => by
  obtain ⟨j, hj⟩ := List.getElem?_of_mem hy
  have hlt : j < xs.length := by
    rw [← hl]
    exact (List.getElem?_eq_some_iff.mp hj).1
  exact h j _ y (List.getElem?_eq_getElem hlt) hj
theorem range1_nat {q : Nat} (h : q < 4611686018427387904) : range1 (.int q) = some (intsD 0 q) := by
  simp only [range1, small62_mk (i := (q : Int)) (by omega), if_pos, Int.toNat_natCast]
/-! slices -/
theorem slD_tup {xs : List D} {lo hi : Option Int} : slD (.tuple xs) lo hi = some (.d (.tuple (cutD xs lo hi))) := rfl
theorem cut_to {xs : List D} {i : Nat} : cutD xs none (some (i : Int)) = xs.take i := by
  unfold cutD cutLo cutHi clampI
  simp only [Option.elim_none, Option.elim_some, List.drop_zero, Nat.sub_zero, if_pos (Int.natCast_nonneg i), Int.toNat_natCast]
  by_cases h : i ≤ xs.length
  · rw [Nat.min_eq_left h]
  · rw [Nat.min_eq_right (by omega), List.take_length, List.take_of_length_le (by omega)]
theorem cut_from {xs : List D} {i : Int} (hi : 0 ≤ i) : cutD xs (some i) none = xs.drop i.toNat := by
  unfold cutD cutLo cutHi clampI
  simp only [Option.elim_none, Option.elim_some, if_pos hi]
  by_cases h : i.toNat ≤ xs.length
  · rw [Nat.min_eq_left h, List.take_of_length_le (by rw [List.length_drop]; omega)]
  · rw [Nat.min_eq_right (by omega), List.drop_length, List.drop_eq_nil_of_le (by omega)]
    simp
theorem cut_to1 {xs : List D} : cutD xs none (some (-1)) = xs.take (xs.length - 1) := by
  unfold cutD cutLo cutHi clampI
  simp only [Option.elim_none, Option.elim_some, List.drop_zero, Nat.sub_zero, if_neg (show ¬ (0 : Int) ≤ -1 by decide)]
  congr 1
  omega
theorem cut_from1 {xs : List D} : cutD xs (some (-1)) none = xs.drop (xs.length - 1) := by
  unfold cutD cutLo cutHi clampI
  simp only [Option.elim_none, Option.elim_some, if_neg (show ¬ (0 : Int) ≤ -1 by decide)]
  rw [show (-1 + (xs.length : Int)).toNat = xs.length - 1 by omega, List.take_of_length_le (by rw [List.length_drop]; omega)]
theorem mem_ints {lo : Int} {n : Nat} {x : D} (h : x ∈ intsD lo n) : ∃ k : Nat, k < n ∧ x = .int (lo + k) := by
  unfold intsD at h
  obtain ⟨k, hk, e⟩ := List.mem_map.mp h
  exact ⟨k, List.mem_range.mp hk, e.symm⟩
end MP
namespace MP
open PySem
/-- the same with what stands at each place -/
theorem for_at {tg : Tg} {b : MS} {J : Nat → En → Prop} : ∀ (xs : List D) (i : Nat) (ρ : En), J i ρ →
    (∀ k x ρ, xs[k]? = some x → J (i + k) ρ → ∃ ρ1 ρ2, tgSet tg x ρ = some ρ1 ∧ b ρ1 = .next ρ2 ∧ J (i + k + 1) ρ2) → ∃ ρ', forGo tg b xs ρ = .next ρ' ∧ J (i + xs.length) ρ'
  | [], i, ρ, hJ, _ => ⟨ρ, rfl, hJ⟩
  | x :: xs, i, ρ, hJ, h => by
    obtain ⟨ρ1, ρ2, h1, h2, h3⟩ := h 0 x ρ rfl hJ
    obtain ⟨ρ', k1, k2⟩ := for_at (J := J) xs (i + 1) ρ2 h3 fun k y ρ hy hJ => by
      have e : i + 1 + k = i + (k + 1) := by omega
      rw [e] at hJ ⊢
      exact h (k + 1) y ρ (by simpa using hy) hJ
    refine ⟨ρ', ?_, ?_⟩
    · unfold forGo
      rw [h1]
      simp only [h2]
      exact k1
    · have e : i + 1 + xs.length = i + (x :: xs).length := by rw [List.length_cons]; omega
      rw [← e]
      exact k2
theorem ints_ex {Q : Int → Prop} : ∀ {ys : List D}, (∀ y ∈ ys, ∃ z : Int, y = .int z ∧ Q z) → ∃ zs : List Int, ys = zs.map PyData.int ∧ ∀ z ∈ zs, Q z
  | [], _ => ⟨[], rfl, fun _ h => nomatch h⟩
  | y :: ys, h => by
    obtain ⟨z, rfl, hz⟩ := h y List.mem_cons_self
    obtain ⟨zs, rfl, hs⟩ := ints_ex fun w hw => h w (List.mem_cons_of_mem _ hw)
    exact ⟨z :: zs, rfl, fun w hw => by
      rcases List.mem_cons.mp hw with rfl | hw
      · exact hz
      · exact hs w hw⟩
theorem ix_nat {n k : Nat} (h : k < n) : ix n (k : Int) = some k := by
  unfold ix
  rw [if_pos (by omega), if_pos (by omega), Int.toNat_natCast]
theorem at_ints {xs : List Int} {k : Nat} (h : k < xs.length) : atD (xs.map PyData.int) (k : Int) = some (.int xs[k]) := by
  rw [atD_nat, List.getElem?_map, List.getElem?_eq_getElem h] <;> rfl
def OptD (t : Option SV) : Prop := t = none ∨ ∃ y : D, t = some (.d y)
theorem mul_small {i j : Int} (h0 : 0 ≤ i) (h : i < 1000000) : bMulI (.int i) (.int j) = some (.d (.int (i * j))) := mul_l (by omega)
theorem at_last {xs : List Int} (h : xs ≠ []) : atD (xs.map PyData.int) (-1) = some (.int (xs.getD (xs.length - 1) 0)) := by
  have hl := List.length_pos_iff.mpr h
  unfold atD ix
  rw [if_neg (by decide), if_pos (by rw [List.length_map]; omega)]
  show (xs.map PyData.int)[((-1 : Int) + ((xs.map PyData.int).length : Int)).toNat]? = _
  rw [List.length_map, show ((-1 : Int) + (xs.length : Int)).toNat = xs.length - 1 by omega, List.getElem?_map, List.getD_eq_getElem?_getD, List.getElem?_eq_getElem (by omega)] <;> rfl
theorem comp_ints {vs : List Nat} {tg : Tg} {e : ME} {ρ : En} {f : Int → Int} {xs : List Int} (h : ∀ x ∈ xs, ∃ ρa v, tgSet tg (.int x) (wipeE ρ vs) = some ρa ∧ e ρa = .ok v ρa ∧ toD v = some (.int (f x)) ∧ back ρ ρa vs = ρ) :
    compGo vs tg mYes e (xs.map PyData.int) [] ρ = .ok (.own (.lst ((xs.map f).map PyData.int))) ρ := by
  have e0 : (xs.map f).map PyData.int = [] ++ (xs.map PyData.int).map (fun x => match x with | .int z => .int (f z) | _ => .none) := by
    rw [List.nil_append, List.map_map, List.map_map]
    rfl
  rw [e0]
  refine comp_pure fun x hx => ?_
  obtain ⟨z, hz, rfl⟩ := List.mem_map.mp hx
  exact h z hz
end MP
end

section
set_option Elab.async false
set_option linter.all false
set_option maxRecDepth 100000
set_option maxHeartbeats 4000000
set_option autoImplicit false
/-! printed by gen.py -/
namespace K01
open PySem PySem.Spec L2 MP
abbrev prog : Program := PySem.Challenge.pw_nearadds_k01_rules_put_together
/-- what the top has written that the defs ask for -/
structure Tx (K : Fg) (mg : Str → Option Value) : Prop where
  m_abs : mg "abs" = none
  m_all : mg "all" = none
  m_bool : mg "bool" = none
  m_dict : mg "dict" = none
  m_enumerate : mg "enumerate" = none
  m_int : mg "int" = none
  m_isinstance : mg "isinstance" = none
  m_len : mg "len" = none
  m_list : mg "list" = none
  m_max : mg "max" = none
  m_min : mg "min" = none
  m_range : mg "range" = none
  m_repr : mg "repr" = none
  m_reversed : mg "reversed" = none
  m_sorted : mg "sorted" = none
  m_sum : mg "sum" = none
  m_tuple : mg "tuple" = none
  m_zip : mg "zip" = none
  e_BITS : ∃ t, mg "BITS" = some (.int 24 t)
  e_MASK : ∃ t, mg "MASK" = some (.int 16777215 t)
  e_PRIMES : ∃ ad, KTabT K ad [(2, [2]), (3, [3]), (5, [5]), (6, [2, 3]), (7, [7]), (10, [2, 5]), (11, [11]), (13, [13]), (14, [2, 7]), (15, [3, 5])] ∧ mg "PRIMES" = some (.ref ad)
/-! is_integer -/
def st_is_integer : Stmt := prog.main.body.getD 8 (.Pass ⟨0, 0, 0, 0⟩)
def N_is_integer : List Str := ["value"]
def b_is_integer : MS := (sRet (mAnd (m1 (isinst "int") (mV 0)) (mNot (m1 (isinst "bool") (mV 0)))))
def f_is_integer : F := semDef 1 b_is_integer
/-! is_modulus -/
def st_is_modulus : Stmt := prog.main.body.getD 10 (.Pass ⟨0, 0, 0, 0⟩)
def N_is_modulus : List Str := ["value"]
def b_is_modulus : MS := (sRet (mAnd (mCall f_is_integer [(mV 0)]) (m1 (cInT [2, 3, 5, 6, 7, 10, 11, 13, 14, 15]) (mV 0))))
def f_is_modulus : F := semDef 1 b_is_modulus
/-! primes_in -/
def st_primes_in : Stmt := prog.main.body.getD 11 (.Pass ⟨0, 0, 0, 0⟩)
def N_primes_in : List Str := ["modulus"]
def b_primes_in : MS := (sRet (m1 (gTab [(2, [2]), (3, [3]), (5, [5]), (6, [2, 3]), (7, [7]), (10, [2, 5]), (11, [11]), (13, [13]), (14, [2, 7]), (15, [3, 5])]) (mV 0)))
def f_primes_in : F := semDef 1 b_primes_in
/-! are_pairs -/
def st_are_pairs : Stmt := prog.main.body.getD 12 (.Pass ⟨0, 0, 0, 0⟩)
def N_are_pairs : List Str := ["value", "modulus", "pair", "part", "at"]
def lb_are_pairs_0 : MS := (sSeq (sIf (kOr (kNot (mTr (m1 (isinst "tuple") (mV 2)))) (kOr (mTr (m2 cNe (mB lenD [(mV 2)]) (mC (.int 2)))) (kNot (mTr (mB gAll [(mComp [3] (.n 3) (i1 seqD (mV 2)) mYes (mCall f_is_integer [(mV 3)]))]))))) (sRet (mC (.bool false))) sNext)
    (sIf (kNot (mTr (mCh cLe cLt (mC (.int 1)) (m2 bIdx (mV 2) (mC (.int 1))) (mV 1)))) (sRet (mC (.bool false))) sNext))
def b_are_pairs : MS := (sSeq (sIf (kNot (mTr (m1 (isinst "tuple") (mV 0)))) (sRet (mC (.bool false))) sNext)
    (sSeq (sFor (.n 2) (i1 seqD (mV 0)) lb_are_pairs_0)
    (sRet (mB gAll [(mComp [4] (.n 4) (i1 range1 (m2 bSub (mB lenD [(mV 0)]) (mC (.int 1)))) mYes (m2 cLt (m2 bIdx (m2 bIdx (mV 0) (mV 4)) (mC (.int 0))) (m2 bIdx (m2 bIdx (mV 0) (m2 bAdd (mV 4) (mC (.int 1)))) (mC (.int 0)))))]))))
def f_are_pairs : F := semDef 5 b_are_pairs
/-! is_of_modulus -/
def st_is_of_modulus : Stmt := prog.main.body.getD 13 (.Pass ⟨0, 0, 0, 0⟩)
def N_is_of_modulus : List Str := ["value"]
def b_is_of_modulus : MS := (sRet (mAnd (m1 (isinst "tuple") (mV 0)) (mAnd (m2 cEq (mB lenD [(mV 0)]) (mC (.int 2))) (mAnd (mCall f_is_modulus [(m2 bIdx (mV 0) (mC (.int 0)))]) (m1 (isinst "tuple") (m2 bIdx (mV 0) (mC (.int 1))))))))
def f_is_of_modulus : F := semDef 1 b_is_of_modulus
/-! is_a_rule -/
def st_is_a_rule : Stmt := prog.main.body.getD 14 (.Pass ⟨0, 0, 0, 0⟩)
def N_is_a_rule : List Str := ["value"]
def b_is_a_rule : MS := (sRet (mAnd (mCall f_is_of_modulus [(mV 0)]) (mCall f_are_pairs [(m2 bIdx (mV 0) (mC (.int 1))), (m2 bIdx (mV 0) (mC (.int 0)))])))
def f_is_a_rule : F := semDef 1 b_is_a_rule
/-! need_modulus -/
def st_need_modulus : Stmt := prog.main.body.getD 15 (.Pass ⟨0, 0, 0, 0⟩)
def N_need_modulus : List Str := ["modulus"]
def b_need_modulus : MS := (sIf (kNot (mTr (mCall f_is_modulus [(mV 0)]))) sNever sNext)
def f_need_modulus : F := semDef 1 b_need_modulus
/-! need_rule -/
def st_need_rule : Stmt := prog.main.body.getD 16 (.Pass ⟨0, 0, 0, 0⟩)
def N_need_rule : List Str := ["rule"]
def b_need_rule : MS := (sIf (kNot (mTr (mCall f_is_a_rule [(mV 0)]))) sNever sNext)
def f_need_rule : F := semDef 1 b_need_rule
/-! need_same -/
def st_need_same : Stmt := prog.main.body.getD 17 (.Pass ⟨0, 0, 0, 0⟩)
def N_need_same : List Str := ["one", "other"]
def b_need_same : MS := (sIf (mTr (m2 cNe (m2 bIdx (mV 0) (mC (.int 0))) (m2 bIdx (mV 1) (mC (.int 0))))) sNever sNext)
def f_need_same : F := semDef 2 b_need_same
/-! need_number -/
def st_need_number : Stmt := prog.main.body.getD 18 (.Pass ⟨0, 0, 0, 0⟩)
def N_need_number : List Str := ["number", "low", "high"]
def b_need_number : MS := (sIf (kOr (mTr (m2 cLt (mV 0) (mV 1))) (kAnd (mTr (m1 cNotN (mV 2))) (mTr (m2 cGt (mV 0) (mV 2))))) sNever sNext)
def f_need_number : F := semDef 3 b_need_number
/-! together -/
def st_together : Stmt := prog.main.body.getD 20 (.Pass ⟨0, 0, 0, 0⟩)
def N_together : List Str := ["modulus", "rests", "primes", "value", "prime", "rest"]
def lb_together_0 : MS := (sIf (mTr (mB gAll [(mComp [4, 5] (.t [(.n 4), (.n 5)]) (iA zipA3 [(mV 2), (mV 1)]) mYes (m2 cEq (m2 bMod (mV 3) (mV 4)) (mV 5)))])) (sRet (mV 3)) sNext)
def b_together : MS := (sSeq (sSet false 2 (mCall f_primes_in [(mV 0)]))
    (sSeq (sFor (.n 3) (i1 range1 (mV 0)) lb_together_0)
    (sRet (mC (.int 0)))))
def f_together : F := semDef 6 b_together
/-! trimmed -/
def st_trimmed : Stmt := prog.main.body.getD 24 (.Pass ⟨0, 0, 0, 0⟩)
def N_trimmed : List Str := ["numbers", "prime", "found", "number"]
def fu_trimmed_0 : En → Nat := fun _ => 4000
def lb_trimmed_0 : MS := (sExpr (mCell0 2 gPop))
def b_trimmed : MS := (sSeq (sSet true 2 (mComp [3] (.n 3) (i1 seqD (mV 0)) mYes (m2 bMod (mV 3) (mV 1))))
    (sSeq (sWhile fu_trimmed_0 (kAnd (mTr (m2 cGt (mB lenD [(mV 2)]) (mC (.int 0)))) (mTr (m2 cEq (m2 bIdx (mV 2) (m1 uNeg (mC (.int 1)))) (mC (.int 0))))) lb_trimmed_0)
    (sRet (mV 2))))
def f_trimmed : F := semDef 4 b_trimmed
/-! in_one -/
def st_in_one : Stmt := prog.main.body.getD 25 (.Pass ⟨0, 0, 0, 0⟩)
def N_in_one : List Str := ["one", "found", "number"]
def lb_in_one_0 : MS := (sSet false 1 (m2 bBor (m2 bShl (mV 1) (mC (.int 24))) (mV 2)))
def b_in_one : MS := (sSeq (sSet false 1 (mC (.int 0)))
    (sSeq (sFor (.n 2) (i1 revL (mV 0)) lb_in_one_0)
    (sRet (mV 1))))
def f_in_one : F := semDef 3 b_in_one
/-! times_in_one -/
def st_times_in_one : Stmt := prog.main.body.getD 26 (.Pass ⟨0, 0, 0, 0⟩)
def N_times_in_one : List Str := ["one", "other", "prime", "left", "found"]
def fu_times_in_one_0 : En → Nat := fun _ => 4000
def lb_times_in_one_0 : MS := (sSeq (sExpr (mCell1 4 gApp (m2 bBand (mV 3) (mC (.int 16777215)))))
    (sSet false 3 (m2 bShr (mV 3) (mC (.int 24)))))
def b_times_in_one : MS := (sSeq (sPar2 0 3 1 4 (m2 bMulI (mCall f_in_one [(mV 0)]) (mCall f_in_one [(mV 1)])) (mLst []))
    (sSeq (sWhile fu_times_in_one_0 (mTr (m2 cGt (mV 3) (mC (.int 0)))) lb_times_in_one_0)
    (sFrz [4] (sRet (mCall f_trimmed [(mV 4), (mV 2)])))))
def f_times_in_one : F := semDef 5 b_times_in_one
/-! times -/
def st_times : Stmt := prog.main.body.getD 27 (.Pass ⟨0, 0, 0, 0⟩)
def N_times : List Str := ["one", "other", "prime", "found", "at", "number", "further", "factor"]
def lb_times_0 : MS := (sAugI 3 bAddI (m2 bAdd (mV 4) (mV 6)) (m2 bMulI (mV 5) (mV 7)))
def lb_times_1 : MS := (sIf (mTr (m2 cNe (mV 5) (mC (.int 0)))) (sFor (.t [(.n 6), (.n 7)]) (i1 enumD (mV 1)) lb_times_0) sNext)
def b_times : MS := (sSeq (sIf (kOr (mTr (m2 cEq (mB lenD [(mV 0)]) (mC (.int 0)))) (mTr (m2 cEq (mB lenD [(mV 1)]) (mC (.int 0))))) (sRet (mLst [])) sNext)
    (sSeq (sIf (mTr (m2 cGt (m2 bMulI (mB lenD [(mV 0)]) (mB lenD [(mV 1)])) (mC (.int 300)))) (sRet (mCall f_times_in_one [(mV 0), (mV 1), (mV 2)])) sNext)
    (sSeq (sSet true 3 (mRep (mLst [(mC (.int 0))]) (m2 bSub (m2 bAdd (mB lenD [(mV 0)]) (mB lenD [(mV 1)])) (mC (.int 1)))))
    (sSeq (sFor (.t [(.n 4), (.n 5)]) (i1 enumD (mV 0)) lb_times_1)
    (sFrz [3] (sRet (mCall f_trimmed [(mV 3), (mV 2)])))))))
def f_times : F := semDef 8 b_times
/-! raised -/
def st_raised : Stmt := prog.main.body.getD 28 (.Pass ⟨0, 0, 0, 0⟩)
def N_raised : List Str := ["one", "number", "prime", "found", "square", "left"]
def fu_raised_0 : En → Nat := fun _ => 4000
def lb_raised_0 : MS := (sSeq (sIf (mTr (m2 cEq (m2 bMod (mV 5) (mC (.int 2))) (mC (.int 1)))) (sSet false 3 (mCall f_times [(mV 3), (mV 4), (mV 2)])) sNext)
    (sSeq (sSet false 5 (m2 bDiv (mV 5) (mC (.int 2))))
    (sIf (mTr (m2 cGt (mV 5) (mC (.int 0)))) (sSet false 4 (mCall f_times [(mV 4), (mV 4), (mV 2)])) sNext)))
def b_raised : MS := (sSeq (sPar3 0 3 0 4 0 5 (mLst [(mC (.int 1))]) (mV 0) (mV 1))
    (sSeq (sWhile fu_raised_0 (mTr (m2 cGt (mV 5) (mC (.int 0)))) lb_raised_0)
    (sRet (mV 3))))
def f_raised : F := semDef 6 b_raised
/-! of_terms -/
def st_of_terms : Stmt := prog.main.body.getD 29 (.Pass ⟨0, 0, 0, 0⟩)
def N_of_terms : List Str := ["terms", "prime", "left", "low", "found", "offset", "factor"]
def lb_of_terms_0 : MS := (sItem 4 (m2 bSub (mV 5) (mV 3)) (mV 6))
def b_of_terms : MS := (sSeq (sSet false 2 (mComp [5, 6] (.t [(.n 5), (.n 6)]) (i1 seqD (mV 0)) (mTr (m2 cNe (m2 bMod (mV 6) (mV 1)) (mC (.int 0)))) (mTup [(mV 5), (m2 bMod (mV 6) (mV 1))])))
    (sSeq (sIf (mTr (m2 cEq (mB lenD [(mV 2)]) (mC (.int 0)))) (sRet (mC .none)) sNext)
    (sSeq (sSet false 3 (m2 bIdx (m2 bIdx (mV 2) (mC (.int 0))) (mC (.int 0))))
    (sSeq (sSet true 4 (mRep (mLst [(mC (.int 0))]) (m2 bAdd (m2 bSub (m2 bIdx (m2 bIdx (mV 2) (m1 uNeg (mC (.int 1)))) (mC (.int 0))) (mV 3)) (mC (.int 1)))))
    (sSeq (sFor (.t [(.n 5), (.n 6)]) (i1 seqD (mV 2)) lb_of_terms_0)
    (sFrz [4] (sRet (mTup [(mV 3), (mV 4)]))))))))
def f_of_terms : F := semDef 7 b_of_terms
/-! to_terms -/
def st_to_terms : Stmt := prog.main.body.getD 30 (.Pass ⟨0, 0, 0, 0⟩)
def N_to_terms : List Str := ["low", "one", "at", "number"]
def b_to_terms : MS := (sRet (mB gTup [(mComp [2, 3] (.t [(.n 2), (.n 3)]) (i1 enumD (mV 1)) (mTr (m2 cNe (mV 3) (mC (.int 0)))) (mTup [(m2 bAdd (mV 0) (mV 2)), (mV 3)]))]))
def f_to_terms : F := semDef 4 b_to_terms
/-! primes_of -/
def st_primes_of : Stmt := prog.main.body.getD 32 (.Pass ⟨0, 0, 0, 0⟩)
def N_primes_of : List Str := ["modulus"]
def b_primes_of : MS := (sSeq (sExpr (mCall f_need_modulus [(mV 0)]))
    (sRet (mB gLst [(mCall f_primes_in [(mV 0)])])))
def f_primes_of : F := semDef 1 b_primes_of
/-! still -/
def st_still : Stmt := prog.main.body.getD 33 (.Pass ⟨0, 0, 0, 0⟩)
def N_still : List Str := ["modulus"]
def b_still : MS := (sSeq (sExpr (mCall f_need_modulus [(mV 0)]))
    (sRet (mTup [(mV 0), (mTup [(mTup [(mC (.int 0)), (mC (.int 1))])])])))
def f_still : F := semDef 1 b_still
/-! collected -/
def st_collected : Stmt := prog.main.body.getD 34 (.Pass ⟨0, 0, 0, 0⟩)
def N_collected : List Str := ["pairs", "modulus", "found", "place", "value"]
def lb_collected_0 : MS := (sDItem 2 (mV 3) (m2 bAdd (mGet (mV 2) (mV 3) (mC (.int 0))) (mV 4)))
def b_collected : MS := (sSeq (sSet true 2 mDct0)
    (sSeq (sFor (.t [(.n 3), (.n 4)]) (i1 seqD (mV 0)) lb_collected_0)
    (sRet (mB gTup [(mComp [3] (.n 3) (i1 seqD (mB gSortD [(mV 2)])) (mTr (m2 cNe (m2 bMod (m2 bIdxD (mV 2) (mV 3)) (mV 1)) (mC (.int 0)))) (mTup [(mV 3), (m2 bMod (m2 bIdxD (mV 2) (mV 3)) (mV 1))]))]))))
def f_collected : F := semDef 5 b_collected
/-! plus -/
def st_plus : Stmt := prog.main.body.getD 35 (.Pass ⟨0, 0, 0, 0⟩)
def N_plus : List Str := ["one", "other"]
def b_plus : MS := (sSeq (sExpr (mCall f_need_rule [(mV 0)]))
    (sSeq (sExpr (mCall f_need_rule [(mV 1)]))
    (sSeq (sExpr (mCall f_need_same [(mV 0), (mV 1)]))
    (sRet (mTup [(m2 bIdx (mV 0) (mC (.int 0))), (mCall f_collected [(m2 bAdd (m2 bIdx (mV 0) (mC (.int 1))) (m2 bIdx (mV 1) (mC (.int 1)))), (m2 bIdx (mV 0) (mC (.int 0)))])])))))
def f_plus : F := semDef 2 b_plus
/-! behind -/
def st_behind : Stmt := prog.main.body.getD 36 (.Pass ⟨0, 0, 0, 0⟩)
def N_behind : List Str := ["one", "other", "pairs", "offset", "factor", "further", "number"]
def b_behind : MS := (sSeq (sExpr (mCall f_need_rule [(mV 0)]))
    (sSeq (sExpr (mCall f_need_rule [(mV 1)]))
    (sSeq (sExpr (mCall f_need_same [(mV 0), (mV 1)]))
    (sSeq (sSet false 2 (mComp2 [3, 4, 5, 6] (.t [(.n 3), (.n 4)]) (i1 seqD (m2 bIdx (mV 0) (mC (.int 1)))) mYes [5, 6] (.t [(.n 5), (.n 6)]) (i1 seqD (m2 bIdx (mV 1) (mC (.int 1)))) mYes (mTup [(m2 bAdd (mV 3) (mV 5)), (m2 bMulI (mV 4) (mV 6))])))
    (sRet (mTup [(m2 bIdx (mV 0) (mC (.int 0))), (mCall f_collected [(mV 2), (m2 bIdx (mV 0) (mC (.int 0)))])]))))))
def f_behind : F := semDef 7 b_behind
/-! from_parts -/
def st_from_parts : Stmt := prog.main.body.getD 37 (.Pass ⟨0, 0, 0, 0⟩)
def N_from_parts : List Str := ["modulus", "parts", "tables", "offsets", "values", "part", "offset", "factor", "table", "value"]
def b_from_parts : MS := (sSeq (sSet false 2 (mComp [5] (.n 5) (i1 seqD (mV 1)) mYes (mB gDct [(mV 5)])))
    (sSeq (sSet false 3 (mSortS [5, 6, 7] (.n 5) (i1 seqD (mV 1)) mYes [6, 7] (.t [(.n 6), (.n 7)]) (i1 seqD (mV 5)) mYes (mV 6)))
    (sSeq (sSet false 4 (mComp [6] (.n 6) (i1 seqD (mV 3)) mYes (mTup [(mV 6), (mCall f_together [(mV 0), (mComp [8] (.n 8) (i1 seqD (mV 2)) mYes (mGet (mV 8) (mV 6) (mC (.int 0))))])])))
    (sRet (mTup [(mV 0), (mB gTup [(mComp [6, 9] (.t [(.n 6), (.n 9)]) (i1 seqD (mV 4)) (mTr (m2 cNe (mV 9) (mC (.int 0)))) (mTup [(mV 6), (mV 9)]))])])))))
def f_from_parts : F := semDef 10 b_from_parts
/-! power -/
def st_power : Stmt := prog.main.body.getD 38 (.Pass ⟨0, 0, 0, 0⟩)
def N_power : List Str := ["rule", "times", "parts", "prime", "told"]
def lb_power_0 : MS := (sSeq (sSet false 4 (mCall f_of_terms [(m2 bIdx (mV 0) (mC (.int 1))), (mV 3)]))
    (sIf (mTr (m1 cIsN (mV 4))) (sExpr (mCell1 2 gApp (mTup []))) (sExpr (mCell1 2 gApp (mCall f_to_terms [(m2 bMulI (m2 bIdx (mV 4) (mC (.int 0))) (mV 1)), (mCall f_raised [(m2 bIdx (mV 4) (mC (.int 1))), (mV 1), (mV 3)])])))))
def b_power : MS := (sSeq (sExpr (mCall f_need_rule [(mV 0)]))
    (sSeq (sExpr (mCall f_need_number [(mV 1), (mC (.int 0)), (mC (.int 40))]))
    (sSeq (sIf (mTr (m2 cEq (mV 1) (mC (.int 0)))) (sRet (mTup [(m2 bIdx (mV 0) (mC (.int 0))), (mTup [(mTup [(mC (.int 0)), (mC (.int 1))])])])) sNext)
    (sSeq (sSet true 2 (mLst []))
    (sSeq (sFor (.n 3) (i1 seqD (mCall f_primes_in [(m2 bIdx (mV 0) (mC (.int 0)))])) lb_power_0)
    (sFrz [2] (sRet (mCall f_from_parts [(m2 bIdx (mV 0) (mC (.int 0))), (mV 2)]))))))))
def f_power : F := semDef 5 b_power
/-! _law_source -/
def st__law_source : Stmt := prog.main.body.getD 40 (.Pass ⟨0, 0, 0, 0⟩)
def N__law_source : List Str := ["_law_script", "_law_k", "_law_cell", "_law_crowd", "_law_seed", "_law_place", "_law_other"]
def b__law_source : MS := (sSeq (sSet false 2 (m2 bAdd (m2 bMulI (mC (.int 31)) (mV 1)) (mC (.int 19))))
    (sSeq (sIf (mTr (m2 cLt (mV 1) (mB lenD [(mV 0)]))) (sSet false 2 (m2 bIdx (mV 0) (mV 1))) sNext)
    (sSeq (sSet false 3 (m2 bAdd (mB gSum [(mComp [5, 6] (.t [(.n 5), (.n 6)]) (i1 enumD (mV 0)) mYes (m2 bMulI (m2 bMod (mB gInt [(mV 6)]) (m2 bAdd (m2 bPow (mC (.int 10)) (mC (.int 20))) (mC (.int 39)))) (m2 bAdd (mV 5) (mC (.int 3)))))]) (m2 bMulI (mC (.int 73)) (mB lenD [(mV 0)]))))
    (sSeq (sSet false 4 (m2 bMod (mB gInt [(m2 bAdd (m2 bAdd (m2 bAdd (m2 bMulI (mB gAbs [(mV 2)]) (mC (.int 48017))) (m2 bMulI (mC (.int 5)) (mB gInt [(m2 cLt (mV 2) (mC (.int 0)))]))) (m2 bMulI (mV 3) (mC (.int 6367)))) (mV 1))]) (m2 bAdd (m2 bPow (mC (.int 10)) (mC (.int 27))) (mC (.int 103)))))
    (sRet (mLst [(mB gMax [(mC (.int 0)), (m2 bSub (mV 2) (m2 bPow (mC (.int 10)) (mC (.int 18))))]), (mV 4), (mC (.int 0))]))))))
def f__law_source : F := semDef 7 b__law_source
/-! _law_pick -/
def st__law_pick : Stmt := prog.main.body.getD 41 (.Pass ⟨0, 0, 0, 0⟩)
def N__law_pick : List Str := ["_law_source_here", "_law_many", "_law_found", "_law_stir"]
def b__law_pick : MS := (sSeq (sIf (mTr (m2 cGt (m2 bIdx (mV 0) (mC (.int 0))) (mC (.int 0)))) (sSeq (sSet false 2 (m2 bMod (mB gInt [(m2 bIdx (mV 0) (mC (.int 0)))]) (mV 1)))
    (sSeq (sItem 0 (mC (.int 0)) (m2 bDiv (m2 bIdx (mV 0) (mC (.int 0))) (mV 1)))
    (sRet (mV 2)))) sNext)
    (sSeq (sItem 0 (mC (.int 2)) (m2 bAdd (m2 bIdx (mV 0) (mC (.int 2))) (mC (.int 1))))
    (sSeq (sSet false 3 (m2 bMod (mB gInt [(m2 bAdd (m2 bPow (m2 bAdd (m2 bIdx (mV 0) (mC (.int 1))) (m2 bMulI (mC (.int 773741389)) (m2 bIdx (mV 0) (mC (.int 2))))) (mC (.int 3))) (m2 bMulI (mC (.int 11)) (m2 bIdx (mV 0) (mC (.int 2)))))]) (m2 bAdd (m2 bPow (mC (.int 10)) (mC (.int 28))) (mC (.int 331)))))
    (sSeq (sSet false 3 (m2 bMod (mB gInt [(m2 bMulI (mV 3) (m2 bAdd (mV 3) (m2 bMulI (mC (.int 5413)) (m2 bIdx (mV 0) (mC (.int 2))))))]) (m2 bAdd (m2 bPow (mC (.int 10)) (mC (.int 26))) (mC (.int 67)))))
    (sRet (m2 bMod (mB gInt [(m2 bDiv (mV 3) (mC (.int 7331)))]) (mV 1)))))))
def f__law_pick : F := semDef 4 b__law_pick
/-! _law_primes -/
def st__law_primes : Stmt := prog.main.body.getD 42 (.Pass ⟨0, 0, 0, 0⟩)
def N__law_primes : List Str := ["_law_modulus_here", "_law_prime"]
def b__law_primes : MS := (sRet (mComp [1] (.n 1) (i1 seqD (mLst [(mC (.int 2)), (mC (.int 3)), (mC (.int 5)), (mC (.int 7)), (mC (.int 11)), (mC (.int 13))])) (mTr (m2 cEq (m2 bMod (mB gInt [(mV 0)]) (mV 1)) (mC (.int 0)))) (mV 1)))
def f__law_primes : F := semDef 2 b__law_primes
/-! _law_modulus -/
def st__law_modulus : Stmt := prog.main.body.getD 43 (.Pass ⟨0, 0, 0, 0⟩)
def N__law_modulus : List Str := ["_law_source_here"]
def b__law_modulus : MS := (sRet (m2 bIdx (mLst [(mC (.int 2)), (mC (.int 3)), (mC (.int 5)), (mC (.int 6)), (mC (.int 7)), (mC (.int 10)), (mC (.int 11)), (mC (.int 13)), (mC (.int 14)), (mC (.int 15))]) (mCall f__law_pick [(mV 0), (mC (.int 10))])))
def f__law_modulus : F := semDef 1 b__law_modulus
/-! _law_factor -/
def st__law_factor : Stmt := prog.main.body.getD 44 (.Pass ⟨0, 0, 0, 0⟩)
def N__law_factor : List Str := ["_law_source_here", "_law_modulus_here", "_law_share"]
def b__law_factor : MS := (sRet (m2 bMulI (mV 2) (m2 bAdd (mC (.int 1)) (mCall f__law_pick [(mV 0), (m2 bSub (m2 bDiv (mV 1) (mV 2)) (mC (.int 1)))]))))
def f__law_factor : F := semDef 3 b__law_factor
/-! _law_terms -/
def st__law_terms : Stmt := prog.main.body.getD 45 (.Pass ⟨0, 0, 0, 0⟩)
def N__law_terms : List Str := ["_law_source_here", "_law_modulus_here", "_law_way", "_law_primes_here", "_law_share", "_law_marks", "_law_offsets", "_law_offset"]
def b__law_terms : MS := (sSeq (sPar2 0 2 0 3 (mCall f__law_pick [(mV 0), (mC (.int 8))]) (mCall f__law_primes [(mV 1)]))
    (sSeq (sUnp (.t [(.n 4), (.n 5)]) (mTup [(mC (.int 1)), (mComp [7] (.n 7) (i1 range1 (mC (.int 9))) mYes (mCall f__law_pick [(mV 0), (mC (.int 3))]))]))
    (sSeq (sSet false 6 (mComp [7] (.n 7) (i2 range2 (m1 uNeg (mC (.int 4))) (mC (.int 5))) (mTr (m2 cGt (m2 bIdx (mV 5) (m2 bAdd (mV 7) (mC (.int 4)))) (mC (.int 0)))) (mV 7)))
    (sSeq (sIf (mTr (m2 cLt (mV 2) (mC (.int 3)))) (sSet false 6 (mSl (mV 6) none (some (mV 2)))) sNext)
    (sSeq (sIf (kAnd (mTr (m2 cGt (mV 2) (mC (.int 5)))) (mTr (m2 cEq (mB lenD [(mV 3)]) (mC (.int 2))))) (sSet false 4 (m2 bIdx (mV 3) (m2 bSub (mV 2) (mC (.int 6))))) sNext)
    (sRet (mB gTup [(mComp [7] (.n 7) (i1 seqD (mV 6)) mYes (mTup [(mV 7), (mCall f__law_factor [(mV 0), (mV 1), (mV 4)])]))])))))))
def f__law_terms : F := semDef 8 b__law_terms
/-! _law_tidy -/
def st__law_tidy : Stmt := prog.main.body.getD 46 (.Pass ⟨0, 0, 0, 0⟩)
def N__law_tidy : List Str := ["_law_table", "_law_modulus_here", "_law_place"]
def b__law_tidy : MS := (sRet (mB gTup [(mComp [2] (.n 2) (i1 seqD (mB gSortD [(mV 0)])) (mTr (m2 cNe (m2 bMod (mB gInt [(m2 bIdxD (mV 0) (mV 2))]) (mV 1)) (mC (.int 0)))) (mTup [(mV 2), (m2 bMod (mB gInt [(m2 bIdxD (mV 0) (mV 2))]) (mV 1))]))]))
def f__law_tidy : F := semDef 3 b__law_tidy
/-! _law_product -/
def st__law_product : Stmt := prog.main.body.getD 47 (.Pass ⟨0, 0, 0, 0⟩)
def N__law_product : List Str := ["_law_one", "_law_other", "_law_modulus_here", "_law_table", "_law_offset", "_law_factor_here", "_law_further", "_law_number"]
def lb__law_product_0 : MS := (sDItem 3 (m2 bAdd (mV 4) (mV 6)) (m2 bAdd (mGet (mV 3) (m2 bAdd (mV 4) (mV 6)) (mC (.int 0))) (m2 bMulI (mV 5) (mV 7))))
def lb__law_product_1 : MS := (sFor (.t [(.n 6), (.n 7)]) (i1 seqD (mV 1)) lb__law_product_0)
def b__law_product : MS := (sSeq (sSet true 3 mDct0)
    (sSeq (sFor (.t [(.n 4), (.n 5)]) (i1 seqD (mV 0)) lb__law_product_1)
    (sFrz [3] (sRet (mCall f__law_tidy [(mV 3), (mV 2)])))))
def f__law_product : F := semDef 8 b__law_product
/-! _law_power -/
def st__law_power : Stmt := prog.main.body.getD 48 (.Pass ⟨0, 0, 0, 0⟩)
def N__law_power : List Str := ["_law_terms_here", "_law_times", "_law_modulus_here", "_law_found", "_law_turn"]
def lb__law_power_0 : MS := (sSet false 3 (mCall f__law_product [(mV 3), (mV 0), (mV 2)]))
def b__law_power : MS := (sSeq (sSet false 3 (mTup [(mTup [(mC (.int 0)), (mC (.int 1))])]))
    (sSeq (sFor (.n 4) (i1 range1 (mV 1)) lb__law_power_0)
    (sRet (mV 3))))
def f__law_power : F := semDef 5 b__law_power
/-! _law_sum -/
def st__law_sum : Stmt := prog.main.body.getD 49 (.Pass ⟨0, 0, 0, 0⟩)
def N__law_sum : List Str := ["_law_one", "_law_other", "_law_modulus_here", "_law_table", "_law_offset", "_law_factor_here"]
def lb__law_sum_0 : MS := (sDItem 3 (mV 4) (m2 bAdd (mGet (mV 3) (mV 4) (mC (.int 0))) (mV 5)))
def b__law_sum : MS := (sSeq (sSet true 3 mDct0)
    (sSeq (sFor (.t [(.n 4), (.n 5)]) (i1 seqD (m2 bAdd (mV 0) (mV 1))) lb__law_sum_0)
    (sFrz [3] (sRet (mCall f__law_tidy [(mV 3), (mV 2)])))))
def f__law_sum : F := semDef 6 b__law_sum
/-! _law_small_right -/
def st__law_small_right : Stmt := prog.main.body.getD 50 (.Pass ⟨0, 0, 0, 0⟩)
def N__law_small_right : List Str := ["_law_modulus_here", "_law_told"]
def b__law_small_right : MS := (sSeq (sSet true 1 (mCall f_primes_of [(mV 0)]))
    (sSeq (sIf (kOr (mTr (m2 cNe (mB gReprW [(mV 1)]) (mB gReprW [(mCall f__law_primes [(mV 0)])]))) (mTr (m2 cNe (mB gReprW [(mCall f_still [(mV 0)])]) (mB gReprW [(mTup [(mV 0), (mTup [(mTup [(mC (.int 0)), (mC (.int 1))])])])])))) (sRet (mC (.bool false))) sNext)
    (sSeq (sExpr (mCell1 1 gApp (mC (.int 4))))
    (sSeq (sIf (mTr (m2 cNe (mB gReprW [(mCallK f_still [0] [(mV 0)])]) (mB gReprW [(mTup [(mV 0), (mTup [(mTup [(mC (.int 0)), (mC (.int 1))])])])]))) (sRet (mC (.bool false))) sNext)
    (sRet (m2 cEq (mB gReprW [(mCallK f_primes_of [0] [(mV 0)])]) (mB gReprW [(mCall f__law_primes [(mV 0)])])))))))
def f__law_small_right : F := semDef 2 b__law_small_right
/-! _law_two_right -/
def st__law_two_right : Stmt := prog.main.body.getD 51 (.Pass ⟨0, 0, 0, 0⟩)
def N__law_two_right : List Str := ["_law_one", "_law_other", "_law_modulus_here", "_law_due"]
def b__law_two_right : MS := (sSeq (sSet false 2 (m2 bIdx (mV 0) (mC (.int 0))))
    (sSeq (sSet false 3 (mB gReprW [(mTup [(mV 2), (mCall f__law_product [(m2 bIdx (mV 0) (mC (.int 1))), (m2 bIdx (mV 1) (mC (.int 1))), (mV 2)])])]))
    (sSeq (sIf (kOr (mTr (m2 cNe (mB gReprW [(mCall f_behind [(mV 0), (mV 1)])]) (mV 3))) (kOr (mTr (m2 cNe (mB gReprW [(mCall f_behind [(mV 1), (mV 0)])]) (mV 3))) (mTr (m2 cNe (mB gReprW [(mCallK f_behind [1, 0] [(mV 1), (mV 0)])]) (mV 3))))) (sRet (mC (.bool false))) sNext)
    (sSeq (sSet false 3 (mB gReprW [(mTup [(mV 2), (mCall f__law_sum [(m2 bIdx (mV 0) (mC (.int 1))), (m2 bIdx (mV 1) (mC (.int 1))), (mV 2)])])]))
    (sRet (mAnd (m2 cEq (mB gReprW [(mCall f_plus [(mV 0), (mV 1)])]) (mV 3)) (m2 cEq (mB gReprW [(mCallK f_plus [1, 0] [(mV 0), (mV 1)])]) (mV 3))))))))
def f__law_two_right : F := semDef 4 b__law_two_right
/-! _law_wide_right -/
def st__law_wide_right : Stmt := prog.main.body.getD 52 (.Pass ⟨0, 0, 0, 0⟩)
def N__law_wide_right : List Str := ["_law_source_here", "_law_one", "_law_other", "_law_modulus_here", "_law_times", "_law_wide", "_law_far", "_law_first", "_law_second", "_law_due"]
def b__law_wide_right : MS := (sSeq (sPar2 0 3 0 4 (m2 bIdx (mV 1) (mC (.int 0))) (m2 bAdd (mC (.int 1)) (mCall f__law_pick [(mV 0), (mC (.int 5))])))
    (sSeq (sSet false 5 (mCall f_power [(mV 1), (mV 4)]))
    (sSeq (sIf (mTr (m2 cNe (mB gReprW [(mV 5)]) (mB gReprW [(mTup [(mV 3), (mCall f__law_power [(m2 bIdx (mV 1) (mC (.int 1))), (mV 4), (mV 3)])])]))) (sRet (mC (.bool false))) sNext)
    (sSeq (sSet false 6 (mCall f_behind [(mV 5), (mCall f_power [(mV 2), (mV 4)])]))
    (sSeq (sIf (mTr (m2 cNe (mB gReprW [(mV 6)]) (mB gReprW [(mTup [(mV 3), (mCall f__law_product [(m2 bIdx (mV 5) (mC (.int 1))), (mCall f__law_power [(m2 bIdx (mV 2) (mC (.int 1))), (mV 4), (mV 3)]), (mV 3)])])]))) (sRet (mC (.bool false))) sNext)
    (sSeq (sIf (kOr (kNot (mTr (mCall f__law_two_right [(mV 6), (mV 2)]))) (kNot (mTr (mCall f__law_two_right [(mV 5), (mV 6)])))) (sRet (mC (.bool false))) sNext)
    (sSeq (sIf (mTr (m2 cNe (mB gReprW [(mCall f_power [(mV 6), (mC (.int 2))])]) (mB gReprW [(mTup [(mV 3), (mCall f__law_product [(m2 bIdx (mV 6) (mC (.int 1))), (m2 bIdx (mV 6) (mC (.int 1))), (mV 3)])])]))) (sRet (mC (.bool false))) sNext)
    (sSeq (sSet false 7 (m2 bAdd (mC (.int 2)) (mCall f__law_pick [(mV 0), (mC (.int 9))])))
    (sSeq (sSet false 8 (mCall f__law_pick [(mV 0), (m2 bAdd (mC (.int 1)) (m2 bDiv (m2 bIdx (mLst [(mC (.int 40)), (mC (.int 12)), (mC (.int 12))]) (mCall f__law_pick [(mV 0), (mC (.int 3))])) (mV 7)))]))
    (sSeq (sSet false 9 (mTup [(mV 3), (mCall f__law_power [(m2 bIdx (mV 1) (mC (.int 1))), (m2 bMulI (mV 7) (mV 8)), (mV 3)])]))
    (sRet (m2 cEq (mB gReprW [(mCallK f_power [1, 0] [(mV 8), (mCall f_power [(mV 1), (mV 7)])])]) (mB gReprW [(mV 9)])))))))))))))
def f__law_wide_right : F := semDef 10 b__law_wide_right
/-! law -/
def st_law : Stmt := prog.main.body.getD 53 (.Pass ⟨0, 0, 0, 0⟩)
def N_law : List Str := ["_law_script", "_law_k", "_law_source_here", "_law_modulus_here", "_law_many", "_law_one", "_law_other", "_law_times", "_law_due"]
def lb_law_0 : MS := (sSeq (sSet true 2 (mCall f__law_source [(mV 0), (mV 1)]))
    (sSeq (sPar2 0 3 0 4 (mCall f__law_modulus [(mV 2)]) (mCall f__law_pick [(mV 2), (mC (.int 4))]))
    (sSeq (sPar2 0 5 0 6 (mTup [(mV 3), (mCall f__law_terms [(mV 2), (mV 3)])]) (mTup [(mV 3), (mCall f__law_terms [(mV 2), (mV 3)])]))
    (sSeq (sSet false 7 (mCall f__law_pick [(mV 2), (mC (.int 5))]))
    (sSeq (sIf (kAnd (mTr (m2 cEq (mV 4) (mC (.int 0)))) (mTr (m2 cEq (mV 1) (mC (.int 0))))) (sSet false 7 (m2 bIdx (mLst [(mC (.int 40)), (mCall f__law_pick [(mV 2), (mC (.int 41))])]) (mCall f__law_pick [(mV 2), (mC (.int 2))]))) sNext)
    (sSeq (sIf (kOr (kNot (mTr (mCall f__law_small_right [(mV 3)]))) (kOr (kNot (mTr (mCall f__law_two_right [(mV 5), (mV 6)]))) (kNot (mTr (mCall f__law_two_right [(mV 5), (mV 5)]))))) (sRet (mC (.bool false))) sNext)
    (sSeq (sSet false 8 (mB gReprW [(mTup [(mV 3), (mCall f__law_power [(m2 bIdx (mV 5) (mC (.int 1))), (mV 7), (mV 3)])])]))
    (sSeq (sIf (kOr (mTr (m2 cNe (mB gReprW [(mCall f_power [(mV 5), (mV 7)])]) (mV 8))) (mTr (m2 cNe (mB gReprW [(mCallK f_power [1, 0] [(mV 7), (mV 5)])]) (mV 8)))) (sRet (mC (.bool false))) sNext)
    (sIf (kAnd (mTr (m2 cEq (mV 1) (mC (.int 0)))) (kNot (mTr (mCall f__law_wide_right [(mV 2), (mV 5), (mV 6)])))) (sRet (mC (.bool false))) sNext)))))))))
def b_law : MS := (sSeq (sFor (.n 1) (i1 range1 (mB gMax [(mC (.int 1)), (mB gMin [(mC (.int 6)), (mB lenD [(mV 0)])])])) lb_law_0)
    (sRet (mC (.bool true))))
def f_law : F := semDef 9 b_law
end K01
end

section
set_option autoImplicit false
set_option maxRecDepth 100000
set_option linter.all false
namespace K01
open PySem PySem.Spec L2 MP
/-! what the program tells -/
def isI : D → Bool
  | .int _ => true
  | _ => false
theorem is_integer_s (x : D) : f_is_integer [.d x] = .ok (.d (.bool (isI x))) [] := by
  cases x <;> rfl
def tens : List Int := [2, 3, 5, 6, 7, 10, 11, 13, 14, 15]
def isMod : D → Bool
  | .int i => tens.contains i
  | _ => false
theorem is_modulus_s (x : D) : f_is_modulus [.d x] = .ok (.d (.bool (isMod x))) [] := by
  simp [f_is_modulus, b_is_modulus, is_integer_s]
  cases x <;> simp [isI, isMod, cInT, opt, tens]
/-- a pair of two ints, the second from 1 to below m -/
def pairOk (m : Int) : D → Bool
  | .tuple [.int _, .int b] => decide (1 ≤ b) && decide (b < m)
  | _ => false
def fst : D → Int
  | .tuple (.int a :: _) => a
  | _ => 0
theorem isI_or (x : D) : (∃ i, x = .int i) ∨ isI x = false := by
  cases x <;> simp [isI]
theorem pairOk_no {m : Int} {a b : D} (h : isI a = false ∨ isI b = false) : pairOk m (.tuple [a, b]) = false := by
  cases a <;> first | rfl | (cases b <;> first | rfl | (rcases h with h | h <;> cases h))
theorem loop0_s (v p : D) (m : Int) : Goes (if pairOk m p = true then some () else none : Option Unit) (fun _ => lb_are_pairs_0 [some (.d v), some (.d (.int m)), some (.d p), none, none] = .next [some (.d v), some (.d (.int m)), some (.d p), none, none])
    (∃ ρ', lb_are_pairs_0 [some (.d v), some (.d (.int m)), some (.d p), none, none] = .ret (.d (.bool false)) ρ') := by
  cases p with
  | tuple xs =>
    match xs with
    | [] => simp [lb_are_pairs_0, pairOk, subTy]
    | [a] => simp [lb_are_pairs_0, pairOk, subTy]
    | a :: b :: c :: r =>
      have n3 : ¬ ((r.length : Int) + 1 + 1 + 1 = 2) := by omega
      simp [lb_are_pairs_0, pairOk, subTy, n3]
    | [a, b] =>
      have hc : compGo [3] (.n 3) mYes (mCall f_is_integer [mV 3]) [a, b] [] [some (.d v), some (.d (.int m)), some (.d (.tuple [a, b])), none, none] = .ok (.own (.lst ([] ++ [a, b].map fun x => .bool (isI x)))) [some (.d v), some (.d (.int m)), some (.d (.tuple [a, b])), none, none] :=
        comp_pure fun x _ => ⟨[some (.d v), some (.d (.int m)), some (.d (.tuple [a, b])), some (.d x), none], .d (.bool (isI x)), by simp, by simp [is_integer_s], rfl, by simp⟩
      rcases isI_or a with ⟨i, rfl⟩ | ha
      · rcases isI_or b with ⟨j, rfl⟩ | hb
        · by_cases h1 : 1 ≤ j
          · by_cases h2 : j < m
            · simp [lb_are_pairs_0, pairOk, subTy, hc, boolsOf, isI, h1, h2]
            · simp [lb_are_pairs_0, pairOk, subTy, hc, boolsOf, isI, h1, h2]
          · simp [lb_are_pairs_0, pairOk, subTy, hc, boolsOf, isI, h1]
        · simp [lb_are_pairs_0, pairOk_no (m := m) (.inr hb), subTy, hc, boolsOf, hb]
      · simp [lb_are_pairs_0, pairOk_no (m := m) (.inl ha), subTy, hc, boolsOf, ha]
  | _ => simp [lb_are_pairs_0, pairOk, subTy]
/-- the first parts grow -/
def ascR (xs : List D) : Bool := (List.range (xs.length - 1)).all fun i => decide (fst (xs.getD i .none) < fst (xs.getD (i + 1) .none))
def ascD (xs : List D) : D → D
  | .int i => .bool (decide (fst (xs.getD i.toNat .none) < fst (xs.getD (i.toNat + 1) .none)))
  | _ => .none
def arePairs (x : D) (m : Int) : Bool := match x with
  | .tuple xs => xs.all (pairOk m) && ascR xs
  | _ => false
theorem pair_shape {m : Int} {p : D} (h : pairOk m p = true) : ∃ a b, p = .tuple [.int a, .int b] := by
  unfold pairOk at h
  split at h
  · exact ⟨_, _, rfl⟩
  · cases h
theorem are_pairs_s (x : D) (m : Int) (hl : ∀ xs, x = .tuple xs → xs.length ≤ 16777216) : f_are_pairs [.d x, .d (.int m)] = .ok (.d (.bool (arePairs x m))) [] := by
  cases x with
  | tuple xs =>
    have hl := hl xs rfl
    have hs := for_scan (tg := .n 2) (b := lb_are_pairs_0) (r := .d (.bool false)) (Env := fun p (_ : Unit) => [some (.d (.tuple xs)), some (.d (.int m)), p, none, none]) (step := fun _ x => if pairOk m x = true then some () else none) xs none () (fun x _ p _ n => tg_n rfl n) (fun c z => nomatch z) (fun x _ _ => loop0_s _ _ _)
    rw [scan_unit] at hs
    by_cases ha : xs.all (pairOk m) = true
    · rw [if_pos ha] at hs
      obtain ⟨p', hs⟩ := hs
      have small : small62 ((xs.length : Int) - 1) = true := by
        exact small62_mk (by omega)
      have hn : ((xs.length : Int) - 1).toNat = xs.length - 1 := by omega
      have hc : compGo [4] (.n 4) mYes (m2 cLt (m2 bIdx (m2 bIdx (mV 0) (mV 4)) (mC (.int 0))) (m2 bIdx (m2 bIdx (mV 0) (m2 bAdd (mV 4) (mC (.int 1)))) (mC (.int 0)))) (intsD 0 (xs.length - 1)) [] [some (.d (.tuple xs)), some (.d (.int m)), p', none, none] =
          .ok (.own (.lst ([] ++ (intsD 0 (xs.length - 1)).map (ascD xs)))) [some (.d (.tuple xs)), some (.d (.int m)), p', none, none] := by
        refine comp_pure fun x hx => ?_
        obtain ⟨k, hk, rfl⟩ := mem_intsD hx
        have g0 : xs[k]? = some xs[k] := List.getElem?_eq_getElem (by omega)
        have g1 : xs[k + 1]? = some xs[k + 1] := List.getElem?_eq_getElem (by omega)
        obtain ⟨a, b, e0⟩ := pair_shape (List.all_eq_true.mp ha _ (List.mem_of_getElem? g0))
        obtain ⟨c, d, e1⟩ := pair_shape (List.all_eq_true.mp ha _ (List.mem_of_getElem? g1))
        rw [e0] at g0
        rw [e1] at g1
        have a1 : atD xs ((k : Int) + 1) = xs[k + 1]? := atD_nat (i := k + 1)
        refine ⟨[some (.d (.tuple xs)), some (.d (.int m)), p', none, some (.d (.int k))], .d (.bool (decide (a < c))), by simp, ?_, ?_, by simp⟩
        · simp [atD_nat, a1, g0, g1]
        · simp [ascD, List.getD_eq_getElem?_getD, g0, g1, fst]
      have hb : boolsOf ((intsD 0 (xs.length - 1)).map (ascD xs)) = some ((List.range (xs.length - 1)).map fun i => decide (fst (xs.getD i .none) < fst (xs.getD (i + 1) .none))) := by
        unfold intsD
        rw [List.map_map, ← bools_map]
        congr 1
        apply List.map_congr_left
        intro i _
        simp [ascD]
      have hl2 : (intsD 0 (xs.length - 1)).length ≤ 16777216 := by
        unfold intsD
        rw [List.length_map, List.length_range]
        omega
      have h1 : xs.length ≤ 16777217 := by omega
      simp [f_are_pairs, b_are_pairs, subTy, hs, arePairs, ha, range1, small, hn, hc, hb, ascR, hl2]
    · rw [if_neg ha] at hs
      obtain ⟨ρ', hs⟩ := hs
      simp [f_are_pairs, b_are_pairs, subTy, hs, arePairs, ha]
  | _ => simp [f_are_pairs, b_are_pairs, arePairs, subTy]
/-- any length of an argument's tuples that the walk asks for -/
def two (x : D) : Bool := match x with
  | .tuple [a, .tuple _] => isMod a
  | _ => false
theorem not2 {α : Type} {r : List α} : ¬ ((r.length : Int) + 1 + 1 + 1 = 2) := by omega
theorem of_modulus_s (x : D) : f_is_of_modulus [.d x] = .ok (.d (.bool (two x))) [] := by
  cases x with
  | tuple xs =>
    match xs with
    | [] => simp [f_is_of_modulus, b_is_of_modulus, subTy, two]
    | [a] => simp [f_is_of_modulus, b_is_of_modulus, subTy, two]
    | a :: b :: c :: r => simp [f_is_of_modulus, b_is_of_modulus, subTy, two, not2]
    | [a, b] =>
      cases h : isMod a <;> cases b <;> simp [f_is_of_modulus, b_is_of_modulus, subTy, two, is_modulus_s, h]
  | _ => simp [f_is_of_modulus, b_is_of_modulus, two, subTy]
theorem two_shape {x : D} (h : two x = true) : ∃ m ys, x = .tuple [.int m, .tuple ys] ∧ tens.contains m = true := by
  unfold two at h
  split at h
  · rename_i a ys
    unfold isMod at h
    split at h
    · exact ⟨_, _, rfl, h⟩
    · cases h
  · cases h
/-- how long the tuples are that are walked -/
def lenOk (x : D) : Prop := match x with
  | .tuple [_, .tuple ys] => ys.length ≤ 16777216 ∧ ∀ y ∈ ys, match y with
    | .tuple [.tuple zs, _] => zs.length ≤ 16777216
    | _ => True
  | _ => True
def ruleT (x : D) : Bool := match x with
  | .tuple [.int m, .tuple ys] => tens.contains m && arePairs (.tuple ys) m
  | _ => false
theorem no_two {x : D} (h : two x = false) : ruleT x = false := by
  unfold ruleT
  split
  · rename_i m ys
    have : tens.contains m = false := h
    rw [this] <;> rfl
  · rfl
theorem a_rule_s (x : D) (hl : lenOk x) : f_is_a_rule [.d x] = .ok (.d (.bool (ruleT x))) [] := by
  cases h : two x with
  | false => simp [f_is_a_rule, b_is_a_rule, of_modulus_s, h, no_two h]
  | true =>
    obtain ⟨m, ys, rfl, ht⟩ := two_shape h
    have hp := are_pairs_s (.tuple ys) m fun xs e => by cases e; exact hl.1
    have hm : m ∈ tens := List.contains_iff_mem.mp ht
    simp [f_is_a_rule, b_is_a_rule, of_modulus_s, h, hp, ruleT, hm]
def ascL : Option Int → List D → Bool
  | _, [] => true
  | s, x :: xs => (s.all fun l => decide (l < fst x)) && ascL (some (fst x)) xs
theorem ascR_cons (x y : D) (r : List D) : ascR (x :: y :: r) = (decide (fst x < fst y) && ascR (y :: r)) := by
  unfold ascR
  have e : (x :: y :: r).length - 1 = (y :: r).length - 1 + 1 := by simp
  rw [e, List.range_succ_eq_map, List.all_cons, List.all_map]
  rfl
theorem asc_eq : ∀ (xs : List D) (x : D), ascR (x :: xs) = ascL (some (fst x)) xs
  | [], x => rfl
  | y :: r, x => by
    rw [ascR_cons, asc_eq r y]
    rfl
theorem asc_all (xs : List D) : ascR xs = ascL none xs := by
  cases xs with
  | nil => rfl
  | cons x xs =>
    rw [asc_eq]
    show _ = (Option.all _ none && ascL (some (fst x)) xs)
    simp
end K01
end

section
set_option autoImplicit false
set_option maxRecDepth 100000
set_option linter.all false
namespace K01
open PySem PySem.Spec L2 MP
/-! the numbers that the script gives -/
def Src (N : Nat) (l : List D) : Prop := ∃ a b c : Int, l = [.int a, .int b, .int c] ∧ 0 ≤ b ∧ b < 10 ^ 28 ∧ 0 ≤ c ∧ c ≤ N
theorem Src.mono {N M : Nat} {l : List D} (h : Src N l) (le : N ≤ M) : Src M l := by
  obtain ⟨a, b, c, h1, h2, h3, h4, h5⟩ := h
  exact ⟨a, b, c, h1, h2, h3, h4, by omega⟩
theorem p20 : bPow (.int 10) (.int 20) = some (.d (.int 100000000000000000000)) := by rfl
theorem p27 : bPow (.int 10) (.int 27) = some (.d (.int 1000000000000000000000000000)) := by rfl
theorem p18 : bPow (.int 10) (.int 18) = some (.d (.int 1000000000000000000)) := by rfl
theorem p28 : bPow (.int 10) (.int 28) = some (.d (.int 10000000000000000000000000000)) := by rfl
theorem p26 : bPow (.int 10) (.int 26) = some (.d (.int 100000000000000000000000000)) := by rfl
def crowd (x : D) : Int := match x with
  | .tuple [.int i, .int z] => z % 100000000000000000039 * (i + 3)
  | _ => 0
theorem crowd_comp (xs : List Int) (hl : xs.length ≤ 63) (ρ0 ρ1 ρ2 ρ3 ρ4 : Option SV) : compGo [5, 6] (.t [(.n 5), (.n 6)]) mYes (m2 bMulI (m2 bMod (mB gInt [(mV 6)]) (m2 bAdd (m2 bPow (mC (.int 10)) (mC (.int 20))) (mC (.int 39)))) (m2 bAdd (mV 5) (mC (.int 3)))) (enumFrom 0 (xs.map PyData.int)) [] [ρ0, ρ1, ρ2, ρ3, ρ4, none, none] =
    .ok (.own (.lst ([] ++ (enumFrom 0 (xs.map PyData.int)).map fun x => .int (crowd x)))) [ρ0, ρ1, ρ2, ρ3, ρ4, none, none] := by
  refine comp_pure fun x hx => ?_
  obtain ⟨i, z, hi, rfl⟩ : ∃ (i : Nat) (z : Int), i < 63 ∧ x = .tuple [.int i, .int z] := by
    obtain ⟨j, hj⟩ := List.getElem?_of_mem hx
    obtain ⟨y, h1, h2⟩ := enum_get hj
    rw [List.getElem?_map] at h1
    obtain ⟨z, h4, h3⟩ := Option.map_eq_some_iff.mp h1
    have := (List.getElem?_eq_some_iff.mp h4).1
    exact ⟨j, z, by omega, by rw [h2, ← h3, Int.zero_add]⟩
  have hm : bMulI (.int (z % 100000000000000000039)) (.int ((i : Int) + 3)) = some (.d (.int (z % 100000000000000000039 * ((i : Int) + 3)))) := mul_r (by omega)
  have hd : bMod (.int z) (.int 100000000000000000039) = some (.d (.int (z % 100000000000000000039))) := mod_p (by decide)
  refine ⟨[ρ0, ρ1, ρ2, ρ3, ρ4, some (.d (.int i)), some (.d (.int z))], .d (.int (crowd (.tuple [.int i, .int z]))), by simp, ?_, rfl, by simp⟩
  simp [p20, hd, hm, crowd]
theorem source_s (xs : List Int) (k : Nat) (hl : xs.length ≤ 63) (hk : k ≤ 63) : ∃ l, f__law_source [.d (.list (xs.map PyData.int)), .d (.int k)] = .ok (.own (.lst l)) [] ∧ Src 0 l := by
  have hc := crowd_comp xs hl
  have hs := ints_map crowd (enumFrom 0 (xs.map PyData.int))
  have m31 : bMulI (.int 31) (.int k) = some (.d (.int (31 * k))) := mul_l (by decide)
  have m73 : bMulI (.int 73) (.int (xs.length : Nat)) = some (.d (.int (73 * (xs.length : Nat)))) := mul_l (by decide)
  have m48 : ∀ z : Int, bMulI (.int z) (.int 48017) = some (.d (.int (z * 48017))) := fun z => mul_r (by decide)
  have m5 : ∀ z : Int, bMulI (.int 5) (.int z) = some (.d (.int (5 * z))) := fun z => mul_l (by decide)
  have m63 : ∀ z : Int, bMulI (.int z) (.int 6367) = some (.d (.int (z * 6367))) := fun z => mul_r (by decide)
  have md : ∀ z : Int, bMod (.int z) (.int 1000000000000000000000000103) = some (.d (.int (z % 1000000000000000000000000103))) := fun z => mod_p (by decide)
  have he : (enumFrom 0 (xs.map PyData.int)).length ≤ 16777216 := by
    rw [enum_len, List.length_map]
    omega
  have fin : ∀ a z : Int, Src 0 [.int a, .int (z % 1000000000000000000000000103), .int 0] := fun a z => ⟨_, _, 0, rfl, by omega, by omega, by omega, by omega⟩
  obtain ⟨r, h0⟩ : ∃ r, r = f__law_source [.d (.list (xs.map PyData.int)), .d (.int k)] := ⟨_, rfl⟩
  have h1 := h0
  by_cases h : k < xs.length
  · have hk2 : (k : Int) < xs.length := by omega
    have ha : atD (xs.map PyData.int) k = some (.int xs[k]) := by
      rw [atD_nat, List.getElem?_map, List.getElem?_eq_getElem h] <;> rfl
    simp [f__law_source, b__law_source, enumD, he, m31, hk2, ha, hc, hs, m73, m48, m5, m63, p27, md, p18] at h1
    exact ⟨_, h0.symm.trans h1, fin _ _⟩
  · have hk2 : ¬ (k : Int) < xs.length := by omega
    simp [f__law_source, b__law_source, enumD, he, m31, hk2, hc, hs, m73, m48, m5, m63, p27, md, p18] at h1
    exact ⟨_, h0.symm.trans h1, fin _ _⟩
theorem nat_lt_of {i : Int} {k : Nat} (h0 : 0 ≤ i) (h : i < 2 ^ k) : i.natAbs < 2 ^ k := by
  have : ((i.natAbs : Nat) : Int) = i := Int.natAbs_of_nonneg h0
  have h2 : ((i.natAbs : Nat) : Int) < ((2 ^ k : Nat) : Int) := by
    rw [this]
    simpa using h
  exact Int.ofNat_lt.mp h2
theorem pick_sym (a b c m u1 u2 u3 u4 u5 u6 u7 u8 u9 : Int) (ha : ¬ 0 < a) (q1 : bMulI (.int 773741389) (.int (c + 1)) = some (.d (.int u1))) (q2 : bPow (.int (b + u1)) (.int 3) = some (.d (.int u2))) (q3 : bMulI (.int 11) (.int (c + 1)) = some (.d (.int u3)))
    (q4 : bMod (.int (u2 + u3)) (.int 10000000000000000000000000331) = some (.d (.int u4))) (q5 : bMulI (.int 5413) (.int (c + 1)) = some (.d (.int u5))) (q6 : bMulI (.int u4) (.int (u4 + u5)) = some (.d (.int u6))) (q7 : bMod (.int u6) (.int 100000000000000000000000067) = some (.d (.int u7)))
    (q8 : bDiv (.int u7) (.int 7331) = some (.d (.int u8))) (q9 : bMod (.int u8) (.int m) = some (.d (.int u9))) :
    f__law_pick [.ref (.lst [.int a, .int b, .int c]), .d (.int m)] = .ok (.d (.int u9)) [.lst [.int a, .int b, .int (c + 1)]] := by
  simp [f__law_pick, b__law_pick, ha, q1, q2, q3, q4, q5, q6, q7, q8, q9, p28, p26]
theorem pick_s {N : Nat} {l : List D} (h : Src N l) (hN : N ≤ 1000000) (m : Int) (hm : 0 < m) (hm2 : m.natAbs.log2 < 9000) :
    ∃ p l', f__law_pick [.ref (.lst l), .d (.int m)] = .ok (.d (.int p)) [.lst l'] ∧ Src (N + 1) l' ∧ 0 ≤ p ∧ p < m := by
  obtain ⟨a, b, c, rfl, hb0, hb1, hc0, hc1⟩ := h
  have mm : ∀ z : Int, bMod (.int z) (.int m) = some (.d (.int (z % m))) := fun z => mod_p hm
  have dm : ∀ z : Int, bDiv (.int z) (.int m) = some (.d (.int (z / m))) := fun z => div_p hm hm2
  have rest : ∀ z : Int, 0 ≤ z % m ∧ z % m < m := fun z => ⟨Int.emod_nonneg _ (by omega), Int.emod_lt_of_pos _ hm⟩
  obtain ⟨r, h0⟩ : ∃ r, r = f__law_pick [.ref (.lst [.int a, .int b, .int c]), .d (.int m)] := ⟨_, rfl⟩
  have h1 := h0
  by_cases ha : 0 < a
  · simp [f__law_pick, b__law_pick, ha, mm, dm] at h1
    exact ⟨_, _, h0.symm.trans h1, ⟨_, b, c, rfl, hb0, hb1, hc0, by omega⟩, rest _⟩
  · have e1 : bMulI (.int 773741389) (.int (c + 1)) = some (.d (.int (773741389 * (c + 1)))) := mul_l (by decide)
    have e2 : bMulI (.int 11) (.int (c + 1)) = some (.d (.int (11 * (c + 1)))) := mul_l (by decide)
    have e3 : bMulI (.int 5413) (.int (c + 1)) = some (.d (.int (5413 * (c + 1)))) := mul_l (by decide)
    have hz : (b + 773741389 * (c + 1)).natAbs.log2 < 100 := log_lt (nat_lt_of (by omega) (by omega)) (by decide)
    have e4 := pow_p (i := b + 773741389 * (c + 1)) (j := 3) (by decide) (by show _ * 3 ≤ _; omega)
    have md : ∀ z : Int, bMod (.int z) (.int 10000000000000000000000000331) = some (.d (.int (z % 10000000000000000000000000331))) := fun z => mod_p (by decide)
    have md2 : ∀ z : Int, bMod (.int z) (.int 100000000000000000000000067) = some (.d (.int (z % 100000000000000000000000067))) := fun z => mod_p (by decide)
    have dv : ∀ z : Int, bDiv (.int z) (.int 7331) = some (.d (.int (z / 7331))) := fun z => div_p (by decide) (by decide)
    have e5 : ∀ z : Int, bMulI (.int (z % 10000000000000000000000000331)) (.int (z % 10000000000000000000000000331 + 5413 * (c + 1))) = some (.d (.int (z % 10000000000000000000000000331 * (z % 10000000000000000000000000331 + 5413 * (c + 1))))) := fun z => by
      refine mul_b ?_
      have g1 : (z % 10000000000000000000000000331).natAbs.log2 < 100 := log_lt (nat_lt_of (by omega) (by omega)) (by decide)
      have g2 : (z % 10000000000000000000000000331 + 5413 * (c + 1)).natAbs.log2 < 100 := log_lt (nat_lt_of (by omega) (by omega)) (by decide)
      omega
    exact ⟨_, _, pick_sym a b c m _ _ _ _ _ _ _ _ _ ha e1 e4 e2 (md _) e3 (e5 _) (md2 _) (dv _) (mm _), ⟨a, b, c + 1, rfl, hb0, hb1, by omega, by omega⟩, rest _⟩
theorem pick_c {N : Nat} {l : List D} (h : Src N l) (hN : N ≤ 1000000) (m : Nat) (hm : 0 < m) (hm2 : m.log2 < 9000) :
    ∃ (p : Nat) (l' : List D), f__law_pick [.ref (.lst l), .d (.int m)] = .ok (.d (.int p)) [.lst l'] ∧ Src (N + 1) l' ∧ p < m := by
  obtain ⟨p, l', h1, h2, h3, h4⟩ := pick_s h hN m (by omega) (by simpa using hm2)
  refine ⟨p.toNat, l', ?_, h2, by omega⟩
  rw [show ((p.toNat : Nat) : Int) = p by omega]
  exact h1
theorem modulus_s {N : Nat} {l : List D} (h : Src N l) (hN : N ≤ 1000000) : ∃ (m : Nat) (l' : List D), f__law_modulus [.ref (.lst l)] = .ok (.d (.int m)) [.lst l'] ∧ Src (N + 1) l' ∧ m ∈ [2, 3, 5, 6, 7, 10, 11, 13, 14, 15] := by
  obtain ⟨p, l', h1, h2, h3⟩ := pick_c h hN 10 (by decide) (by decide)
  have h1' : f__law_pick [.ref (.lst l), .d (.int 10)] = .ok (.d (.int p)) [.lst l'] := h1
  have key : ∃ m : Nat, m ∈ [2, 3, 5, 6, 7, 10, 11, 13, 14, 15] ∧ atD [.int 2, .int 3, .int 5, .int 6, .int 7, .int 10, .int 11, .int 13, .int 14, .int 15] (p : Int) = some (.int m) := by
    rw [atD_nat]
    match p, h3 with
    | 0, _ => exact ⟨2, by decide, rfl⟩
    | 1, _ => exact ⟨3, by decide, rfl⟩
    | 2, _ => exact ⟨5, by decide, rfl⟩
    | 3, _ => exact ⟨6, by decide, rfl⟩
    | 4, _ => exact ⟨7, by decide, rfl⟩
    | 5, _ => exact ⟨10, by decide, rfl⟩
    | 6, _ => exact ⟨11, by decide, rfl⟩
    | 7, _ => exact ⟨13, by decide, rfl⟩
    | 8, _ => exact ⟨14, by decide, rfl⟩
    | 9, _ => exact ⟨15, by decide, rfl⟩
  obtain ⟨m, hm, ha⟩ := key
  exact ⟨m, l', by simp [f__law_modulus, b__law_modulus, h1', ha], h2, hm⟩
def primesOf (m : Nat) : List Int := [2, 3, 5, 7, 11, 13].filter fun p => (m : Int) % p == 0
def divides (m : Nat) : D → Bool
  | .int p => (m : Int) % p == 0
  | _ => false
theorem primes_s {m : Nat} (h : m ∈ [2, 3, 5, 6, 7, 10, 11, 13, 14, 15]) : f__law_primes [.d (.int m)] = .ok (.own (.lst ((primesOf m).map PyData.int))) [] := by
  have hc := comp_map (vs := [1]) (tg := .n 1) (t := mTr (m2 cEq (m2 bMod (mB gInt [(mV 0)]) (mV 1)) (mC (.int 0)))) (e := mV 1) (ρ := [some (.d (.int m)), none]) (c := divides m) (y := id) (xs := [.int 2, .int 3, .int 5, .int 7, .int 11, .int 13]) (acc := []) fun x hx => by
    obtain ⟨p, hp, rfl⟩ : ∃ p : Int, 0 < p ∧ x = .int p := by
      simp at hx
      rcases hx with rfl | rfl | rfl | rfl | rfl | rfl <;> exact ⟨_, by decide, rfl⟩
    have md := mod_p (i := (m : Int)) hp
    refine ⟨[some (.d (.int m)), some (.d (.int p))], [some (.d (.int m)), some (.d (.int p))], [some (.d (.int m)), some (.d (.int p))], by simp, by simp [md, divides], fun _ => by simp, fun _ => ⟨.d (.int p), by simp, rfl, by simp⟩⟩
  have e : ([PyData.int 2, .int 3, .int 5, .int 7, .int 11, .int 13].filter (divides m)).map id = (primesOf m).map PyData.int := by
    rw [List.map_id]
    show (([2, 3, 5, 7, 11, 13] : List Int).map PyData.int).filter (divides m) = _
    rw [List.filter_map]
    rfl
  rw [e] at hc
  simp at hc
  simp [f__law_primes, b__law_primes, hc]
theorem factor_s {N : Nat} {l : List D} (h : Src N l) (hN : N ≤ 1000000) (m s : Nat) (hm : m ≤ 15) (hs : 0 < s) (hms : 2 * s ≤ m) : ∃ (q : Nat) (l' : List D), f__law_factor [.ref (.lst l), .d (.int m), .d (.int s)] = .ok (.d (.int q)) [.lst l'] ∧ Src (N + 1) l' ∧ q < m ∧ 0 < q := by
  have h2 : 2 ≤ m / s := by rw [Nat.le_div_iff_mul_le hs]; omega
  have h3 : m / s ≤ m := Nat.div_le_self _ _
  obtain ⟨p, l', h1, hS, hp⟩ := pick_c h hN (m / s - 1) (by omega) (Nat.lt_of_le_of_lt (Nat.log2_le_self _) (by omega))
  have hd : bDiv (.int m) (.int s) = some (.d (.int ((m / s : Nat) : Int))) := by
    rw [div_p (by omega) (by
      have := Nat.log2_le_self s
      simp
      omega)]
    simp
  have e1 : ((m / s : Nat) : Int) - 1 = ((m / s - 1 : Nat) : Int) := by omega
  have hb : bMulI (.int s) (.int (1 + (p : Int))) = some (.d (.int (s * (1 + (p : Int))))) := mul_l (by simp; omega)
  have h5 : s * (1 + p) < m := by
    have : s * (1 + p) < s * (m / s) := Nat.mul_lt_mul_of_pos_left (by omega) hs
    have := Nat.mul_div_le m s
    omega
  refine ⟨s * (1 + p), l', ?_, hS, h5, Nat.mul_pos hs (by omega)⟩
  simp only [← e1, Int.natCast_ediv] at h1
  simp [f__law_factor, b__law_factor, hd, h1, hb]
/-- nine marks -/
theorem marks_s {N : Nat} {l : List D} (h : Src N l) (hN : N ≤ 999000) (a2 a3 a4 a5 a6 a1 : Option SV) :
    ∃ (ys : List D) (l' : List D), compGo [7] (.n 7) mYes (mCall f__law_pick [(mV 0), (mC (.int 3))]) (intsD 0 9) [] [some (.ref (.lst l)), a1, a2, a3, a4, a5, a6, none] = .ok (.own (.lst ys)) [some (.ref (.lst l')), a1, a2, a3, a4, a5, a6, none] ∧ Src (N + 9) l' ∧ ys.length = 9 ∧ ∀ y ∈ ys, ∃ k : Int, y = .int k := by
  obtain ⟨ys, s', h1, h2, h3, h4⟩ := comp_st (vs := [7]) (tg := .n 7) (e := mCall f__law_pick [(mV 0), (mC (.int 3))]) (Env := fun l => [some (.ref (.lst l)), a1, a2, a3, a4, a5, a6, none]) (J := fun i l => Src (N + i) l) (P := fun _ y => ∃ k : Int, y = .int k) (intsD 0 9) [] 0 l h fun x hx i s hi hJ => by
    rw [intsD_len] at hi
    obtain ⟨p, l2, q1, q2, q3⟩ := pick_c hJ (by omega) 3 (by decide) (by decide)
    have q1' : f__law_pick [.ref (.lst s), .d (.int 3)] = .ok (.d (.int p)) [.lst l2] := q1
    refine ⟨[some (.ref (.lst s)), a1, a2, a3, a4, a5, a6, some (.d x)], [some (.ref (.lst l2)), a1, a2, a3, a4, a5, a6, some (.d x)], .d (.int p), .int p, l2, by simp, by simp [q1'], rfl, by simp, q2, ⟨p, rfl⟩⟩
  rw [intsD_len] at h2 h3
  have h2' : Src (N + 9) s' := by simpa using h2
  refine ⟨ys, s', h1, h2', h3, fun y hy => ?_⟩
  obtain ⟨j, hj⟩ := List.getElem?_of_mem hy
  have hl : j < (intsD 0 9).length := by
    rw [intsD_len, ← h3]
    exact (List.getElem?_eq_some_iff.mp hj).1
  exact h4 j _ y (List.getElem?_eq_getElem hl) hj
def markAt (ys : List D) : D → Bool
  | .int o => (match atD ys (o + 4) with | some (.int k) => decide (0 < k) | _ => false)
  | _ => false
theorem offsets_s (ys : List D) (hl : ys.length = 9) (hy : ∀ y ∈ ys, ∃ k : Int, y = .int k) (a0 a1 a2 a3 a4 : Option SV) :
    compGo [7] (.n 7) (mTr (m2 cGt (m2 bIdx (mV 5) (m2 bAdd (mV 7) (mC (.int 4)))) (mC (.int 0)))) (mV 7) (intsD (-4) 9) [] [a0, a1, a2, a3, a4, some (.d (.list ys)), none, none] =
    .ok (.own (.lst ([] ++ ((intsD (-4) 9).filter (markAt ys)).map id))) [a0, a1, a2, a3, a4, some (.d (.list ys)), none, none] := by
  refine comp_map fun x hx => ?_
  obtain ⟨k, hk, rfl⟩ := mem_ints hx
  have g : ys[k]? = some ys[k] := List.getElem?_eq_getElem (by omega)
  obtain ⟨z, hz⟩ := hy _ (List.mem_of_getElem? g)
  rw [hz] at g
  have e : (-4 : Int) + k + 4 = k := by omega
  have ga : atD ys ((-4 : Int) + k + 4) = some (.int z) := by rw [e, atD_nat, g]
  refine ⟨[a0, a1, a2, a3, a4, some (.d (.list ys)), none, some (.d (.int (-4 + k)))], [a0, a1, a2, a3, a4, some (.d (.list ys)), none, some (.d (.int (-4 + k)))], [a0, a1, a2, a3, a4, some (.d (.list ys)), none, some (.d (.int (-4 + k)))], by simp, ?_, fun _ => by simp, fun _ => ⟨.d (.int (-4 + k)), by simp, rfl, by simp⟩⟩
  simp only [p_tr, p_2, p_V, p_C, List.getElem?_cons_succ, List.getElem?_cons_zero, Out.bind_ok, viewB_d, bAdd_int, opt_some, bIdx_list, ga, Option.map_some, cGt_int, truth_bool, markAt]
def tp (t : Int × Int) : D := .tuple [.int t.1, .int t.2]
/-- terms of a rule, near -/
structure Terms (m r : Nat) (ts : List (Int × Int)) : Prop where
  le : ts.length ≤ 9
  near : ∀ t ∈ ts, t.1.natAbs ≤ r
  fac : ∀ t ∈ ts, 1 ≤ t.2 ∧ t.2 < m
  asc : ts.Pairwise fun a b => a.1 < b.1
def TermOk (m : Nat) (t : D) : Prop := ∃ o f : Int, t = .tuple [.int o, .int f] ∧ -4 ≤ o ∧ o ≤ 4 ∧ 0 < f ∧ f < m
theorem terms_comp {N : Nat} {l : List D} (h : Src N l) (m s : Nat) (hm : m ≤ 15) (hs : 0 < s) (hms : 2 * s ≤ m) (offs : List D) (hl : offs.length ≤ 9) (hN : N ≤ 999000) (ho : ∀ x ∈ offs, ∃ o : Int, x = .int o ∧ -4 ≤ o ∧ o ≤ 4) (a2 a3 a5 : Option SV) :
    ∃ (ts l' : List D), compGo [7] (.n 7) mYes (mTup [(mV 7), (mCall f__law_factor [(mV 0), (mV 1), (mV 4)])]) offs [] [some (.ref (.lst l)), some (.d (.int m)), a2, a3, some (.d (.int s)), a5, some (.d (.list offs)), none] =
      .ok (.own (.lst ts)) [some (.ref (.lst l')), some (.d (.int m)), a2, a3, some (.d (.int s)), a5, some (.d (.list offs)), none] ∧ Src (N + 9) l' ∧ ts.length = offs.length ∧ (∀ t ∈ ts, TermOk m t) ∧ ∀ (j : Nat) (x y : D), offs[j]? = some x → ts[j]? = some y → ∃ f : Int, y = .tuple [x, .int f] := by
  obtain ⟨ts, s', h1, h2, h3, h4⟩ := comp_st (vs := [7]) (tg := .n 7) (e := mTup [(mV 7), (mCall f__law_factor [(mV 0), (mV 1), (mV 4)])]) (Env := fun l => [some (.ref (.lst l)), some (.d (.int m)), a2, a3, some (.d (.int s)), a5, some (.d (.list offs)), none])
    (J := fun i l => Src (N + i) l) (P := fun x y => TermOk m y ∧ ∃ f : Int, y = .tuple [x, .int f]) offs [] 0 l h fun x hx i t hi hJ => by
      obtain ⟨o, rfl, o1, o2⟩ := ho x hx
      obtain ⟨q, l2, q1, q2, q3, q4⟩ := factor_s hJ (by omega) m s hm hs hms
      refine ⟨[some (.ref (.lst t)), some (.d (.int m)), a2, a3, some (.d (.int s)), a5, some (.d (.list offs)), some (.d (.int o))], [some (.ref (.lst l2)), some (.d (.int m)), a2, a3, some (.d (.int s)), a5, some (.d (.list offs)), some (.d (.int o))], .d (.tuple [.int o, .int q]), .tuple [.int o, .int q], l2, by simp, by simp [q1], rfl, by simp, q2, ⟨o, q, rfl, o1, o2, by omega, by omega⟩, ⟨q, rfl⟩⟩
  refine ⟨ts, s', h1, h2.mono (by omega), h3, fun t ht => ?_, fun j x y hx hy => (h4 j x y hx hy).2⟩
  obtain ⟨j, hj⟩ := List.getElem?_of_mem ht
  have hlt : j < offs.length := by
    rw [← h3]
    exact (List.getElem?_eq_some_iff.mp hj).1
  exact (h4 j _ t (List.getElem?_eq_getElem hlt) hj).1
theorem terms_of {m : Nat} : ∀ (os : List Int) (ts : List D), ts.length = os.length → (∀ t ∈ ts, TermOk m t) → (∀ (j : Nat) (x y : D), (os.map PyData.int)[j]? = some x → ts[j]? = some y → ∃ f : Int, y = .tuple [x, .int f]) →
    ∃ tt : List (Int × Int), ts = tt.map tp ∧ tt.map (·.1) = os ∧ ∀ t ∈ tt, t.1.natAbs ≤ 4 ∧ 1 ≤ t.2 ∧ t.2 < m
  | [], [], _, _, _ => ⟨[], rfl, rfl, fun t h => nomatch h⟩
  | [], _ :: _, h, _, _ => by simp at h
  | _ :: _, [], h, _, _ => by simp at h
  | o :: os, t :: ts, h, h1, h2 => by
    obtain ⟨f, rfl⟩ := h2 0 (.int o) t rfl rfl
    obtain ⟨o', f', e, b1, b2, b3, b4⟩ := h1 _ List.mem_cons_self
    cases e
    obtain ⟨tt, rfl, e2, e3⟩ := terms_of os ts (by simpa using h) (fun u hu => h1 u (List.mem_cons_of_mem _ hu)) fun j x y hx hy => h2 (j + 1) x y (by simpa using hx) (by simpa using hy)
    refine ⟨(o, f) :: tt, rfl, by rw [List.map_cons, e2], fun u hu => ?_⟩
    rcases List.mem_cons.mp hu with rfl | hu
    · exact ⟨by show o.natAbs ≤ 4; omega, by show 1 ≤ f; omega, b4⟩
    · exact e3 u hu
theorem sub_ints {offs : List D} (h : offs.Sublist (intsD (-4) 9)) : ∃ os : List Int, offs = os.map PyData.int ∧ os.Pairwise (· < ·) := by
  have e : intsD (-4) 9 = ((List.range 9).map fun k : Nat => (-4 : Int) + (k : Nat)).map PyData.int := by
    unfold intsD
    rw [List.map_map]
    rfl
  rw [e] at h
  obtain ⟨os, h1, h2⟩ := List.sublist_map_iff.mp h
  refine ⟨os, h2, List.Pairwise.sublist h1 (by decide)⟩
theorem cut_sub {xs : List D} {lo hi : Option Int} : (cutD xs lo hi).Sublist xs := by
  unfold cutD
  exact (List.take_sublist _ _).trans (List.drop_sublist _ _)
theorem cut_mem {xs : List D} {lo hi : Option Int} {x : D} (h : x ∈ cutD xs lo hi) : x ∈ xs := by
  unfold cutD at h
  exact List.mem_of_mem_drop (List.mem_of_mem_take h)
theorem cut_len {xs : List D} {lo hi : Option Int} : (cutD xs lo hi).length ≤ xs.length := by
  unfold cutD
  rw [List.length_take, List.length_drop]
  omega
theorem share_of {m : Nat} (hm : m ∈ [2, 3, 5, 6, 7, 10, 11, 13, 14, 15]) (h2 : (primesOf m).length = 2) : ∃ s t : Nat, primesOf m = [(s : Int), (t : Int)] ∧ 0 < s ∧ 2 * s ≤ m ∧ 0 < t ∧ 2 * t ≤ m := by
  simp at hm
  rcases hm with rfl | rfl | rfl | rfl | rfl | rfl | rfl | rfl | rfl | rfl
  · exact absurd h2 (by decide)
  · exact absurd h2 (by decide)
  · exact absurd h2 (by decide)
  · exact ⟨2, 3, by decide, by decide, by decide, by decide, by decide⟩
  · exact absurd h2 (by decide)
  · exact ⟨2, 5, by decide, by decide, by decide, by decide, by decide⟩
  · exact absurd h2 (by decide)
  · exact absurd h2 (by decide)
  · exact ⟨2, 7, by decide, by decide, by decide, by decide, by decide⟩
  · exact ⟨3, 5, by decide, by decide, by decide, by decide, by decide⟩
theorem terms_s {N : Nat} {l : List D} (h : Src N l) (hN : N ≤ 998000) {m : Nat} (hm : m ∈ [2, 3, 5, 6, 7, 10, 11, 13, 14, 15]) :
    ∃ (tt : List (Int × Int)) (l' : List D), f__law_terms [.ref (.lst l), .d (.int m)] = .ok (.d (.tuple (tt.map tp))) [.lst l'] ∧ Src (N + 19) l' ∧ Terms m 4 tt := by
  have hm15 : m ≤ 15 := by simp at hm; omega
  have hm2 : 2 ≤ m := by simp at hm; omega
  obtain ⟨p, l1, k1, S1, hp⟩ := pick_c h (by omega) 8 (by decide) (by decide)
  have k1' : f__law_pick [.ref (.lst l), .d (.int 8)] = .ok (.d (.int p)) [.lst l1] := k1
  have kp := primes_s hm
  obtain ⟨ys, l2, k2, S2, hy9, hyi⟩ := marks_s S1 (by omega) (some (.d (.int p))) (some (.d (.list ((primesOf m).map PyData.int)))) none none none (some (.d (.int m)))
  have k3 := offsets_s ys hy9 hyi (some (.ref (.lst l2))) (some (.d (.int m))) (some (.d (.int p))) (some (.d (.list ((primesOf m).map PyData.int)))) (some (.d (.int 1)))
  generalize hO : [] ++ ((intsD (-4) 9).filter (markAt ys)).map id = O at k3
  have hOi : ∀ x ∈ O, ∃ o : Int, x = .int o ∧ -4 ≤ o ∧ o ≤ 4 := fun x hx => by
    rw [← hO] at hx
    simp at hx
    obtain ⟨k, hk, rfl⟩ := mem_ints hx.1
    exact ⟨_, rfl, by omega, by omega⟩
  have hOs : O.Sublist (intsD (-4) 9) := by
    rw [← hO, List.nil_append, List.map_id]
    exact List.filter_sublist
  have hOl : O.length ≤ 9 := by
    rw [← hO]
    simp
    exact Nat.le_trans (List.length_filter_le _ _) (by rw [intsD_len]; decide)
  have r9 : range1 (.int 9) = some (intsD 0 9) := by rfl
  have r45 : range2 (.int (-4)) (.int 5) = some (intsD (-4) 9) := by rfl
  have l9 : (intsD 0 9).length ≤ 16777216 := by rw [intsD_len]; decide
  have l49 : (intsD (-4) 9).length ≤ 16777216 := by rw [intsD_len]; decide
  obtain ⟨offs, ho1, ho2, hoS, ho3⟩ : ∃ offs : List D, offs = (if (p : Int) < 3 then cutD O none (some (p : Int)) else O) ∧ offs.length ≤ 9 ∧ offs.Sublist (intsD (-4) 9) ∧ ∀ x ∈ offs, ∃ o : Int, x = .int o ∧ -4 ≤ o ∧ o ≤ 4 := by
    refine ⟨_, rfl, ?_, ?_, ?_⟩
    · split
      · exact Nat.le_trans cut_len hOl
      · exact hOl
    · split
      · exact cut_sub.trans hOs
      · exact hOs
    · split
      · exact fun x hx => hOi x (cut_mem hx)
      · exact hOi
  have fin : ∀ (sh : Nat), 0 < sh → 2 * sh ≤ m → ∃ (ts l' : List D), compGo [7] (.n 7) mYes (mTup [(mV 7), (mCall f__law_factor [(mV 0), (mV 1), (mV 4)])]) offs [] [some (.ref (.lst l2)), some (.d (.int m)), some (.d (.int p)), some (.d (.list ((primesOf m).map PyData.int))), some (.d (.int sh)), some (.d (.list ys)), some (.d (.list offs)), none] =
      .ok (.own (.lst ts)) [some (.ref (.lst l')), some (.d (.int m)), some (.d (.int p)), some (.d (.list ((primesOf m).map PyData.int))), some (.d (.int sh)), some (.d (.list ys)), some (.d (.list offs)), none] ∧ Src (N + 1 + 9 + 9) l' ∧ ∃ tt : List (Int × Int), ts = tt.map tp ∧ Terms m 4 tt :=
    fun sh h1 h2 => by
      obtain ⟨ts, l', a1, a2, a3, a4, a5⟩ := terms_comp S2 m sh hm15 h1 h2 offs ho2 (by omega) ho3 (some (.d (.int p))) (some (.d (.list ((primesOf m).map PyData.int)))) (some (.d (.list ys)))
      obtain ⟨os, e1, e2⟩ := sub_ints hoS
      obtain ⟨tt, b1, b2, b3⟩ := terms_of os ts (by rw [a3, e1, List.length_map]) a4 (by rw [← e1]; exact a5)
      refine ⟨ts, l', a1, a2, tt, b1, ⟨by rw [← List.length_map (f := tp), ← b1, a3]; exact ho2, fun t ht => (b3 t ht).1, fun t ht => (b3 t ht).2, ?_⟩⟩
      rw [← b2] at e2
      exact List.pairwise_map.mp e2
  have lo : offs.length ≤ 16777216 := by omega
  by_cases h5 : 5 < p ∧ (primesOf m).length = 2
  · obtain ⟨s1, t1, e1, b1, b2, b3, b4⟩ := share_of hm h5.2
    have p5 : (5 : Int) < p := by omega
    have n3 : ¬ (p : Int) < 3 := by omega
    rw [if_neg n3] at ho1
    subst ho1
    obtain ⟨sh, hs0, hs2, hsa⟩ : ∃ sh : Nat, 0 < sh ∧ 2 * sh ≤ m ∧ atD ((primesOf m).map PyData.int) ((p : Int) - 6) = some (.int sh) := by
      rw [e1]
      rcases (show p = 6 ∨ p = 7 by omega) with rfl | rfl
      · exact ⟨s1, b1, b2, by simp⟩
      · exact ⟨t1, b3, b4, by simp⟩
    obtain ⟨ts, l', f1, f2, tt, f3, f4⟩ := fin sh hs0 hs2
    refine ⟨tt, l', ?_, f2.mono (by omega), f4⟩
    rw [← f3]
    simp [f__law_terms, b__law_terms, k1', kp, k2, k3, r9, r45, l9, l49, n3, p5, h5.2, hsa, f1, lo]
  · obtain ⟨ts, l', f1, f2, tt, f3, f4⟩ := fin 1 (by decide) (by omega)
    rw [show ((1 : Nat) : Int) = 1 from rfl] at f1
    refine ⟨tt, l', ?_, f2.mono (by omega), f4⟩
    rw [← f3]
    have nb : ¬ ((5 : Int) < p ∧ (primesOf m).length = 2) := fun z => h5 ⟨by omega, z.2⟩
    by_cases p3 : (p : Int) < 3
    · rw [if_pos p3] at ho1
      subst ho1
      have p5 : ¬ (5 : Int) < p := by omega
      simp [f__law_terms, b__law_terms, k1', kp, k2, k3, r9, r45, l9, l49, p3, p5, slD, f1, lo]
    · rw [if_neg p3] at ho1
      subst ho1
      by_cases p5 : (5 : Int) < p
      · have n2 : ¬ (((primesOf m).length : Nat) : Int) = 2 := fun z => nb ⟨p5, by omega⟩
        simp [f__law_terms, b__law_terms, k1', kp, k2, k3, r9, r45, l9, l49, p3, p5, n2, f1, lo]
      · simp [f__law_terms, b__law_terms, k1', kp, k2, k3, r9, r45, l9, l49, p3, p5, f1, lo]
end K01
end

section
set_option autoImplicit false
set_option linter.all false
/-! rows that come round, and rules: a row that ever dies out dies out in as many steps as it has cells -/
namespace RR
def Fs (ts : List (Int × Int)) (w : Int → Int) (j : Int) : Int := (ts.map fun t => t.2 * w (j + t.1)).sum
theorem Fs_cons (t : Int × Int) (ts : List (Int × Int)) (w : Int → Int) (j : Int) : Fs (t :: ts) w j = t.2 * w (j + t.1) + Fs ts w j := by
  simp [Fs]
theorem Fs_nil (w : Int → Int) (j : Int) : Fs [] w j = 0 := rfl
theorem Fs_lin (c : Int) (u v : Int → Int) : ∀ (ts : List (Int × Int)) (j : Int), Fs ts (fun i => c * u i + v i) j = c * Fs ts u j + Fs ts v j
  | [], j => by simp [Fs_nil]
  | t :: ts, j => by
    rw [Fs_cons, Fs_cons, Fs_cons, Fs_lin c u v ts j, Int.mul_add, Int.mul_add]
    have : t.2 * (c * u (j + t.1)) = c * (t.2 * u (j + t.1)) := by rw [← Int.mul_assoc, ← Int.mul_assoc, Int.mul_comm c]
    omega
def Zp (p : Nat) (u : Int → Int) : Prop := ∀ j, (p : Int) ∣ u j
theorem Fs_z {p : Nat} {u : Int → Int} (h : Zp p u) : ∀ ts : List (Int × Int), Zp p (Fs ts u)
  | [], j => by rw [Fs_nil]; exact Int.dvd_zero _
  | t :: ts, j => by
    rw [Fs_cons]
    exact Int.dvd_add (Int.dvd_mul_of_dvd_right (h _)) (Fs_z h ts j)
theorem Fs_congr {p : Nat} {u v : Int → Int} (h : Zp p fun j => u j - v j) (ts : List (Int × Int)) : Zp p fun j => Fs ts u j - Fs ts v j := fun j => by
  have e := Fs_lin (-1) v u ts j
  have z := Fs_z (u := fun i => -1 * v i + u i) (p := p) (fun i => by
    have := h i
    show (p : Int) ∣ -1 * v i + u i
    rw [show -1 * v i + u i = u i - v i by omega]
    exact this) ts j
  rw [e] at z
  show (p : Int) ∣ Fs ts u j - Fs ts v j
  rw [show Fs ts u j - Fs ts v j = -1 * Fs ts v j + Fs ts u j by omega]
  exact z
def itF (ts : List (Int × Int)) : Nat → (Int → Int) → Int → Int
  | 0, w => w
  | k + 1, w => itF ts k (Fs ts w)
theorem itF_F (ts : List (Int × Int)) : ∀ (k : Nat) (w : Int → Int), itF ts k (Fs ts w) = Fs ts (itF ts k w)
  | 0, w => rfl
  | k + 1, w => by
    show itF ts k (Fs ts (Fs ts w)) = Fs ts (itF ts k (Fs ts w))
    rw [itF_F ts k]
theorem itF_lin (ts : List (Int × Int)) (c : Int) : ∀ (k : Nat) (u v : Int → Int), itF ts k (fun i => c * u i + v i) = fun i => c * itF ts k u i + itF ts k v i
  | 0, u, v => rfl
  | k + 1, u, v => by
    have e : Fs ts (fun i => c * u i + v i) = fun i => c * Fs ts u i + Fs ts v i := funext fun j => Fs_lin c u v ts j
    show itF ts k (Fs ts _) = _
    rw [e, itF_lin ts c k]
    rfl
theorem itF_z {p : Nat} (ts : List (Int × Int)) : ∀ (k : Nat) {u : Int → Int}, Zp p u → Zp p (itF ts k u)
  | 0, _, h => h
  | k + 1, _, h => itF_z ts k (Fs_z h ts)
theorem itF_congr {p : Nat} (ts : List (Int × Int)) : ∀ (k : Nat) {u v : Int → Int}, (Zp p fun j => u j - v j) → Zp p fun j => itF ts k u j - itF ts k v j
  | 0, _, _, h => h
  | k + 1, _, _, h => itF_congr ts k (Fs_congr h ts)
/-- the numbers below a power of p as combinations -/
def comb (p : Nat) (ts : List (Int × Int)) : Nat → Nat → (Int → Int) → Int → Int
  | 0, _, _ => fun _ => 0
  | k + 1, N, w => fun j => ((N % p : Nat) : Int) * w j + comb p ts k (N / p) (Fs ts w) j
theorem comb_z {p : Nat} (ts : List (Int × Int)) (m : Nat) : ∀ (k N : Nat) {u : Int → Int}, Zp p (itF ts m u) → Zp p (itF ts m (comb p ts k N u))
  | 0, N, u, _ => itF_z ts m fun _ => Int.dvd_zero _
  | k + 1, N, u, h => fun j => by
    have e : comb p ts (k + 1) N u = fun j => ((N % p : Nat) : Int) * u j + comb p ts k (N / p) (Fs ts u) j := rfl
    rw [e, itF_lin]
    refine Int.dvd_add (Int.dvd_mul_of_dvd_right (h j)) (comb_z ts m k (N / p) ?_ j)
    rw [itF_F]
    exact Fs_z h ts
def Prim (p : Nat) : Prop := 0 < p ∧ ∀ (e x : Int), (p : Int) ∣ e * x → ¬ (p : Int) ∣ e → (p : Int) ∣ x
theorem small_nd {p : Nat} {a b : Nat} (ha : a < p) (hb : b < p) (h : a ≠ b) : ¬ (p : Int) ∣ (a : Int) - b := fun ⟨k, e⟩ => by
  have h1 : (a : Int) - b < p := by omega
  have h2 : -(p : Int) < (a : Int) - b := by omega
  rw [e] at h1 h2
  have hp : (0 : Int) < p := by omega
  have k1 : k < 1 := by
    have : (p : Int) * k < p * 1 := by rw [Int.mul_one]; exact h1
    exact Int.lt_of_mul_lt_mul_left this (Int.le_of_lt hp)
  have k2 : -1 < k := by
    have : (p : Int) * (-1) < p * k := by omega
    exact Int.lt_of_mul_lt_mul_left this (Int.le_of_lt hp)
  have : k = 0 := by omega
  rw [this, Int.mul_zero] at e
  omega
theorem two_combs {p : Nat} (hp : Prim p) (ts : List (Int × Int)) : ∀ (k N M : Nat) (w : Int → Int), N < p ^ (k + 1) → M < p ^ (k + 1) → N ≠ M →
    (Zp p fun j => comb p ts (k + 1) N w j - comb p ts (k + 1) M w j) → Zp p (itF ts (k + 1) w) → Zp p (itF ts k w)
  | 0, N, M, w, hN, hM, ne, hc, _ => fun j => by
    rw [Nat.pow_one] at hN hM
    have h := hc j
    have e1 : comb p ts 1 N w j = ((N % p : Nat) : Int) * w j + 0 := rfl
    have e2 : comb p ts 1 M w j = ((M % p : Nat) : Int) * w j + 0 := rfl
    have h' : (p : Int) ∣ comb p ts 1 N w j - comb p ts 1 M w j := h
    rw [e1, e2, Nat.mod_eq_of_lt hN, Nat.mod_eq_of_lt hM, Int.add_zero, Int.add_zero, ← Int.sub_mul] at h'
    exact hp.2 _ _ h' (small_nd hN hM ne)
  | k + 1, N, M, w, hN, hM, ne, hc, hz => by
    have dN : N / p < p ^ (k + 1) := Nat.div_lt_of_lt_mul (by rw [Nat.mul_comm, ← Nat.pow_succ]; exact hN)
    have dM : M / p < p ^ (k + 1) := Nat.div_lt_of_lt_mul (by rw [Nat.mul_comm, ← Nat.pow_succ]; exact hM)
    have tN := Nat.div_add_mod N p
    have tM := Nat.div_add_mod M p
    by_cases ea : N % p = M % p
    · have ne2 : N / p ≠ M / p := fun z => ne (by rw [← tN, ← tM, z, ea])
      refine two_combs hp ts k (N / p) (M / p) (Fs ts w) dN dM ne2 (fun j => ?_) hz
      have h := hc j
      have h' : (p : Int) ∣ (((N % p : Nat) : Int) * w j + comb p ts (k + 1) (N / p) (Fs ts w) j) - (((M % p : Nat) : Int) * w j + comb p ts (k + 1) (M / p) (Fs ts w) j) := h
      rw [ea] at h'
      show (p : Int) ∣ comb p ts (k + 1) (N / p) (Fs ts w) j - comb p ts (k + 1) (M / p) (Fs ts w) j
      rw [show comb p ts (k + 1) (N / p) (Fs ts w) j - comb p ts (k + 1) (M / p) (Fs ts w) j = (((M % p : Nat) : Int) * w j + comb p ts (k + 1) (N / p) (Fs ts w) j) - (((M % p : Nat) : Int) * w j + comb p ts (k + 1) (M / p) (Fs ts w) j) by omega]
      exact h'
    · have zr : ∀ R : Nat, Zp p (itF ts (k + 1) (comb p ts (k + 1) R (Fs ts w))) := fun R => comb_z ts (k + 1) (k + 1) R (by
        exact hz)
      have hc2 := itF_congr (p := p) ts (k + 1) hc
      intro j
      have e1 : comb p ts (k + 1 + 1) N w = fun j => ((N % p : Nat) : Int) * w j + comb p ts (k + 1) (N / p) (Fs ts w) j := rfl
      have e2 : comb p ts (k + 1 + 1) M w = fun j => ((M % p : Nat) : Int) * w j + comb p ts (k + 1) (M / p) (Fs ts w) j := rfl
      have h := hc2 j
      have h' : (p : Int) ∣ itF ts (k + 1) (comb p ts (k + 1 + 1) N w) j - itF ts (k + 1) (comb p ts (k + 1 + 1) M w) j := h
      rw [e1, e2, itF_lin, itF_lin] at h'
      simp only [] at h'
      have z1 := zr (N / p) j
      have z2 := zr (M / p) j
      refine hp.2 (((N % p : Nat) : Int) - ((M % p : Nat) : Int)) _ ?_ (small_nd (Nat.mod_lt _ hp.1) (Nat.mod_lt _ hp.1) ea)
      rw [Int.sub_mul]
      have := Int.dvd_add (Int.dvd_sub h' z1) z2
      refine (Int.dvd_iff_emod_eq_zero.mpr ?_)
      have h3 := Int.dvd_iff_emod_eq_zero.mp this
      rw [← h3]
      congr 1
      omega
/-! pigeons -/
theorem pigeon : ∀ (m : Nat) (f : Nat → Nat) (n : Nat), m < n → (∀ i, i < n → f i < m) → ∃ i j, i < n ∧ j < n ∧ i ≠ j ∧ f i = f j
  | 0, f, n, hn, h => absurd (h 0 hn) (Nat.not_lt_zero _)
  | m + 1, f, n, hn, h => by
    by_cases q : ∃ i, i < n - 1 ∧ f i = f (n - 1)
    · obtain ⟨i, h1, h2⟩ := q
      exact ⟨i, n - 1, by omega, by omega, by omega, h2⟩
    · have q' : ∀ i, i < n - 1 → f i ≠ f (n - 1) := fun i hi z => q ⟨i, hi, z⟩
      obtain ⟨i, j, h1, h2, h3, h4⟩ := pigeon m (fun i => if f i < f (n - 1) then f i else f i - 1) (n - 1) (by omega) fun i hi => by
        have a := h i (by omega)
        have b := h (n - 1) (by omega)
        have c := q' i hi
        show (if f i < f (n - 1) then f i else f i - 1) < m
        split <;> omega
      refine ⟨i, j, by omega, by omega, h3, ?_⟩
      have a := q' i h1
      have b := q' j h2
      have h4' : (if f i < f (n - 1) then f i else f i - 1) = (if f j < f (n - 1) then f j else f j - 1) := h4
      split at h4' <;> split at h4' <;> omega
/-- the cells from 0 on as a number -/
def enc (p : Nat) : Nat → (Int → Int) → Nat
  | 0, _ => 0
  | n + 1, w => (w 0 % (p : Int)).toNat + p * enc p n (fun j => w (j + 1))
theorem enc_lt {p : Nat} (hp : 0 < p) : ∀ (n : Nat) (w : Int → Int), enc p n w < p ^ n
  | 0, w => Nat.one_pos
  | n + 1, w => by
    have h := enc_lt hp n fun j => w (j + 1)
    have a : (w 0 % (p : Int)).toNat < p := by
      have := Int.emod_lt_of_pos (w 0) (show (0 : Int) < p by omega)
      have := Int.emod_nonneg (w 0) (show (p : Int) ≠ 0 by omega)
      omega
    show (w 0 % (p : Int)).toNat + p * enc p n (fun j => w (j + 1)) < p ^ n * p
    have : p * enc p n (fun j => w (j + 1)) + p ≤ p ^ n * p := by
      rw [Nat.mul_comm (p ^ n), ← Nat.mul_succ]
      exact Nat.mul_le_mul_left _ h
    omega
theorem enc_eq {p : Nat} (hp : 0 < p) : ∀ (n : Nat) (u w : Int → Int), enc p n u = enc p n w → ∀ j : Nat, j < n → (p : Int) ∣ u j - w j
  | 0, u, w, _, j, hj => absurd hj (Nat.not_lt_zero _)
  | n + 1, u, w, h, j, hj => by
    have b : ∀ v : Int → Int, (v 0 % (p : Int)).toNat < p ∧ (((v 0 % (p : Int)).toNat : Nat) : Int) = v 0 % (p : Int) := fun v => by
      have := Int.emod_lt_of_pos (v 0) (show (0 : Int) < p by omega)
      have := Int.emod_nonneg (v 0) (show (p : Int) ≠ 0 by omega)
      omega
    have h' : (u 0 % (p : Int)).toNat + p * enc p n (fun j => u (j + 1)) = (w 0 % (p : Int)).toNat + p * enc p n (fun j => w (j + 1)) := h
    have e1 : (u 0 % (p : Int)).toNat = (w 0 % (p : Int)).toNat := by
      have := congrArg (· % p) h'
      simp only [Nat.add_mul_mod_self_left] at this
      rwa [Nat.mod_eq_of_lt (b u).1, Nat.mod_eq_of_lt (b w).1] at this
    have e2 : enc p n (fun j => u (j + 1)) = enc p n (fun j => w (j + 1)) := by
      rw [e1] at h'
      exact Nat.eq_of_mul_eq_mul_left hp (Nat.add_left_cancel h')
    cases j with
    | zero =>
      have : u 0 % (p : Int) = w 0 % (p : Int) := by rw [← (b u).2, ← (b w).2, e1]
      exact Int.dvd_of_emod_eq_zero (Int.emod_eq_emod_iff_emod_sub_eq_zero.mp this)
    | succ j => exact enc_eq hp n _ _ e2 j (by omega)
/-- w comes round by n -/
def Per (n : Nat) (w : Int → Int) : Prop := ∀ j k : Int, w (j + n * k) = w j
theorem Per.Fs {n : Nat} {w : Int → Int} (h : Per n w) (ts : List (Int × Int)) : Per n (Fs ts w) := fun j k => by
  unfold RR.Fs
  congr 2
  funext t
  rw [show j + n * k + t.1 = (j + t.1) + n * k by omega, h]
theorem Per.comb {n p : Nat} (ts : List (Int × Int)) : ∀ (k N : Nat) {w : Int → Int}, Per n w → Per n (comb p ts k N w)
  | 0, _, _, _ => fun _ _ => rfl
  | k + 1, N, w, h => fun j l => by
    show ((N % p : Nat) : Int) * w (j + n * l) + RR.comb p ts k (N / p) (RR.Fs ts w) (j + n * l) = _
    rw [h, Per.comb ts k (N / p) (h.Fs ts)]
    rfl
/-- a row of n cells that dies out in n + 1 steps dies out in n -/
theorem dies_by {p n : Nat} (hp : Prim p) (h1 : 1 < p) (hn : 0 < n) (ts : List (Int × Int)) {w : Int → Int} (hw : Per n w) (hz : Zp p (itF ts (n + 1) w)) : Zp p (itF ts n w) := by
  obtain ⟨N, M, hN, hM, ne, he⟩ := pigeon (p ^ n) (fun N => enc p n (comb p ts (n + 1) N w)) (p ^ (n + 1)) (Nat.pow_lt_pow_right h1 (Nat.lt_succ_self n)) fun i _ => enc_lt hp.1 n _
  refine two_combs hp ts n N M w hN hM ne (fun j => ?_) hz
  have q := enc_eq hp.1 n _ _ he (j % n).toNat (by
    have := Int.emod_lt_of_pos j (show (0 : Int) < n by omega)
    have := Int.emod_nonneg j (show (n : Int) ≠ 0 by omega)
    omega)
  have e : (((j % n).toNat : Nat) : Int) = j % n := Int.toNat_of_nonneg (Int.emod_nonneg j (by omega))
  rw [e] at q
  have pj : ∀ R : Nat, comb p ts (n + 1) R w j = comb p ts (n + 1) R w (j % n) := fun R => by
    have := Per.comb (p := p) ts (n + 1) R hw (j % n) (j / n)
    rw [Int.emod_add_mul_ediv] at this
    exact this
  show (p : Int) ∣ comb p ts (n + 1) N w j - comb p ts (n + 1) M w j
  rw [pj N, pj M]
  exact q
end RR
end

section
set_option autoImplicit false
set_option linter.all false
namespace RR
/-- the cell at a place, coming round -/
def toF (vs : List Int) (j : Int) : Int := vs.getD (j % vs.length).toNat 0
def stepV (p : Nat) (ts : List (Int × Int)) (vs : List Int) : List Int := (List.range vs.length).map fun (i : Nat) => Fs ts (toF vs) i % (p : Int)
theorem stepV_len {p : Nat} {ts : List (Int × Int)} {vs : List Int} : (stepV p ts vs).length = vs.length := by
  unfold stepV
  rw [List.length_map, List.length_range]
theorem toF_per (vs : List Int) : Per vs.length (toF vs) := fun j k => by
  unfold toF
  rw [Int.add_mul_emod_self_left]
theorem toF_nat {vs : List Int} {i : Nat} (h : i < vs.length) : toF vs i = vs[i] := by
  unfold toF
  rw [Int.emod_eq_of_lt (by omega) (by omega), Int.toNat_natCast, List.getD_eq_getElem?_getD, List.getElem?_eq_getElem h] <;> rfl
theorem rest_lt {n : Nat} (j : Int) (h : 0 < n) : (j % n).toNat < n ∧ (((j % n).toNat : Nat) : Int) = j % n := by
  have := Int.emod_lt_of_pos j (show (0 : Int) < n by omega)
  have := Int.emod_nonneg j (show (n : Int) ≠ 0 by omega)
  omega
theorem per_rest {n : Nat} {w : Int → Int} (h : Per n w) (j : Int) : w (j % n) = w j := by
  have := h (j % n) (j / n)
  rw [Int.emod_add_mul_ediv] at this
  exact this.symm
theorem toF_step {p : Nat} {ts : List (Int × Int)} {vs : List Int} (h : 0 < vs.length) (j : Int) : toF (stepV p ts vs) j = Fs ts (toF vs) j % (p : Int) := by
  obtain ⟨h1, h2⟩ := rest_lt j h
  have e : toF (stepV p ts vs) j = (stepV p ts vs).getD (j % vs.length).toNat 0 := by
    unfold toF
    rw [stepV_len]
  rw [e, List.getD_eq_getElem?_getD]
  unfold stepV
  rw [List.getElem?_map, List.getElem?_range h1]
  show Fs ts (toF vs) (((j % vs.length).toNat : Nat) : Int) % (p : Int) = _
  rw [h2, per_rest ((toF_per vs).Fs ts)]
/-- all is 0 -/
def zero (vs : List Int) : Bool := vs.all fun z => z == 0
theorem zero_iff {vs : List Int} (h : 0 < vs.length) : zero vs = true ↔ ∀ j, toF vs j = 0 := by
  unfold zero
  rw [List.all_eq_true]
  constructor
  · intro q j
    unfold toF
    obtain ⟨h1, _⟩ := rest_lt j h
    rw [List.getD_eq_getElem?_getD, List.getElem?_eq_getElem h1]
    exact eq_of_beq (q _ (List.getElem_mem h1))
  · intro q z hz
    obtain ⟨i, hi, e⟩ := List.getElem_of_mem hz
    rw [← e, ← toF_nat hi, q]
    rfl
def due {S : Type} (z : S → Bool) (f : S → S) : Nat → Nat → S → Option Nat
  | 0, _, _ => none
  | k + 1, t, v => if z v = true then some t else due z f k (t + 1) (f v)
def it {S : Type} (f : S → S) : Nat → S → S
  | 0, v => v
  | k + 1, v => it f k (f v)
theorem it_f {S : Type} (f : S → S) : ∀ (k : Nat) (v : S), it f k (f v) = f (it f k v)
  | 0, _ => rfl
  | k + 1, v => it_f f k (f v)
section
variable {S : Type} {z : S → Bool} {f : S → S}
theorem due_t : ∀ (k t : Nat) (v : S), due z f k (t + 1) v = (due z f k t v).map (· + 1)
  | 0, _, _ => rfl
  | k + 1, t, v => by
    unfold due
    split
    · rfl
    · exact due_t k (t + 1) (f v)
theorem due_rel {R : S → S → Prop} (hz : ∀ v w, R v w → z v = z w) (hf : ∀ v w, R v w → R (f v) (f w)) : ∀ (k t : Nat) (v w : S), R v w → due z f k t v = due z f k t w
  | 0, _, _, _, _ => rfl
  | k + 1, t, v, w, h => by
    unfold due
    rw [hz v w h, due_rel hz hf k (t + 1) _ _ (hf v w h)]
theorem due_more : ∀ (k t : Nat) (v : S), due z f (k + 1) t v = match due z f k t v with
    | some s => some s
    | none => if z (it f k v) = true then some (t + k) else none
  | 0, t, v => by
    show (if z v = true then some t else none) = _
    rfl
  | k + 1, t, v => by
    unfold due
    by_cases h : z v = true
    · rw [if_pos h, if_pos h]
    · rw [if_neg h, if_neg h, due_more k (t + 1) (f v)]
      have e : t + 1 + k = t + (k + 1) := by omega
      rw [e]
      rfl
/-- one step later -/
theorem due_step (k : Nat) (v : S) (h0 : z v = true → z (f v) = true) (hn : z (it f (k + 1) v) = true → z (it f k v) = true) :
    due z f (k + 1) 0 (f v) = match due z f (k + 1) 0 v with
      | none => none
      | some 0 => some 0
      | some (t + 1) => some t := by
  by_cases h : z v = true
  · have e1 : due z f (k + 1) 0 v = some 0 := by
      unfold due
      rw [if_pos h]
    have e2 : due z f (k + 1) 0 (f v) = some 0 := by
      unfold due
      rw [if_pos (h0 h)]
    rw [e1, e2]
  · have e1 : due z f (k + 1) 0 v = (due z f k 0 (f v)).map (· + 1) := by
      rw [due, if_neg h, due_t]
    rw [e1, due_more]
    cases e : due z f k 0 (f v) with
    | some s => rfl
    | none =>
      show (if z (it f k (f v)) = true then some (0 + k) else none) = none
      rw [if_neg]
      intro q
      have q2 := hn q
      cases k with
      | zero => exact h q2
      | succ m =>
        have e3 : due z f (m + 1) 0 (f v) ≠ none := by
          rw [due_more]
          cases due z f m 0 (f v) with
          | some s => exact fun z => nomatch z
          | none =>
            show (if z (it f m (f v)) = true then some (0 + m) else none) ≠ none
            rw [if_pos (show z (it f m (f v)) = true from q2)]
            exact fun z => nomatch z
        exact e3 e
end
/-! steps of lists and of functions -/
theorem it_len {p : Nat} {ts : List (Int × Int)} : ∀ (k : Nat) (vs : List Int), (it (stepV p ts) k vs).length = vs.length
  | 0, _ => rfl
  | k + 1, vs => by
    show (it (stepV p ts) k (stepV p ts vs)).length = _
    rw [it_len k, stepV_len]
theorem dvd_emod {p : Nat} (x : Int) : (p : Int) ∣ x % p - x := by
  refine Int.dvd_of_emod_eq_zero (Int.emod_eq_emod_iff_emod_sub_eq_zero.mp ?_)
  rw [Int.emod_emod]
theorem it_cong {p : Nat} {ts : List (Int × Int)} : ∀ (k : Nat) (vs : List Int), 0 < vs.length → Zp p fun j => toF (it (stepV p ts) k vs) j - itF ts k (toF vs) j
  | 0, vs, _ => fun j => by
    show (p : Int) ∣ toF vs j - toF vs j
    rw [Int.sub_self]
    exact Int.dvd_zero _
  | k + 1, vs, h => fun j => by
    have a := it_cong (p := p) (ts := ts) k (stepV p ts vs) (by rw [stepV_len]; exact h) j
    have b := itF_congr (p := p) ts k (u := toF (stepV p ts vs)) (v := Fs ts (toF vs)) (fun j => by
      show (p : Int) ∣ toF (stepV p ts vs) j - Fs ts (toF vs) j
      rw [toF_step h]
      exact dvd_emod _) j
    have c := Int.dvd_add a b
    show (p : Int) ∣ toF (it (stepV p ts) k (stepV p ts vs)) j - itF ts k (Fs ts (toF vs)) j
    have e : toF (it (stepV p ts) k (stepV p ts vs)) j - itF ts k (Fs ts (toF vs)) j = (toF (it (stepV p ts) k (stepV p ts vs)) j - itF ts k (toF (stepV p ts vs)) j) + (itF ts k (toF (stepV p ts vs)) j - itF ts k (Fs ts (toF vs)) j) := by omega
    rw [e]
    exact c
def Cl (p : Nat) (zs : List Int) : Prop := ∀ z ∈ zs, 0 ≤ z ∧ z < p
theorem cl_step {p : Nat} {ts : List (Int × Int)} {vs : List Int} (hp : 0 < p) : Cl p (stepV p ts vs) := fun z hz => by
  unfold stepV at hz
  obtain ⟨i, _, rfl⟩ := List.mem_map.mp hz
  exact ⟨Int.emod_nonneg _ (by omega), Int.emod_lt_of_pos _ (by omega)⟩
theorem cl_it {p : Nat} {ts : List (Int × Int)} (hp : 0 < p) : ∀ (k : Nat) (vs : List Int), Cl p vs → Cl p (it (stepV p ts) k vs)
  | 0, _, h => h
  | k + 1, _, _ => cl_it hp k _ (cl_step hp)
theorem toF_cl {p : Nat} {vs : List Int} (h : Cl p vs) (hl : 0 < vs.length) (j : Int) : 0 ≤ toF vs j ∧ toF vs j < p := by
  obtain ⟨h1, _⟩ := rest_lt j hl
  unfold toF
  rw [List.getD_eq_getElem?_getD, List.getElem?_eq_getElem h1]
  exact h _ (List.getElem_mem h1)
theorem zero_z {p : Nat} {vs : List Int} (h : Cl p vs) (hl : 0 < vs.length) : zero vs = true ↔ Zp p (toF vs) := by
  rw [zero_iff hl]
  constructor
  · intro q j
    rw [q j]
    exact Int.dvd_zero _
  · intro q j
    have := toF_cl h hl j
    have e := Int.emod_eq_zero_of_dvd (q j)
    rwa [Int.emod_eq_of_lt this.1 this.2] at e
theorem Zp.trans_sub {p : Nat} {u v : Int → Int} (h : Zp p fun j => u j - v j) (hv : Zp p v) : Zp p u := fun j => by
  have := Int.dvd_add (h j) (hv j)
  rw [show u j - v j + v j = u j by omega] at this
  exact this
theorem Zp.sub_symm {p : Nat} {u v : Int → Int} (h : Zp p fun j => u j - v j) : Zp p fun j => v j - u j := fun j => by
  have := Int.dvd_neg.mpr (h j)
  rw [show -(u j - v j) = v j - u j by omega] at this
  exact this
/-- dies_in of one step further -/
theorem due_one {p : Nat} (hp : Prim p) (h1 : 1 < p) (ts : List (Int × Int)) {vs : List Int} (hc : Cl p vs) (hl : 0 < vs.length) :
    due zero (stepV p ts) (vs.length + 1) 0 (stepV p ts vs) = match due zero (stepV p ts) (vs.length + 1) 0 vs with
      | none => none
      | some 0 => some 0
      | some (t + 1) => some t := by
  refine due_step vs.length vs (fun q => ?_) fun q => ?_
  · rw [zero_z (cl_step hp.1) (by rw [stepV_len]; exact hl)]
    have z := Fs_z ((zero_z hc hl).mp q) ts
    refine Zp.trans_sub (v := Fs ts (toF vs)) (fun j => ?_) z
    show (p : Int) ∣ toF (stepV p ts vs) j - Fs ts (toF vs) j
    rw [toF_step hl]
    exact dvd_emod _
  · have l1 : 0 < (it (stepV p ts) (vs.length + 1) vs).length := by rw [it_len]; exact hl
    have l2 : 0 < (it (stepV p ts) vs.length vs).length := by rw [it_len]; exact hl
    have z1 := (zero_z (cl_it hp.1 _ _ hc) l1).mp q
    have z2 := Zp.trans_sub (Zp.sub_symm (it_cong (p := p) (ts := ts) (vs.length + 1) vs hl)) z1
    have z3 := dies_by hp h1 hl ts (toF_per vs) z2
    exact (zero_z (cl_it hp.1 _ _ hc) l2).mpr (Zp.trans_sub (it_cong vs.length vs hl) z3)
/-- moved round and multiplied -/
def Mv (p : Nat) (b c : Int) (v w : List Int) : Prop := w.length = v.length ∧ 0 < v.length ∧ Cl p v ∧ Cl p w ∧ ∀ j, (p : Int) ∣ toF w j - c * toF v (j + b)
theorem Fs_shift (ts : List (Int × Int)) (w : Int → Int) (b : Int) : ∀ j, Fs ts (fun i => w (i + b)) j = Fs ts w (j + b) := fun j => by
  unfold Fs
  congr 2
  funext t
  show t.2 * w (j + t.1 + b) = _
  rw [show j + t.1 + b = j + b + t.1 by omega]
theorem mv_zero {p : Nat} (hp : Prim p) {b c : Int} (hc : ¬ (p : Int) ∣ c) {v w : List Int} (h : Mv p b c v w) : zero v = zero w := by
  obtain ⟨h1, h2, h3, h4, h5⟩ := h
  have hw : 0 < w.length := by rw [h1]; exact h2
  rw [Bool.eq_iff_iff, zero_z h3 h2, zero_z h4 hw]
  constructor
  · intro q j
    have := Int.dvd_add (h5 j) (show (p : Int) ∣ c * toF v (j + b) from Int.dvd_mul_of_dvd_right (q (j + b)))
    rw [show toF w j - c * toF v (j + b) + c * toF v (j + b) = toF w j by omega] at this
    exact this
  · intro q j
    have a := h5 (j - b)
    rw [show j - b + b = j by omega] at a
    have := Int.dvd_sub (q (j - b)) a
    rw [show toF w (j - b) - (toF w (j - b) - c * toF v j) = c * toF v j by omega] at this
    exact hp.2 _ _ this hc
theorem mv_step {p : Nat} (hp : Prim p) (ts : List (Int × Int)) {b c : Int} {v w : List Int} (h : Mv p b c v w) : Mv p b c (stepV p ts v) (stepV p ts w) := by
  obtain ⟨h1, h2, h3, h4, h5⟩ := h
  have hw : 0 < w.length := by rw [h1]; exact h2
  refine ⟨by rw [stepV_len, stepV_len, h1], by rw [stepV_len]; exact h2, cl_step hp.1, cl_step hp.1, fun j => ?_⟩
  rw [toF_step hw, toF_step h2]
  have a := Fs_congr (p := p) (u := toF w) (v := fun j => c * toF v (j + b)) h5 ts j
  have e : Fs ts (fun j => c * toF v (j + b)) j = c * Fs ts (toF v) (j + b) := by
    have := Fs_lin c (fun j => toF v (j + b)) (fun _ => 0) ts j
    have z : Fs ts (fun _ => 0) j = 0 := by
      clear this a
      induction ts with
      | nil => rfl
      | cons t ts ih => rw [Fs_cons, ih]; simp
    rw [z, Fs_shift] at this
    simpa using this
  have a' : (p : Int) ∣ Fs ts (toF w) j - Fs ts (fun j => c * toF v (j + b)) j := a
  rw [e] at a'
  have d1 := dvd_emod (p := p) (Fs ts (toF w) j)
  have d2 : (p : Int) ∣ c * (Fs ts (toF v) (j + b) % p - Fs ts (toF v) (j + b)) := Int.dvd_mul_of_dvd_right (dvd_emod (p := p) (Fs ts (toF v) (j + b)))
  rw [Int.mul_sub] at d2
  have := Int.dvd_sub (Int.dvd_add d1 a') d2
  rw [show Fs ts (toF w) j % (p : Int) - c * (Fs ts (toF v) (j + b) % (p : Int)) = Fs ts (toF w) j % (p : Int) - Fs ts (toF w) j + (Fs ts (toF w) j - c * Fs ts (toF v) (j + b)) - (c * (Fs ts (toF v) (j + b) % (p : Int)) - c * Fs ts (toF v) (j + b)) by omega]
  exact this
theorem due_mv {p : Nat} (hp : Prim p) (ts : List (Int × Int)) {b c : Int} (hc : ¬ (p : Int) ∣ c) {v w : List Int} (h : Mv p b c v w) (k : Nat) : due zero (stepV p ts) k 0 w = due zero (stepV p ts) k 0 v :=
  (due_rel (R := Mv p b c) (fun _ _ q => mv_zero hp hc q) (fun _ _ q => mv_step hp ts q) k 0 v w h).symm
end RR
end

section
set_option autoImplicit false
set_option linter.all false
/-! rows of cells at places, as lists of pairs; rules; sums -/
namespace DR
abbrev L := List (Int × Int)
def phi (φ : Int → Int) (rs : L) : Int := (rs.map fun e => φ e.1 * e.2).sum
def dl (p : Int) : Int → Int := fun q => if q = p then 1 else 0
def S (rs : L) (p : Int) : Int := phi (dl p) rs
theorem phi_nil (φ : Int → Int) : phi φ [] = 0 := rfl
theorem phi_cons (φ : Int → Int) (e : Int × Int) (rs : L) : phi φ (e :: rs) = φ e.1 * e.2 + phi φ rs := by simp [phi]
theorem phi_app (φ : Int → Int) : ∀ as bs : L, phi φ (as ++ bs) = phi φ as + phi φ bs
  | [], bs => by simp [phi_nil]
  | a :: as, bs => by rw [List.cons_append, phi_cons, phi_cons, phi_app φ as bs]; omega
theorem S_nil (p : Int) : S [] p = 0 := rfl
theorem S_cons (e : Int × Int) (rs : L) (p : Int) : S (e :: rs) p = (if e.1 = p then e.2 else 0) + S rs p := by
  unfold S
  rw [phi_cons]
  unfold dl
  by_cases h : e.1 = p
  · rw [if_pos h, if_pos h, Int.one_mul]
  · rw [if_neg h, if_neg h, Int.zero_mul]
theorem S_app (as bs : L) (p : Int) : S (as ++ bs) p = S as p + S bs p := phi_app _ as bs
theorem S_out {rs : L} {p : Int} (h : ∀ e ∈ rs, e.1 ≠ p) : S rs p = 0 := by
  induction rs with
  | nil => rfl
  | cons e rs ih => rw [S_cons, if_neg (h e List.mem_cons_self), ih fun x hx => h x (List.mem_cons_of_mem _ hx)] <;> rfl
/-- a sum over the places of K -/
def sumK (K : List Int) (f : Int → Int) : Int := (K.map f).sum
theorem sumK_cons (k : Int) (K : List Int) (f : Int → Int) : sumK (k :: K) f = f k + sumK K f := by simp [sumK]
theorem sumK_add (f g : Int → Int) : ∀ K, sumK K (fun p => f p + g p) = sumK K f + sumK K g
  | [] => rfl
  | k :: K => by rw [sumK_cons, sumK_cons, sumK_cons, sumK_add f g K]; omega
theorem sumK_zero : ∀ K : List Int, sumK K (fun _ => 0) = 0
  | [] => rfl
  | k :: K => by rw [sumK_cons, sumK_zero K] <;> rfl
theorem sumK_one (φ : Int → Int) (q v : Int) : ∀ K : List Int, K.Nodup → sumK K (fun p => φ p * (if q = p then v else 0)) = if q ∈ K then φ q * v else 0
  | [], _ => by simp [sumK]
  | k :: K, h => by
    obtain ⟨h1, h2⟩ := List.nodup_cons.mp h
    rw [sumK_cons, sumK_one φ q v K h2]
    by_cases e : q = k
    · subst e
      rw [if_pos rfl, if_neg h1, if_pos List.mem_cons_self]
      omega
    · rw [if_neg e, Int.mul_zero, Int.zero_add]
      by_cases m : q ∈ K
      · rw [if_pos m, if_pos (List.mem_cons_of_mem _ m)]
      · rw [if_neg m, if_neg fun z => (List.mem_cons.mp z).elim e m]
theorem phi_keys (φ : Int → Int) {K : List Int} (hK : K.Nodup) : ∀ rs : L, (∀ e ∈ rs, e.1 ∈ K) → phi φ rs = sumK K fun p => φ p * S rs p
  | [], _ => by
    have : (fun p => φ p * S [] p) = fun _ => 0 := by funext p; rw [S_nil, Int.mul_zero]
    rw [this, sumK_zero] <;> rfl
  | e :: rs, h => by
    have : (fun p => φ p * S (e :: rs) p) = fun p => φ p * (if e.1 = p then e.2 else 0) + φ p * S rs p := by
      funext p
      rw [S_cons, Int.mul_add]
    rw [this, sumK_add, sumK_one φ e.1 e.2 K hK, if_pos (h e List.mem_cons_self), phi_cons, phi_keys φ hK rs fun x hx => h x (List.mem_cons_of_mem _ hx)]
theorem sumK_dvd {m : Int} {f g : Int → Int} : ∀ K : List Int, (∀ p, m ∣ f p - g p) → m ∣ sumK K f - sumK K g
  | [], _ => by simp [sumK]
  | k :: K, h => by
    rw [sumK_cons, sumK_cons, show f k + sumK K f - (g k + sumK K g) = (f k - g k) + (sumK K f - sumK K g) by omega]
    exact Int.dvd_add (h k) (sumK_dvd K h)
def dd : List Int → List Int
  | [] => []
  | x :: xs => if x ∈ xs then dd xs else x :: dd xs
theorem dd_mem {p : Int} : ∀ xs : List Int, p ∈ dd xs ↔ p ∈ xs
  | [] => Iff.rfl
  | x :: xs => by
    rw [dd]
    split
    · rename_i h
      rw [dd_mem xs]
      exact ⟨fun z => List.mem_cons_of_mem _ z, fun z => (List.mem_cons.mp z).elim (fun z => by rw [z]; exact h) id⟩
    · rw [List.mem_cons, dd_mem xs, List.mem_cons]
theorem dd_nd : ∀ xs : List Int, (dd xs).Nodup
  | [] => List.nodup_nil
  | x :: xs => by
    rw [dd]
    split
    · exact dd_nd xs
    · rename_i h
      exact List.nodup_cons.mpr ⟨fun z => h ((dd_mem xs).mp z), dd_nd xs⟩
/-- what is so of the sums at each place is so of all weighted sums -/
theorem phi_congr {m : Int} (φ : Int → Int) {as bs : L} (h : ∀ p, m ∣ S as p - S bs p) : m ∣ phi φ as - phi φ bs := by
  have hK : (dd ((as ++ bs).map (·.1))).Nodup := dd_nd _
  have ha : ∀ e ∈ as, e.1 ∈ (dd ((as ++ bs).map (·.1))) := fun e he => (dd_mem _).mpr (List.mem_map.mpr ⟨e, List.mem_append_left _ he, rfl⟩)
  have hb : ∀ e ∈ bs, e.1 ∈ (dd ((as ++ bs).map (·.1))) := fun e he => (dd_mem _).mpr (List.mem_map.mpr ⟨e, List.mem_append_right _ he, rfl⟩)
  rw [phi_keys φ hK as ha, phi_keys φ hK bs hb]
  refine sumK_dvd _ fun p => ?_
  rw [← Int.mul_sub]
  exact Int.dvd_mul_of_dvd_right (h p)
/-! ### rules -/
theorem Fs_phi (ts : L) (w : Int → Int) (j : Int) : RR.Fs ts w j = phi (fun o => w (j + o)) ts := by
  unfold RR.Fs phi
  congr 1
  apply List.map_congr_left
  intro t _
  exact Int.mul_comm _ _
theorem Fs_rule {m : Int} {as bs : L} (h : ∀ p, m ∣ S as p - S bs p) (w : Int → Int) (j : Int) : m ∣ RR.Fs as w j - RR.Fs bs w j := by
  rw [Fs_phi, Fs_phi]
  exact phi_congr _ h
theorem Fs_shift (ts : L) (w : Int → Int) (k j : Int) : RR.Fs ts (fun i => w (i + k)) j = RR.Fs ts w (j + k) := by
  unfold RR.Fs
  congr 1
  apply List.map_congr_left
  intro t _
  show t.2 * w (j + t.1 + k) = t.2 * w (j + k + t.1)
  rw [show j + t.1 + k = j + k + t.1 by omega]
theorem Fs_comm (us : L) (w : Int → Int) : ∀ (ts : L) (j : Int), RR.Fs ts (RR.Fs us w) j = RR.Fs us (RR.Fs ts w) j
  | [], j => by
    have : RR.Fs [] w = fun _ => 0 := by funext i; rfl
    rw [this, RR.Fs_nil]
    have e := RR.Fs_lin 0 (fun _ => 0) (fun _ => 0) us j
    have z : (fun i : Int => (0 : Int) * (fun _ => (0 : Int)) i + (fun _ => (0 : Int)) i) = fun _ => 0 := by funext i; rfl
    rw [z] at e
    have z2 : RR.Fs us (fun _ => 0) j = 0 := by
      unfold RR.Fs
      have : (us.map fun t : Int × Int => t.2 * (0 : Int)) = us.map fun _ => 0 := by
        apply List.map_congr_left
        intro t _
        exact Int.mul_zero _
      rw [this]
      clear e z this
      induction us with
      | nil => rfl
      | cons u us ih => rw [List.map_cons, List.sum_cons, ih] <;> rfl
    exact z2.symm
  | t :: ts, j => by
    have e : RR.Fs (t :: ts) w = fun i => t.2 * (fun i => w (i + t.1)) i + RR.Fs ts w i := by
      funext i
      rw [RR.Fs_cons]
    rw [RR.Fs_cons, Fs_comm us w ts j, e, RR.Fs_lin, Fs_shift]
theorem Fs_add (ts : L) (u v : Int → Int) (j : Int) : RR.Fs ts (fun i => u i + v i) j = RR.Fs ts u j + RR.Fs ts v j := by
  have := RR.Fs_lin 1 u v ts j
  simpa using this
theorem Fs_app (as bs : L) (w : Int → Int) (j : Int) : RR.Fs (as ++ bs) w j = RR.Fs as w j + RR.Fs bs w j := by
  rw [Fs_phi, Fs_phi, Fs_phi, phi_app]
def stepP (ts rs : L) : L := ts.flatMap fun t => rs.map fun e => (e.1 - t.1, t.2 * e.2)
def behindP (ts us : L) : L := ts.flatMap fun t => us.map fun u => (t.1 + u.1, t.2 * u.2)
theorem phi_step1 (φ : Int → Int) (t : Int × Int) : ∀ rs : L, phi φ (rs.map fun e => (e.1 - t.1, t.2 * e.2)) = t.2 * phi (fun p => φ (p - t.1)) rs
  | [] => by simp [phi_nil]
  | e :: rs => by
    rw [List.map_cons, phi_cons, phi_cons, phi_step1 φ t rs, Int.mul_add]
    show φ (e.1 - t.1) * (t.2 * e.2) + _ = _
    rw [Int.mul_left_comm]
theorem phi_step (φ : Int → Int) (rs : L) : ∀ ts : L, phi φ (stepP ts rs) = phi (fun o => phi (fun p => φ (p - o)) rs) ts
  | [] => rfl
  | t :: ts => by
    have ih := phi_step φ rs ts
    unfold stepP at ih ⊢
    rw [List.flatMap_cons, phi_app, phi_step1, phi_cons, ih, Int.mul_comm]
theorem S_step (ts rs : L) (q : Int) : S (stepP ts rs) q = RR.Fs ts (S rs) q := by
  unfold S
  rw [phi_step, Fs_phi]
  congr 1
  funext o
  congr 1
  funext p
  unfold dl
  by_cases h : p = q + o
  · rw [if_pos h, if_pos (by omega)]
  · rw [if_neg h, if_neg (by omega)]
theorem phi_behind1 (φ : Int → Int) (t : Int × Int) : ∀ us : L, phi φ (us.map fun u => (t.1 + u.1, t.2 * u.2)) = t.2 * phi (fun o => φ (t.1 + o)) us
  | [] => by simp [phi_nil]
  | u :: us => by
    rw [List.map_cons, phi_cons, phi_cons, phi_behind1 φ t us, Int.mul_add]
    show φ (t.1 + u.1) * (t.2 * u.2) + _ = _
    rw [Int.mul_left_comm]
theorem Fs_behind (us : L) (w : Int → Int) (j : Int) : ∀ ts : L, RR.Fs (behindP ts us) w j = RR.Fs ts (RR.Fs us w) j
  | [] => rfl
  | t :: ts => by
    have ih := Fs_behind us w j ts
    rw [Fs_phi] at ih ⊢
    unfold behindP at *
    rw [List.flatMap_cons, phi_app, phi_behind1, ih, RR.Fs_cons, Fs_phi us]
    congr 2
    congr 1
    funext o
    rw [Int.add_assoc]
/-! ### dicts -/
def gv (kv : L) (p : Int) : Int := ((kv.find? fun e => e.1 == p).map (·.2)).getD 0
def has (kv : L) (p : Int) : Bool := kv.any fun e => e.1 == p
def put (kv : L) (p v : Int) : L := if has kv p = true then kv.map (fun e => if e.1 = p then (e.1, v) else e) else kv ++ [(p, v)]
structure Dc (kv : L) : Prop where
  nd : (kv.map (·.1)).Nodup
theorem gv_cons (e : Int × Int) (kv : L) (p : Int) : gv (e :: kv) p = if e.1 = p then e.2 else gv kv p := by
  unfold gv
  by_cases h : e.1 = p
  · rw [List.find?_cons, if_pos h, show (e.1 == p) = true from beq_iff_eq.mpr h] <;> rfl
  · rw [List.find?_cons, if_neg h, show (e.1 == p) = false from beq_eq_false_iff_ne.mpr h]
theorem has_iff {kv : L} {p : Int} : has kv p = true ↔ ∃ e ∈ kv, e.1 = p := by
  unfold has
  rw [List.any_eq_true]
  exact ⟨fun ⟨e, h1, h2⟩ => ⟨e, h1, eq_of_beq h2⟩, fun ⟨e, h1, h2⟩ => ⟨e, h1, beq_iff_eq.mpr h2⟩⟩
theorem gv_out {kv : L} {p : Int} (h : ∀ e ∈ kv, e.1 ≠ p) : gv kv p = 0 := by
  induction kv with
  | nil => rfl
  | cons e kv ih => rw [gv_cons, if_neg (h e List.mem_cons_self), ih fun x hx => h x (List.mem_cons_of_mem _ hx)]
theorem gv_no {kv : L} {p : Int} (h : ¬ has kv p = true) : gv kv p = 0 := gv_out fun e he z => h (has_iff.mpr ⟨e, he, z⟩)
theorem S_gv : ∀ {kv : L}, Dc kv → ∀ p, S kv p = gv kv p
  | [], _, p => rfl
  | e :: kv, h, p => by
    have h1 := h.nd
    rw [List.map_cons, List.nodup_cons] at h1
    rw [S_cons, gv_cons]
    by_cases q : e.1 = p
    · rw [if_pos q, if_pos q, S_out fun x hx z => h1.1 (List.mem_map.mpr ⟨x, hx, by rw [z, q]⟩)]
      omega
    · rw [if_neg q, if_neg q, S_gv ⟨h1.2⟩ p]
      omega
theorem gv_mem {kv : L} (h : Dc kv) {e : Int × Int} (he : e ∈ kv) : gv kv e.1 = e.2 := by
  induction kv with
  | nil => cases he
  | cons x kv ih =>
    have h1 := h.nd
    rw [List.map_cons, List.nodup_cons] at h1
    rw [gv_cons]
    rcases List.mem_cons.mp he with rfl | he
    · rw [if_pos rfl]
    · rw [if_neg fun z => h1.1 (List.mem_map.mpr ⟨e, he, z.symm⟩)]
      exact ih ⟨h1.2⟩ he
theorem keys_map (kv : L) (p v : Int) : (kv.map fun e => if e.1 = p then (e.1, v) else e).map (·.1) = kv.map (·.1) := by
  rw [List.map_map]
  apply List.map_congr_left
  intro e _
  show (if e.1 = p then (e.1, v) else e).1 = e.1
  split <;> rfl
theorem put_keys (kv : L) (p v : Int) : (put kv p v).map (·.1) = if has kv p = true then kv.map (·.1) else kv.map (·.1) ++ [p] := by
  unfold put
  split
  · rw [keys_map]
  · rw [List.map_append] <;> rfl
theorem put_dc {kv : L} (h : Dc kv) (p v : Int) : Dc (put kv p v) := by
  refine ⟨?_⟩
  rw [put_keys]
  split
  · exact h.nd
  · rename_i n
    rw [List.nodup_append]
    refine ⟨h.nd, by simp, fun a ha b hb z => ?_⟩
    rw [List.mem_singleton] at hb
    obtain ⟨e, he, z2⟩ := List.mem_map.mp ha
    exact n (has_iff.mpr ⟨e, he, by rw [z2, z, hb]⟩)
theorem gv_map (p v q : Int) : ∀ kv : L, gv (kv.map fun e => if e.1 = p then (e.1, v) else e) q = if q = p ∧ has kv p = true then v else gv kv q
  | [] => by simp [has, gv]
  | e :: kv => by
    have ih := gv_map p v q kv
    rw [List.map_cons, gv_cons, ih, gv_cons]
    have hh : has (e :: kv) p = (e.1 == p || has kv p) := rfl
    rw [hh]
    by_cases h : e.1 = p
    · rw [if_pos h, show (e.1 == p) = true from beq_iff_eq.mpr h, Bool.true_or]
      by_cases h2 : q = p
      · rw [if_pos (show (e.1, v).1 = q by rw [h2, h]), if_pos ⟨h2, rfl⟩]
      · rw [if_neg (show ¬ (e.1, v).1 = q from fun z => h2 (by rw [← z]; exact h)), if_neg fun z => h2 z.1, if_neg fun z => h2 z.1, if_neg (show ¬ e.1 = q from fun z => h2 (by rw [← z]; exact h))]
    · rw [if_neg h, show (e.1 == p) = false from beq_eq_false_iff_ne.mpr h, Bool.false_or]
      by_cases h2 : e.1 = q
      · rw [if_pos h2, if_pos h2, if_neg fun z => h (by rw [h2]; exact z.1)]
      · rw [if_neg h2, if_neg h2]
theorem gv_snoc (p v q : Int) : ∀ kv : L, ¬ has kv p = true → gv (kv ++ [(p, v)]) q = if q = p then v else gv kv q
  | [], _ => by
    show gv [(p, v)] q = _
    rw [gv_cons]
    by_cases h : q = p
    · rw [if_pos h, if_pos h.symm]
    · rw [if_neg h, if_neg fun z => h z.symm]
  | e :: kv, n => by
    have hh : has (e :: kv) p = (e.1 == p || has kv p) := rfl
    rw [hh] at n
    have n1 : ¬ e.1 = p := fun z => n (by rw [show (e.1 == p) = true from beq_iff_eq.mpr z] <;> rfl)
    have n2 : ¬ has kv p = true := fun z => n (by rw [z, Bool.or_true])
    rw [List.cons_append, gv_cons, gv_cons, gv_snoc p v q kv n2]
    by_cases h : e.1 = q
    · rw [if_pos h, if_pos h, if_neg fun z => n1 (by rw [h]; exact z)]
    · rw [if_neg h, if_neg h]
theorem gv_put (kv : L) (p v q : Int) : gv (put kv p v) q = if q = p then v else gv kv q := by
  unfold put
  by_cases h : has kv p = true
  · rw [if_pos h, gv_map]
    by_cases h2 : q = p
    · rw [if_pos ⟨h2, h⟩, if_pos h2]
    · rw [if_neg fun z => h2 z.1, if_neg h2]
  · rw [if_neg h, gv_snoc p v q kv h]
theorem put_mem {kv : L} {p v : Int} {e : Int × Int} (h : e ∈ put kv p v) : e = (p, v) ∨ e ∈ kv := by
  unfold put at h
  split at h
  · obtain ⟨x, hx, rfl⟩ := List.mem_map.mp h
    by_cases q : x.1 = p
    · rw [if_pos q, q]; exact .inl rfl
    · rw [if_neg q]; exact .inr hx
  · rcases List.mem_append.mp h with h | h
    · exact .inr h
    · exact .inl (List.mem_singleton.mp h)
theorem put_len (kv : L) (p v : Int) : (put kv p v).length ≤ kv.length + 1 := by
  unfold put
  split
  · rw [List.length_map]; omega
  · rw [List.length_append]; exact Nat.le_refl _
/-! ### the one list of a row -/
structure Can (m : Nat) (f : Int → Int) (ts : L) : Prop where
  asc : ts.Pairwise fun a b => a.1 < b.1
  fac : ∀ t ∈ ts, 1 ≤ t.2 ∧ t.2 < m
  val : ∀ p, S ts p = f p % (m : Int)
theorem asc_head {e : Int × Int} {ts : L} (h : (e :: ts).Pairwise fun a b => a.1 < b.1) : S (e :: ts) e.1 = e.2 ∧ ∀ p, p < e.1 → S (e :: ts) p = 0 := by
  obtain ⟨h1, _⟩ := List.pairwise_cons.mp h
  refine ⟨?_, fun p hp => ?_⟩
  · rw [S_cons, if_pos rfl, S_out fun x hx => by have := h1 x hx; omega]
    omega
  · refine S_out fun x hx => ?_
    rcases List.mem_cons.mp hx with rfl | hx
    · omega
    · have := h1 x hx; omega
theorem asc_unique : ∀ {as bs : L}, (as.Pairwise fun a b => a.1 < b.1) → (bs.Pairwise fun a b => a.1 < b.1) → (∀ t ∈ as, t.2 ≠ 0) → (∀ t ∈ bs, t.2 ≠ 0) → (∀ p, S as p = S bs p) → as = bs
  | [], [], _, _, _, _, _ => rfl
  | [], b :: bs, _, h2, _, n2, h => by
    have := h b.1
    rw [(asc_head h2).1, S_nil] at this
    exact absurd this.symm (n2 b List.mem_cons_self)
  | a :: as, [], h1, _, n1, _, h => by
    have := h a.1
    rw [(asc_head h1).1, S_nil] at this
    exact absurd this (n1 a List.mem_cons_self)
  | a :: as, b :: bs, h1, h2, n1, n2, h => by
    obtain ⟨a1, a2⟩ := asc_head h1
    obtain ⟨b1, b2⟩ := asc_head h2
    have na := n1 a List.mem_cons_self
    have nb := n2 b List.mem_cons_self
    have e1 : a.1 = b.1 := by
      rcases Int.lt_trichotomy a.1 b.1 with q | q | q
      · have := h a.1
        rw [a1, b2 a.1 q] at this
        exact absurd this na
      · exact q
      · have := h b.1
        rw [b1, a2 b.1 q] at this
        exact absurd this.symm nb
    have e2 : a.2 = b.2 := by
      have := h a.1
      rw [a1, e1, b1] at this
      exact this
    have e : a = b := Prod.ext e1 e2
    subst e
    congr 1
    refine asc_unique (List.pairwise_cons.mp h1).2 (List.pairwise_cons.mp h2).2 (fun t ht => n1 t (List.mem_cons_of_mem _ ht)) (fun t ht => n2 t (List.mem_cons_of_mem _ ht)) fun p => ?_
    have := h p
    rw [S_cons, S_cons] at this
    omega
theorem Can.unique {m : Nat} {f g : Int → Int} {as bs : L} (h1 : Can m f as) (h2 : Can m g bs) (h : ∀ p, (m : Int) ∣ f p - g p) : as = bs :=
  asc_unique h1.asc h2.asc (fun t ht => by have := h1.fac t ht; omega) (fun t ht => by have := h2.fac t ht; omega) fun p => by
    rw [h1.val, h2.val]
    exact Int.emod_eq_emod_iff_emod_sub_eq_zero.mpr (Int.emod_eq_zero_of_dvd (h p))
theorem Can.cong {m : Nat} {f : Int → Int} {as : L} (h : Can m f as) (p : Int) : (m : Int) ∣ S as p - f p := by
  rw [h.val]
  refine Int.dvd_of_emod_eq_zero (Int.emod_eq_emod_iff_emod_sub_eq_zero.mp ?_)
  rw [Int.emod_emod]
theorem dvd_mod (m : Nat) (x : Int) : (m : Int) ∣ x % (m : Int) - x := by
  refine Int.dvd_of_emod_eq_zero (Int.emod_eq_emod_iff_emod_sub_eq_zero.mp ?_)
  rw [Int.emod_emod]
theorem dvd_tr {m a b c : Int} (h1 : m ∣ a - b) (h2 : m ∣ b - c) : m ∣ a - c := by
  have := Int.dvd_add h1 h2
  rw [show a - b + (b - c) = a - c by omega] at this
  exact this
theorem dvd_sy {m a b : Int} (h : m ∣ a - b) : m ∣ b - a := by
  have := Int.dvd_neg.mpr h
  rw [show -(a - b) = b - a by omega] at this
  exact this
/-- the sorted places with what stands there -/
def canL (m : Nat) (kv : L) (ks : List Int) : L := (ks.filter fun p => !(gv kv p % (m : Int) == 0)).map fun p => (p, gv kv p % (m : Int))
theorem can_of {m : Nat} (hm : 0 < m) {kv : L} (h : Dc kv) {ks : List Int} (hp : ks.Perm (kv.map (·.1))) (hs : ks.Pairwise (· ≤ ·)) : Can m (gv kv) (canL m kv ks) := by
  have nd : ks.Nodup := hp.nodup_iff.mpr h.nd
  have lt : ks.Pairwise (· < ·) := by
    have := List.Pairwise.and hs nd
    exact this.imp fun h => by have := h.1; have := h.2; omega
  have key : ∀ ks : List Int, ks.Pairwise (· < ·) → ((canL m kv ks).Pairwise fun a b => a.1 < b.1) ∧ ∀ p, S (canL m kv ks) p = if p ∈ ks then gv kv p % (m : Int) else 0 := by
    intro ks
    induction ks with
    | nil => exact fun _ => ⟨.nil, fun p => rfl⟩
    | cons k ks ih =>
      intro hl
      obtain ⟨l1, l2⟩ := List.pairwise_cons.mp hl
      obtain ⟨i1, i2⟩ := ih l2
      by_cases z : gv kv k % (m : Int) = 0
      · have e : canL m kv (k :: ks) = canL m kv ks := by
          unfold canL
          rw [List.filter_cons_of_neg (by simp [z])]
        rw [e]
        refine ⟨i1, fun p => ?_⟩
        rw [i2]
        by_cases q : p = k
        · subst q
          rw [if_neg fun w => by have := l1 p w; omega, if_pos List.mem_cons_self, z]
        · by_cases w : p ∈ ks
          · rw [if_pos w, if_pos (List.mem_cons_of_mem _ w)]
          · rw [if_neg w, if_neg fun v => (List.mem_cons.mp v).elim q w]
      · have e : canL m kv (k :: ks) = (k, gv kv k % (m : Int)) :: canL m kv ks := by
          unfold canL
          rw [List.filter_cons_of_pos (by simp [z]), List.map_cons]
        rw [e]
        refine ⟨List.pairwise_cons.mpr ⟨fun x hx => ?_, i1⟩, fun p => ?_⟩
        · unfold canL at hx
          obtain ⟨y, hy, rfl⟩ := List.mem_map.mp hx
          exact l1 y (List.mem_filter.mp hy).1
        · rw [S_cons, i2]
          by_cases q : k = p
          · subst q
            rw [if_pos rfl, if_neg fun w => by have := l1 k w; omega, if_pos List.mem_cons_self]
            omega
          · rw [if_neg q]
            by_cases w : p ∈ ks
            · rw [if_pos w, if_pos (List.mem_cons_of_mem _ w)]; omega
            · rw [if_neg w, if_neg fun v => (List.mem_cons.mp v).elim (fun z => q z.symm) w]; rfl
  obtain ⟨k1, k2⟩ := key ks lt
  refine ⟨k1, fun t ht => ?_, fun p => ?_⟩
  · unfold canL at ht
    obtain ⟨p, hp, rfl⟩ := List.mem_map.mp ht
    have h1 := (List.mem_filter.mp hp).2
    have h2 : gv kv p % (m : Int) ≠ 0 := by simpa using h1
    have h3 := Int.emod_nonneg (gv kv p) (show (m : Int) ≠ 0 by omega)
    have h4 := Int.emod_lt_of_pos (gv kv p) (show (0 : Int) < m by omega)
    exact ⟨by show 1 ≤ gv kv p % (m : Int); omega, h4⟩
  · rw [k2]
    by_cases w : p ∈ ks
    · rw [if_pos w]
    · rw [if_neg w, gv_out fun e he z => w (hp.mem_iff.mpr (List.mem_map.mpr ⟨e, he, z⟩)), Int.zero_emod]
theorem can_mem {m : Nat} {kv : L} {ks : List Int} {t : Int × Int} (h : t ∈ canL m kv ks) : t.1 ∈ ks := by
  unfold canL at h
  obtain ⟨p, hp, rfl⟩ := List.mem_map.mp h
  exact (List.mem_filter.mp hp).1
theorem can_len {m : Nat} {kv : L} {ks : List Int} : (canL m kv ks).length ≤ ks.length := by
  unfold canL
  rw [List.length_map]
  exact List.length_filter_le _ _
theorem asc_win : ∀ (xs : List Int) (lo hi : Int), xs.Pairwise (· < ·) → (∀ x ∈ xs, lo ≤ x ∧ x ≤ hi) → (xs.length : Int) ≤ max 0 (hi + 1 - lo)
  | [], lo, hi, _, _ => by simp; omega
  | x :: xs, lo, hi, h, hb => by
    obtain ⟨h1, h2⟩ := List.pairwise_cons.mp h
    have hx := hb x List.mem_cons_self
    have := asc_win xs (x + 1) hi h2 fun y hy => ⟨by have := h1 y hy; omega, (hb y (List.mem_cons_of_mem _ hy)).2⟩
    rw [List.length_cons]
    omega
theorem nd_win {xs : List Int} {lo hi : Int} (hn : xs.Nodup) (hb : ∀ x ∈ xs, lo ≤ x ∧ x ≤ hi) : (xs.length : Int) ≤ max 0 (hi + 1 - lo) := by
  have p := List.mergeSort_perm xs fun a b => decide (a ≤ b)
  have s := List.pairwise_mergeSort (le := fun a b : Int => decide (a ≤ b)) (fun a b c h1 h2 => by simp at *; omega) (fun a b => by simp; omega) xs
  have nd : (xs.mergeSort fun a b => decide (a ≤ b)).Nodup := p.nodup_iff.mpr hn
  have lt : (xs.mergeSort fun a b => decide (a ≤ b)).Pairwise (· < ·) := (List.Pairwise.and s nd).imp fun h => by
    have h1 := of_decide_eq_true h.1
    have h2 := h.2
    omega
  have := asc_win _ lo hi lt fun x hx => hb x (p.mem_iff.mp hx)
  rw [p.length_eq] at this
  exact this
/-! ### laid round a ring -/
def wn (n : Nat) (a : Int) : Int → Int := fun p => if p % (n : Int) = a then 1 else 0
def lay (n : Nat) (rs : L) (a : Int) : Int := phi (wn n a) rs
theorem lay_step (n : Nat) (ts rs : L) (i : Int) : lay n (stepP ts rs) (i % n) = RR.Fs ts (fun j => lay n rs (j % n)) i := by
  unfold lay
  rw [phi_step, Fs_phi]
  congr 1
  funext o
  congr 1
  funext p
  unfold wn
  have : ((p - o) % (n : Int) = i % (n : Int)) ↔ (p % (n : Int) = (i + o) % (n : Int)) := by
    rw [Int.emod_eq_emod_iff_emod_sub_eq_zero, Int.emod_eq_emod_iff_emod_sub_eq_zero, show p - o - i = p - (i + o) by omega]
  by_cases h : p % (n : Int) = (i + o) % (n : Int)
  · rw [if_pos h, if_pos (this.mpr h)]
  · rw [if_neg h, if_neg fun z => h (this.mp z)]
end DR
end

section
set_option linter.all false
set_option autoImplicit true
namespace MP
open PySem
@[simp] theorem p_get : mGet a b c ρ = (a ρ).bind fun v ρ1 => viewB ρ1 v fun x0 => if isDd x0 = true then (b ρ1).bind fun w ρ2 => (c ρ2).bind fun u ρ3 => viewB ρ3 v fun x => viewB ρ3 w fun y => toB u fun z => opt (getD x y z) ρ3 else .stuck := rfl
@[simp] theorem p_isDd {kvs : List (D × D)} : isDd (.dict kvs) = true := rfl
@[simp] theorem p_ditem : sDItem i a v ρ = (v ρ).st fun w ρ1 => if isDc ρ1 i = true then (a ρ1).st fun k ρ2 => dItemGo i w k ρ2 else .stuck := rfl
@[simp] theorem p_isDc : isDc ρ i = (match cellAt ρ i with
  | some (.dct _) => true
  | _ => false) := rfl
@[simp] theorem p_forD : sForD i tg b ρ = (match ρ[i]? with
  | some (some (.d (.dict kvs))) => (match forGo tg b (kvs.map (·.1)) ρ with | .next ρ' => .next ρ' | _ => .stuck)
  | _ => .stuck) := rfl
@[simp] theorem p_comp2 : mComp2 vs tg it t vs1 tg1 it1 t1 e ρ = (it ρ).bind fun xs ρ1 => if (plainAt ρ1 vs && tgIn tg vs) = true then compGo2 vs tg t vs1 tg1 it1 t1 e xs [] ρ1 else .stuck := rfl
set_option autoImplicit false
def kvD (kv : DR.L) : List (D × D) := kv.map fun e => (.int e.1, .int e.2)
theorem kvD_len (kv : DR.L) : (kvD kv).length = kv.length := by unfold kvD; rw [List.length_map]
theorem find_kv (p : Int) : ∀ kv : DR.L, dFind (kvD kv) (.inl p) = (kv.find? fun e => e.1 == p).map fun e => .int e.2
  | [] => rfl
  | e :: kv => by
    have ih := find_kv p kv
    unfold dFind kvD at *
    rw [List.map_cons, List.find?_cons, List.find?_cons]
    by_cases h : e.1 = p
    · rw [show (e.1 == p) = true from beq_iff_eq.mpr h, decide_eq_true (show keyOf (PyData.int e.1) = some (.inl p) by rw [h]; rfl)] <;> rfl
    · rw [show (e.1 == p) = false from beq_eq_false_iff_ne.mpr h, decide_eq_false (show ¬ keyOf (PyData.int e.1) = some (.inl p) from fun z => h (by injection z with z; injection z))]
      exact ih
theorem getD_kv (kv : DR.L) (p : Int) : getD (.dict (kvD kv)) (.int p) (.int 0) = some (.d (.int (DR.gv kv p))) := by
  show some (SV.d ((dFind (kvD kv) (.inl p)).getD (.int 0))) = _
  rw [find_kv]
  unfold DR.gv
  cases kv.find? fun e => e.1 == p <;> rfl
theorem idx_kv {kv : DR.L} {p : Int} (h : DR.has kv p = true) : bIdxD (.dict (kvD kv)) (.int p) = some (.d (.int (DR.gv kv p))) := by
  show (dFind (kvD kv) (.inl p)).map SV.d = _
  rw [find_kv]
  unfold DR.gv
  obtain ⟨e, h1, h2⟩ := DR.has_iff.mp h
  cases hf : kv.find? fun e => e.1 == p with
  | some e => rfl
  | none =>
    have := List.find?_eq_none.mp hf e h1
    rw [h2] at this
    simp at this
theorem put_kv (kv : DR.L) (p v : Int) : dPut (kvD kv) (.inl p) (.int v) = kvD (DR.put kv p v) := by
  have ha : ((kvD kv).any fun e => decide (keyOf e.1 = some (.inl p))) = DR.has kv p := by
    unfold kvD DR.has
    rw [List.any_map]
    congr 1
    funext e
    show decide (some (Sum.inl e.1) = some (Sum.inl p)) = (e.1 == p)
    by_cases h : e.1 = p
    · exact (decide_eq_true (by rw [h])).trans (beq_iff_eq.mpr h).symm
    · exact (decide_eq_false fun z => h (by injection z with z; injection z)).trans (beq_eq_false_iff_ne.mpr h).symm
  unfold dPut DR.put
  rw [ha]
  split
  · unfold kvD
    rw [List.map_map, List.map_map]
    apply List.map_congr_left
    intro e _
    show (if keyOf (PyData.int e.1) = some (.inl p) then (PyData.int e.1, PyData.int v) else (PyData.int e.1, PyData.int e.2)) = _
    by_cases h : e.1 = p
    · rw [if_pos (by rw [h]; rfl)]
      show _ = ((PyData.int (if e.1 = p then (e.1, v) else e).1, PyData.int (if e.1 = p then (e.1, v) else e).2))
      rw [if_pos h]
    · rw [if_neg (fun z => h (by injection z with z; injection z))]
      show _ = ((PyData.int (if e.1 = p then (e.1, v) else e).1, PyData.int (if e.1 = p then (e.1, v) else e).2))
      rw [if_neg h]
  · unfold kvD
    rw [List.map_append] <;> rfl
theorem keysI_kv : ∀ kv : DR.L, keysI (kvD kv) = some (kv.map (·.1))
  | [] => rfl
  | e :: kv => by
    show (keysI (kvD kv)).map _ = _
    rw [keysI_kv kv] <;> rfl
theorem keys_kv (kv : DR.L) : (kvD kv).map (·.1) = (kv.map (·.1)).map PyData.int := by
  unfold kvD
  rw [List.map_map, List.map_map]
  rfl
theorem item_kv {ρ : En} {i : Nat} {kv : DR.L} (p v : Int) (h : cellAt ρ i = some (.dct (kvD kv))) (hl : kv.length < 16777216) : dItemGo i (.d (.int v)) (.d (.int p)) ρ = .next (putCell ρ i (.dct (kvD (DR.put kv p v)))) := by
  unfold dItemGo
  rw [h]
  show (if (kvD kv).length < line then SOut.next (putCell ρ i (.dct (dPut (kvD kv) (.inl p) (.int v)))) else .stuck) = _
  rw [if_pos (by rw [kvD_len]; exact hl), put_kv]
theorem sort_kv (kv : DR.L) : gSortD [.dict (kvD kv)] = some (.own (.lst ((sortI (kv.map (·.1))).map PyData.int))) := by
  show (keysI (kvD kv)).map _ = _
  rw [keysI_kv] <;> rfl
theorem list_kv (kv : DR.L) : gLstD [.dict (kvD kv)] = some (.own (.lst ((kv.map (·.1)).map PyData.int))) := by
  show some (SV.own (.lst ((kvD kv).map (·.1)))) = _
  rw [keys_kv]
theorem sort_perm (is : List Int) : (sortI is).Perm is := List.mergeSort_perm is _
theorem sort_asc (is : List Int) : (sortI is).Pairwise (· ≤ ·) := by
  have := List.pairwise_mergeSort (le := fun a b : Int => decide (a ≤ b)) (fun a b c h1 h2 => by simp at *; omega) (fun a b => by simp; omega) is
  exact this.imp fun h => by simpa using h
/-- two fors whose parts leave all as it was -/
theorem comp2_pure {vs vs1 : List Nat} {tg tg1 : Tg} {it1 : MI} {e : ME} {ρ : En} {ys : D → List D} {y : D → D → D} : ∀ (xs acc : List D),
    (∀ x ∈ xs, ∃ ρa, tgSet tg x (wipeE ρ vs) = some ρa ∧ it1 ρa = .ok (ys x) ρa ∧ plainAt ρa vs1 = true ∧ tgIn tg1 vs1 = true ∧ back ρ ρa vs = ρ ∧ ∀ z ∈ ys x, ∃ ρb v, tgSet tg1 z (wipeE ρa vs1) = some ρb ∧ e ρb = .ok v ρb ∧ toD v = some (y x z) ∧ back ρa ρb vs1 = ρa) →
    acc.length + (xs.flatMap fun x => (ys x).map (y x)).length ≤ 16777216 → compGo2 vs tg mYes vs1 tg1 it1 mYes e xs acc ρ = .ok (.own (.lst (acc ++ xs.flatMap fun x => (ys x).map (y x)))) ρ
  | [], acc, _, _ => by unfold compGo2; simp
  | x :: xs, acc, h, hl => by
    obtain ⟨ρa, h1, h2, h3, h4, h5, h6⟩ := h x List.mem_cons_self
    rw [List.flatMap_cons, List.length_append, List.length_map] at hl
    have hc := comp_pure (vs := vs1) (tg := tg1) (e := e) (ρ := ρa) (y := y x) (xs := ys x) (acc := acc) h6
    unfold compGo2
    rw [h1]
    simp only [mYes, noRaise_ok, if_pos, h2, h3, h4, Bool.true_and]
    rw [if_pos (decide_eq_true (by omega))]
    rw [hc]
    simp only [noRaise_ok, h5]
    have ih := comp2_pure (vs := vs) (vs1 := vs1) (tg := tg) (tg1 := tg1) (it1 := it1) (e := e) (ρ := ρ) (ys := ys) (y := y) xs (acc ++ (ys x).map (y x)) (fun z hz => h z (List.mem_cons_of_mem _ hz)) (by rw [List.length_append, List.length_map]; omega)
    rw [ih, List.flatMap_cons, List.append_assoc]
end MP
end

section
set_option autoImplicit false
set_option maxRecDepth 100000
set_option linter.all false
namespace K01
open PySem PySem.Spec L2 MP
def tenN : List Nat := [2, 3, 5, 6, 7, 10, 11, 13, 14, 15]
theorem ten_le {m : Nat} (h : m ∈ tenN) : 2 ≤ m ∧ m ≤ 15 := by
  unfold tenN at h
  simp at h
  omega
/-- rules and rows of a modulus -/
structure Rl (m : Nat) (ts : DR.L) : Prop where
  le : ts.length ≤ 5000
  fac : ∀ t ∈ ts, 1 ≤ t.2 ∧ t.2 < m
  asc : ts.Pairwise fun a b => a.1 < b.1
abbrev rD (m : Nat) (ts : DR.L) : D := .tuple [.int m, .tuple (ts.map tp)]
theorem asc_L : ∀ (ts : DR.L) (s : Option Int), (ts.Pairwise fun a b => a.1 < b.1) → (∀ l, s = some l → ∀ t ∈ ts, l < t.1) → ascL s (ts.map tp) = true
  | [], s, _, _ => rfl
  | t :: ts, s, h, hs => by
    obtain ⟨h1, h2⟩ := List.pairwise_cons.mp h
    rw [List.map_cons, ascL, asc_L ts (some (fst (tp t))) h2 (fun l e u hu => by
      have e' : t.1 = l := Option.some.inj e
      rw [← e']
      exact h1 u hu), Bool.and_true]
    cases s with
    | none => rfl
    | some l => exact decide_eq_true (hs l rfl t List.mem_cons_self)
theorem rl_ok {m : Nat} (hm : m ∈ tenN) {ts : DR.L} (h : Rl m ts) : ruleT (rD m ts) = true := by
  unfold ruleT
  have t1 : tens.contains (m : Int) = true := by
    have : ∀ p ∈ tenN, tens.contains (p : Int) = true := by decide
    exact this m hm
  show (tens.contains (m : Int) && arePairs _ _) = true
  rw [t1, Bool.true_and]
  show (List.all _ _ && ascR _) = true
  rw [asc_all, asc_L ts none h.asc (fun l e => nomatch e), Bool.and_true, List.all_eq_true]
  intro x hx
  obtain ⟨t, ht, rfl⟩ := List.mem_map.mp hx
  have := h.fac t ht
  show (decide (1 ≤ t.2) && decide (t.2 < (m : Int))) = true
  rw [decide_eq_true this.1, decide_eq_true this.2] <;> rfl
theorem rl_len {m : Nat} {ts : DR.L} (h : Rl m ts) : lenOk (rD m ts) := by
  have := h.le
  refine ⟨by rw [List.length_map]; omega, fun y hy => ?_⟩
  obtain ⟨t, _, rfl⟩ := List.mem_map.mp hy
  trivial
theorem need_rule_s {m : Nat} (hm : m ∈ tenN) {ts : DR.L} (h : Rl m ts) : f_need_rule [.d (rD m ts)] = .ok (.d .none) [] := by
  simp [f_need_rule, b_need_rule, a_rule_s _ (rl_len h), rl_ok hm h]
theorem need_same_s (p : Nat) (a b : D) : f_need_same [.d (.tuple [.int p, a]), .d (.tuple [.int p, b])] = .ok (.d .none) [] := by
  simp [f_need_same, b_need_same]
/-! collected -/
theorem coll_loop (ρ0 ρ1 : Option SV) : ∀ (ps kv : DR.L) (q3 q4 : Option SV), DR.Dc kv → kv.length + ps.length ≤ 100000 → OptD q3 → OptD q4 →
    ∃ (kv' : DR.L) (r3 r4 : Option SV), forGo (.t [(.n 3), (.n 4)]) lb_collected_0 (ps.map tp) [ρ0, ρ1, some (.own (.dct (kvD kv))), q3, q4] = .next [ρ0, ρ1, some (.own (.dct (kvD kv'))), r3, r4] ∧ DR.Dc kv' ∧ (∀ p, DR.S kv' p = DR.S kv p + DR.S ps p) ∧
      (∀ e ∈ kv', (∃ x ∈ kv, x.1 = e.1) ∨ ∃ x ∈ ps, x.1 = e.1) ∧ kv'.length ≤ kv.length + ps.length ∧ OptD r3 ∧ OptD r4
  | [], kv, q3, q4, hk, _, h3, h4 => ⟨kv, q3, q4, by simp [forGo], hk, fun p => by rw [DR.S_nil, Int.add_zero], fun e he => .inl ⟨e, he, rfl⟩, Nat.le_refl _, h3, h4⟩
  | t :: ps, kv, q3, q4, hk, hl, h3, h4 => by
    rw [List.length_cons] at hl
    have hk' := DR.put_dc hk t.1 (DR.gv kv t.1 + t.2)
    have hlen := DR.put_len kv t.1 (DR.gv kv t.1 + t.2)
    obtain ⟨kv', r3, r4, e1, e2, e3, e4, e5, e6, e7⟩ := coll_loop ρ0 ρ1 ps (DR.put kv t.1 (DR.gv kv t.1 + t.2)) (some (.d (.int t.1))) (some (.d (.int t.2))) hk' (by omega) (.inr ⟨_, rfl⟩) (.inr ⟨_, rfl⟩)
    refine ⟨kv', r3, r4, ?_, e2, fun p => ?_, fun e he => ?_, by rw [List.length_cons]; omega, e6, e7⟩
    · rw [List.map_cons]
      unfold forGo
      have t1 : tgSet (.t [(.n 3), (.n 4)]) (tp t) [ρ0, ρ1, some (.own (.dct (kvD kv))), q3, q4] = some [ρ0, ρ1, some (.own (.dct (kvD kv))), some (.d (.int t.1)), some (.d (.int t.2))] := by
        rcases h3 with rfl | ⟨_, rfl⟩ <;> rcases h4 with rfl | ⟨_, rfl⟩ <;> simp [tp]
      have g1 := getD_kv kv t.1
      have b1 : lb_collected_0 [ρ0, ρ1, some (.own (.dct (kvD kv))), some (.d (.int t.1)), some (.d (.int t.2))] = .next [ρ0, ρ1, some (.own (.dct (kvD (DR.put kv t.1 (DR.gv kv t.1 + t.2))))), some (.d (.int t.1)), some (.d (.int t.2))] := by
        have g2 := item_kv (ρ := [ρ0, ρ1, some (.own (.dct (kvD kv))), some (.d (.int t.1)), some (.d (.int t.2))]) (i := 2) t.1 (DR.gv kv t.1 + t.2) rfl (by omega)
        generalize kvD (DR.put kv t.1 (DR.gv kv t.1 + t.2)) = K2 at g2
        generalize kvD kv = K1 at g1 g2
        generalize DR.gv kv t.1 = G at g1 g2
        simp [lb_collected_0, g1, g2]
      rw [t1]
      simp only [b1]
      exact e1
    · rw [e3, DR.S_gv hk', DR.gv_put, DR.S_cons, DR.S_gv hk]
      by_cases q : p = t.1
      · subst q
        rw [if_pos rfl, if_pos rfl]
        omega
      · rw [if_neg q, if_neg fun z => q z.symm]
        omega
    · rcases e4 e he with ⟨x, hx, hxe⟩ | ⟨x, hx, hxe⟩
      · rcases DR.put_mem hx with rfl | hx
        · exact .inr ⟨t, List.mem_cons_self, hxe⟩
        · exact .inl ⟨x, hx, hxe⟩
      · exact .inr ⟨x, List.mem_cons_of_mem _ hx, hxe⟩
def nzT (m : Nat) (kv : DR.L) : D → Bool
  | .int p => !(DR.gv kv p % (m : Int) == 0)
  | _ => false
def cellT (m : Nat) (kv : DR.L) : D → D
  | .int p => tp (p, DR.gv kv p % (m : Int))
  | _ => .none
theorem can_D (m : Nat) (kv : DR.L) (ks : List Int) : ((ks.map PyData.int).filter (nzT m kv)).map (cellT m kv) = (DR.canL m kv ks).map tp := by
  rw [List.filter_map, List.map_map]
  unfold DR.canL
  rw [List.map_map]
  rfl
theorem collected_s {m : Nat} (hm : m ∈ tenN) (x : D) (ps : DR.L) (hx : seqD x = some (ps.map tp)) (hl : ps.length ≤ 5000) :
    ∃ ts : DR.L, f_collected [.d x, .d (.int m)] = .ok (.d (.tuple (ts.map tp))) [] ∧ DR.Can m (DR.S ps) ts ∧ (∀ t ∈ ts, ∃ e ∈ ps, e.1 = t.1) ∧ ts.length ≤ ps.length := by
  have hm2 := ten_le hm
  obtain ⟨kv, r3, r4, e1, e2, e3, e4, e5, e6, e7⟩ := coll_loop (some (.d x)) (some (.d (.int m))) ps [] none none ⟨List.nodup_nil⟩ (by simp; omega) (.inl rfl) (.inl rfl)
  have e3' : ∀ p, DR.S kv p = DR.S ps p := fun p => by rw [e3, DR.S_nil, Int.zero_add]
  rw [List.length_nil, Nat.zero_add] at e5
  obtain ⟨ks, hks⟩ : ∃ ks, ks = sortI (kv.map (·.1)) := ⟨_, rfl⟩
  have hp : ks.Perm (kv.map (·.1)) := by rw [hks]; exact sort_perm _
  have hs : ks.Pairwise (· ≤ ·) := by rw [hks]; exact sort_asc _
  have hcan := DR.can_of (m := m) (by omega) e2 hp hs
  have hsort := sort_kv kv
  rw [← hks] at hsort
  have hkl : ks.length = kv.length := by rw [hp.length_eq, List.length_map]
  have hc := comp_map (vs := [3]) (tg := .n 3) (t := mTr (m2 cNe (m2 bMod (m2 bIdxD (mV 2) (mV 3)) (mV 1)) (mC (.int 0)))) (e := mTup [(mV 3), (m2 bMod (m2 bIdxD (mV 2) (mV 3)) (mV 1))]) (ρ := [some (.d x), some (.d (.int m)), some (.own (.dct (kvD kv))), r3, r4])
    (c := nzT m kv) (y := cellT m kv) (xs := ks.map PyData.int) (acc := []) fun z hz => by
      obtain ⟨p, hp2, rfl⟩ := List.mem_map.mp hz
      obtain ⟨e, he, hpe⟩ := List.mem_map.mp (hp.mem_iff.mp hp2)
      have hi := idx_kv (DR.has_iff.mpr ⟨e, he, hpe⟩)
      have hmd : bMod (.int (DR.gv kv p)) (.int m) = some (.d (.int (DR.gv kv p % (m : Int)))) := mod_p (by omega)
      refine ⟨[some (.d x), some (.d (.int m)), some (.own (.dct (kvD kv))), some (.d (.int p)), r4], [some (.d x), some (.d (.int m)), some (.own (.dct (kvD kv))), some (.d (.int p)), r4], [some (.d x), some (.d (.int m)), some (.own (.dct (kvD kv))), some (.d (.int p)), r4], ?_, ?_, fun _ => ?_, fun _ => ⟨.d (tp (p, DR.gv kv p % (m : Int))), ?_, rfl, ?_⟩⟩
      · rcases e6 with rfl | ⟨_, rfl⟩ <;> simp
      · show _ = Out.ok (!(DR.gv kv p % (m : Int) == 0)) _
        generalize DR.gv kv p = G at hi hmd
        generalize kvD kv = K at hi
        simp [hi, hmd]
      · rcases e6 with rfl | ⟨_, rfl⟩ <;> simp
      · generalize DR.gv kv p = G at hi hmd
        generalize kvD kv = K at hi
        simp [hi, hmd, tp]
      · rcases e6 with rfl | ⟨_, rfl⟩ <;> simp
  rw [can_D, List.nil_append] at hc
  refine ⟨DR.canL m kv ks, ?_, ⟨hcan.asc, hcan.fac, fun p => by rw [hcan.val, ← DR.S_gv e2, e3']⟩, fun t ht => ?_, Nat.le_trans DR.can_len (by omega)⟩
  · have hpl : plainAt [some (.d x), some (.d (.int m)), some (.own (.dct (kvD kv))), r3, r4] [3] = true := by
      rcases e6 with rfl | ⟨_, rfl⟩ <;> simp
    have lk : (ks.map PyData.int).length ≤ 16777216 := by rw [List.length_map]; omega
    have i0 : (i1 seqD (mV 0)) [some (.d x), some (.d (.int m)), some (.own (.dct [])), none, none] = .ok (ps.map tp) [some (.d x), some (.d (.int m)), some (.own (.dct [])), none, none] := by simp [hx]
    have e1' : forGo (.t [(.n 3), (.n 4)]) lb_collected_0 (ps.map tp) [some (.d x), some (.d (.int m)), some (.own (.dct [])), none, none] = .next [some (.d x), some (.d (.int m)), some (.own (.dct (kvD kv))), r3, r4] := e1
    generalize (DR.canL m kv ks).map tp = C at hc
    generalize ks.map PyData.int = KS at *
    generalize kvD kv = K at *
    generalize ps.map tp = PS at *
    simp [-p_plain, f_collected, b_collected, hx, e1', hsort, hpl, lk, hc]
  · have := DR.can_mem ht
    obtain ⟨e, he, hpe⟩ := List.mem_map.mp (hp.mem_iff.mp this)
    rcases e4 e he with ⟨_, h, _⟩ | ⟨y, hy, hye⟩
    · cases h
    · exact ⟨y, hy, by rw [hye, hpe]⟩
end K01
end

section
set_option autoImplicit false
set_option maxRecDepth 100000
set_option linter.all false
namespace K01
open PySem PySem.Spec L2 MP
theorem rl_can {m : Nat} {f : Int → Int} {ts : DR.L} (h : DR.Can m f ts) (hl : ts.length ≤ 5000) : Rl m ts := ⟨hl, h.fac, h.asc⟩
def addT : D → D → D
  | .tuple [.int o, .int f], .tuple [.int p, .int v] => .tuple [.int (o + p), .int (f * v)]
  | _, _ => .none
theorem add_D (rs : DR.L) : ∀ ts : DR.L, ((ts.map tp).flatMap fun x => (rs.map tp).map (addT x)) = (DR.behindP ts rs).map tp
  | [] => rfl
  | t :: ts => by
    have ih := add_D rs ts
    unfold DR.behindP at ih ⊢
    rw [List.map_cons, List.flatMap_cons, ih, List.flatMap_cons, List.map_append, List.map_map, List.map_map]
    rfl
theorem behindP_len (rs : DR.L) : ∀ ts : DR.L, (DR.behindP ts rs).length = ts.length * rs.length
  | [] => by simp [DR.behindP]
  | t :: ts => by
    have ih := behindP_len rs ts
    unfold DR.behindP at ih ⊢
    rw [List.flatMap_cons, List.length_append, ih, List.length_map, List.length_cons, Nat.succ_mul]
    omega
theorem behindP_mem {ts rs : DR.L} {e : Int × Int} (h : e ∈ DR.behindP ts rs) : ∃ a ∈ ts, ∃ b ∈ rs, e.1 = a.1 + b.1 := by
  unfold DR.behindP at h
  obtain ⟨a, ha, h⟩ := List.mem_flatMap.mp h
  obtain ⟨b, hb, rfl⟩ := List.mem_map.mp h
  exact ⟨a, ha, b, hb, rfl⟩
theorem behind_comp {m : Nat} (hm : m ∈ tenN) {ts rs : DR.L} (h1 : Rl m ts) (h2 : Rl m rs) (hl : ts.length * rs.length ≤ 5000) :
    compGo2 [3, 4, 5, 6] (.t [(.n 3), (.n 4)]) mYes [5, 6] (.t [(.n 5), (.n 6)]) (i1 seqD (m2 bIdx (mV 1) (mC (.int 1)))) mYes (mTup [(m2 bAdd (mV 3) (mV 5)), (m2 bMulI (mV 4) (mV 6))]) (ts.map tp) [] [some (.d (rD m ts)), some (.d (rD m rs)), none, none, none, none, none] =
      .ok (.own (.lst ((DR.behindP ts rs).map tp))) [some (.d (rD m ts)), some (.d (rD m rs)), none, none, none, none, none] := by
  have hm2 := ten_le hm
  have hc := comp2_pure (vs := [3, 4, 5, 6]) (vs1 := [5, 6]) (tg := .t [(.n 3), (.n 4)]) (tg1 := .t [(.n 5), (.n 6)]) (it1 := i1 seqD (m2 bIdx (mV 1) (mC (.int 1)))) (e := mTup [(m2 bAdd (mV 3) (mV 5)), (m2 bMulI (mV 4) (mV 6))]) (ρ := [some (.d (rD m ts)), some (.d (rD m rs)), none, none, none, none, none])
    (ys := fun _ => rs.map tp) (y := addT) (ts.map tp) [] (fun x hx => by
      obtain ⟨t, ht, rfl⟩ := List.mem_map.mp hx
      refine ⟨[some (.d (rD m ts)), some (.d (rD m rs)), none, some (.d (.int t.1)), some (.d (.int t.2)), none, none], by simp [tp], ?_, by simp, by simp, by simp, fun z hz => ?_⟩
      · simp
      · obtain ⟨e, he, rfl⟩ := List.mem_map.mp hz
        have := h1.fac t ht
        have mu : bMulI (.int t.2) (.int e.2) = some (.d (.int (t.2 * e.2))) := mul_small (by omega) (by omega)
        exact ⟨[some (.d (rD m ts)), some (.d (rD m rs)), none, some (.d (.int t.1)), some (.d (.int t.2)), some (.d (.int e.1)), some (.d (.int e.2))], .d (.tuple [.int (t.1 + e.1), .int (t.2 * e.2)]), by simp [tp], by simp [mu], rfl, by simp⟩) (by
      rw [add_D, List.length_map, behindP_len]
      show 0 + _ ≤ _
      omega)
  rw [add_D, List.nil_append] at hc
  exact hc
theorem behind_s {m : Nat} (hm : m ∈ tenN) {ts rs : DR.L} (h1 : Rl m ts) (h2 : Rl m rs) (hl : ts.length * rs.length ≤ 5000) :
    ∃ ws : DR.L, f_behind [.d (rD m ts), .d (rD m rs)] = .ok (.d (rD m ws)) [] ∧ DR.Can m (DR.S (DR.behindP ts rs)) ws ∧ (∀ t ∈ ws, ∃ a ∈ ts, ∃ b ∈ rs, t.1 = a.1 + b.1) ∧ ws.length ≤ ts.length * rs.length := by
  have nr := need_rule_s hm h1
  have nw := need_rule_s hm h2
  have ns := need_same_s m (.tuple (ts.map tp)) (.tuple (rs.map tp))
  have hc := behind_comp hm h1 h2 hl
  obtain ⟨ws, e1, e2, e3, e4⟩ := collected_s hm (.list ((DR.behindP ts rs).map tp)) (DR.behindP ts rs) rfl (by rw [behindP_len]; exact hl)
  refine ⟨ws, ?_, e2, fun t ht => ?_, by rw [← behindP_len]; exact e4⟩
  · dsimp only [rD] at *
    generalize (DR.behindP ts rs).map tp = PP at *
    generalize ts.map tp = T at *
    generalize rs.map tp = R at *
    simp [f_behind, b_behind, nr, nw, ns, hc, e1]
  · obtain ⟨e, he, hee⟩ := e3 t ht
    obtain ⟨a, ha, b, hb, hab⟩ := behindP_mem he
    exact ⟨a, ha, b, hb, by rw [← hee, hab]⟩
theorem join_ok {ts rs : DR.L} (hl : ts.length + rs.length ≤ 5000) : bAdd (.tuple (ts.map tp)) (.tuple (rs.map tp)) = some (.d (.tuple ((ts ++ rs).map tp))) := by
  rw [List.map_append]
  exact if_pos (by rw [List.length_map, List.length_map]; unfold line; omega)
theorem plus_s {m : Nat} (hm : m ∈ tenN) {ts rs : DR.L} (h1 : Rl m ts) (h2 : Rl m rs) (hl : ts.length + rs.length ≤ 5000) :
    ∃ ws : DR.L, f_plus [.d (rD m ts), .d (rD m rs)] = .ok (.d (rD m ws)) [] ∧ DR.Can m (DR.S (ts ++ rs)) ws ∧ (∀ t ∈ ws, ∃ e ∈ ts ++ rs, e.1 = t.1) ∧ ws.length ≤ ts.length + rs.length := by
  have nr := need_rule_s hm h1
  have nw := need_rule_s hm h2
  have ns := need_same_s m (.tuple (ts.map tp)) (.tuple (rs.map tp))
  have hj := join_ok hl
  obtain ⟨ws, e1, e2, e3, e4⟩ := collected_s hm (.tuple ((ts ++ rs).map tp)) (ts ++ rs) rfl (by rw [List.length_append]; exact hl)
  refine ⟨ws, ?_, e2, e3, by rw [← List.length_append]; exact e4⟩
  dsimp only [rD] at *
  generalize (ts ++ rs).map tp = PP at *
  generalize ts.map tp = T at *
  generalize rs.map tp = R at *
  simp [f_plus, b_plus, nr, nw, ns, hj, e1]
theorem still_s {m : Nat} (hm : m ∈ tenN) : f_still [.d (.int m)] = .ok (.d (rD m [(0, 1)])) [] := by
  have h1 : f_is_modulus [.d (.int m)] = .ok (.d (.bool (isMod (.int m)))) [] := is_modulus_s _
  have h2 : isMod (.int m) = true := by
    have : ∀ p ∈ tenN, isMod (.int (p : Int)) = true := by decide
    exact this m hm
  rw [h2] at h1
  have h3 : f_need_modulus [.d (.int m)] = .ok (.d .none) [] := by simp [f_need_modulus, b_need_modulus, h1]
  simp [f_still, b_still, h3, tp]
theorem rl_still {m : Nat} (hm : m ∈ tenN) : Rl m [(0, 1)] := by
  have := ten_le hm
  refine ⟨by simp, fun t ht => ?_, by simp⟩
  rw [List.mem_singleton.mp ht]
  exact ⟨by show (1 : Int) ≤ 1; omega, by show (1 : Int) < m; omega⟩
end K01
end

section
set_option autoImplicit false
set_option linter.all false
/-! polynomials modulo a prime as functions of the place; common parts -/
namespace PL
abbrev Pf := Nat → Int
def co (l : List Int) : Pf := fun i => l.getD i 0
def shf (f : Pf) : Pf := fun i => match i with
  | 0 => 0
  | i + 1 => f i
/-- a set of polynomials with all sums, multiples and moved ones -/
structure Cld (p : Nat) (I : Pf → Prop) : Prop where
  cong : ∀ f g : Pf, I f → (∀ i, (p : Int) ∣ f i - g i) → I g
  lin : ∀ (c : Int) (f g : Pf), I f → I g → I (fun i => c * f i + g i)
  sh : ∀ f : Pf, I f → I (shf f)
  zero : I (fun _ => 0)
section
variable {p : Nat} {I : Pf → Prop} {a b d f g r : Pf}
theorem Cld.eqv (C : Cld p I) (h : I f) (e : ∀ i, f i = g i) : I g := C.cong f g h fun i => by rw [e i, Int.sub_self]; exact Int.dvd_zero _
theorem Cld.smul (C : Cld p I) (c : Int) (h : I f) : I (fun i => c * f i) := C.eqv (C.lin c f _ h C.zero) fun i => by simp
theorem Cld.add (C : Cld p I) (h : I f) (h2 : I g) : I (fun i => f i + g i) := C.eqv (C.lin 1 f g h h2) fun i => by simp
theorem Cld.sub (C : Cld p I) (h : I f) (h2 : I g) : I (fun i => f i - g i) := C.eqv (C.lin (-1) g f h2 h) fun i => by omega
def shk : Nat → Pf → Pf
  | 0, f => f
  | k + 1, f => shf (shk k f)
theorem Cld.shk (C : Cld p I) (h : I f) : ∀ k, I (shk k f)
  | 0 => h
  | k + 1 => C.sh _ (C.shk h k)
theorem shk_at (f : Pf) : ∀ (k i : Nat), shk k f i = if i < k then 0 else f (i - k)
  | 0, i => by simp [shk]
  | k + 1, 0 => by simp [shk, shf]
  | k + 1, i + 1 => by
    show shk k f i = _
    rw [shk_at f k i]
    by_cases h : i < k
    · rw [if_pos h, if_pos (by omega)]
    · rw [if_neg h, if_neg (by omega), show i + 1 - (k + 1) = i - k by omega]
/-- d is a part of f -/
def Dv (p : Nat) (d f : Pf) : Prop := ∀ I : Pf → Prop, Cld p I → I d → I f
theorem Dv.refl : Dv p f f := fun _ _ h => h
theorem Dv.trans (h : Dv p d f) (h2 : Dv p f g) : Dv p d g := fun I C q => h2 I C (h I C q)
structure IsG (p : Nat) (a b g : Pf) : Prop where
  l : Dv p g a
  r : Dv p g b
  gr : ∀ d, Dv p d a → Dv p d b → Dv p d g
theorem IsG.symm (h : IsG p a b g) : IsG p b a g := ⟨h.r, h.l, fun d q r => h.gr d r q⟩
theorem IsG.base (hb : ∀ i, (p : Int) ∣ b i) : IsG p a b a := ⟨.refl, fun I C _ => C.cong _ _ C.zero fun i => by
  show (p : Int) ∣ 0 - b i
  rw [Int.zero_sub]
  exact Int.dvd_neg.mpr (hb i), fun _ h _ => h⟩
/-- r is what is left of a by b -/
def Rm (p : Nat) (a b r : Pf) : Prop := ∀ I : Pf → Prop, Cld p I → I b → I (fun i => a i - r i)
theorem Rm.refl : Rm p a b a := fun I C _ => C.eqv C.zero fun i => by simp
theorem Rm.trans (h : Rm p a b f) (h2 : Rm p f b r) : Rm p a b r := fun I C q => C.eqv (C.add (h I C q) (h2 I C q)) fun i => by
  show a i - f i + (f i - r i) = a i - r i
  omega
theorem Rm.cong (h : Rm p a b f) (e : ∀ i, (p : Int) ∣ f i - r i) : Rm p a b r := fun I C q => C.cong _ _ (h I C q) fun i => by
  have := Int.dvd_neg.mpr (e i)
  rw [show -(f i - r i) = a i - f i - (a i - r i) by omega] at this
  exact this
theorem IsG.step (hr : Rm p a b r) (h : IsG p b r g) : IsG p a b g := by
  refine ⟨fun I C q => C.eqv (C.add (hr I C (h.l I C q)) (h.r I C q)) fun i => ?_, h.l, fun d q1 q2 => h.gr d q2 fun I C q => C.eqv (C.sub (q1 I C q) (hr I C (q2 I C q))) fun i => ?_⟩
  · show a i - r i + r i = a i
    omega
  · show a i - (a i - r i) = r i
    omega
theorem Dv.unit {c c' : Int} (hc : (p : Int) ∣ c' * c - 1) : Dv p (fun i => c * f i) f := fun I C h => C.cong _ _ (C.smul c' h) fun i => by
  show (p : Int) ∣ c' * (c * f i) - f i
  have : c' * (c * f i) - f i = (c' * c - 1) * f i := by rw [Int.sub_mul, Int.one_mul, Int.mul_assoc]
  rw [this]
  exact Int.dvd_mul_of_dvd_left hc
theorem Dv.mul {c : Int} : Dv p f (fun i => c * f i) := fun I C h => C.smul c h
theorem Dv.cong (h : Dv p d f) (e : ∀ i, (p : Int) ∣ f i - g i) : Dv p d g := fun I C q => C.cong _ _ (h I C q) e
theorem Dv.congl (h : Dv p d f) (e : ∀ i, (p : Int) ∣ g i - d i) : Dv p g f := fun I C q => h I C (C.cong _ _ q e)
/-- the same common part of other multiples -/
theorem IsG.of (h : IsG p a b g) {a' b' : Pf} (h1 : Dv p a a') (h2 : Dv p a' a) (h3 : Dv p b b') (h4 : Dv p b' b) : IsG p a' b' g :=
  ⟨h.l.trans h1, h.r.trans h3, fun d q1 q2 => h.gr d (q1.trans h2) (q2.trans h4)⟩
end
/-! as many cells -/
def cmb : List Int → Pf → Pf
  | [], _ => fun _ => 0
  | c :: q, d => fun i => c * d i + shf (cmb q d) i
def addc (c : Int) : List Int → List Int → List Int
  | [], q => q
  | a :: r, [] => c * a :: addc c r []
  | a :: r, b :: q => (c * a + b) :: addc c r q
theorem cmb_add (c : Int) (d : Pf) : ∀ (q r : List Int) (i : Nat), cmb (addc c q r) d i = c * cmb q d i + cmb r d i
  | [], r, i => by simp [addc, cmb]
  | a :: q, [], i => by
    simp only [addc, cmb]
    cases i with
    | zero => simp [shf, Int.mul_assoc]
    | succ i =>
      have := cmb_add c d q [] i
      simp only [shf, cmb] at this ⊢
      rw [this, Int.mul_add, Int.mul_assoc]
      omega
  | a :: q, b :: r, i => by
    simp only [addc, cmb]
    cases i with
    | zero => simp [shf, Int.mul_assoc, Int.add_mul]
    | succ i =>
      have := cmb_add c d q r i
      simp only [shf] at this ⊢
      rw [this, Int.mul_add, Int.add_mul, Int.mul_assoc]
      omega
def Comb (p : Nat) (d f : Pf) : Prop := ∃ q : List Int, ∀ i, (p : Int) ∣ f i - cmb q d i
theorem comb_cld (p : Nat) (d : Pf) : Cld p (Comb p d) := by
  refine ⟨fun f g ⟨q, h⟩ e => ⟨q, fun i => ?_⟩, fun c f g ⟨q, h⟩ ⟨r, h2⟩ => ⟨addc c q r, fun i => ?_⟩, fun f ⟨q, h⟩ => ⟨0 :: q, fun i => ?_⟩, ⟨[], fun i => by simp [cmb]⟩⟩
  · have := Int.dvd_sub (h i) (e i)
    rw [show f i - cmb q d i - (f i - g i) = g i - cmb q d i by omega] at this
    exact this
  · rw [cmb_add]
    have := Int.dvd_add (Int.dvd_mul_of_dvd_right (a := (p : Int)) (b := c) (h i)) (h2 i)
    rw [Int.mul_sub] at this
    rw [show c * f i + g i - (c * cmb q d i + cmb r d i) = c * f i - c * cmb q d i + (g i - cmb r d i) by omega]
    exact this
  · cases i with
    | zero => simp [cmb, shf]
    | succ i => simpa [cmb, shf] using h i
theorem comb_low {p : Nat} (hp : RR.Prim p) {d : Pf} {n : Nat} (hz : ∀ i, n < i → d i = 0) (hn : ¬ (p : Int) ∣ d n) : ∀ q : List Int, (∀ i, n ≤ i → (p : Int) ∣ cmb q d i) → ∀ i, (p : Int) ∣ cmb q d i
  | [], _ => fun i => Int.dvd_zero _
  | c :: q, h => by
    have h1 : ∀ i, n ≤ i → (p : Int) ∣ cmb q d i := fun i hi => by
      have := h (i + 1) (by omega)
      have e : cmb (c :: q) d (i + 1) = c * d (i + 1) + cmb q d i := rfl
      rw [e, hz (i + 1) (by omega), Int.mul_zero, Int.zero_add] at this
      exact this
    have ih := comb_low hp hz hn q h1
    have hs : ∀ i, (p : Int) ∣ shf (cmb q d) i := fun i => by
      cases i with
      | zero => exact Int.dvd_zero _
      | succ i => exact ih i
    have hc : (p : Int) ∣ c := by
      have a := Int.dvd_sub (h n (Nat.le_refl _)) (hs n)
      have e : cmb (c :: q) d n = c * d n + shf (cmb q d) n := rfl
      rw [e, show c * d n + shf (cmb q d) n - shf (cmb q d) n = d n * c by rw [Int.mul_comm c]; omega] at a
      exact hp.2 _ _ a hn
    intro i
    exact Int.dvd_add (Int.dvd_mul_of_dvd_left hc) (hs i)
/-- ends in a cell that is not 0 -/
structure Nz (p : Nat) (l : List Int) : Prop where
  cs : ∀ z ∈ l, 0 ≤ z ∧ z < p
  ne : l ≠ []
  la : l.getD (l.length - 1) 0 ≠ 0
theorem small_ndvd {p : Nat} {z : Int} (h : 0 ≤ z ∧ z < p) (n : z ≠ 0) : ¬ (p : Int) ∣ z := fun q => by
  have := Int.emod_eq_zero_of_dvd q
  rw [Int.emod_eq_of_lt h.1 h.2] at this
  exact n this
theorem Nz.top {p : Nat} {l : List Int} (h : Nz p l) : ¬ (p : Int) ∣ co l (l.length - 1) := by
  have hl : l.length - 1 < l.length := by
    have := List.length_pos_iff.mpr h.ne
    omega
  refine small_ndvd ?_ h.la
  have e : co l (l.length - 1) = l[l.length - 1] := by
    unfold co
    rw [List.getD_eq_getElem?_getD, List.getElem?_eq_getElem hl] <;> rfl
  rw [e]
  exact h.cs _ (List.getElem_mem hl)
theorem co_out {l : List Int} {i : Nat} (h : l.length ≤ i) : co l i = 0 := by
  unfold co
  rw [List.getD_eq_getElem?_getD, List.getElem?_eq_none h] <;> rfl
theorem dv_len {p : Nat} (hp : RR.Prim p) {d f : List Int} (hd : Nz p d) (hf : Nz p f) (h : Dv p (co d) (co f)) : d.length ≤ f.length := by
  have d1 := List.length_pos_iff.mpr hd.ne
  have f1 := List.length_pos_iff.mpr hf.ne
  obtain ⟨q, hq⟩ := h _ (comb_cld p (co d)) ⟨[1], fun i => by
    have e : cmb [1] (co d) i = 1 * co d i + shf (cmb [] (co d)) i := rfl
    have z : shf (cmb [] (co d)) i = 0 := by cases i <;> rfl
    rw [e, z]
    simp⟩
  by_cases hl : d.length ≤ f.length
  · exact hl
  · have low := comb_low hp (d := co d) (n := d.length - 1) (fun i hi => co_out (l := d) (by omega)) hd.top q fun i hi => by
      have := hq i
      rw [co_out (l := f) (by omega), Int.zero_sub] at this
      exact Int.dvd_neg.mp this
    have := Int.dvd_add (hq (f.length - 1)) (low (f.length - 1))
    rw [show co f (f.length - 1) - cmb q (co d) (f.length - 1) + cmb q (co d) (f.length - 1) = co f (f.length - 1) by omega] at this
    exact (hf.top this).elim
theorem isG_len {p : Nat} (hp : RR.Prim p) {a b : Pf} {g g' : List Int} (hg : Nz p g) (hg' : Nz p g') (h : IsG p a b (co g)) (h' : IsG p a b (co g')) : g.length = g'.length :=
  Nat.le_antisymm (dv_len hp hg hg' (h'.gr _ h.l h.r)) (dv_len hp hg' hg (h.gr _ h'.l h'.r))
/-- a part of one cell is a part of all -/
theorem dv_one {p : Nat} {c c' : Int} (hc : (p : Int) ∣ c' * c - 1) : ∀ l : List Int, Dv p (co [c]) (co l) := fun l => by
  have key : Dv p (co [1]) (co l) := fun I C h => by
    have : ∀ l : List Int, I (co l) := fun l => by
      induction l with
      | nil => exact C.eqv C.zero fun i => by simp [co]
      | cons z l ih =>
        refine C.eqv (C.lin z _ _ h (C.sh _ ih)) fun i => ?_
        cases i with
        | zero => simp [co, shf]
        | succ i => simp [co, shf]
    exact this l
  refine Dv.trans (fun I C h => C.cong _ _ (C.smul c' h) fun i => ?_) key
  cases i with
  | zero => simpa [co] using hc
  | succ i => simp [co]
end PL
end

section
set_option autoImplicit false
set_option linter.all false
namespace PL
/-! products -/
theorem cmb_take (d : Pf) : ∀ (l : List Int) (i : Nat) (h : i < l.length) (j : Nat), cmb (l.take (i + 1)) d j = cmb (l.take i) d j + l[i] * shk i d j
  | a :: l, 0, h, j => by
    cases j with
    | zero => simp [cmb, shf, shk]
    | succ j => simp [cmb, shf, shk]
  | a :: l, i + 1, h, j => by
    have ih := cmb_take d l i (by simpa using h)
    rw [List.take_succ_cons, List.take_succ_cons, cmb, cmb]
    cases j with
    | zero => simp [shf, shk]
    | succ j =>
      have := ih j
      simp only [shf, List.getElem_cons_succ, shk] at this ⊢
      rw [this]
      omega
theorem cmb_out {d : Pf} {n : Nat} (h : ∀ i, n ≤ i → d i = 0) : ∀ (l : List Int) (j : Nat), l.length + n ≤ j + 1 → cmb l d j = 0
  | [], j, _ => rfl
  | a :: l, j, hj => by
    rw [List.length_cons] at hj
    show a * d j + shf (cmb l d) j = 0
    cases j with
    | zero =>
      have : n = 0 := by omega
      rw [h 0 (by omega)]
      simp [shf]
    | succ j =>
      rw [h (j + 1) (by omega)]
      show a * 0 + cmb l d j = 0
      rw [cmb_out h l j (by omega)]
      simp
theorem cmb_top {d : Pf} {n : Nat} (h : ∀ i, n < i → d i = 0) : ∀ (l : List Int), l ≠ [] → cmb l d (l.length - 1 + n) = l.getD (l.length - 1) 0 * d n
  | [a], _ => by
    show a * d (1 - 1 + n) + shf (cmb [] d) (1 - 1 + n) = a * d n
    have : ∀ k, shf (cmb [] d) k = 0 := fun k => by cases k <;> rfl
    rw [this, Nat.sub_self, Nat.zero_add, Int.add_zero]
  | a :: b :: l, _ => by
    have ih := cmb_top h (b :: l) (by simp)
    show a * d ((b :: l).length + 1 - 1 + n) + shf (cmb (b :: l) d) ((b :: l).length + 1 - 1 + n) = _
    rw [h _ (by rw [List.length_cons]; omega), Int.mul_zero, Int.zero_add]
    rw [show (b :: l).length + 1 - 1 + n = ((b :: l).length - 1 + n) + 1 by rw [List.length_cons]; omega]
    show cmb (b :: l) d ((b :: l).length - 1 + n) = _
    rw [ih]
    rfl
theorem co_lt {l : List Int} {i : Nat} (h : i < l.length) : co l i = l[i] := by
  unfold co
  rw [List.getD_eq_getElem?_getD, List.getElem?_eq_getElem h] <;> rfl
end PL
end

section
set_option autoImplicit false
set_option linter.all false
namespace PL
/-! without the noughts at the end -/
def trimL : List Int → List Int
  | [] => []
  | a :: l => if trimL l = [] then (if a = 0 then [] else [a]) else a :: trimL l
theorem trim_co : ∀ (l : List Int) (i : Nat), co (trimL l) i = co l i
  | [], _ => rfl
  | a :: l, i => by
    have ih := trim_co l
    unfold trimL
    by_cases h : trimL l = []
    · rw [if_pos h]
      rw [h] at ih
      by_cases ha : a = 0
      · rw [if_pos ha]
        cases i with
        | zero => simp [co, ha]
        | succ i => have := ih i; simp [co] at this ⊢; exact this
      · rw [if_neg ha]
        cases i with
        | zero => simp [co]
        | succ i => have := ih i; simp [co] at this ⊢; exact this
    · rw [if_neg h]
      cases i with
      | zero => simp [co]
      | succ i => have := ih i; simp [co] at this ⊢; exact this
theorem trim_len : ∀ l : List Int, (trimL l).length ≤ l.length
  | [] => Nat.le_refl _
  | a :: l => by
    have := trim_len l
    unfold trimL
    split
    · split
      · simp
      · simp
    · simp only [List.length_cons]
      omega
theorem trim_sub : ∀ (l : List Int), ∀ z ∈ trimL l, z ∈ l
  | [], z, h => h
  | a :: l, z, h => by
    unfold trimL at h
    split at h
    · split at h
      · cases h
      · rw [List.mem_singleton.mp h]
        exact List.mem_cons_self
    · rcases List.mem_cons.mp h with rfl | h
      · exact List.mem_cons_self
      · exact List.mem_cons_of_mem _ (trim_sub l z h)
theorem trim_last : ∀ l : List Int, trimL l ≠ [] → (trimL l).getD ((trimL l).length - 1) 0 ≠ 0
  | [], h => (h rfl).elim
  | a :: l, h => by
    have ih := trim_last l
    unfold trimL at h ⊢
    by_cases q : trimL l = []
    · rw [if_pos q] at h ⊢
      by_cases ha : a = 0
      · rw [if_pos ha] at h
        exact (h rfl).elim
      · rw [if_neg ha]
        exact ha
    · rw [if_neg q]
      have := ih q
      have hl := List.length_pos_iff.mpr q
      rw [List.length_cons, Nat.add_sub_cancel]
      rw [show (trimL l).length = ((trimL l).length - 1) + 1 by omega]
      simpa using this
theorem trim_nz {p : Nat} {l : List Int} (hc : ∀ z ∈ l, 0 ≤ z ∧ z < p) (h : trimL l ≠ []) : Nz p (trimL l) := ⟨fun z hz => hc z (trim_sub l z hz), h, trim_last l h⟩
theorem trim_le {l : List Int} {k : Nat} (h : ∀ i, k ≤ i → co l i = 0) : (trimL l).length ≤ k := by
  by_cases q : trimL l = []
  · rw [q]
    exact Nat.zero_le _
  · have := trim_last l q
    have hl := List.length_pos_iff.mpr q
    by_cases hk : (trimL l).length ≤ k
    · exact hk
    · have e := h ((trimL l).length - 1) (by omega)
      rw [← trim_co] at e
      exact (this e).elim
theorem trim_snoc0 : ∀ l : List Int, trimL (l ++ [0]) = trimL l
  | [] => rfl
  | a :: l => by
    show trimL (a :: (l ++ [0])) = _
    unfold trimL
    rw [trim_snoc0 l]
theorem trim_snoc {c : Int} (hc : c ≠ 0) : ∀ l : List Int, trimL (l ++ [c]) = l ++ [c]
  | [] => by
    simp [trimL, hc]
  | a :: l => by
    show trimL (a :: (l ++ [c])) = _
    unfold trimL
    rw [trim_snoc hc l, if_neg (by simp)]
    rfl
theorem trim_id {l : List Int} (h : l = [] ∨ l.getD (l.length - 1) 0 ≠ 0) : trimL l = l := by
  rcases h with rfl | h
  · rfl
  · rcases List.eq_nil_or_concat l with rfl | ⟨l', c, rfl⟩
    · rfl
    · rw [List.concat_eq_append] at h ⊢
      refine trim_snoc ?_ l'
      simpa using h
theorem trim_drop {l : List Int} (hl : l ≠ []) (h : l.getD (l.length - 1) 0 = 0) : trimL l = trimL l.dropLast := by
  rcases List.eq_nil_or_concat l with rfl | ⟨l', c, rfl⟩
  · exact (hl rfl).elim
  · rw [List.concat_eq_append] at h ⊢
    have : c = 0 := by simpa using h
    rw [this, trim_snoc0, List.dropLast_concat]
theorem trim_take : ∀ l : List Int, l.take (trimL l).length = trimL l
  | [] => rfl
  | a :: l => by
    have ih := trim_take l
    unfold trimL
    by_cases h : trimL l = []
    · rw [if_pos h]
      by_cases ha : a = 0
      · rw [if_pos ha]
        rfl
      · rw [if_neg ha]
        rfl
    · rw [if_neg h, List.length_cons, List.take_succ_cons, ih]
/-! one turn of a division -/
/-- R behind taking away c times b, moved by k -/
theorem rm_sub {p : Nat} {a f : Pf} {R R' b : List Int} {c : Int} {k : Nat} (h : Rm p a (co b) (co R)) (e : ∀ j, (p : Int) ∣ co R' j - (co R j - c * shk k (co b) j)) : Rm p a (co b) (co R') := by
  intro I C q
  have h1 := h I C q
  have h2 := C.lin c _ _ (C.shk q k) h1
  refine C.cong _ _ h2 fun j => ?_
  have := e j
  show (p : Int) ∣ c * shk k (co b) j + (a j - co R j) - (a j - co R' j)
  rw [show c * shk k (co b) j + (a j - co R j) - (a j - co R' j) = co R' j - (co R j - c * shk k (co b) j) by omega]
  exact this
end PL
end

section
set_option autoImplicit false
set_option linter.all false
/-! rules put together again and again; polynomials as rows -/
namespace DR
def Eqv (m : Int) (as bs : L) : Prop := ∀ p, m ∣ S as p - S bs p
theorem Eqv.refl (m : Int) (as : L) : Eqv m as as := fun p => by rw [Int.sub_self]; exact Int.dvd_zero _
theorem Eqv.symm {m : Int} {as bs : L} (h : Eqv m as bs) : Eqv m bs as := fun p => dvd_sy (h p)
theorem Eqv.trans {m : Int} {as bs cs : L} (h : Eqv m as bs) (h2 : Eqv m bs cs) : Eqv m as cs := fun p => dvd_tr (h p) (h2 p)
theorem Eqv.of {m : Int} {as bs : L} (h : ∀ p, S as p = S bs p) : Eqv m as bs := fun p => by rw [h, Int.sub_self]; exact Int.dvd_zero _
theorem Eqv.op {m : Int} {as bs : L} (h : Eqv m as bs) (w : Int → Int) (q : Int) : m ∣ RR.Fs as w q - RR.Fs bs w q := Fs_rule h w q
theorem S_op (as : L) (p : Int) : S as p = RR.Fs as (dl p) 0 := by
  rw [Fs_phi]
  unfold S
  congr 1
  funext o
  rw [Int.zero_add]
theorem Eqv.ofop {m : Int} {as bs : L} (h : ∀ w q, m ∣ RR.Fs as w q - RR.Fs bs w q) : Eqv m as bs := fun p => by
  rw [S_op, S_op]
  exact h _ _
theorem Eqv.dvd {m n : Int} {as bs : L} (h : Eqv m as bs) (d : n ∣ m) : Eqv n as bs := fun p => Int.dvd_trans d (h p)
theorem op_congr {m : Int} (as : L) {u v : Int → Int} (h : ∀ q, m ∣ u q - v q) (q : Int) : m ∣ RR.Fs as u q - RR.Fs as v q := by
  induction as with
  | nil => rw [RR.Fs_nil, RR.Fs_nil, Int.sub_self]; exact Int.dvd_zero _
  | cons a as ih =>
    rw [RR.Fs_cons, RR.Fs_cons]
    have h1 : m ∣ a.2 * (u (q + a.1) - v (q + a.1)) := Int.dvd_mul_of_dvd_right (h _)
    rw [Int.mul_sub] at h1
    have := Int.dvd_add h1 ih
    rw [show a.2 * u (q + a.1) - a.2 * v (q + a.1) + (RR.Fs as u q - RR.Fs as v q) = a.2 * u (q + a.1) + RR.Fs as u q - (a.2 * v (q + a.1) + RR.Fs as v q) by omega] at this
    exact this
theorem Eqv.behind {m : Int} {as bs cs ds : L} (h : Eqv m as bs) (h2 : Eqv m cs ds) : Eqv m (behindP as cs) (behindP bs ds) := .ofop fun w q => by
  rw [Fs_behind, Fs_behind]
  exact dvd_tr (h.op _ q) (op_congr bs (fun i => h2.op w i) q)
theorem behind_comm (m : Int) (as bs : L) : Eqv m (behindP as bs) (behindP bs as) := .ofop fun w q => by
  rw [Fs_behind, Fs_behind, Fs_comm, Int.sub_self]
  exact Int.dvd_zero _
theorem behind_assoc (m : Int) (as bs cs : L) : Eqv m (behindP (behindP as bs) cs) (behindP as (behindP bs cs)) := .ofop fun w q => by
  rw [Fs_behind, Fs_behind, Fs_behind]
  have : RR.Fs (behindP bs cs) w = RR.Fs bs (RR.Fs cs w) := by funext i; exact Fs_behind _ _ _ _
  rw [this, Int.sub_self]
  exact Int.dvd_zero _
theorem Fs_one (w : Int → Int) (q : Int) : RR.Fs [(0, 1)] w q = w q := by
  rw [RR.Fs_cons, RR.Fs_nil]
  show 1 * w (q + 0) + 0 = w q
  rw [Int.add_zero q]
  omega
theorem one_behind (m : Int) (as : L) : Eqv m (behindP [(0, 1)] as) as := .ofop fun w q => by
  rw [Fs_behind, Fs_one, Int.sub_self]
  exact Int.dvd_zero _
theorem behind_one (m : Int) (as : L) : Eqv m (behindP as [(0, 1)]) as := (behind_comm m _ _).trans (one_behind m as)
def pw (ts : L) : Nat → L
  | 0 => [(0, 1)]
  | k + 1 => behindP (pw ts k) ts
theorem pw_congr {m : Int} {as bs : L} (h : Eqv m as bs) : ∀ k, Eqv m (pw as k) (pw bs k)
  | 0 => .refl _ _
  | k + 1 => (pw_congr h k).behind h
theorem pw_add (m : Int) (ts : L) (a : Nat) : ∀ b, Eqv m (pw ts (a + b)) (behindP (pw ts a) (pw ts b))
  | 0 => (behind_one m _).symm
  | b + 1 => ((pw_add m ts a b).behind (.refl m ts)).trans (behind_assoc m _ _ _)
theorem pw_mul (m : Int) (ts : L) (a : Nat) : ∀ b, Eqv m (pw (pw ts a) b) (pw ts (a * b))
  | 0 => .refl _ _
  | b + 1 => by
    have h := ((pw_mul m ts a b).behind (.refl m (pw ts a))).trans (pw_add m ts (a * b) a).symm
    rw [Nat.mul_succ]
    exact h
theorem pw_one (m : Int) (ts : L) : Eqv m (pw ts 1) ts := one_behind m ts
theorem behind4 (m : Int) (as bs cs ds : L) : Eqv m (behindP (behindP as bs) (behindP cs ds)) (behindP (behindP as cs) (behindP bs ds)) :=
  (behind_assoc m as bs _).trans (((Eqv.refl m as).behind (((behind_assoc m bs cs ds).symm.trans (((behind_comm m bs cs).behind (.refl m ds)).trans (behind_assoc m cs bs ds))))).trans (behind_assoc m as cs _).symm)
theorem pw_behind (m : Int) (as bs : L) : ∀ k, Eqv m (pw (behindP as bs) k) (behindP (pw as k) (pw bs k))
  | 0 => (one_behind m _).symm
  | k + 1 => ((pw_behind m as bs k).behind (.refl m _)).trans (behind4 m _ _ _ _)
/-- moved -/
def sh (a : Int) : L := [(a, 1)]
theorem Fs_sh (a : Int) (w : Int → Int) (q : Int) : RR.Fs (sh a) w q = w (q + a) := by
  unfold sh
  rw [RR.Fs_cons, RR.Fs_nil]
  show 1 * w (q + a) + 0 = w (q + a)
  omega
theorem sh_add (m a b : Int) : Eqv m (behindP (sh a) (sh b)) (sh (a + b)) := .ofop fun w q => by
  rw [Fs_behind, Fs_sh, Fs_sh, Fs_sh, Int.add_assoc, Int.sub_self]
  exact Int.dvd_zero _
theorem pw_sh (m a : Int) : ∀ k : Nat, Eqv m (pw (sh a) k) (sh (a * k))
  | 0 => by
    rw [show a * ((0 : Nat) : Int) = 0 by simp]
    exact .refl _ _
  | k + 1 => by
    have h := ((pw_sh m a k).behind (.refl m (sh a))).trans (sh_add m (a * k) a)
    rw [show a * ((k + 1 : Nat) : Int) = a * k + a by rw [Int.natCast_add, Int.mul_add]; simp]
    exact h
/-! polynomials -/
def pl : Int → List Int → L
  | _, [] => []
  | k, x :: c => (k, x) :: pl (k + 1) c
theorem pl_len : ∀ (c : List Int) (k : Int), (pl k c).length = c.length
  | [], _ => rfl
  | x :: c, k => by rw [pl, List.length_cons, pl_len c, List.length_cons]
theorem S_pl : ∀ (c : List Int) (k q : Int), S (pl k c) q = if q < k then 0 else PL.co c (q - k).toNat
  | [], k, q => by
    rw [pl, S_nil]
    unfold PL.co
    simp
  | x :: c, k, q => by
    rw [pl, S_cons, S_pl c]
    show (if k = q then x else 0) + _ = _
    by_cases h : q < k
    · rw [if_neg (by omega), if_pos (by omega), if_pos h] <;> rfl
    · rw [if_neg h]
      by_cases h2 : k = q
      · rw [if_pos h2, if_pos (by omega), show (q - k).toNat = 0 by omega]
        show x + 0 = x
        omega
      · rw [if_neg h2, if_neg (by omega), show (q - k).toNat = (q - (k + 1)).toNat + 1 by omega]
        unfold PL.co
        rw [List.getD_cons_succ]
        omega
theorem pl_co {m : Int} {c d : List Int} (k : Int) (h : ∀ i, m ∣ PL.co c i - PL.co d i) : Eqv m (pl k c) (pl k d) := fun q => by
  rw [S_pl, S_pl]
  split
  · rw [Int.sub_self]; exact Int.dvd_zero _
  · exact h _
theorem pl_at (c : List Int) (i : Nat) : S (pl 0 c) i = PL.co c i := by
  rw [S_pl, if_neg (by omega), show ((i : Int) - 0).toNat = i by omega]
theorem pl_neg (c : List Int) {k q : Int} (h : q < k) : S (pl k c) q = 0 := by rw [S_pl, if_pos h]
theorem S_behind (as bs : L) (q : Int) : S (behindP as bs) q = phi (fun o => S bs (q - o)) as := by
  induction as with
  | nil => rfl
  | cons a as ih =>
    unfold behindP at ih ⊢
    rw [List.flatMap_cons, S_app, ih, phi_cons]
    congr 1
    unfold S
    rw [phi_behind1, Int.mul_comm]
    congr 1
    unfold phi
    congr 1
    apply List.map_congr_left
    intro u _
    show dl q (a.1 + u.1) * u.2 = dl (q - a.1) u.1 * u.2
    unfold dl
    by_cases h : a.1 + u.1 = q
    · rw [if_pos h, if_pos (by omega)]
    · rw [if_neg h, if_neg (by omega)]
theorem pl_sh (m : Int) (a : Int) (c : List Int) : Eqv m (pl a c) (behindP (sh a) (pl 0 c)) := .of fun q => by
  rw [S_behind]
  unfold sh
  rw [phi_cons, phi_nil, S_pl, S_pl]
  show _ = (if q - a < 0 then 0 else PL.co c (q - a - 0).toNat) * 1 + 0
  rw [Int.sub_zero, Int.mul_one, Int.add_zero]
  by_cases h : q < a
  · rw [if_pos h, if_pos (by omega)]
  · rw [if_neg h, if_neg (by omega)]
/-- set at a place -/
theorem co_set {c : List Int} {k : Nat} (hk : k < c.length) (v : Int) (i : Nat) : PL.co (c.set k v) i = if i = k then v else PL.co c i := by
  unfold PL.co
  rw [List.getD_eq_getElem?_getD, List.getD_eq_getElem?_getD, List.getElem?_set]
  by_cases h : k = i
  · rw [if_pos h, if_pos hk, if_pos h.symm] <;> rfl
  · rw [if_neg h, if_neg fun z => h z.symm]
theorem pl_set {c : List Int} {k : Nat} (hk : k < c.length) (low v q : Int) : S (pl low (c.set k v)) q = if q = low + k then v else S (pl low c) q := by
  rw [S_pl, S_pl, co_set hk]
  by_cases h : q < low
  · rw [if_pos h, if_pos h, if_neg (by omega)]
  · rw [if_neg h, if_neg h]
    by_cases h2 : q = low + k
    · rw [if_pos h2, if_pos (by omega)]
    · rw [if_neg h2, if_neg (by omega)]
/-! the product of two lists -/
def addL : List Int → List Int → List Int
  | [], b => b
  | a, [] => a
  | x :: a, y :: b => (x + y) :: addL a b
def convL : List Int → List Int → List Int
  | [], _ => []
  | x :: c, d => addL (d.map fun y => x * y) (0 :: convL c d)
theorem addL_co : ∀ (a b : List Int) (i : Nat), PL.co (addL a b) i = PL.co a i + PL.co b i
  | [], b, i => by unfold addL PL.co; simp
  | x :: a, [], i => by unfold addL PL.co; simp
  | x :: a, y :: b, i => by
    rw [addL]
    cases i with
    | zero => rfl
    | succ i => exact addL_co a b i
theorem addL_len : ∀ (a b : List Int), (addL a b).length = max a.length b.length
  | [], b => by unfold addL; simp
  | x :: a, [] => by unfold addL; simp
  | x :: a, y :: b => by rw [addL, List.length_cons, addL_len a b, List.length_cons, List.length_cons]; omega
theorem convL_len {d : List Int} (hd : 1 ≤ d.length) : ∀ c : List Int, (convL c d).length ≤ c.length + d.length - 1
  | [] => by simp [convL]
  | x :: c => by
    have := convL_len hd c
    rw [convL, addL_len, List.length_map, List.length_cons, List.length_cons]
    omega
theorem map_co (x : Int) (d : List Int) (i : Nat) : PL.co (d.map fun y => x * y) i = x * PL.co d i := by
  unfold PL.co
  rw [List.getD_eq_getElem?_getD, List.getD_eq_getElem?_getD, List.getElem?_map]
  cases d[i]? with
  | none => simp
  | some y => rfl
theorem S_convL (d : List Int) : ∀ (c : List Int) (q : Int), S (pl 0 (convL c d)) q = S (behindP (pl 0 c) (pl 0 d)) q
  | [], q => rfl
  | x :: c, q => by
    have ih := S_convL d c (q - 1)
    have e1 : S (behindP (pl 0 (x :: c)) (pl 0 d)) q = x * S (pl 0 d) q + S (behindP (pl 1 c) (pl 0 d)) q := by
      rw [S_behind, pl, phi_cons, S_behind]
      show S (pl 0 d) (q - 0) * x + _ = _
      rw [Int.sub_zero, Int.mul_comm]
      rfl
    have e2 : S (behindP (pl 1 c) (pl 0 d)) q = S (behindP (pl 0 c) (pl 0 d)) (q - 1) := by
      rw [S_behind, S_behind]
      have key : ∀ (c : List Int) (k : Int), phi (fun o => S (pl 0 d) (q - o)) (pl (k + 1) c) = phi (fun o => S (pl 0 d) (q - 1 - o)) (pl k c) := by
        intro c
        induction c with
        | nil => intro k; rfl
        | cons y c ih =>
          intro k
          rw [pl, pl, phi_cons, phi_cons, ih]
          show S (pl 0 d) (q - (k + 1)) * y + _ = S (pl 0 d) (q - 1 - k) * y + _
          rw [show q - (k + 1) = q - 1 - k by omega]
      exact key c 0
    rw [e1, e2, ← ih, S_pl, S_pl, S_pl, convL]
    by_cases h : q < 0
    · rw [if_pos h, if_pos h, if_pos (by omega)]
      omega
    · rw [if_neg h, if_neg h, addL_co, map_co, Int.sub_zero]
      congr 1
      by_cases h2 : q - 1 < 0
      · rw [if_pos h2, show q.toNat = 0 by omega] <;> rfl
      · rw [if_neg h2, show q.toNat = (q - 1 - 0).toNat + 1 by omega]
        rfl
theorem convL_in : ∀ (c d : List Int) (B : Int), (∀ x ∈ c, 0 ≤ x ∧ x < B) → (∀ y ∈ d, 0 ≤ y ∧ y < B) → 0 ≤ B → ∀ i, 0 ≤ PL.co (convL c d) i ∧ PL.co (convL c d) i ≤ B * B * c.length
  | [], d, B, _, _, hB, i => by
    unfold convL PL.co
    simp
  | x :: c, d, B, hc, hd, hB, i => by
    have hx := hc x List.mem_cons_self
    have ih := fun i => convL_in c d B (fun y hy => hc y (List.mem_cons_of_mem _ hy)) hd hB i
    have hy : 0 ≤ PL.co d i ∧ PL.co d i ≤ B := by
      by_cases h : i < d.length
      · have e : PL.co d i = d[i] := by unfold PL.co; rw [List.getD_eq_getElem?_getD, List.getElem?_eq_getElem h] <;> rfl
        rw [e]
        have := hd _ (List.getElem_mem h)
        omega
      · rw [PL.co_out (by omega)]
        omega
    have hm : 0 ≤ x * PL.co d i ∧ x * PL.co d i ≤ B * B := ⟨Int.mul_nonneg hx.1 hy.1, Int.mul_le_mul (by omega) hy.2 hy.1 hB⟩
    have h0 : 0 ≤ PL.co (0 :: convL c d) i ∧ PL.co (0 :: convL c d) i ≤ B * B * c.length := by
      cases i with
      | zero =>
        refine ⟨Int.le_refl _, ?_⟩
        show (0 : Int) ≤ _
        exact Int.mul_nonneg (Int.mul_nonneg hB hB) (by omega)
      | succ i => exact ih i
    rw [convL, addL_co, map_co, List.length_cons]
    refine ⟨by omega, ?_⟩
    rw [show ((c.length + 1 : Nat) : Int) = (c.length : Int) + 1 by omega, Int.mul_add, Int.mul_one]
    omega
/-! numbers that hold lists -/
def B24 : Int := 16777216
def val : List Int → Int
  | [] => 0
  | x :: c => x + B24 * val c
theorem val_add : ∀ a b : List Int, val (addL a b) = val a + val b
  | [], b => by unfold addL; simp [val]
  | x :: a, [] => by unfold addL; simp [val]
  | x :: a, y :: b => by rw [addL, val, val_add a b, val, val, Int.mul_add]; omega
theorem val_map (x : Int) : ∀ d : List Int, val (d.map fun y => x * y) = x * val d
  | [] => by simp [val]
  | y :: d => by rw [List.map_cons, val, val_map x d, val, Int.mul_add, Int.mul_left_comm]
theorem val_conv (d : List Int) : ∀ c : List Int, val (convL c d) = val c * val d
  | [] => by simp [convL, val]
  | x :: c => by rw [convL, val_add, val_map, val, val_conv d c, val, Int.add_mul, Int.zero_add, Int.mul_assoc]
theorem val_pos : ∀ {e : List Int}, (∀ i, 0 ≤ PL.co e i) → 0 ≤ val e
  | [], _ => Int.le_refl _
  | x :: e, h => by
    have h1 : 0 ≤ x := h 0
    have h2 := val_pos (e := e) fun i => h (i + 1)
    have h3 : 0 ≤ B24 * val e := Int.mul_nonneg (by decide) h2
    rw [val]
    omega
def digs : Nat → Int → List Int
  | 0, _ => []
  | f + 1, n => if n ≤ 0 then [] else n % B24 :: digs f (n / B24)
theorem digs_co : ∀ (f : Nat) (e : List Int), e.length ≤ f → (∀ i, 0 ≤ PL.co e i ∧ PL.co e i < B24) → ∀ i, PL.co (digs f (val e)) i = PL.co e i
  | f, [], _, _, i => by
    have : digs f (val []) = [] := by
      cases f with
      | zero => rfl
      | succ f => unfold digs; rw [if_pos (by decide)]
    rw [this]
  | 0, x :: e, h, _, i => by simp at h
  | f + 1, x :: e, h, hb, i => by
    have hx := hb 0
    have hx' : 0 ≤ x ∧ x < B24 := hx
    have he : ∀ i, 0 ≤ PL.co e i ∧ PL.co e i < B24 := fun i => hb (i + 1)
    have hv := val_pos fun i => (he i).1
    have hB : (0 : Int) < B24 := by decide
    have ih := digs_co f e (by simpa using h) he
    have em : (x + B24 * val e) % B24 = x := by rw [Int.add_mul_emod_self_left]; exact Int.emod_eq_of_lt hx'.1 hx'.2
    have ed : (x + B24 * val e) / B24 = val e := by
      rw [Int.add_mul_ediv_left _ _ (by decide), Int.ediv_eq_zero_of_lt hx'.1 hx'.2, Int.zero_add]
    unfold digs
    rw [val, em, ed]
    by_cases hz : x + B24 * val e ≤ 0
    · rw [if_pos hz]
      have hp : 0 ≤ B24 * val e := Int.mul_nonneg (by decide) hv
      have hx0 : x = 0 := by omega
      have hv0 : val e = 0 := by
        have : B24 * val e = 0 := by omega
        rcases Int.mul_eq_zero.mp this with z | z
        · exact absurd z (by decide)
        · exact z
      cases i with
      | zero => rw [hx0] <;> rfl
      | succ i =>
        have := ih i
        rw [hv0] at this
        have hd0 : digs f 0 = [] := by
          cases f with
          | zero => rfl
          | succ f => unfold digs; rw [if_pos (by decide)]
        rw [hd0] at this
        exact this
    · rw [if_neg hz]
      cases i with
      | zero => rfl
      | succ i => exact ih i
theorem digs_len : ∀ (f : Nat) (n : Int), (digs f n).length ≤ f
  | 0, _ => Nat.le_refl _
  | f + 1, n => by
    unfold digs
    split
    · exact Nat.zero_le _
    · rw [List.length_cons]
      exact Nat.succ_le_succ (digs_len f _)
theorem val_lt : ∀ {c : List Int}, (∀ x ∈ c, 0 ≤ x ∧ x < B24) → 0 ≤ val c ∧ val c < B24 ^ c.length
  | [], _ => by decide
  | x :: c, h => by
    have hx := h x List.mem_cons_self
    obtain ⟨h1, h2⟩ := val_lt fun y hy => h y (List.mem_cons_of_mem _ hy)
    have hB : (0 : Int) < B24 := by decide
    rw [val, List.length_cons, Int.pow_succ]
    have h3 : 0 ≤ B24 * val c := Int.mul_nonneg (by omega) h1
    refine ⟨by omega, ?_⟩
    have h4 : B24 * (val c + 1) ≤ B24 * B24 ^ c.length := Int.mul_le_mul_of_nonneg_left (by omega) (by omega)
    rw [Int.mul_add, Int.mul_one, Int.mul_comm B24 (B24 ^ c.length)] at h4
    omega
end DR
end

section
set_option linter.all false
set_option autoImplicit false
namespace MP
open PySem L2
theorem two24 : (2 : Int) ^ 24 = 16777216 := by decide
theorem shl24 {a : Int} {k : Nat} (h0 : 0 ≤ a) (h : a < 2 ^ k) (hk : 0 < k) (hk2 : k ≤ 100000000) : bShl (.int a) (.int 24) = some (.d (.int (a * 16777216))) := by
  have hn : a.natAbs < 2 ^ k := by
    have e : ((2 ^ k : Nat) : Int) = (2 : Int) ^ k := by norm_cast
    have : (a.natAbs : Int) < ((2 ^ k : Nat) : Int) := by rw [e, Int.natAbs_of_nonneg h0]; exact h
    exact Int.ofNat_lt.mp this
  have := log_lt hn hk
  have g : (decide ((0 : Int) ≤ 24) && decide ((a.natAbs.log2 : Int) + 1 + 24 ≤ 134217728)) = true := by
    rw [decide_eq_true (by decide), decide_eq_true (by omega)] <;> rfl
  have : (2 : Int) ^ (24 : Int).toNat = 16777216 := by decide
  simp only [bShl]
  rw [if_pos g, this]
theorem shr24 (n : Int) : bShr (.int n) (.int 24) = some (.d (.int (n / 16777216))) := by
  have : (2 : Int) ^ (24 : Int).toNat = 16777216 := by decide
  simp only [bShr]
  rw [if_pos (by decide), this]
theorem band24 (n : Int) : bBand (.int n) (.int 16777215) = some (.d (.int (n % 16777216))) := by
  have h := PySem.W.kbt_mask n 24
  rw [two24] at h
  show some (SV.d (.int (Builtin.bitAnd n 16777215))) = _
  have e : (16777216 : Int) - 1 = 16777215 := by decide
  rw [e] at h
  rw [h]
theorem bor24 {a x : Int} (ha : 0 ≤ a) (h0 : 0 ≤ x) (h1 : x < 16777216) : bBor (.int (a * 16777216)) (.int x) = some (.d (.int (a * 16777216 + x))) := by
  have h := or_low (q := a) (r := x) (k := 24) ha h0 (by rw [two24]; exact h1)
  rw [two24] at h
  show some (SV.d (.int (Builtin.bitOr (a * 16777216) x))) = _
  rw [h]
/-! dict(pairs) -/
def tpp (t : Int × Int) : D := .tuple [.int t.1, .int t.2]
theorem pairsD_kv : ∀ kv : DR.L, pairsD (kv.map tpp) = some (kvD kv)
  | [] => rfl
  | e :: kv => by
    rw [List.map_cons]
    show (keyOf (PyData.int e.1)).bind (fun _ => (pairsD (kv.map tpp)).map fun ps => (PyData.int e.1, PyData.int e.2) :: ps) = _
    rw [pairsD_kv kv] <;> rfl
theorem mergeD_kv : ∀ (bs as : DR.L), DR.Dc (as ++ bs) → mergeD (kvD as) (kvD bs) = kvD (as ++ bs)
  | [], as, _ => by rw [List.append_nil] <;> rfl
  | b :: bs, as, h => by
    have e1 : mergeD (kvD as) (kvD (b :: bs)) = mergeD (dPut (kvD as) (.inl b.1) (.int b.2)) (kvD bs) := rfl
    have nd := h.nd
    have no : ¬ DR.has as b.1 = true := fun z => by
      obtain ⟨e, he, q⟩ := DR.has_iff.mp z
      rw [List.map_append, List.nodup_append] at nd
      exact nd.2.2 e.1 (List.mem_map.mpr ⟨e, he, rfl⟩) b.1 (by simp) q
    rw [e1, put_kv]
    have e2 : DR.put as b.1 b.2 = as ++ [b] := by
      unfold DR.put
      rw [if_neg no]
    rw [e2, mergeD_kv bs (as ++ [b]) (by rw [List.append_assoc]; exact h), List.append_assoc]
    rfl
theorem dct_kv {kv : DR.L} (h : DR.Dc kv) : gDct [.tuple (kv.map tpp)] = some (.own (.dct (kvD kv))) := by
  show (pairsD (kv.map tpp)).map _ = _
  rw [pairsD_kv]
  show some (SV.own (.dct (mergeD (kvD []) (kvD kv)))) = _
  rw [mergeD_kv kv [] h] <;> rfl
/-! what is sorted, each once -/
theorem sortU_mem {k : Int} (is : List Int) : k ∈ sortU is ↔ k ∈ is := by
  unfold sortU
  rw [(sort_perm _).mem_iff, uniq_mem]
theorem sortU_nd (is : List Int) : (sortU is).Nodup := (sort_perm _).nodup_iff.mpr (uniq_nd is)
theorem sortU_asc (is : List Int) : (sortU is).Pairwise (· < ·) := (List.Pairwise.and (sort_asc (uniq is)) (sortU_nd is)).imp fun h => by have := h.1; have := h.2; omega
theorem uniq_len : ∀ is : List Int, (uniq is).length ≤ is.length
  | [] => Nat.le_refl _
  | i :: is => by
    have := uniq_len is
    rw [uniq]
    split
    · rw [List.length_cons]; omega
    · rw [List.length_cons, List.length_cons]; omega
theorem sortU_len (is : List Int) : (sortU is).length ≤ is.length := by
  unfold sortU
  rw [(sort_perm _).length_eq]
  exact uniq_len is
theorem onlyI_int {e : ME} {ρ ρ' : En} {i : Int} (h : e ρ = .ok (.d (.int i)) ρ') : mOnlyI e ρ = .ok (.d (.int i)) ρ' := by
  unfold mOnlyI
  rw [h]
  rfl
/-- two fors whose parts leave all as it was -/
theorem compS_pure {vs vs1 : List Nat} {tg tg1 : Tg} {it1 : MI} {e : ME} {ρ : En} {ys : D → List D} {y : D → D → Int} : ∀ (xs : List D) (acc : List Int),
    (∀ x ∈ xs, ∃ ρa, tgSet tg x (wipeE ρ vs) = some ρa ∧ it1 ρa = .ok (ys x) ρa ∧ plainAt ρa vs1 = true ∧ tgIn tg1 vs1 = true ∧ back ρ ρa vs = ρ ∧ ∀ z ∈ ys x, ∃ ρb, tgSet tg1 z (wipeE ρa vs1) = some ρb ∧ e ρb = .ok (.d (.int (y x z))) ρb ∧ back ρa ρb vs1 = ρa) →
    acc.length + (xs.flatMap fun x => (ys x).map (y x)).length ≤ 4000 → compGoS vs tg mYes vs1 tg1 it1 mYes e xs (acc.map PyData.int) ρ = .ok (.own (.lst ((sortU (acc ++ xs.flatMap fun x => (ys x).map (y x))).map PyData.int))) ρ
  | [], acc, _, _ => by
    unfold compGoS
    rw [ints_map0, List.flatMap_nil, List.append_nil]
    rfl
  | x :: xs, acc, h, hl => by
    obtain ⟨ρa, h1, h2, h3, h4, h5, h6⟩ := h x List.mem_cons_self
    rw [List.flatMap_cons, List.length_append, List.length_map] at hl
    have hc := comp_pure (vs := vs1) (tg := tg1) (e := mOnlyI e) (ρ := ρa) (y := fun z => .int (y x z)) (xs := ys x) (acc := acc.map PyData.int) fun z hz => by
      obtain ⟨ρb, k1, k2, k3⟩ := h6 z hz
      exact ⟨ρb, .d (.int (y x z)), k1, onlyI_int k2, rfl, k3⟩
    have e0 : acc.map PyData.int ++ (ys x).map (fun z => PyData.int (y x z)) = (acc ++ (ys x).map (y x)).map PyData.int := by
      rw [List.map_append, List.map_map]
      rfl
    rw [e0] at hc
    unfold compGoS
    rw [h1]
    simp only [mYes, noRaise_ok, if_pos, h2, h3, h4, Bool.true_and]
    rw [if_pos (decide_eq_true (by rw [List.length_map]; omega))]
    rw [hc]
    simp only [noRaise_ok, h5]
    have ih := compS_pure (vs := vs) (vs1 := vs1) (tg := tg) (tg1 := tg1) (it1 := it1) (e := e) (ρ := ρ) (ys := ys) (y := y) xs (acc ++ (ys x).map (y x)) (fun z hz => h z (List.mem_cons_of_mem _ hz)) (by rw [List.length_append, List.length_map]; omega)
    rw [ih, List.flatMap_cons, List.append_assoc]
@[simp] theorem p_sortS {vs vs1 : List Nat} {tg tg1 : Tg} {it it1 : MI} {t t1 : MT} {e : ME} {ρ : En} : mSortS vs tg it t vs1 tg1 it1 t1 e ρ = (it ρ).bind fun xs ρ1 => if (plainAt ρ1 vs && tgIn tg vs) = true then compGoS vs tg t vs1 tg1 it1 t1 e xs [] ρ1 else .stuck := rfl
theorem forGo_next {tg : Tg} {b : MS} {x : D} {xs : List D} {ρ ρa ρb : En} (h1 : tgSet tg x ρ = some ρa) (h2 : b ρa = .next ρb) : forGo tg b (x :: xs) ρ = forGo tg b xs ρb := by
  conv => lhs; unfold forGo
  rw [h1]
  simp only [h2]
theorem forGo_ret {tg : Tg} {b : MS} {x : D} {xs : List D} {ρ ρa ρb : En} {v : SV} (h1 : tgSet tg x ρ = some ρa) (h2 : b ρa = .ret v ρb) : forGo tg b (x :: xs) ρ = .ret v ρb := by
  conv => lhs; unfold forGo
  rw [h1]
  simp only [h2]
theorem while_next {t : MT} {b : MS} {n : Nat} {ρ ρ1 ρ2 : En} (h1 : t ρ = .ok true ρ1) (h2 : b ρ1 = .next ρ2) : whileGo t b (n + 1) ρ = whileGo t b n ρ2 := by
  conv => lhs; unfold whileGo
  rw [h1]
  simp [h2]
theorem while_end {t : MT} {b : MS} {n : Nat} {ρ ρ1 : En} (h1 : t ρ = .ok false ρ1) : whileGo t b (n + 1) ρ = .next ρ1 := by
  unfold whileGo
  rw [h1]
  simp
theorem augI_s {i : Nat} {a v : ME} {ρ : En} {xs : List Int} {k : Nat} {w : Int} (h : cellAt ρ i = some (.lst (xs.map PyData.int))) (hk : k < xs.length) (ha : a ρ = .ok (.d (.int k)) ρ) (hv : v ρ = .ok (.d (.int w)) ρ) :
    sAugI i bAddI a v ρ = .next (putCell ρ i (.lst ((xs.set k (xs[k] + w)).map PyData.int))) := by
  have hL : isL ρ i = true := by
    unfold isL
    rw [h]
  have h1 : augGet i (.d (.int k)) ρ = some (.int xs[k]) := by
    unfold augGet
    simp only [h, at_ints hk]
  have h2 : augGo i bAddI (.int xs[k]) (.d (.int k)) (.d (.int w)) ρ = .next (putCell ρ i (.lst ((xs.set k (xs[k] + w)).map PyData.int))) := by
    have e : augGo i bAddI (.int xs[k]) (.d (.int k)) (.d (.int w)) ρ = itemGo i (.d (.int (xs[k] + w))) (.d (.int k)) ρ := rfl
    rw [e, p_itemGo, h]
    simp only
    rw [ix_nat (by rw [List.length_map]; exact hk)]
    simp only
    rw [List.map_set]
  unfold sAugI
  rw [if_pos hL, ha]
  simp only [Out.st_ok, h1, hv]
  exact h2
@[simp] theorem p_par3 {k i l j m n : Nat} {a b c : ME} {ρ : En} : sPar3 k i l j m n a b c ρ = (a ρ).st fun u ρ1 => (b ρ1).st fun v ρ2 => (c ρ2).st fun w ρ3 => (setS (m == 1) n w ρ3).seq fun ρ4 => (setS (l == 1) j v ρ4).seq fun ρ5 => setS (k == 1) i u ρ5 := rfl
end MP
end

section
set_option autoImplicit false
set_option maxRecDepth 100000
set_option linter.all false
namespace K01
open PySem PySem.Spec L2 MP
def Cs (m : Nat) (zs : List Int) : Prop := ∀ z ∈ zs, 0 ≤ z ∧ z < m
theorem mod_small {p : Nat} {z : Int} (h : 0 ≤ z ∧ z < p) : z % (p : Int) = z := Int.emod_eq_of_lt h.1 h.2
theorem trim_loop (a0 a1 : Option SV) : ∀ (m : Nat) (xs : List Int), xs.length < m →
    whileGo (kAnd (mTr (m2 cGt (mB lenD [(mV 2)]) (mC (.int 0)))) (mTr (m2 cEq (m2 bIdx (mV 2) (m1 uNeg (mC (.int 1)))) (mC (.int 0))))) lb_trimmed_0 m [a0, a1, some (.own (.lst (xs.map PyData.int))), none] =
      .next [a0, a1, some (.own (.lst ((PL.trimL xs).map PyData.int))), none]
  | 0, xs, h => absurd h (Nat.not_lt_zero _)
  | m + 1, xs, h => by
    by_cases h0 : xs = []
    · subst h0
      unfold whileGo
      simp [PL.trimL]
    · have hl := List.length_pos_iff.mpr h0
      have al := at_last h0
      have hl' : (0 : Int) < xs.length := by omega
      by_cases hz : xs.getD (xs.length - 1) 0 = 0
      · rw [hz] at al
        have ih := trim_loop a0 a1 m xs.dropLast (by rw [List.length_dropLast]; omega)
        rw [PL.trim_drop h0 hz]
        have gp : gPop (.lst (xs.map PyData.int)) = some (.lst (xs.dropLast.map PyData.int), .int 0) := by
          show ((xs.map PyData.int)[(xs.map PyData.int).length - 1]?).map (fun y => (Cell.lst (xs.map PyData.int).dropLast, y)) = _
          rw [List.length_map, List.getElem?_map, List.getElem?_eq_getElem (by omega)]
          have e : xs[xs.length - 1] = 0 := by
            rw [← hz, List.getD_eq_getElem?_getD, List.getElem?_eq_getElem (by omega)] <;> rfl
          rw [e, List.map_dropLast] <;> rfl
        rw [← ih]
        conv => lhs; unfold whileGo
        simp [hl, hl', al, lb_trimmed_0, gp]
      · rw [PL.trim_id (.inr hz)]
        have hz' : ¬ xs.getD (xs.length - 1) 0 = 0 := hz
        generalize xs.getD (xs.length - 1) 0 = z at al hz'
        unfold whileGo
        simp [hl, hl', al, hz']
theorem trimmed_s {p : Nat} (hp : 0 < p) (l : List Int) (hl : l.length ≤ 3000) : f_trimmed [.d (.list (l.map PyData.int)), .d (.int p)] = .ok (.own (.lst ((PL.trimL (l.map fun z => z % (p : Int))).map PyData.int))) [] := by
  have hc := comp_ints (vs := [3]) (tg := .n 3) (e := m2 bMod (mV 3) (mV 1)) (ρ := [some (.d (.list (l.map PyData.int))), some (.d (.int p)), none, none]) (f := fun z => z % (p : Int)) (xs := l) fun x _ => by
    have md : bMod (.int x) (.int p) = some (.d (.int (x % p))) := mod_p (by omega)
    exact ⟨[some (.d (.list (l.map PyData.int))), some (.d (.int p)), none, some (.d (.int x))], .d (.int (x % p)), by simp, by simp [md], rfl, by simp⟩
  have tl := trim_loop (some (.d (.list (l.map PyData.int)))) (some (.d (.int p))) 4000 (l.map fun z => z % (p : Int)) (by rw [List.length_map]; omega)
  generalize (l.map fun z => z % (p : Int)) = R at hc tl
  have ll : l.length ≤ 16777216 := by omega
  simp [f_trimmed, b_trimmed, hc, ll, fu_trimmed_0, tl]
theorem mod_id {p : Nat} {l : List Int} (h : Cs p l) : (l.map fun z => z % (p : Int)) = l := by
  induction l with
  | nil => rfl
  | cons z l ih => rw [List.map_cons, mod_small (h z List.mem_cons_self), ih fun w hw => h w (List.mem_cons_of_mem _ hw)]

/-! many in one -/
def horn (r : List Int) (a : Int) : Int := r.foldl (fun a x => a * 16777216 + x) a
theorem horn_val : ∀ c : List Int, horn c.reverse 0 = DR.val c
  | [] => rfl
  | x :: c => by
    have ih := horn_val c
    unfold horn at ih ⊢
    rw [List.reverse_cons, List.foldl_append, ih]
    show DR.val c * 16777216 + x = x + 16777216 * DR.val c
    rw [Int.mul_comm]
    omega
theorem one_gen (f g : D → D → Option SV) (c : D) (a0 : Option SV) (a x w z : Int) (s1 : f (.int a) c = some (.d (.int w))) (s2 : g (.int w) (.int x) = some (.d (.int z))) : (sSet false 1 (m2 g (m2 f (mV 1) (mC c)) (mV 2))) [a0, some (.d (.int a)), some (.d (.int x))] = .next [a0, some (.d (.int z)), some (.d (.int x))] := by
  simp [s1, s2]
theorem one_loop (a0 : Option SV) : ∀ (r : List Int) (a : Int) (k : Nat) (q : Option SV), (∀ x ∈ r, 0 ≤ x ∧ x < 16777216) → 0 ≤ a → a < 2 ^ k → 0 < k → k + 24 * r.length ≤ 1000000 → OptD q →
    ∃ q', forGo (.n 2) lb_in_one_0 (r.map PyData.int) [a0, some (.d (.int a)), q] = .next [a0, some (.d (.int (horn r a))), q']
  | [], a, k, q, _, _, _, _, _, _ => ⟨q, rfl⟩
  | x :: r, a, k, q, hr, h0, hk, hk0, hl, hq => by
    have hx := hr x List.mem_cons_self
    rw [List.length_cons] at hl
    have h2 : (2 : Int) ^ (k + 24) = 2 ^ k * 16777216 := by rw [Int.pow_add, two24]
    have lt : a * 16777216 + x < 2 ^ (k + 24) := by rw [h2]; omega
    obtain ⟨q', ih⟩ := one_loop a0 r (a * 16777216 + x) (k + 24) (some (.d (.int x))) (fun y hy => hr y (List.mem_cons_of_mem _ hy)) (by omega) lt (by omega) (by omega) (.inr ⟨_, rfl⟩)
    refine ⟨q', ?_⟩
    have s1 := shl24 h0 hk hk0 (by omega)
    have s2 := bor24 h0 hx.1 hx.2
    have t1 : tgSet (.n 2) (.int x) [a0, some (.d (.int a)), q] = some [a0, some (.d (.int a)), some (.d (.int x))] := by
      rcases hq with rfl | ⟨_, rfl⟩ <;> simp
    have b1 : lb_in_one_0 [a0, some (.d (.int a)), some (.d (.int x))] = .next [a0, some (.d (.int (a * 16777216 + x))), some (.d (.int x))] := one_gen bShl bBor (.int 24) a0 a x _ _ s1 s2
    have eh : horn (x :: r) a = horn r (a * 16777216 + x) := by
      unfold horn
      rw [List.foldl_cons]
    rw [List.map_cons, eh, forGo_next t1 b1]
    exact ih
theorem in_one_s (c : List Int) (hc : ∀ x ∈ c, 0 ≤ x ∧ x < 16777216) (hl : c.length ≤ 1000) : f_in_one [.d (.list (c.map PyData.int))] = .ok (.d (.int (DR.val c))) [] := by
  obtain ⟨q', h⟩ := one_loop (some (.d (.list (c.map PyData.int)))) c.reverse 0 1 none (fun x hx => hc x (List.mem_reverse.mp hx)) (by omega) (by decide) (by omega) (by rw [List.length_reverse]; omega) (.inl rfl)
  rw [horn_val, List.map_reverse] at h
  generalize c.map PyData.int = C at h
  simp [f_in_one, b_in_one, revL, h]
theorem digs_loop (a0 a1 a2 : Option SV) : ∀ (f fu : Nat) (n : Int) (acc : List Int), 0 ≤ n → n < DR.B24 ^ f → f < fu → acc.length + f ≤ 3000 →
    ∃ n' : Int, whileGo (mTr (m2 cGt (mV 3) (mC (.int 0)))) lb_times_in_one_0 fu [a0, a1, a2, some (.d (.int n)), some (.own (.lst (acc.map PyData.int)))] = .next [a0, a1, a2, some (.d (.int n')), some (.own (.lst ((acc ++ DR.digs f n).map PyData.int)))]
  | f, 0, n, acc, _, _, h, _ => absurd h (Nat.not_lt_zero _)
  | 0, fu + 1, n, acc, h0, h1, _, _ => by
    have hn : n = 0 := by
      have : n < 1 := h1
      omega
    subst hn
    refine ⟨0, ?_⟩
    unfold whileGo
    simp [DR.digs]
  | f + 1, fu + 1, n, acc, h0, h1, hf, hl => by
    by_cases hz : n ≤ 0
    · have hn : n = 0 := by omega
      subst hn
      refine ⟨0, ?_⟩
      unfold whileGo
      simp [DR.digs]
    · have hB : (0 : Int) < DR.B24 := by decide
      have hq : n / DR.B24 < DR.B24 ^ f := by
        rw [Int.pow_succ] at h1
        exact Int.ediv_lt_of_lt_mul hB h1
      obtain ⟨n', ih⟩ := digs_loop a0 a1 a2 f fu (n / DR.B24) (acc ++ [n % DR.B24]) (Int.ediv_nonneg h0 (by omega)) hq (by omega) (by rw [List.length_append, List.length_singleton]; omega)
      refine ⟨n', ?_⟩
      have e : acc ++ DR.digs (f + 1) n = acc ++ [n % DR.B24] ++ DR.digs f (n / DR.B24) := by
        have : DR.digs (f + 1) n = n % DR.B24 :: DR.digs f (n / DR.B24) := by
          unfold DR.digs
          rw [if_neg hz]
          cases f <;> rfl
        rw [this, List.append_assoc] <;> rfl
      rw [e, ← ih]
      have gl := gApp_l (xs := acc.map PyData.int) (x := .int (n % DR.B24)) (by rw [List.length_map]; omega)
      have s1 := band24 n
      have s2 := shr24 n
      have hz' : 0 < n := by omega
      have em : acc.map PyData.int ++ [PyData.int (n % DR.B24)] = (acc ++ [n % DR.B24]).map PyData.int := by rw [List.map_append] <;> rfl
      have b1 : lb_times_in_one_0 [a0, a1, a2, some (.d (.int n)), some (.own (.lst (acc.map PyData.int)))] = .next [a0, a1, a2, some (.d (.int (n / DR.B24))), some (.own (.lst ((acc ++ [n % DR.B24]).map PyData.int)))] := by
        rw [← em]
        have d1 : n % 16777216 = n % DR.B24 := rfl
        have d2 : n / 16777216 = n / DR.B24 := rfl
        rw [d1] at s1
        rw [d2] at s2
        generalize n % DR.B24 = r at *
        generalize n / DR.B24 = t at *
        generalize acc.map PyData.int = A at *
        simp [lb_times_in_one_0, s1, s2, gl]
      conv => lhs; unfold whileGo
      generalize (acc ++ [n % DR.B24]).map PyData.int = A2 at b1
      generalize acc.map PyData.int = A at b1
      simp [hz', b1]
end K01
end

section
set_option autoImplicit false
set_option maxRecDepth 100000
set_option linter.all false
namespace K01
open PySem PySem.Spec L2 MP
abbrev lD (l : List Int) : D := .list (l.map PyData.int)
/-- a product modulo p -/
structure Tim (p : Nat) (c d f : List Int) : Prop where
  cs : Cs p f
  len : f.length ≤ c.length + d.length - 1
  eqv : DR.Eqv p (DR.pl 0 f) (DR.behindP (DR.pl 0 c) (DR.pl 0 d))
theorem mem_co {e : List Int} {x : Int} (h : x ∈ e) : ∃ i, PL.co e i = x := by
  obtain ⟨i, hi, rfl⟩ := List.getElem_of_mem h
  exact ⟨i, by unfold PL.co; rw [List.getD_eq_getElem?_getD, List.getElem?_eq_getElem hi] <;> rfl⟩
theorem mod_co (p : Nat) (l : List Int) (i : Nat) : PL.co (l.map fun z => z % (p : Int)) i = PL.co l i % (p : Int) := by
  unfold PL.co
  rw [List.getD_eq_getElem?_getD, List.getD_eq_getElem?_getD, List.getElem?_map]
  cases l[i]? with
  | none => simp
  | some y => rfl
theorem trim_eqv (p : Nat) (l : List Int) (k : Int) : DR.Eqv p (DR.pl k (PL.trimL (l.map fun z => z % (p : Int)))) (DR.pl k l) := DR.pl_co k fun i => by
  rw [PL.trim_co, mod_co]
  exact DR.dvd_mod _ _
theorem trim_cs {p : Nat} (hp : 0 < p) (l : List Int) : Cs p (PL.trimL (l.map fun z => z % (p : Int))) := fun z hz => by
  obtain ⟨y, _, rfl⟩ := List.mem_map.mp (PL.trim_sub _ z hz)
  exact ⟨Int.emod_nonneg _ (by omega), Int.emod_lt_of_pos _ (by omega)⟩
theorem pow24 (n : Nat) : DR.B24 ^ n = 2 ^ (24 * n) := by
  rw [Int.pow_mul, two24]
  rfl
theorem val_log {c : List Int} (h : ∀ x ∈ c, 0 ≤ x ∧ x < 16777216) (hl : c.length ≤ 1000) : (DR.val c).natAbs.log2 < 24001 := by
  obtain ⟨h1, h2⟩ := DR.val_lt h
  rw [pow24] at h2
  rcases Nat.eq_zero_or_pos c.length with z | z
  · have : c = [] := List.eq_nil_of_length_eq_zero z
    subst this
    decide
  · have := log_lt (nat_lt_of h1 h2) (by omega)
    omega
theorem in_gen (f : F) (g : D → D → Option SV) (a b c p : D) (va vb vc : Int) (k1 : f [.d a] = .ok (.d (.int va)) []) (k2 : f [.d b] = .ok (.d (.int vb)) []) (k3 : g (.int va) (.int vb) = some (.d (.int vc))) :
    (sPar2 0 3 1 4 (m2 g (mCall f [(mV 0)]) (mCall f [(mV 1)])) (mLst [])) [some (.d a), some (.d b), some (.d p), none, none] = .next [some (.d a), some (.d b), some (.d p), some (.d (.int vc)), some (.own (.lst []))] := by
  simp [k1, k2, k3]
theorem tio_gen (w : MS) (f : F) (a b p : D) (n n' : Int) (L : List D) (r : SV) (k1 : w [some (.d a), some (.d b), some (.d p), some (.d (.int n)), some (.own (.lst []))] = .next [some (.d a), some (.d b), some (.d p), some (.d (.int n')), some (.own (.lst L))]) (k2 : f [.d (.list L), .d p] = .ok r []) (hr : isRes r = true) :
    (sSeq w (sFrz [4] (sRet (mCall f [(mV 4), (mV 2)])))) [some (.d a), some (.d b), some (.d p), some (.d (.int n)), some (.own (.lst []))] = .ret r [some (.d a), some (.d b), some (.d p), some (.d (.int n')), some (.d (.list L))] := by
  simp [k1, frz, frz1, k2, hr]
theorem times_in_one_s {p : Nat} (hp : 0 < p) (hp2 : p ≤ 16) {c d : List Int} (hc : Cs p c) (hd : Cs p d) (lc : c.length ≤ 400) (ld : d.length ≤ 400) (l1 : 1 ≤ d.length) :
    ∃ f : List Int, f_times_in_one [.d (lD c), .d (lD d), .d (.int p)] = .ok (.own (.lst (f.map PyData.int))) [] ∧ Tim p c d f := by
  have bc : ∀ x ∈ c, 0 ≤ x ∧ x < 16777216 := fun x hx => by have := hc x hx; omega
  have bd : ∀ x ∈ d, 0 ≤ x ∧ x < 16777216 := fun x hx => by have := hd x hx; omega
  have k1 := in_one_s c bc (by omega)
  have k2 := in_one_s d bd (by omega)
  have v1 := val_log bc (by omega)
  have v2 := val_log bd (by omega)
  have k3 : bMulI (.int (DR.val c)) (.int (DR.val d)) = some (.d (.int (DR.val c * DR.val d))) := mul_b (by omega)
  obtain ⟨e, he⟩ : ∃ e, e = DR.convL c d := ⟨_, rfl⟩
  have le : e.length ≤ c.length + d.length - 1 := by rw [he]; exact DR.convL_len l1 c
  have ce : ∀ i, 0 ≤ PL.co e i ∧ PL.co e i < DR.B24 := fun i => by
    have h := DR.convL_in c d 16 (fun x hx => by have := hc x hx; omega) (fun x hx => by have := hd x hx; omega) (by decide) i
    rw [← he] at h
    have : (16 : Int) * 16 * c.length ≤ 256 * 400 := by omega
    have : (256 : Int) * 400 < DR.B24 := by decide
    omega
  have me : ∀ x ∈ e, 0 ≤ x ∧ x < DR.B24 := fun x hx => by
    obtain ⟨i, rfl⟩ := mem_co hx
    exact ce i
  have hv : DR.val c * DR.val d = DR.val e := by rw [he, DR.val_conv]
  obtain ⟨h1, h2⟩ := DR.val_lt me
  obtain ⟨n', k4⟩ := digs_loop (some (.d (lD c))) (some (.d (lD d))) (some (.d (.int p))) e.length 4000 (DR.val e) [] h1 h2 (by omega) (by simp; omega)
  rw [List.nil_append] at k4
  have dl := DR.digs_len e.length (DR.val e)
  have k5 := trimmed_s hp (DR.digs e.length (DR.val e)) (by omega)
  have hco := DR.digs_co e.length e (Nat.le_refl _) ce
  obtain ⟨g, hg⟩ : ∃ g, g = DR.digs e.length (DR.val e) := ⟨_, rfl⟩
  rw [← hg] at k4 k5 hco dl
  refine ⟨PL.trimL (g.map fun z => z % (p : Int)), ?_, trim_cs hp g, ?_, ?_⟩
  · rw [hv] at k3
    have s1 := in_gen f_in_one bMulI _ _ (.int p) (.int p) _ _ _ k1 k2 k3
    have s2 := tio_gen (sWhile fu_times_in_one_0 (mTr (m2 cGt (mV 3) (mC (.int 0)))) lb_times_in_one_0) f_trimmed (lD c) (lD d) (.int p) (DR.val e) n' _ _ k4 k5 rfl
    have s3 : b_times_in_one [some (.d (lD c)), some (.d (lD d)), some (.d (.int p)), none, none] = .ret (.own (.lst ((PL.trimL (g.map fun z => z % (p : Int))).map PyData.int))) [some (.d (lD c)), some (.d (lD d)), some (.d (.int p)), some (.d (.int n')), some (.d (.list (g.map PyData.int)))] := by
      have s4 : b_times_in_one [some (.d (lD c)), some (.d (lD d)), some (.d (.int p)), none, none] = ((sPar2 0 3 1 4 (m2 bMulI (mCall f_in_one [(mV 0)]) (mCall f_in_one [(mV 1)])) (mLst [])) [some (.d (lD c)), some (.d (lD d)), some (.d (.int p)), none, none]).seq (sSeq (sWhile fu_times_in_one_0 (mTr (m2 cGt (mV 3) (mC (.int 0)))) lb_times_in_one_0) (sFrz [4] (sRet (mCall f_trimmed [(mV 4), (mV 2)])))) := rfl
      rw [s4, s1]
      exact s2
    show semDef 5 b_times_in_one _ = _
    rw [p_semDef]
    show (match b_times_in_one [some (.d (lD c)), some (.d (lD d)), some (.d (.int p)), none, none] with | .ret v ρ => finish [.d (lD c), .d (lD d), .d (.int p)] v ρ | .next ρ => _ | .raise c x ρ => _ | _ => _) = _
    rw [s3]
    rfl
  · have h3 := PL.trim_len (g.map fun z => z % (p : Int))
    rw [List.length_map] at h3
    omega
  · have x1 : DR.Eqv p (DR.pl 0 g) (DR.pl 0 e) := DR.pl_co 0 fun i => by
      rw [hco, Int.sub_self]
      exact Int.dvd_zero _
    have x2 : DR.Eqv p (DR.pl 0 e) (DR.behindP (DR.pl 0 c) (DR.pl 0 d)) := .of fun q => by rw [he]; exact DR.S_convL d c q
    exact (trim_eqv p g 0).trans (x1.trans x2)
end K01
end

section
set_option autoImplicit false
set_option maxRecDepth 100000
set_option linter.all false
namespace K01
open PySem PySem.Spec L2 MP
theorem set_add {c : List Int} {k : Nat} (hk : k < c.length) (v q : Int) : DR.S (DR.pl 0 (c.set k (c[k] + v))) q = DR.S (DR.pl 0 c) q + (if (k : Int) = q then v else 0) := by
  rw [DR.pl_set hk]
  by_cases h : q = 0 + (k : Int)
  · rw [if_pos h, if_pos (by omega), h, Int.zero_add, DR.pl_at]
    unfold PL.co
    rw [List.getD_eq_getElem?_getD, List.getElem?_eq_getElem hk] <;> rfl
  · rw [if_neg h, if_neg (by omega), Int.add_zero]
theorem one_beh (at' x k y : Int) (ds : DR.L) (q : Int) : DR.S (DR.behindP [(at', x)] ((k, y) :: ds)) q = (if at' + k = q then x * y else 0) + DR.S (DR.behindP [(at', x)] ds) q := by
  have : DR.behindP [(at', x)] ((k, y) :: ds) = (at' + k, x * y) :: DR.behindP [(at', x)] ds := by
    unfold DR.behindP
    rfl
  rw [this, DR.S_cons]
theorem inner_s (a0 a1 a2 : Option SV) (at' : Nat) (x : Int) (hx : 0 ≤ x ∧ x < 1000) : ∀ (ds : List Int) (j : Nat) (fo : List Int) (q6 q7 : Option SV), at' + j + ds.length ≤ fo.length → OptD q6 → OptD q7 →
    ∃ (fo' : List Int) (r6 r7 : Option SV), forGo (.t [(.n 6), (.n 7)]) lb_times_0 (enumFrom j (ds.map PyData.int)) [a0, a1, a2, some (.own (.lst (fo.map PyData.int))), some (.d (.int at')), some (.d (.int x)), q6, q7] =
      .next [a0, a1, a2, some (.own (.lst (fo'.map PyData.int))), some (.d (.int at')), some (.d (.int x)), r6, r7] ∧ fo'.length = fo.length ∧ (∀ q, DR.S (DR.pl 0 fo') q = DR.S (DR.pl 0 fo) q + DR.S (DR.behindP [((at' : Int), x)] (DR.pl j ds)) q) ∧ OptD r6 ∧ OptD r7
  | [], j, fo, q6, q7, _, h6, h7 => ⟨fo, q6, q7, rfl, rfl, fun q => by
    have : DR.S (DR.behindP [((at' : Int), x)] (DR.pl j [])) q = 0 := rfl
    rw [this, Int.add_zero], h6, h7⟩
  | y :: ds, j, fo, q6, q7, hl, h6, h7 => by
    rw [List.length_cons] at hl
    have hk : at' + j < fo.length := by omega
    have ej : ((j : Int) + 1) = ((j + 1 : Nat) : Int) := by omega
    obtain ⟨fo', r6, r7, ih, l1, s1, o1, o2⟩ := inner_s a0 a1 a2 at' x hx ds (j + 1) (fo.set (at' + j) (fo[at' + j] + x * y)) (some (.d (.int j))) (some (.d (.int y))) (by rw [List.length_set]; omega) (.inr ⟨_, rfl⟩) (.inr ⟨_, rfl⟩)
    rw [List.length_set] at l1
    refine ⟨fo', r6, r7, ?_, l1, fun q => ?_, o1, o2⟩
    · have t1 : tgSet (.t [(.n 6), (.n 7)]) (.tuple [.int j, .int y]) [a0, a1, a2, some (.own (.lst (fo.map PyData.int))), some (.d (.int at')), some (.d (.int x)), q6, q7] = some [a0, a1, a2, some (.own (.lst (fo.map PyData.int))), some (.d (.int at')), some (.d (.int x)), some (.d (.int j)), some (.d (.int y))] := by
        rcases h6 with rfl | ⟨_, rfl⟩ <;> rcases h7 with rfl | ⟨_, rfl⟩ <;> simp
      have mm : bMulI (.int x) (.int y) = some (.d (.int (x * y))) := mul_small hx.1 (by omega)
      have ea : (at' : Int) + j = ((at' + j : Nat) : Int) := by omega
      have b1 : lb_times_0 [a0, a1, a2, some (.own (.lst (fo.map PyData.int))), some (.d (.int at')), some (.d (.int x)), some (.d (.int j)), some (.d (.int y))] = .next [a0, a1, a2, some (.own (.lst ((fo.set (at' + j) (fo[at' + j] + x * y)).map PyData.int))), some (.d (.int at')), some (.d (.int x)), some (.d (.int j)), some (.d (.int y))] := by
        have h := augI_s (i := 3) (a := m2 bAdd (mV 4) (mV 6)) (v := m2 bMulI (mV 5) (mV 7)) (ρ := [a0, a1, a2, some (.own (.lst (fo.map PyData.int))), some (.d (.int at')), some (.d (.int x)), some (.d (.int j)), some (.d (.int y))]) (xs := fo) (k := at' + j) (w := x * y) rfl hk (by rw [← ea]; generalize fo.map PyData.int = FO; simp) (by generalize fo.map PyData.int = FO; simp [mm])
        exact h
      rw [List.map_cons, enumFrom, forGo_next t1 b1, ej]
      exact ih
    · rw [s1, set_add hk, DR.pl, one_beh, ej, show ((at' + j : Nat) : Int) = (at' : Int) + j by omega]
      omega
theorem outer_s {p : Nat} (a0 a2 : Option SV) {d : List Int} (hd : d.length ≤ 400) : ∀ (cs : List Int) (i : Nat) (fo : List Int) (q4 q5 q6 q7 : Option SV), (∀ x ∈ cs, 0 ≤ x ∧ x < 1000) → i + cs.length + d.length ≤ fo.length + 1 → OptD q4 → OptD q5 → OptD q6 → OptD q7 →
    ∃ (fo' : List Int) (r4 r5 r6 r7 : Option SV), forGo (.t [(.n 4), (.n 5)]) lb_times_1 (enumFrom i (cs.map PyData.int)) [a0, some (.d (lD d)), a2, some (.own (.lst (fo.map PyData.int))), q4, q5, q6, q7] =
      .next [a0, some (.d (lD d)), a2, some (.own (.lst (fo'.map PyData.int))), r4, r5, r6, r7] ∧ fo'.length = fo.length ∧ ∀ q, DR.S (DR.pl 0 fo') q = DR.S (DR.pl 0 fo) q + DR.S (DR.behindP (DR.pl i cs) (DR.pl 0 d)) q
  | [], i, fo, q4, q5, q6, q7, _, _, _, _, _, _ => ⟨fo, q4, q5, q6, q7, rfl, rfl, fun q => by
    have : DR.S (DR.behindP (DR.pl i []) (DR.pl 0 d)) q = 0 := rfl
    rw [this, Int.add_zero]⟩
  | x :: cs, i, fo, q4, q5, q6, q7, hc, hl, h4, h5, h6, h7 => by
    rw [List.length_cons] at hl
    have hx := hc x List.mem_cons_self
    have ei : ((i : Int) + 1) = ((i + 1 : Nat) : Int) := by omega
    have t1 : tgSet (.t [(.n 4), (.n 5)]) (.tuple [.int i, .int x]) [a0, some (.d (lD d)), a2, some (.own (.lst (fo.map PyData.int))), q4, q5, q6, q7] = some [a0, some (.d (lD d)), a2, some (.own (.lst (fo.map PyData.int))), some (.d (.int i)), some (.d (.int x)), q6, q7] := by
      rcases h4 with rfl | ⟨_, rfl⟩ <;> rcases h5 with rfl | ⟨_, rfl⟩ <;> simp
    have hb : ∀ q, DR.S (DR.behindP (DR.pl i (x :: cs)) (DR.pl 0 d)) q = DR.S (DR.behindP [((i : Int), x)] (DR.pl 0 d)) q + DR.S (DR.behindP (DR.pl ((i + 1 : Nat) : Int) cs) (DR.pl 0 d)) q := fun q => by
      rw [DR.pl, ei]
      have : DR.behindP (((i : Int), x) :: DR.pl ((i + 1 : Nat) : Int) cs) (DR.pl 0 d) = DR.behindP [((i : Int), x)] (DR.pl 0 d) ++ DR.behindP (DR.pl ((i + 1 : Nat) : Int) cs) (DR.pl 0 d) := by
        unfold DR.behindP
        simp
      rw [this, DR.S_app]
    have step : ∃ (fo1 : List Int) (r6 r7 : Option SV), lb_times_1 [a0, some (.d (lD d)), a2, some (.own (.lst (fo.map PyData.int))), some (.d (.int i)), some (.d (.int x)), q6, q7] = .next [a0, some (.d (lD d)), a2, some (.own (.lst (fo1.map PyData.int))), some (.d (.int i)), some (.d (.int x)), r6, r7] ∧ fo1.length = fo.length ∧ (∀ q, DR.S (DR.pl 0 fo1) q = DR.S (DR.pl 0 fo) q + DR.S (DR.behindP [((i : Int), x)] (DR.pl 0 d)) q) ∧ OptD r6 ∧ OptD r7 := by
      by_cases h0 : x = 0
      · subst h0
        refine ⟨fo, q6, q7, ?_, rfl, fun q => ?_, h6, h7⟩
        · generalize fo.map PyData.int = FO
          simp [lb_times_1]
        · have : DR.S (DR.behindP [((i : Int), 0)] (DR.pl 0 d)) q = 0 := by
            rw [DR.S_behind, DR.phi_cons, DR.phi_nil]
            show _ * (0 : Int) + 0 = 0
            rw [Int.mul_zero] <;> rfl
          rw [this, Int.add_zero]
      · obtain ⟨fo1, r6, r7, e1, e2, e3, e4, e5⟩ := inner_s a0 (some (.d (lD d))) a2 i x hx d 0 fo q6 q7 (by omega) h6 h7
        refine ⟨fo1, r6, r7, ?_, e2, e3, e4, e5⟩
        have e1' : forGo (.t [(.n 6), (.n 7)]) lb_times_0 (enumFrom 0 (d.map PyData.int)) [a0, some (.d (lD d)), a2, some (.own (.lst (fo.map PyData.int))), some (.d (.int i)), some (.d (.int x)), q6, q7] = .next [a0, some (.d (lD d)), a2, some (.own (.lst (fo1.map PyData.int))), some (.d (.int i)), some (.d (.int x)), r6, r7] := e1
        have hen : enumD (lD d) = some (enumFrom 0 (d.map PyData.int)) := rfl
        generalize fo.map PyData.int = FO at *
        generalize fo1.map PyData.int = FO1 at *
        dsimp only [lD] at *
        generalize enumFrom 0 (d.map PyData.int) = EN at *
        generalize d.map PyData.int = DD at *
        simp [lb_times_1, h0, hen, e1']
    obtain ⟨fo1, r6, r7, b1, l1, s1, o6, o7⟩ := step
    obtain ⟨fo', r4, r5, r6', r7', ih, l2, s2⟩ := outer_s (p := p) a0 a2 hd cs (i + 1) fo1 (some (.d (.int i))) (some (.d (.int x))) r6 r7 (fun y hy => hc y (List.mem_cons_of_mem _ hy)) (by omega) (.inr ⟨_, rfl⟩) (.inr ⟨_, rfl⟩) o6 o7
    refine ⟨fo', r4, r5, r6', r7', ?_, by omega, fun q => ?_⟩
    · rw [List.map_cons, enumFrom, forGo_next t1 b1, ei]
      exact ih
    · rw [s2, s1, hb]
      omega
theorem times_s {p : Nat} (hp : 0 < p) (hp2 : p ≤ 16) {c d : List Int} (hc : Cs p c) (hd : Cs p d) (lc : c.length ≤ 400) (ld : d.length ≤ 400) :
    ∃ f : List Int, f_times [.d (lD c), .d (lD d), .d (.int p)] = .ok (.own (.lst (f.map PyData.int))) [] ∧ Tim p c d f := by
  have nn1 : (c.map PyData.int).length = c.length := List.length_map ..
  have nn2 : (d.map PyData.int).length = d.length := List.length_map ..
  by_cases hc0 : c = []
  · subst hc0
    refine ⟨[], ?_, ⟨(fun z hz => nomatch hz), Nat.zero_le _, DR.Eqv.of fun q => rfl⟩⟩
    simp [f_times, b_times]
  · by_cases hd0 : d = []
    · subst hd0
      refine ⟨[], ?_, ⟨(fun z hz => nomatch hz), Nat.zero_le _, DR.Eqv.of fun q => ?_⟩⟩
      · have c0 : ¬ c.length = 0 := fun z => hc0 (List.eq_nil_of_length_eq_zero z)
        have c0' : ¬ (c.length : Int) = 0 := by omega
        simp [f_times, b_times, c0, c0']
      · rw [DR.S_behind]
        have : (fun o => DR.S (DR.pl 0 []) (q - o)) = fun _ => 0 := rfl
        rw [this]
        unfold DR.phi
        have : (DR.pl 0 c).map (fun e : Int × Int => (0 : Int) * e.2) = (DR.pl 0 c).map fun _ => 0 := by
          apply List.map_congr_left
          intro e _
          exact Int.zero_mul _
        rw [this]
        generalize DR.pl 0 c = L
        induction L with
        | nil => rfl
        | cons e L ih => rw [List.map_cons, List.sum_cons, ← ih] <;> rfl
    · have c1 : 1 ≤ c.length := List.length_pos_iff.mpr hc0
      have d1 : 1 ≤ d.length := List.length_pos_iff.mpr hd0
      have c0 : ¬ c.length = 0 := by omega
      have d0 : ¬ d.length = 0 := by omega
      have c0' : ¬ (c.length : Int) = 0 := by omega
      have d0' : ¬ (d.length : Int) = 0 := by omega
      have ml : bMulI (.int (c.length : Nat)) (.int (d.length : Nat)) = some (.d (.int ((c.length : Int) * d.length))) := mul_small (by omega) (by omega)
      by_cases hb : 300 < c.length * d.length
      · obtain ⟨f, k1, k2⟩ := times_in_one_s hp hp2 hc hd lc ld d1
        refine ⟨f, ?_, k2⟩
        have hb' : (300 : Int) < (c.length : Int) * d.length := by
          rw [← Int.natCast_mul]
          omega
        dsimp only [lD] at *
        generalize c.map PyData.int = C at *
        generalize d.map PyData.int = DD at *
        simp [f_times, b_times, nn1, nn2, c0', d0', c0, d0, ml, hb', k1]
      · have hb' : ¬ (300 : Int) < (c.length : Int) * d.length := by
          rw [← Int.natCast_mul]
          omega
        obtain ⟨fo, r4, r5, r6, r7, e1, e2, e3⟩ := outer_s (p := p) (some (.d (lD c))) (some (.d (.int p))) ld c 0 (List.replicate (c.length + d.length - 1) 0) none none none none (fun x hx => by have := hc x hx; omega) (by rw [List.length_replicate]; omega) (.inl rfl) (.inl rfl) (.inl rfl) (.inl rfl)
        rw [List.length_replicate] at e2
        have z0 : ∀ q, DR.S (DR.pl 0 (List.replicate (c.length + d.length - 1) 0)) q = 0 := fun q => by
          rw [DR.S_pl]
          split
          · rfl
          · unfold PL.co
            rw [List.getD_eq_getElem?_getD, List.getElem?_replicate]
            split <;> rfl
        have k5 := trimmed_s hp fo (by omega)
        refine ⟨PL.trimL (fo.map fun z => z % (p : Int)), ?_, trim_cs hp fo, ?_, (trim_eqv p fo 0).trans (.of fun q => by rw [e3, z0, Int.zero_add]; rfl)⟩
        · have sm : small62 ((c.length : Int) + d.length - 1) = true := small62_mk (by omega)
          have tn : ((c.length : Int) + d.length - 1).toNat = c.length + d.length - 1 := by omega
          have er : (List.replicate (c.length + d.length - 1) [PyData.int 0]).flatten = (List.replicate (c.length + d.length - 1) (0 : Int)).map PyData.int := by simp
          have ln : c.length + d.length - 1 ≤ line := by unfold line; omega
          have e1' : forGo (.t [(.n 4), (.n 5)]) lb_times_1 (enumFrom 0 (c.map PyData.int)) [some (.d (lD c)), some (.d (lD d)), some (.d (.int p)), some (.own (.lst ((List.replicate (c.length + d.length - 1) (0 : Int)).map PyData.int))), none, none, none, none] = .next [some (.d (lD c)), some (.d (lD d)), some (.d (.int p)), some (.own (.lst (fo.map PyData.int))), r4, r5, r6, r7] := e1
          have hen : enumD (lD c) = some (enumFrom 0 (c.map PyData.int)) := rfl
          have ln' : (c.length : Int) + d.length - 1 ≤ (line : Int) := by unfold line; omega
          have er2 : (List.replicate (c.length + d.length - 1) (0 : Int)).map PyData.int = List.replicate (c.length + d.length - 1) (PyData.int 0) := by simp
          rw [er2] at e1'
          dsimp only [lD] at *
          generalize (PL.trimL (fo.map fun z => z % (p : Int))).map PyData.int = TT at *
          generalize fo.map PyData.int = FO at *
          generalize enumFrom 0 (c.map PyData.int) = EN at *
          generalize c.map PyData.int = C at *
          generalize d.map PyData.int = DD at *
          simp [f_times, b_times, nn1, nn2, c0', d0', c0, d0, ml, hb', sm, tn, ln, ln', hen, e1', frz, frz1, k5]
        · have h3 := PL.trim_len (fo.map fun z => z % (p : Int))
          rw [List.length_map] at h3
          omega
end K01
end

section
set_option autoImplicit false
set_option maxRecDepth 100000
set_option linter.all false
namespace K01
open PySem PySem.Spec L2 MP
theorem pw_odd (m : Int) (as : DR.L) (k : Nat) : DR.Eqv m (DR.pw as (2 * k + 1)) (DR.behindP as (DR.pw (DR.behindP as as) k)) := by
  have h1 : DR.Eqv m (DR.pw (DR.behindP as as) k) (DR.pw as (k + k)) := (DR.pw_behind m as as k).trans (DR.pw_add m as k k).symm
  have h2 : DR.Eqv m (DR.pw as (2 * k + 1)) (DR.behindP (DR.pw as (k + k)) as) := by
    rw [show 2 * k + 1 = k + k + 1 by omega]
    exact .refl _ _
  exact h2.trans ((DR.behind_comm m _ _).trans ((DR.Eqv.refl m as).behind h1.symm))
theorem pw_even (m : Int) (as : DR.L) (k : Nat) : DR.Eqv m (DR.pw as (2 * k)) (DR.pw (DR.behindP as as) k) := by
  have h1 : DR.Eqv m (DR.pw (DR.behindP as as) k) (DR.pw as (k + k)) := (DR.pw_behind m as as k).trans (DR.pw_add m as k k).symm
  rw [show 2 * k = k + k by omega]
  exact h1.symm
theorem raised_loop {p : Nat} (hp : 0 < p) (hp2 : p ≤ 16) (M : Nat) (hM : M ≤ 390) (a0 a1 : Option SV) : ∀ (fu left : Nat) (fo sq : List Int) (A B : Nat), left < fu → Cs p fo → Cs p sq → fo.length ≤ 1 + A → sq.length ≤ 1 + B → A + B * left ≤ M →
    ∃ (fo' sq' : List Int) (l' : Int), whileGo (mTr (m2 cGt (mV 5) (mC (.int 0)))) lb_raised_0 fu [a0, a1, some (.d (.int p)), some (.d (lD fo)), some (.d (lD sq)), some (.d (.int left))] =
      .next [a0, a1, some (.d (.int p)), some (.d (lD fo')), some (.d (lD sq')), some (.d (.int l'))] ∧ Cs p fo' ∧ fo'.length ≤ 1 + M ∧ DR.Eqv p (DR.pl 0 fo') (DR.behindP (DR.pl 0 fo) (DR.pw (DR.pl 0 sq) left))
  | 0, left, fo, sq, A, B, h, _, _, _, _, _ => absurd h (Nat.not_lt_zero _)
  | fu + 1, left, fo, sq, A, B, h, hf, hs, lf, ls, hb => by
    by_cases h0 : left = 0
    · subst h0
      refine ⟨fo, sq, 0, ?_, hf, by omega, (DR.behind_one p _).symm⟩
      refine while_end ?_
      generalize lD fo = F
      generalize lD sq = Q
      simp
    · have hBl : B ≤ B * left := Nat.le_mul_of_pos_right B (by omega)
      obtain ⟨l2, hl2⟩ : ∃ l2, l2 = left / 2 := ⟨_, rfl⟩
      have hdv : bDiv (.int left) (.int 2) = some (.d (.int l2)) := by
        rw [div_p (by decide) (by decide), hl2] <;> rfl
      have hmd : bMod (.int left) (.int 2) = some (.d (.int ((left % 2 : Nat) : Int))) := by
        rw [mod_p (by decide)] <;> rfl
      have tt : ∀ F Q : D, (mTr (m2 cGt (mV 5) (mC (.int 0)))) [a0, a1, some (.d (.int p)), some (.d F), some (.d Q), some (.d (.int left))] = .ok true [a0, a1, some (.d (.int p)), some (.d F), some (.d Q), some (.d (.int left))] := fun F Q => by
        have : 0 < left := by omega
        simp [this]
      -- the found one
      have part1 : ∃ (f1 : List Int) (A1 : Nat), (∀ Q : D, (sIf (mTr (m2 cEq (m2 bMod (mV 5) (mC (.int 2))) (mC (.int 1)))) (sSet false 3 (mCall f_times [(mV 3), (mV 4), (mV 2)])) sNext) [a0, a1, some (.d (.int p)), some (.d (lD fo)), some (.d (lD sq)), some (.d (.int left))] = .next [a0, a1, some (.d (.int p)), some (.d (lD f1)), some (.d (lD sq)), some (.d (.int left))]) ∧ Cs p f1 ∧ f1.length ≤ 1 + A1 ∧ A1 + 2 * (B * l2) ≤ M ∧
          DR.Eqv p (DR.behindP (DR.pl 0 f1) (DR.pw (DR.behindP (DR.pl 0 sq) (DR.pl 0 sq)) l2)) (DR.behindP (DR.pl 0 fo) (DR.pw (DR.pl 0 sq) left)) := by
        have ha := Nat.div_add_mod left 2
        rw [← hl2] at ha
        have e2 : B * left = 2 * (B * l2) + B * (left % 2) := by
          conv => lhs; rw [← ha]
          rw [Nat.mul_add, Nat.mul_left_comm]
        by_cases ho : left % 2 = 1
        · obtain ⟨f1, k1, k2⟩ := times_s hp hp2 hf hs (by omega) (by omega)
          have := k2.len
          refine ⟨f1, A + B, fun Q => ?_, k2.cs, by omega, by rw [ho] at e2; omega, ?_⟩
          · rw [ho] at hmd
            have hmd' : bMod (.int left) (.int 2) = some (.d (.int 1)) := hmd
            dsimp only [lD] at *
            generalize fo.map PyData.int = F at *
            generalize sq.map PyData.int = Q at *
            generalize f1.map PyData.int = F1 at *
            simp [hmd', k1]
          · have hle : left = 2 * l2 + 1 := by omega
            rw [hle]
            exact (k2.eqv.behind (.refl _ _)).trans ((DR.behind_assoc p _ _ _).trans ((DR.Eqv.refl _ _).behind (pw_odd p _ l2).symm))
        · have ho' : left % 2 = 0 := by omega
          refine ⟨fo, A, fun Q => ?_, hf, lf, by rw [ho'] at e2; omega, ?_⟩
          · rw [ho'] at hmd
            have hmd' : bMod (.int left) (.int 2) = some (.d (.int 0)) := hmd
            generalize lD fo = F at *
            generalize lD sq = Q at *
            simp [hmd']
          · have hle : left = 2 * l2 := by omega
            rw [hle]
            exact (DR.Eqv.refl _ _).behind (pw_even p _ l2).symm
      obtain ⟨f1, A1, p1, p2, p3, p4, p5⟩ := part1
      have p1 := p1 .none
      have bod : ∀ (sq2 : D), (∀ F : D, (sIf (mTr (m2 cGt (mV 5) (mC (.int 0)))) (sSet false 4 (mCall f_times [(mV 4), (mV 4), (mV 2)])) sNext) [a0, a1, some (.d (.int p)), some (.d F), some (.d (lD sq)), some (.d (.int l2))] = .next [a0, a1, some (.d (.int p)), some (.d F), some (.d sq2), some (.d (.int l2))]) →
          lb_raised_0 [a0, a1, some (.d (.int p)), some (.d (lD fo)), some (.d (lD sq)), some (.d (.int left))] = .next [a0, a1, some (.d (.int p)), some (.d (lD f1)), some (.d sq2), some (.d (.int l2))] := fun sq2 hq => by
        have d1 : (sSet false 5 (m2 bDiv (mV 5) (mC (.int 2)))) [a0, a1, some (.d (.int p)), some (.d (lD f1)), some (.d (lD sq)), some (.d (.int left))] = .next [a0, a1, some (.d (.int p)), some (.d (lD f1)), some (.d (lD sq)), some (.d (.int l2))] := by
          generalize lD f1 = F
          generalize lD sq = Q
          simp [hdv]
        unfold lb_raised_0
        rw [p_seq, p1]
        show (((sSet false 5 (m2 bDiv (mV 5) (mC (.int 2)))) [a0, a1, some (.d (.int p)), some (.d (lD f1)), some (.d (lD sq)), some (.d (.int left))]).seq (sIf (mTr (m2 cGt (mV 5) (mC (.int 0)))) (sSet false 4 (mCall f_times [(mV 4), (mV 4), (mV 2)])) sNext)) = _
        rw [d1]
        exact hq _
      by_cases hz : l2 = 0
      · have b1 := bod (lD sq) fun F => by
          rw [hz]
          generalize lD sq = Q
          simp
        obtain ⟨fo', sq', l', ih, c1, c2, c3⟩ := raised_loop hp hp2 M hM a0 a1 fu l2 f1 sq A1 B (by omega) p2 hs p3 ls (by rw [hz, Nat.mul_zero]; omega)
        refine ⟨fo', sq', l', ?_, c1, c2, ?_⟩
        · rw [while_next (tt _ _) b1]
          exact ih
        · rw [hz] at c3 p5
          exact c3.trans p5
      · have hB2 : B ≤ B * l2 := Nat.le_mul_of_pos_right B (by omega)
        obtain ⟨s2, k1, k2⟩ := times_s hp hp2 hs hs (by omega) (by omega)
        have := k2.len
        have b1 := bod (lD s2) fun F => by
          have : 0 < l2 := by omega
          dsimp only [lD] at *
          generalize sq.map PyData.int = Q at *
          generalize s2.map PyData.int = Q2 at *
          simp [this, k1]
        obtain ⟨fo', sq', l', ih, c1, c2, c3⟩ := raised_loop hp hp2 M hM a0 a1 fu l2 f1 s2 A1 (2 * B) (by omega) p2 k2.cs p3 (by omega) (by rw [Nat.mul_assoc]; omega)
        refine ⟨fo', sq', l', ?_, c1, c2, ?_⟩
        · rw [while_next (tt _ _) b1]
          exact ih
        · exact c3.trans (((DR.Eqv.refl _ _).behind (DR.pw_congr k2.eqv l2)).trans p5)
theorem raised_s {p : Nat} (hp : 2 ≤ p) (hp2 : p ≤ 16) {c : List Int} (hc : Cs p c) (k : Nat) (hk : k ≤ 100) (hb : (c.length - 1) * k ≤ 390) :
    ∃ f : List Int, f_raised [.d (lD c), .d (.int k), .d (.int p)] = .ok (.d (lD f)) [] ∧ Cs p f ∧ f.length ≤ 1 + (c.length - 1) * k ∧ DR.Eqv p (DR.pl 0 f) (DR.pw (DR.pl 0 c) k) := by
  obtain ⟨f, sq, l', h1, h2, h3, h4⟩ := raised_loop (by omega) hp2 ((c.length - 1) * k) hb (some (.d (lD c))) (some (.d (.int k))) 4000 k [1] c 0 (c.length - 1) (by omega) (fun z hz => by rw [List.mem_singleton.mp hz]; omega) hc (by simp) (by omega) (by omega)
  refine ⟨f, ?_, h2, h3, h4.trans (DR.one_behind p _)⟩
  have h1' : whileGo (mTr (m2 cGt (mV 5) (mC (.int 0)))) lb_raised_0 4000 [some (.d (lD c)), some (.d (.int k)), some (.d (.int p)), some (.d (.list [.int 1])), some (.d (lD c)), some (.d (.int k))] = .next [some (.d (lD c)), some (.d (.int k)), some (.d (.int p)), some (.d (lD f)), some (.d (lD sq)), some (.d (.int l'))] := h1
  generalize lD c = C at *
  generalize lD f = F at *
  generalize lD sq = Q at *
  simp [f_raised, b_raised, fu_raised_0, h1']
end K01
end

section
set_option autoImplicit false
set_option maxRecDepth 100000
set_option linter.all false
namespace K01
open PySem PySem.Spec L2 MP
/-! terms of a polynomial -/
def termsOf : Int → List Int → List (Int × Int)
  | _, [] => []
  | k, z :: zs => if z == 0 then termsOf (k + 1) zs else (k, z) :: termsOf (k + 1) zs
def keepT : D → Bool
  | .tuple [_, .int v] => v != 0
  | _ => false
def putT (low : Int) : D → D
  | .tuple [.int k, .int v] => .tuple [.int (low + k), .int v]
  | _ => .none
theorem terms_enum (low : Int) : ∀ (zs : List Int) (k : Int), ((enumFrom k (zs.map PyData.int)).filter keepT).map (putT low) = (termsOf (low + k) zs).map tp
  | [], k => rfl
  | z :: zs, k => by
    have ih := terms_enum low zs (k + 1)
    rw [← Int.add_assoc] at ih
    rw [List.map_cons, enumFrom, termsOf]
    by_cases h : z = 0
    · rw [List.filter_cons_of_neg (by simp [keepT, h]), ih, if_pos (by simp [h])]
    · rw [List.filter_cons_of_pos (by simp [keepT, h]), List.map_cons, ih, if_neg (by simp [h])]
      rfl
theorem terms_pair {p : Nat} : ∀ (zs : List Int) (k : Int), Cs p zs → ∀ t ∈ termsOf k zs, 1 ≤ t.2 ∧ t.2 < p
  | [], k, _, t, h => by cases h
  | z :: zs, k, hc, t, h => by
    have hz := hc z List.mem_cons_self
    have hr : Cs p zs := fun w hw => hc w (List.mem_cons_of_mem _ hw)
    rw [termsOf] at h
    split at h
    · exact terms_pair zs (k + 1) hr t h
    · rename_i h0
      rcases List.mem_cons.mp h with rfl | h
      · have : z ≠ 0 := fun e => h0 (by rw [e] <;> rfl)
        exact ⟨by show 1 ≤ z; omega, hz.2⟩
      · exact terms_pair zs (k + 1) hr t h
theorem terms_asc : ∀ (zs : List Int) (k : Int) (s : Option Int), (∀ l, s = some l → l < k) → ascL s ((termsOf k zs).map tp) = true
  | [], k, s, _ => rfl
  | z :: zs, k, s, h => by
    rw [termsOf]
    split
    · exact terms_asc zs (k + 1) s fun l e => by have := h l e; omega
    · rw [List.map_cons, ascL, terms_asc zs (k + 1) (some (fst (tp (k, z)))) (fun l e => by
        have e' : k = l := Option.some.inj e
        omega), Bool.and_true]
      cases s with
      | none => rfl
      | some l => exact decide_eq_true (h l rfl)
theorem terms_len : ∀ (zs : List Int) (k : Int), (termsOf k zs).length ≤ zs.length
  | [], _ => Nat.le_refl _
  | z :: zs, k => by
    have := terms_len zs (k + 1)
    rw [termsOf, List.length_cons]
    split
    · omega
    · rw [List.length_cons]; omega
theorem terms_in : ∀ (zs : List Int) (k : Int), ∀ t ∈ termsOf k zs, k ≤ t.1 ∧ t.1 < k + zs.length
  | [], k, t, h => by cases h
  | z :: zs, k, t, h => by
    have ih := terms_in zs (k + 1)
    rw [List.length_cons]
    rw [termsOf] at h
    split at h
    · have := ih t h; omega
    · rcases List.mem_cons.mp h with rfl | h
      · exact ⟨Int.le_refl _, by show k < _; omega⟩
      · have := ih t h; omega
theorem terms_S : ∀ (zs : List Int) (k q : Int), DR.S (termsOf k zs) q = DR.S (DR.pl k zs) q
  | [], k, q => rfl
  | z :: zs, k, q => by
    rw [termsOf, DR.pl, DR.S_cons]
    split
    · rename_i h
      have hz : z = 0 := eq_of_beq h
      rw [terms_S zs (k + 1) q]
      show _ = (if k = q then z else 0) + _
      rw [hz]
      split <;> omega
    · rw [DR.S_cons, terms_S zs (k + 1) q]
theorem terms_lt : ∀ (zs : List Int) (k : Int), (termsOf k zs).Pairwise fun a b => a.1 < b.1
  | [], k => .nil
  | z :: zs, k => by
    rw [termsOf]
    split
    · exact terms_lt zs (k + 1)
    · refine List.pairwise_cons.mpr ⟨fun t ht => ?_, terms_lt zs (k + 1)⟩
      have := (terms_in zs (k + 1) t ht).1
      show k < t.1
      omega
theorem to_terms_s (low : Int) (zs : List Int) (hl : zs.length ≤ 1000) : f_to_terms [.d (.int low), .d (lD zs)] = .ok (.d (.tuple ((termsOf low zs).map tp))) [] := by
  have hc := comp_map (vs := [2, 3]) (tg := .t [(.n 2), (.n 3)]) (t := mTr (m2 cNe (mV 3) (mC (.int 0)))) (e := mTup [(m2 bAdd (mV 0) (mV 2)), (mV 3)]) (ρ := [some (.d (.int low)), some (.d (lD zs)), none, none])
    (c := keepT) (y := putT low) (xs := enumFrom 0 (zs.map PyData.int)) (acc := []) fun x hx => by
      obtain ⟨j, hj⟩ := List.getElem?_of_mem hx
      obtain ⟨y, h1, h2⟩ := enum_get hj
      rw [List.getElem?_map] at h1
      obtain ⟨z, h4, h3⟩ := Option.map_eq_some_iff.mp h1
      subst h3
      rw [h2]
      refine ⟨[some (.d (.int low)), some (.d (lD zs)), some (.d (.int (0 + (j : Int)))), some (.d (.int z))], [some (.d (.int low)), some (.d (lD zs)), some (.d (.int (0 + (j : Int)))), some (.d (.int z))], [some (.d (.int low)), some (.d (lD zs)), some (.d (.int (0 + (j : Int)))), some (.d (.int z))], ?_, ?_, fun _ => ?_, fun _ => ⟨.d (putT low (.tuple [.int (0 + (j : Int)), .int z])), ?_, rfl, ?_⟩⟩
      all_goals generalize lD zs = Z
      · simp
      · show _ = Out.ok (z != 0) _
        simp [bne]
      · simp
      · simp [putT]
      · simp
  have e := terms_enum low zs 0
  rw [Int.add_zero] at e
  rw [e, List.nil_append] at hc
  have hen : enumD (lD zs) = some (enumFrom 0 (zs.map PyData.int)) := rfl
  have le : (enumFrom 0 (zs.map PyData.int)).length ≤ 16777216 := by rw [enum_len, List.length_map]; omega
  generalize (termsOf low zs).map tp = T at *
  generalize enumFrom 0 (zs.map PyData.int) = EN at *
  generalize lD zs = Z at *
  simp [f_to_terms, b_to_terms, hen, le, hc]
/-! a rule's terms modulo a prime -/
def lf (p : Nat) (ts : DR.L) : DR.L := (ts.filter fun t => !(t.2 % (p : Int) == 0)).map fun t => (t.1, t.2 % (p : Int))
theorem lf_eqv (p : Nat) : ∀ ts : DR.L, DR.Eqv p (lf p ts) ts
  | [] => .refl _ _
  | t :: ts => fun q => by
    have ih := lf_eqv p ts q
    unfold lf at ih ⊢
    by_cases h : t.2 % (p : Int) = 0
    · rw [List.filter_cons_of_neg (by simp [h]), DR.S_cons]
      have hd : (p : Int) ∣ (if t.1 = q then t.2 else 0) := by
        split
        · exact Int.dvd_of_emod_eq_zero h
        · exact Int.dvd_zero _
      have := Int.dvd_sub ih hd
      rw [show ∀ a b c : Int, a - b - c = a - (c + b) by intros; omega] at this
      exact this
    · rw [List.filter_cons_of_pos (by simp [h]), List.map_cons, DR.S_cons, DR.S_cons]
      have hd : (p : Int) ∣ (if t.1 = q then t.2 % (p : Int) else 0) - (if t.1 = q then t.2 else 0) := by
        split
        · exact DR.dvd_mod _ _
        · exact Int.dvd_zero _
      have := Int.dvd_add hd ih
      rw [show ∀ a b c d : Int, a - b + (c - d) = a + c - (b + d) by intros; omega] at this
      exact this
theorem lf_mem {p : Nat} {ts : DR.L} {t : Int × Int} (h : t ∈ lf p ts) : ∃ u ∈ ts, u.1 = t.1 ∧ t.2 = u.2 % (p : Int) := by
  unfold lf at h
  obtain ⟨u, hu, rfl⟩ := List.mem_map.mp h
  exact ⟨u, (List.mem_filter.mp hu).1, rfl, rfl⟩
theorem lf_asc {p : Nat} {ts : DR.L} (h : ts.Pairwise fun a b => a.1 < b.1) : (lf p ts).Pairwise fun a b => a.1 < b.1 := by
  unfold lf
  rw [List.pairwise_map]
  exact h.sublist List.filter_sublist
def ltT (p : Nat) : D → Bool
  | .tuple [_, .int f] => !(f % (p : Int) == 0)
  | _ => false
def lmT (p : Nat) : D → D
  | .tuple [.int o, .int f] => .tuple [.int o, .int (f % (p : Int))]
  | _ => .none
theorem lf_D (p : Nat) (ts : DR.L) : ((ts.map tp).filter (ltT p)).map (lmT p) = (lf p ts).map tp := by
  unfold lf
  rw [List.filter_map, List.map_map, List.map_map]
  rfl
theorem fill_s (a0 a1 a2 : Option SV) (low : Int) {p : Nat} : ∀ (es : DR.L) (fo : List Int) (q5 q6 : Option SV), (∀ e ∈ es, low ≤ e.1 ∧ e.1 < low + fo.length ∧ 0 ≤ e.2 ∧ e.2 < p) → es.Pairwise (fun a b => a.1 < b.1) → (∀ e ∈ es, DR.S (DR.pl low fo) e.1 = 0) → Cs p fo → OptD q5 → OptD q6 →
    ∃ (fo' : List Int) (r5 r6 : Option SV), forGo (.t [(.n 5), (.n 6)]) lb_of_terms_0 (es.map tp) [a0, a1, a2, some (.d (.int low)), some (.own (.lst (fo.map PyData.int))), q5, q6] = .next [a0, a1, a2, some (.d (.int low)), some (.own (.lst (fo'.map PyData.int))), r5, r6] ∧ fo'.length = fo.length ∧ Cs p fo' ∧
      ∀ q, DR.S (DR.pl low fo') q = DR.S (DR.pl low fo) q + DR.S es q
  | [], fo, q5, q6, _, _, _, hc, _, _ => ⟨fo, q5, q6, rfl, rfl, hc, fun q => by rw [DR.S_nil, Int.add_zero]⟩
  | e :: es, fo, q5, q6, hin, hasc, h0, hc, h5, h6 => by
    obtain ⟨p1, p2⟩ := List.pairwise_cons.mp hasc
    obtain ⟨i1, i2, i3, i4⟩ := hin e List.mem_cons_self
    obtain ⟨k, hk⟩ : ∃ k : Nat, e.1 = low + k := ⟨(e.1 - low).toNat, by omega⟩
    have hkl : k < fo.length := by omega
    have hset := fun q => DR.pl_set hkl low e.2 q
    have z0 := h0 e List.mem_cons_self
    obtain ⟨fo', r5, r6, ih, l1, c1, s1⟩ := fill_s a0 a1 a2 low (p := p) es (fo.set k e.2) (some (.d (.int e.1))) (some (.d (.int e.2))) (fun x hx => by
      rw [List.length_set]; exact hin x (List.mem_cons_of_mem _ hx)) p2 (fun x hx => by
      have := p1 x hx
      rw [hset, if_neg (by omega)]
      exact h0 x (List.mem_cons_of_mem _ hx)) (fun z hz => by
      rcases List.mem_or_eq_of_mem_set hz with h | h
      · exact hc z h
      · rw [h]; exact ⟨i3, i4⟩) (.inr ⟨_, rfl⟩) (.inr ⟨_, rfl⟩)
    rw [List.length_set] at l1
    refine ⟨fo', r5, r6, ?_, l1, c1, fun q => ?_⟩
    · have t1 : tgSet (.t [(.n 5), (.n 6)]) (tp e) [a0, a1, a2, some (.d (.int low)), some (.own (.lst (fo.map PyData.int))), q5, q6] = some [a0, a1, a2, some (.d (.int low)), some (.own (.lst (fo.map PyData.int))), some (.d (.int e.1)), some (.d (.int e.2))] := by
        rcases h5 with rfl | ⟨_, rfl⟩ <;> rcases h6 with rfl | ⟨_, rfl⟩ <;> simp [tp]
      have hix : ix (fo.map PyData.int).length (e.1 - low) = some k := by
        rw [show e.1 - low = (k : Int) by omega, List.length_map]
        exact ix_nat hkl
      have em : (fo.map PyData.int).set k (.int e.2) = (fo.set k e.2).map PyData.int := by rw [List.map_set]
      have b1 : lb_of_terms_0 [a0, a1, a2, some (.d (.int low)), some (.own (.lst (fo.map PyData.int))), some (.d (.int e.1)), some (.d (.int e.2))] = .next [a0, a1, a2, some (.d (.int low)), some (.own (.lst ((fo.set k e.2).map PyData.int))), some (.d (.int e.1)), some (.d (.int e.2))] := by
        rw [← em]
        generalize fo.map PyData.int = FO at *
        simp [lb_of_terms_0, hix]
      rw [List.map_cons, forGo_next t1 b1]
      exact ih
    · rw [s1, hset, DR.S_cons]
      by_cases h : q = low + k
      · rw [if_pos h, if_pos (by omega)]
        have : DR.S (DR.pl low fo) q = 0 := by rw [h, ← hk]; exact z0
        omega
      · rw [if_neg h, if_neg (by omega)]
        omega
theorem of_terms_s {p : Nat} (hp : 0 < p) {ts : DR.L} (hl : ts.length ≤ 5000) (hasc : ts.Pairwise fun a b => a.1 < b.1) (W : Nat) (hW : W ≤ 400) (hw : ∀ a ∈ ts, ∀ b ∈ ts, b.1 - a.1 < W) :
    (f_of_terms [.d (.tuple (ts.map tp)), .d (.int p)] = .ok (.d .none) [] ∧ DR.Eqv p [] ts) ∨
    ∃ (low : Int) (c : List Int), f_of_terms [.d (.tuple (ts.map tp)), .d (.int p)] = .ok (.d (.tuple [.int low, lD c])) [] ∧ Cs p c ∧ 1 ≤ c.length ∧ c.length ≤ W ∧ DR.Eqv p (DR.pl low c) ts ∧ ∃ a ∈ ts, ∃ b ∈ ts, low = a.1 ∧ low + c.length = b.1 + 1 := by
  have hc := comp_map (vs := [5, 6]) (tg := .t [(.n 5), (.n 6)]) (t := mTr (m2 cNe (m2 bMod (mV 6) (mV 1)) (mC (.int 0)))) (e := mTup [(mV 5), (m2 bMod (mV 6) (mV 1))]) (ρ := [some (.d (.tuple (ts.map tp))), some (.d (.int p)), none, none, none, none, none])
    (c := ltT p) (y := lmT p) (xs := ts.map tp) (acc := []) fun x hx => by
      obtain ⟨t, ht, rfl⟩ := List.mem_map.mp hx
      have md : bMod (.int t.2) (.int p) = some (.d (.int (t.2 % (p : Int)))) := mod_p (by omega)
      refine ⟨[some (.d (.tuple (ts.map tp))), some (.d (.int p)), none, none, none, some (.d (.int t.1)), some (.d (.int t.2))], [some (.d (.tuple (ts.map tp))), some (.d (.int p)), none, none, none, some (.d (.int t.1)), some (.d (.int t.2))], [some (.d (.tuple (ts.map tp))), some (.d (.int p)), none, none, none, some (.d (.int t.1)), some (.d (.int t.2))], ?_, ?_, fun _ => ?_, fun _ => ⟨.d (lmT p (tp t)), ?_, rfl, ?_⟩⟩
      all_goals generalize ts.map tp = T
      · simp [tp]
      · show _ = Out.ok (!(t.2 % (p : Int) == 0)) _
        simp [md]
      · simp
      · simp [md, lmT, tp]
      · simp
  rw [lf_D, List.nil_append] at hc
  have lt1 : ts.length ≤ 16777216 := by omega
  have le := lf_eqv p ts
  have la := lf_asc (p := p) hasc
  obtain ⟨es, hes⟩ : ∃ es, es = lf p ts := ⟨_, rfl⟩
  have lm : ∀ e ∈ es, ∃ u ∈ ts, u.1 = e.1 ∧ e.2 = u.2 % (p : Int) := fun e he => lf_mem (by rw [← hes]; exact he)
  rw [← hes] at hc le la
  by_cases h0 : es = []
  · left
    rw [h0] at hc le
    refine ⟨?_, le⟩
    have hc' : compGo [5, 6] (.t [(.n 5), (.n 6)]) (mTr (m2 cNe (m2 bMod (mV 6) (mV 1)) (mC (.int 0)))) (mTup [(mV 5), (m2 bMod (mV 6) (mV 1))]) (ts.map tp) [] [some (.d (.tuple (ts.map tp))), some (.d (.int p)), none, none, none, none, none] = .ok (.own (.lst [])) [some (.d (.tuple (ts.map tp))), some (.d (.int p)), none, none, none, none, none] := hc
    have lt2 : (ts.map tp).length ≤ 16777216 := by rw [List.length_map]; exact lt1
    generalize ts.map tp = T at *
    simp [f_of_terms, b_of_terms, lt2, hc']
  · right
    obtain ⟨e0, er, hee⟩ : ∃ e0 er, es = e0 :: er := by
      cases es with
      | nil => exact absurd rfl h0
      | cons a b => exact ⟨a, b, rfl⟩
    have hlen := List.length_pos_iff.mpr h0
    obtain ⟨el, hel⟩ : ∃ el, el = es[es.length - 1]'(by omega) := ⟨_, rfl⟩
    have m0 : e0 ∈ es := by rw [hee]; exact List.mem_cons_self
    have ml : el ∈ es := by rw [hel]; exact List.getElem_mem _
    obtain ⟨u0, hu0, eu0, _⟩ := lm e0 m0
    obtain ⟨ul, hul, eul, _⟩ := lm el ml
    have first : ∀ e ∈ es, e0.1 ≤ e.1 := fun e he => by
      rw [hee] at he la
      rcases List.mem_cons.mp he with rfl | he
      · exact Int.le_refl _
      · have := (List.pairwise_cons.mp la).1 e he
        omega
    have last : ∀ e ∈ es, e.1 ≤ el.1 := fun e he => by
      obtain ⟨i, hi, rfl⟩ := List.getElem_of_mem he
      rw [hel]
      by_cases z : i = es.length - 1
      · subst z
        exact Int.le_refl _
      · have := List.pairwise_iff_getElem.mp la i (es.length - 1) hi (by omega) (by omega)
        omega
    have hwid := hw u0 hu0 ul hul
    have h01 := first el ml
    obtain ⟨n, hn⟩ : ∃ n : Nat, n = (el.1 - e0.1 + 1).toNat := ⟨_, rfl⟩
    have z0 : ∀ q, DR.S (DR.pl e0.1 (List.replicate n 0)) q = 0 := fun q => by
      rw [DR.S_pl]
      split
      · rfl
      · unfold PL.co
        rw [List.getD_eq_getElem?_getD, List.getElem?_replicate]
        split <;> rfl
    obtain ⟨fo', r5, r6, k1, k2, k3, k4⟩ := fill_s (some (.d (.tuple (ts.map tp)))) (some (.d (.int p))) (some (.d (.list (es.map tp)))) e0.1 (p := p) es (List.replicate n 0) none none (fun e he => by
      have := first e he
      have := last e he
      obtain ⟨u, _, _, hu⟩ := lm e he
      rw [List.length_replicate, hu]
      exact ⟨by omega, by omega, Int.emod_nonneg _ (by omega), Int.emod_lt_of_pos _ (by omega)⟩) la (fun e _ => z0 _) (fun z hz => by
      rw [List.eq_of_mem_replicate hz]
      omega) (.inl rfl) (.inl rfl)
    rw [List.length_replicate] at k2
    refine ⟨e0.1, fo', ?_, k3, by omega, by omega, (DR.Eqv.of fun q => by rw [k4, z0, Int.zero_add]).trans le, u0, hu0, ul, hul, eu0.symm, by omega⟩
    have lt2 : (ts.map tp).length ≤ 16777216 := by rw [List.length_map]; exact lt1
    have esl : (es.map tp).length = es.length := List.length_map ..
    have nz : ¬ es.length = 0 := by omega
    have nz' : ¬ (es.length : Int) = 0 := by omega
    have at0 : atD (es.map tp) 0 = some (tp e0) := by rw [hee]; exact atD_0
    have atl : atD (es.map tp) (-1) = some (tp el) := by
      unfold atD ix
      rw [if_neg (by decide), if_pos (by rw [List.length_map]; omega)]
      show (es.map tp)[((-1 : Int) + ((es.map tp).length : Int)).toNat]? = _
      rw [List.length_map, show ((-1 : Int) + (es.length : Int)).toNat = es.length - 1 by omega, List.getElem?_map, List.getElem?_eq_getElem (by omega), hel] <;> rfl
    have sm : small62 (el.1 - e0.1 + 1) = true := small62_mk (by omega)
    have tn : (el.1 - e0.1 + 1).toNat = n := hn.symm
    have ln : n ≤ line := by unfold line; omega
    have ln' : el.1 - e0.1 + 1 ≤ (line : Int) := by unfold line; omega
    have er2 : (List.replicate n (0 : Int)).map PyData.int = List.replicate n (PyData.int 0) := by simp
    rw [er2] at k1
    have b0 : atD [PyData.int e0.1, PyData.int e0.2] 0 = some (.int e0.1) := atD_0
    have bl : atD [PyData.int el.1, PyData.int el.2] 0 = some (.int el.1) := atD_0
    have t0 : tp e0 = .tuple [.int e0.1, .int e0.2] := rfl
    have tl : tp el = .tuple [.int el.1, .int el.2] := rfl
    rw [t0] at at0
    rw [tl] at atl
    dsimp only [lD]
    generalize fo'.map PyData.int = FO at *
    generalize es.map tp = ES at *
    generalize ts.map tp = T at *
    simp [f_of_terms, b_of_terms, lt2, hc, esl, nz, nz', at0, atl, sm, tn, ln, ln', k1, frz, frz1]
end K01
end

section
set_option autoImplicit false
set_option maxRecDepth 100000
set_option linter.all false
namespace K01
open PySem PySem.Spec L2 MP
def prL (m : Nat) : List Nat := [2, 3, 5, 7, 11, 13].filter fun p => m % p == 0
theorem primes_in_s {m : Nat} (hm : m ∈ tenN) : f_primes_in [.d (.int m)] = .ok (.d (.tuple ((prL m).map fun (p : Nat) => PyData.int p))) [] := by
  unfold tenN at hm
  simp only [List.mem_cons, List.not_mem_nil, or_false] at hm
  rcases hm with rfl | rfl | rfl | rfl | rfl | rfl | rfl | rfl | rfl | rfl <;> rfl
theorem pr_in {m : Nat} (hm : m ∈ tenN) : ∀ p ∈ prL m, 2 ≤ p ∧ p ≤ 13 := by
  have : ∀ m ∈ tenN, ∀ p ∈ prL m, 2 ≤ p ∧ p ≤ 13 := by decide
  exact this m hm
theorem pr_len {m : Nat} (hm : m ∈ tenN) : (prL m).length ≤ 2 := by
  have : ∀ m ∈ tenN, (prL m).length ≤ 2 := by decide
  exact this m hm
theorem crt_dvd {m : Nat} (hm : m ∈ tenN) {x : Int} (h : ∀ p ∈ prL m, ((p : Nat) : Int) ∣ x) : (m : Int) ∣ x := by
  unfold tenN at hm
  simp only [List.mem_cons, List.not_mem_nil, or_false] at hm
  rcases hm with rfl | rfl | rfl | rfl | rfl | rfl | rfl | rfl | rfl | rfl <;> (simp [prL] at h; omega)
/-! together -/
def combos : List Nat → List (List Nat)
  | [] => [[]]
  | p :: ps => (List.range p).flatMap fun r => (combos ps).map fun rs => r :: rs
def tog (m : Nat) (rs : List Int) : Int := match f_together [.d (.int m), .d (.list (rs.map PyData.int))] with
  | .ok (.d (.int v)) [] => v
  | _ => 0
def togOk (m : Nat) (rs : List Nat) : Bool := match f_together [.d (.int m), .d (.list (rs.map fun (r : Nat) => PyData.int r))] with
  | .ok (.d (.int v)) [] => decide (0 ≤ v) && decide (v < m) && ((prL m).zip rs).all fun pr => decide (v % (pr.1 : Int) = (pr.2 : Int))
  | _ => false
theorem tog_all : ∀ m ∈ tenN, ∀ rs ∈ combos (prL m), togOk m rs = true := by decide +kernel
theorem mem_combos : ∀ (ps rs : List Nat), rs.length = ps.length → (∀ (i p r : Nat), ps[i]? = some p → rs[i]? = some r → r < p) → rs ∈ combos ps
  | [], [], _, _ => by simp [combos]
  | p :: ps, r :: rs, hl, h => by
    unfold combos
    refine List.mem_flatMap.mpr ⟨r, List.mem_range.mpr (h 0 p r rfl rfl), List.mem_map.mpr ⟨rs, mem_combos ps rs (by simpa using hl) fun i q s e1 e2 => h (i + 1) q s (by simpa using e1) (by simpa using e2), rfl⟩⟩
  | [], _ :: _, hl, _ => by simp at hl
  | _ :: _, [], hl, _ => by simp at hl
theorem together_s {m : Nat} (hm : m ∈ tenN) {rs : List Int} (hl : rs.length = (prL m).length) (h : ∀ (i : Nat) (p : Nat) (r : Int), (prL m)[i]? = some p → rs[i]? = some r → 0 ≤ r ∧ r < p) :
    f_together [.d (.int m), .d (.list (rs.map PyData.int))] = .ok (.d (.int (tog m rs))) [] ∧ 0 ≤ tog m rs ∧ tog m rs < m ∧ ∀ (i : Nat) (p : Nat) (r : Int), (prL m)[i]? = some p → rs[i]? = some r → (p : Int) ∣ tog m rs - r := by
  have hpos : ∀ r ∈ rs, 0 ≤ r := fun r hr => by
    obtain ⟨i, hi, rfl⟩ := List.getElem_of_mem hr
    exact (h i _ _ (List.getElem?_eq_getElem (by omega)) (List.getElem?_eq_getElem hi)).1
  have en : (rs.map fun r => r.toNat).map (fun (r : Nat) => PyData.int r) = rs.map PyData.int := by
    rw [List.map_map]
    apply List.map_congr_left
    intro r hr
    show PyData.int ((r.toNat : Nat) : Int) = PyData.int r
    rw [Int.toNat_of_nonneg (hpos r hr)]
  have c := tog_all m hm (rs.map fun r => r.toNat) (mem_combos _ _ (by rw [List.length_map]; exact hl) fun i p r e1 e2 => by
    rw [List.getElem?_map] at e2
    obtain ⟨s, e3, e4⟩ := Option.map_eq_some_iff.mp e2
    have := h i p s e1 e3
    omega)
  unfold togOk at c
  rw [en] at c
  split at c
  · rename_i v e
    simp only [Bool.and_eq_true, decide_eq_true_eq, List.all_eq_true] at c
    obtain ⟨⟨c1, c2⟩, c3⟩ := c
    have et : tog m rs = v := by
      unfold tog
      rw [e]
    rw [et]
    refine ⟨e, c1, c2, fun i p r e1 e2 => ?_⟩
    have hz : (p, r.toNat) ∈ (prL m).zip (rs.map fun r => r.toNat) := by
      refine List.mem_of_getElem? (i := i) ?_
      rw [List.getElem?_zip_eq_some]
      exact ⟨e1, by rw [List.getElem?_map, e2] <;> rfl⟩
    have := c3 _ hz
    have hr := (h i p r e1 e2).1
    have e5 : ((r.toNat : Nat) : Int) = r := Int.toNat_of_nonneg hr
    rw [e5] at this
    have d := DR.dvd_mod p v
    rw [this] at d
    exact DR.dvd_sy d
  · cases c
/-! from parts -/
abbrev pD (ts : DR.L) : D := .tuple (ts.map tp)
abbrev dD (kv : DR.L) : D := .dict (kvD kv)
def tabT : D → D
  | .tuple xs => (match pairsD xs with
    | some ps => .dict ps
    | none => .none)
  | _ => .none
theorem tabT_p (ts : DR.L) : tabT (pD ts) = dD ts := by
  show (match pairsD (ts.map tpp) with | some ps => PyData.dict ps | none => .none) = _
  rw [pairsD_kv]
def partsT : D → List D
  | .tuple xs => xs
  | _ => []
def offT (_ : D) : D → Int
  | .tuple (.int o :: _) => o
  | _ => 0
def offs (Ls : List DR.L) : List Int := sortU (Ls.flatMap fun ts => ts.map (·.1))
def vals (Ls : List DR.L) (o : Int) : List Int := Ls.map fun ts => DR.gv ts o
def gvT (o : Int) : D → Int
  | .dict kvs => (match dFind kvs (.inl o) with
    | some (.int v) => v
    | _ => 0)
  | _ => 0
theorem gvT_d (o : Int) (ts : DR.L) : gvT o (dD ts) = DR.gv ts o := by
  show (match dFind (kvD ts) (.inl o) with | some (.int v) => v | _ => 0) = _
  rw [find_kv]
  unfold DR.gv
  cases ts.find? fun e => e.1 == o <;> rfl
structure Part (p : Nat) (ts : DR.L) : Prop where
  fac : ∀ t ∈ ts, 1 ≤ t.2 ∧ t.2 < p
  asc : ts.Pairwise fun a b => a.1 < b.1
  len : ts.length ≤ 1000
theorem Part.dc {p : Nat} {ts : DR.L} (h : Part p ts) : DR.Dc ts := ⟨by
  have : (ts.map (·.1)).Pairwise (· < ·) := List.pairwise_map.mpr h.asc
  exact this.imp fun h => by omega⟩
theorem Part.gv {p : Nat} (hp : 0 < p) {ts : DR.L} (h : Part p ts) (o : Int) : 0 ≤ DR.gv ts o ∧ DR.gv ts o < p := by
  by_cases z : DR.has ts o = true
  · obtain ⟨e, he, rfl⟩ := DR.has_iff.mp z
    rw [DR.gv_mem h.dc he]
    have := h.fac e he
    omega
  · rw [DR.gv_no z]
    omega
def wsOf (m : Nat) (Ls : List DR.L) : DR.L := ((offs Ls).filter fun o => !(tog m (vals Ls o) == 0)).map fun o => (o, tog m (vals Ls o))
def pairT (m : Nat) (Ls : List DR.L) : D → D
  | .int o => .tuple [.int o, .int (tog m (vals Ls o))]
  | _ => .none
def nzT2 : D → Bool
  | .tuple [_, .int v] => !(v == 0)
  | _ => false
theorem fin_D (m : Nat) (Ls : List DR.L) : ((((offs Ls).map PyData.int).map (pairT m Ls)).filter nzT2).map (fun x => x) = (wsOf m Ls).map tp := by
  unfold wsOf
  rw [List.map_id', List.map_map, List.filter_map, List.map_map]
  rfl
theorem flat_D (Ls : List DR.L) : ((Ls.map pD).flatMap fun x => (partsT x).map (offT x)) = Ls.flatMap fun ts => ts.map (·.1) := by
  induction Ls with
  | nil => rfl
  | cons ts Ls ih =>
    rw [List.map_cons, List.flatMap_cons, List.flatMap_cons, ih]
    congr 1
    show (ts.map tp).map (offT (pD ts)) = _
    rw [List.map_map]
    rfl
theorem from_parts_s {m : Nat} (hm : m ∈ tenN) {Ls : List DR.L} (hl : Ls.length = (prL m).length) (hp : ∀ (i p : Nat) (ts : DR.L), (prL m)[i]? = some p → Ls[i]? = some ts → Part p ts) :
    f_from_parts [.d (.int m), .d (.list (Ls.map pD))] = .ok (.d (rD m (wsOf m Ls))) [] := by
  have hpl := pr_len hm
  have part : ∀ ts ∈ Ls, ∃ p ∈ prL m, Part p ts := fun ts hts => by
    obtain ⟨i, hi, rfl⟩ := List.getElem_of_mem hts
    exact ⟨(prL m)[i], List.getElem_mem _, hp i _ _ (List.getElem?_eq_getElem (by omega)) (List.getElem?_eq_getElem hi)⟩
  have lens : (Ls.flatMap fun ts => ts.map (·.1)).length ≤ 2000 := by
    have key : ∀ Ks : List DR.L, (∀ ts ∈ Ks, ts.length ≤ 1000) → (Ks.flatMap fun ts => ts.map (·.1)).length ≤ 1000 * Ks.length := by
      intro Ks
      induction Ks with
      | nil => intro _; simp
      | cons ts Ks ih =>
        intro h
        rw [List.flatMap_cons, List.length_append, List.length_map, List.length_cons]
        have := h ts List.mem_cons_self
        have := ih fun x hx => h x (List.mem_cons_of_mem _ hx)
        omega
    have := key Ls fun ts hts => by
      obtain ⟨p, _, h⟩ := part ts hts
      exact h.len
    omega
  have lo : (offs Ls).length ≤ 2000 := Nat.le_trans (sortU_len _) lens
  -- tables
  have c1 := comp_pure (vs := [5]) (tg := .n 5) (e := mB gDct [(mV 5)]) (ρ := [some (.d (.int m)), some (.d (.list (Ls.map pD))), none, none, none, none, none, none, none, none]) (y := tabT) (xs := Ls.map pD) (acc := []) fun x hx => by
    obtain ⟨ts, hts, rfl⟩ := List.mem_map.mp hx
    obtain ⟨p, _, h⟩ := part ts hts
    have hd : gDct [pD ts] = some (.own (.dct (kvD ts))) := dct_kv h.dc
    refine ⟨[some (.d (.int m)), some (.d (.list (Ls.map pD))), none, none, none, some (.d (pD ts)), none, none, none, none], .own (.dct (kvD ts)), ?_, ?_, ?_, ?_⟩
    · generalize Ls.map pD = LL
      simp
    · generalize Ls.map pD = LL
      generalize pD ts = T at *
      generalize kvD ts = K at *
      simp [hd]
    · rw [tabT_p] <;> rfl
    · generalize Ls.map pD = LL
      simp
  have e1 : (Ls.map pD).map tabT = Ls.map dD := by
    rw [List.map_map]
    apply List.map_congr_left
    intro ts _
    exact tabT_p ts
  rw [e1, List.nil_append] at c1
  -- offsets
  have c2 := compS_pure (vs := [5, 6, 7]) (vs1 := [6, 7]) (tg := .n 5) (tg1 := .t [(.n 6), (.n 7)]) (it1 := i1 seqD (mV 5)) (e := mV 6) (ρ := [some (.d (.int m)), some (.d (.list (Ls.map pD))), some (.d (.list (Ls.map dD))), none, none, none, none, none, none, none])
    (ys := partsT) (y := offT) (Ls.map pD) [] (fun x hx => by
      obtain ⟨ts, hts, rfl⟩ := List.mem_map.mp hx
      refine ⟨[some (.d (.int m)), some (.d (.list (Ls.map pD))), some (.d (.list (Ls.map dD))), none, none, some (.d (pD ts)), none, none, none, none], ?_, ?_, ?_, rfl, ?_, fun z hz => ?_⟩
      · generalize Ls.map pD = LL
        generalize Ls.map dD = LD
        simp
      · generalize Ls.map pD = LL
        generalize Ls.map dD = LD
        show (i1 seqD (mV 5)) [some (.d (.int m)), some (.d (.list LL)), some (.d (.list LD)), none, none, some (.d (.tuple (ts.map tp))), none, none, none, none] = Out.ok (ts.map tp) [some (.d (.int m)), some (.d (.list LL)), some (.d (.list LD)), none, none, some (.d (.tuple (ts.map tp))), none, none, none, none]
        generalize ts.map tp = T
        simp
      · generalize Ls.map pD = LL
        generalize Ls.map dD = LD
        simp
      · generalize Ls.map pD = LL
        generalize Ls.map dD = LD
        simp
      · obtain ⟨t, ht, rfl⟩ := List.mem_map.mp (show z ∈ ts.map tp from hz)
        refine ⟨[some (.d (.int m)), some (.d (.list (Ls.map pD))), some (.d (.list (Ls.map dD))), none, none, some (.d (pD ts)), some (.d (.int t.1)), some (.d (.int t.2)), none, none], ?_, ?_, ?_⟩
        · generalize Ls.map pD = LL
          generalize Ls.map dD = LD
          generalize pD ts = T
          simp [tp]
        · generalize Ls.map pD = LL
          generalize Ls.map dD = LD
          generalize pD ts = T
          simp [tp, offT]
        · generalize Ls.map pD = LL
          generalize Ls.map dD = LD
          generalize pD ts = T
          simp) (by rw [flat_D]; show 0 + _ ≤ _; omega)
  rw [flat_D, List.nil_append] at c2
  have c2' : compGoS [5, 6, 7] (.n 5) mYes [6, 7] (.t [(.n 6), (.n 7)]) (i1 seqD (mV 5)) mYes (mV 6) (Ls.map pD) [] [some (.d (.int m)), some (.d (.list (Ls.map pD))), some (.d (.list (Ls.map dD))), none, none, none, none, none, none, none] = .ok (.own (.lst ((offs Ls).map PyData.int))) [some (.d (.int m)), some (.d (.list (Ls.map pD))), some (.d (.list (Ls.map dD))), none, none, none, none, none, none, none] := c2
  -- values
  have c3 := comp_pure (vs := [6]) (tg := .n 6) (e := mTup [(mV 6), (mCall f_together [(mV 0), (mComp [8] (.n 8) (i1 seqD (mV 2)) mYes (mGet (mV 8) (mV 6) (mC (.int 0))))])]) (ρ := [some (.d (.int m)), some (.d (.list (Ls.map pD))), some (.d (.list (Ls.map dD))), some (.d (.list ((offs Ls).map PyData.int))), none, none, none, none, none, none])
    (y := pairT m Ls) (xs := (offs Ls).map PyData.int) (acc := []) fun x hx => by
      obtain ⟨o, ho, rfl⟩ := List.mem_map.mp hx
      have ci := comp_pure (vs := [8]) (tg := .n 8) (e := mGet (mV 8) (mV 6) (mC (.int 0))) (ρ := [some (.d (.int m)), some (.d (.list (Ls.map pD))), some (.d (.list (Ls.map dD))), some (.d (.list ((offs Ls).map PyData.int))), none, none, some (.d (.int o)), none, none, none])
        (y := fun x => .int (gvT o x)) (xs := Ls.map dD) (acc := []) fun x hx => by
          obtain ⟨ts, hts, rfl⟩ := List.mem_map.mp hx
          have hg := getD_kv ts o
          refine ⟨[some (.d (.int m)), some (.d (.list (Ls.map pD))), some (.d (.list (Ls.map dD))), some (.d (.list ((offs Ls).map PyData.int))), none, none, some (.d (.int o)), none, some (.d (dD ts)), none], .d (.int (DR.gv ts o)), ?_, ?_, ?_, ?_⟩
          · generalize Ls.map pD = LL
            generalize Ls.map dD = LD
            generalize (offs Ls).map PyData.int = LO
            simp
          · dsimp only [dD]
            generalize Ls.map pD = LL
            generalize Ls.map (fun kv => PyData.dict (kvD kv)) = LD
            generalize (offs Ls).map PyData.int = LO
            generalize DR.gv ts o = G at *
            generalize kvD ts = K at *
            simp [hg]
          · show some (PyData.int (DR.gv ts o)) = some (.int (gvT o (dD ts)))
            rw [gvT_d]
          · generalize Ls.map pD = LL
            generalize Ls.map dD = LD
            generalize (offs Ls).map PyData.int = LO
            simp
      have ev : (Ls.map dD).map (fun x => PyData.int (gvT o x)) = (vals Ls o).map PyData.int := by
        unfold vals
        rw [List.map_map, List.map_map]
        apply List.map_congr_left
        intro ts _
        show PyData.int (gvT o (dD ts)) = PyData.int (DR.gv ts o)
        rw [gvT_d]
      rw [ev, List.nil_append] at ci
      obtain ⟨kt, _, _, _⟩ := together_s hm (rs := vals Ls o) (by unfold vals; rw [List.length_map]; exact hl) fun i p r e1 e2 => by
        unfold vals at e2
        rw [List.getElem?_map] at e2
        obtain ⟨ts, e3, e4⟩ := Option.map_eq_some_iff.mp e2
        subst e4
        have hp2 := pr_in hm p (List.mem_of_getElem? e1)
        exact (hp i p ts e1 e3).gv (by omega) o
      refine ⟨[some (.d (.int m)), some (.d (.list (Ls.map pD))), some (.d (.list (Ls.map dD))), some (.d (.list ((offs Ls).map PyData.int))), none, none, some (.d (.int o)), none, none, none], .d (.tuple [.int o, .int (tog m (vals Ls o))]), ?_, ?_, rfl, ?_⟩
      · generalize Ls.map pD = LL
        generalize Ls.map dD = LD
        generalize (offs Ls).map PyData.int = LO
        simp
      · have lD' : (Ls.map dD).length ≤ 16777216 := by rw [List.length_map]; omega
        generalize Ls.map pD = LL at *
        generalize Ls.map dD = LD at *
        generalize (offs Ls).map PyData.int = LO at *
        generalize tog m (vals Ls o) = TT at *
        generalize (vals Ls o).map PyData.int = VV at *
        simp [lD', ci, kt]
      · generalize Ls.map pD = LL
        generalize Ls.map dD = LD
        generalize (offs Ls).map PyData.int = LO
        simp
  rw [List.nil_append] at c3
  obtain ⟨PV, hPV⟩ : ∃ PV, PV = ((offs Ls).map PyData.int).map (pairT m Ls) := ⟨_, rfl⟩
  have c4 := comp_map (vs := [6, 9]) (tg := .t [(.n 6), (.n 9)]) (t := mTr (m2 cNe (mV 9) (mC (.int 0)))) (e := mTup [(mV 6), (mV 9)]) (ρ := [some (.d (.int m)), some (.d (.list (Ls.map pD))), some (.d (.list (Ls.map dD))), some (.d (.list ((offs Ls).map PyData.int))), some (.d (.list PV)), none, none, none, none, none])
    (c := nzT2) (y := fun x => x) (xs := PV) (acc := []) fun x hx => by
      rw [hPV] at hx
      obtain ⟨y, hy, rfl⟩ := List.mem_map.mp hx
      obtain ⟨o, ho, rfl⟩ := List.mem_map.mp hy
      refine ⟨[some (.d (.int m)), some (.d (.list (Ls.map pD))), some (.d (.list (Ls.map dD))), some (.d (.list ((offs Ls).map PyData.int))), some (.d (.list PV)), none, some (.d (.int o)), none, none, some (.d (.int (tog m (vals Ls o))))], [some (.d (.int m)), some (.d (.list (Ls.map pD))), some (.d (.list (Ls.map dD))), some (.d (.list ((offs Ls).map PyData.int))), some (.d (.list PV)), none, some (.d (.int o)), none, none, some (.d (.int (tog m (vals Ls o))))], [some (.d (.int m)), some (.d (.list (Ls.map pD))), some (.d (.list (Ls.map dD))), some (.d (.list ((offs Ls).map PyData.int))), some (.d (.list PV)), none, some (.d (.int o)), none, none, some (.d (.int (tog m (vals Ls o))))], ?_, ?_, fun _ => ?_, fun _ => ⟨.d (pairT m Ls (.int o)), ?_, rfl, ?_⟩⟩
      all_goals generalize Ls.map pD = LL
      all_goals generalize Ls.map dD = LD
      all_goals generalize (offs Ls).map PyData.int = LO
      · simp [pairT]
      · show _ = Out.ok (!(tog m (vals Ls o) == 0)) _
        simp
      · simp
      · simp [pairT]
      · simp
  rw [hPV, fin_D, List.nil_append, ← hPV] at c4
  rw [← hPV] at c3
  have l1 : (Ls.map pD).length ≤ 16777216 := by rw [List.length_map]; omega
  have l3 : ((offs Ls).map PyData.int).length ≤ 16777216 := by rw [List.length_map]; omega
  have l4 : PV.length ≤ 16777216 := by rw [hPV, List.length_map]; exact l3
  dsimp only [rD]
  generalize (wsOf m Ls).map tp = WW at *
  generalize Ls.map pD = LL at *
  generalize Ls.map dD = LD at *
  generalize (offs Ls).map PyData.int = LO at *
  clear hPV
  simp [f_from_parts, b_from_parts, l1, c1, c2', l3, c3, l4, c4]
theorem emod_of' {m : Int} {a b : Int} (h : m ∣ a - b) : a % m = b % m := Int.emod_eq_emod_iff_emod_sub_eq_zero.mpr (Int.emod_eq_zero_of_dvd h)
/-- what the parts tell together -/
theorem parts_can {m : Nat} (hm : m ∈ tenN) {Ls : List DR.L} (hl : Ls.length = (prL m).length) (hp : ∀ (i p : Nat) (ts : DR.L), (prL m)[i]? = some p → Ls[i]? = some ts → Part p ts) {g : Int → Int}
    (hg : ∀ (i p : Nat) (ts : DR.L), (prL m)[i]? = some p → Ls[i]? = some ts → ∀ q, (p : Int) ∣ DR.S ts q - g q) : DR.Can m g (wsOf m Ls) := by
  have hm2 := ten_le hm
  have tg : ∀ o, 0 ≤ tog m (vals Ls o) ∧ tog m (vals Ls o) < m ∧ (m : Int) ∣ tog m (vals Ls o) - g o := fun o => by
    obtain ⟨_, t1, t2, t3⟩ := together_s hm (rs := vals Ls o) (by unfold vals; rw [List.length_map]; exact hl) fun i p r e1 e2 => by
      unfold vals at e2
      rw [List.getElem?_map] at e2
      obtain ⟨ts, e3, e4⟩ := Option.map_eq_some_iff.mp e2
      subst e4
      have hp2 := pr_in hm p (List.mem_of_getElem? e1)
      exact (hp i p ts e1 e3).gv (by omega) o
    refine ⟨t1, t2, crt_dvd hm fun p hpm => ?_⟩
    obtain ⟨i, hi, rfl⟩ := List.getElem_of_mem hpm
    have e1 : (prL m)[i]? = some (prL m)[i] := List.getElem?_eq_getElem hi
    have e3 : Ls[i]? = some (Ls[i]'(by omega)) := List.getElem?_eq_getElem (by omega)
    have h1 := t3 i _ (DR.gv (Ls[i]'(by omega)) o) e1 (by unfold vals; rw [List.getElem?_map, e3] <;> rfl)
    have h2 := hg i _ _ e1 e3 o
    rw [DR.S_gv (hp i _ _ e1 e3).dc] at h2
    exact DR.dvd_tr h1 h2
  have key : ∀ os : List Int, os.Pairwise (· < ·) → ((os.filter fun o => !(tog m (vals Ls o) == 0)).map fun o => (o, tog m (vals Ls o))).Pairwise (fun a b => a.1 < b.1) ∧
      ∀ q, DR.S ((os.filter fun o => !(tog m (vals Ls o) == 0)).map fun o => (o, tog m (vals Ls o))) q = if q ∈ os then tog m (vals Ls q) else 0 := by
    intro os
    induction os with
    | nil => exact fun _ => ⟨.nil, fun q => rfl⟩
    | cons o os ih =>
      intro h
      obtain ⟨h1, h2⟩ := List.pairwise_cons.mp h
      obtain ⟨i1, i2⟩ := ih h2
      by_cases z : tog m (vals Ls o) = 0
      · rw [List.filter_cons_of_neg (by simp [z])]
        refine ⟨i1, fun q => ?_⟩
        rw [i2]
        by_cases e : q = o
        · subst e
          rw [if_neg fun w => by have := h1 q w; omega, if_pos List.mem_cons_self, z]
        · by_cases w : q ∈ os
          · rw [if_pos w, if_pos (List.mem_cons_of_mem _ w)]
          · rw [if_neg w, if_neg fun v => (List.mem_cons.mp v).elim e w]
      · rw [List.filter_cons_of_pos (by simp [z]), List.map_cons]
        refine ⟨List.pairwise_cons.mpr ⟨fun x hx => ?_, i1⟩, fun q => ?_⟩
        · obtain ⟨y, hy, rfl⟩ := List.mem_map.mp hx
          exact h1 y (List.mem_filter.mp hy).1
        · rw [DR.S_cons, i2]
          by_cases e : o = q
          · subst e
            rw [if_pos rfl, if_neg fun w => by have := h1 o w; omega, if_pos List.mem_cons_self]
            omega
          · rw [if_neg e]
            by_cases w : q ∈ os
            · rw [if_pos w, if_pos (List.mem_cons_of_mem _ w)]; omega
            · rw [if_neg w, if_neg fun v => (List.mem_cons.mp v).elim (fun z => e z.symm) w]; rfl
  obtain ⟨k1, k2⟩ := key (offs Ls) (sortU_asc _)
  refine ⟨k1, fun t ht => ?_, fun q => ?_⟩
  · unfold wsOf at ht
    obtain ⟨o, ho, rfl⟩ := List.mem_map.mp ht
    have h1 := (List.mem_filter.mp ho).2
    have h2 : tog m (vals Ls o) ≠ 0 := by simpa using h1
    have := tg o
    exact ⟨by show 1 ≤ tog m (vals Ls o); omega, this.2.1⟩
  · have e : DR.S (wsOf m Ls) q = if q ∈ offs Ls then tog m (vals Ls q) else 0 := k2 q
    rw [e]
    obtain ⟨t1, t2, t3⟩ := tg q
    by_cases w : q ∈ offs Ls
    · rw [if_pos w]
      have := emod_of' t3
      rw [← this, Int.emod_eq_of_lt t1 t2]
    · rw [if_neg w]
      have : (m : Int) ∣ g q := crt_dvd hm fun p hpm => by
        obtain ⟨i, hi, rfl⟩ := List.getElem_of_mem hpm
        have e1 : (prL m)[i]? = some (prL m)[i] := List.getElem?_eq_getElem hi
        have e3 : Ls[i]? = some (Ls[i]'(by omega)) := List.getElem?_eq_getElem (by omega)
        have h2 := hg i _ _ e1 e3 q
        rw [DR.S_out fun x hx zz => w ((sortU_mem _).mpr (List.mem_flatMap.mpr ⟨_, List.getElem_mem (by omega), List.mem_map.mpr ⟨x, hx, zz⟩⟩))] at h2
        have := Int.dvd_neg.mpr h2
        rw [show -(0 - g q) = g q by omega] at this
        exact this
      exact (Int.emod_eq_zero_of_dvd this).symm
end K01
end

section
set_option autoImplicit false
set_option maxRecDepth 100000
set_option linter.all false
namespace K01
open PySem PySem.Spec L2 MP
theorem beh_nil : ∀ xs : DR.L, DR.behindP xs [] = []
  | [] => rfl
  | x :: xs => by
    have := beh_nil xs
    unfold DR.behindP at this ⊢
    rw [List.flatMap_cons, this] <;> rfl
theorem pw_nil (m : Int) {k : Nat} (hk : 1 ≤ k) : DR.Eqv m [] (DR.pw [] k) := by
  cases k with
  | zero => omega
  | succ k =>
    show DR.Eqv m [] (DR.behindP (DR.pw [] k) [])
    rw [beh_nil]
    exact .refl _ _
/-- a prime's part -/
structure PPart (p w k : Nat) (ts L : DR.L) : Prop where
  part : Part p L
  eqv : DR.Eqv p L (DR.pw ts k)
  near : ∀ t ∈ L, t.1.natAbs ≤ w * k
theorem part_s {m : Nat} {ts : DR.L} (hR : Rl m ts) {w k p : Nat} (hk1 : 1 ≤ k) (hk : k ≤ 40) (hwk : w * k ≤ 195) (hn : ∀ t ∈ ts, t.1.natAbs ≤ w) (hp : 2 ≤ p ∧ p ≤ 13) (acc : List DR.L) (ha : acc.length ≤ 10) (q4 : Option SV) (h4 : OptD q4) :
    ∃ (L : DR.L) (r4 : Option SV), lb_power_0 [some (.d (rD m ts)), some (.d (.int k)), some (.own (.lst (acc.map pD))), some (.d (.int p)), q4] = .next [some (.d (rD m ts)), some (.d (.int k)), some (.own (.lst ((acc ++ [L]).map pD))), some (.d (.int p)), r4] ∧ PPart p w k ts L ∧ OptD r4 := by
  have hw : w ≤ w * k := Nat.le_mul_of_pos_right w hk1
  have gl : ∀ x : D, gApp (.lst (acc.map pD)) x = some (.lst (acc.map pD ++ [x]), .none) := fun x => gApp_l (by rw [List.length_map]; omega)
  have ea : ∀ L : DR.L, acc.map pD ++ [pD L] = (acc ++ [L]).map pD := fun L => by rw [List.map_append] <;> rfl
  rcases of_terms_s (p := p) (by omega) hR.le hR.asc (2 * w + 1) (by omega) (fun a ha b hb => by have := hn a ha; have := hn b hb; omega) with ⟨k1, k2⟩ | ⟨low, c, k1, k2, k3, k4, k5, a, ha', b, hb', k6, k7⟩
  · refine ⟨[], some (.d .none), ?_, ⟨⟨(fun t ht => nomatch ht), .nil, by simp⟩, (pw_nil p hk1).trans (DR.pw_congr k2 k), (fun t ht => nomatch ht)⟩, .inr ⟨_, rfl⟩⟩
    have e := ea []
    have g := gl (pD [])
    have pn : pD [] = .tuple [] := rfl
    rw [pn] at g e
    rw [← e]
    dsimp only [rD] at *
    generalize acc.map pD = A at *
    generalize ts.map tp = T at *
    rcases h4 with rfl | ⟨_, rfl⟩ <;> simp [lb_power_0, k1, g]
  · have na := hn a ha'
    have nb := hn b hb'
    have cl : c.length - 1 ≤ 2 * w := by omega
    have cb : (c.length - 1) * k ≤ 2 * (w * k) := by
      rw [← Nat.mul_assoc]
      exact Nat.mul_le_mul_right k cl
    obtain ⟨f, j1, j2, j3, j4⟩ := raised_s (p := p) (by omega) (by omega) k2 k (by omega) (by omega)
    have fl : f.length ≤ 1000 := by omega
    have j5 := to_terms_s (low * k) f fl
    have mu : bMulI (.int low) (.int k) = some (.d (.int (low * k))) := mul_r (by omega)
    refine ⟨termsOf (low * k) f, some (.d (.tuple [.int low, lD c])), ?_, ⟨⟨fun t ht => ?_, terms_lt f _, Nat.le_trans (terms_len f _) fl⟩, ?_, fun t ht => ?_⟩, .inr ⟨_, rfl⟩⟩
    · have e := ea (termsOf (low * k) f)
      have g := gl (pD (termsOf (low * k) f))
      rw [e] at g
      dsimp only [rD, pD, lD] at *
      generalize (acc ++ [termsOf (low * k) f]).map (fun ts => PyData.tuple (ts.map tp)) = A2 at *
      generalize acc.map (fun ts => PyData.tuple (ts.map tp)) = A at *
      generalize (termsOf (low * k) f).map tp = TT at *
      generalize ts.map tp = T at *
      generalize c.map PyData.int = C at *
      generalize f.map PyData.int = FF at *
      rcases h4 with rfl | ⟨_, rfl⟩ <;> simp [lb_power_0, k1, mu, j1, j5, g]
    · exact terms_pair f _ j2 t ht
    · have e1 : DR.Eqv p (termsOf (low * k) f) (DR.pl (low * k) f) := .of fun q => terms_S f _ q
      have e2 := DR.pl_sh (p : Int) (low * k) f
      have e3 : DR.Eqv p (DR.behindP (DR.sh (low * k)) (DR.pl 0 f)) (DR.behindP (DR.pw (DR.sh low) k) (DR.pw (DR.pl 0 c) k)) := (DR.pw_sh (p : Int) low k).symm.behind j4
      have e4 := (DR.pw_behind (p : Int) (DR.sh low) (DR.pl 0 c) k).symm
      have e5 := DR.pw_congr ((DR.pl_sh (p : Int) low c).symm.trans k5) k
      exact e1.trans (e2.trans (e3.trans (e4.trans e5)))
    · obtain ⟨h1, h2⟩ := terms_in f (low * k) t ht
      have kk : (0 : Int) ≤ k := by omega
      have lo1 : -((w : Int) * k) ≤ low * k := by
        rw [← Int.neg_mul]
        exact Int.mul_le_mul_of_nonneg_right (by omega) kk
      have hi1 : b.1 * k ≤ (w : Int) * k := Int.mul_le_mul_of_nonneg_right (by omega) kk
      have hi2 : low * k + ((c.length - 1 : Nat) : Int) * k = b.1 * k := by
        rw [← Int.add_mul]
        congr 1
        omega
      have cb2 : (((c.length - 1) * k : Nat) : Int) = ((c.length - 1 : Nat) : Int) * k := Int.natCast_mul _ _
      have wk2 : ((w * k : Nat) : Int) = (w : Int) * k := Int.natCast_mul _ _
      omega
theorem pow_loop {m : Nat} {ts : DR.L} (hR : Rl m ts) {w k : Nat} (hk1 : 1 ≤ k) (hk : k ≤ 40) (hwk : w * k ≤ 195) (hn : ∀ t ∈ ts, t.1.natAbs ≤ w) : ∀ (ps : List Nat) (acc : List DR.L) (q3 q4 : Option SV), (∀ p ∈ ps, 2 ≤ p ∧ p ≤ 13) → acc.length + ps.length ≤ 10 → OptD q3 → OptD q4 →
    ∃ (Ls : List DR.L) (r3 r4 : Option SV), forGo (.n 3) lb_power_0 (ps.map fun (p : Nat) => PyData.int p) [some (.d (rD m ts)), some (.d (.int k)), some (.own (.lst (acc.map pD))), q3, q4] = .next [some (.d (rD m ts)), some (.d (.int k)), some (.own (.lst ((acc ++ Ls).map pD))), r3, r4] ∧ Ls.length = ps.length ∧
      ∀ (i p : Nat) (L : DR.L), ps[i]? = some p → Ls[i]? = some L → PPart p w k ts L
  | [], acc, q3, q4, _, _, _, _ => ⟨[], q3, q4, by rw [List.append_nil] <;> rfl, rfl, fun i p L h => by simp at h⟩
  | p :: ps, acc, q3, q4, hp, hl, h3, h4 => by
    rw [List.length_cons] at hl
    obtain ⟨L, r4, b1, b2, b3⟩ := part_s hR hk1 hk hwk hn (hp p List.mem_cons_self) acc (by omega) q4 h4
    obtain ⟨Ls, r3, r4', ih, l1, l2⟩ := pow_loop hR hk1 hk hwk hn ps (acc ++ [L]) (some (.d (.int p))) r4 (fun x hx => hp x (List.mem_cons_of_mem _ hx)) (by rw [List.length_append, List.length_singleton]; omega) (.inr ⟨_, rfl⟩) b3
    refine ⟨L :: Ls, r3, r4', ?_, by rw [List.length_cons, List.length_cons, l1], fun i q M e1 e2 => ?_⟩
    · have t1 : tgSet (.n 3) (.int p) [some (.d (rD m ts)), some (.d (.int k)), some (.own (.lst (acc.map pD))), q3, q4] = some [some (.d (rD m ts)), some (.d (.int k)), some (.own (.lst (acc.map pD))), some (.d (.int p)), q4] := by
        generalize acc.map pD = A
        rcases h3 with rfl | ⟨_, rfl⟩ <;> simp
      rw [List.map_cons, forGo_next t1 b1, ih, List.append_assoc]
      rfl
    · cases i with
      | zero =>
        have e1 : p = q := Option.some.inj e1
        have e2 : L = M := Option.some.inj e2
        subst e1 e2
        exact b2
      | succ i => exact l2 i q M (by simpa using e1) (by simpa using e2)
theorem need_number_s {k : Nat} (hk : k ≤ 40) : f_need_number [.d (.int k), .d (.int 0), .d (.int 40)] = .ok (.d .none) [] := by
  have h1 : ¬ (k : Int) < 0 := by omega
  have h2 : ¬ (40 : Int) < k := by omega
  simp [f_need_number, b_need_number, h1, h2]
theorem one_can {m : Nat} (hm : 2 ≤ m) : DR.Can m (DR.S [(0, 1)]) [(0, 1)] := by
  refine ⟨by simp, fun t ht => ?_, fun p => ?_⟩
  · rw [List.mem_singleton.mp ht]
    exact ⟨by show (1 : Int) ≤ 1; omega, by show (1 : Int) < m; omega⟩
  · rw [DR.S_cons, DR.S_nil]
    show (if (0 : Int) = p then 1 else 0) + (0 : Int) = _
    split
    · rw [Int.emod_eq_of_lt (by omega) (by omega)]
    · rw [Int.emod_eq_of_lt (by omega) (by omega)]
/-- terms near 0 -/
theorem near_len {ts : DR.L} (h : ts.Pairwise fun a b => a.1 < b.1) {w : Nat} (hn : ∀ t ∈ ts, t.1.natAbs ≤ w) : ts.length ≤ 2 * w + 1 := by
  have p : (ts.map (·.1)).Pairwise (· < ·) := List.pairwise_map.mpr h
  have := DR.asc_win _ (-(w : Int)) w p fun x hx => by
    obtain ⟨e, he, rfl⟩ := List.mem_map.mp hx
    have := hn e he
    omega
  rw [List.length_map] at this
  omega
theorem power_s {m : Nat} (hm : m ∈ tenN) {ts : DR.L} (hR : Rl m ts) {w k : Nat} (hk : k ≤ 40) (hwk : w * k ≤ 195) (hn : ∀ t ∈ ts, t.1.natAbs ≤ w) :
    ∃ ws : DR.L, f_power [.d (rD m ts), .d (.int k)] = .ok (.d (rD m ws)) [] ∧ DR.Can m (DR.S (DR.pw ts k)) ws ∧ (∀ t ∈ ws, t.1.natAbs ≤ w * k) := by
  have hm2 := ten_le hm
  have nr := need_rule_s hm hR
  have nn := need_number_s hk
  by_cases h0 : k = 0
  · subst h0
    refine ⟨[(0, 1)], ?_, one_can (by omega), fun t ht => by rw [List.mem_singleton.mp ht]; exact Nat.zero_le _⟩
    have ptp : rD m [((0 : Int), (1 : Int))] = .tuple [.int m, .tuple [.tuple [.int 0, .int 1]]] := rfl
    rw [ptp]
    have nn' : f_need_number [.d (.int 0), .d (.int 0), .d (.int 40)] = .ok (.d .none) [] := nn
    dsimp only [rD] at *
    generalize ts.map tp = T at *
    show f_power [_, .d (.int 0)] = _
    simp [f_power, b_power, nr, nn']
  · obtain ⟨Ls, r3, r4, e1, e2, e3⟩ := pow_loop hR (w := w) (k := k) (by omega) hk hwk hn (prL m) [] none none (pr_in hm) (by have := pr_len hm; simp; omega) (.inl rfl) (.inl rfl)
    rw [List.nil_append] at e1
    have hp := fun (i p : Nat) (L : DR.L) (a : (prL m)[i]? = some p) (b : Ls[i]? = some L) => (e3 i p L a b).part
    have k1 := from_parts_s hm e2 hp
    have k2 := parts_can hm (g := DR.S (DR.pw ts k)) e2 hp fun i p L a b q => (e3 i p L a b).eqv q
    refine ⟨wsOf m Ls, ?_, k2, fun t ht => ?_⟩
    · have pi := primes_in_s hm
      have k0 : ¬ (k : Int) = 0 := by omega
      have e1' : forGo (.n 3) lb_power_0 ((prL m).map fun (p : Nat) => PyData.int p) [some (.d (rD m ts)), some (.d (.int k)), some (.own (.lst [])), none, none] = .next [some (.d (rD m ts)), some (.d (.int k)), some (.own (.lst (Ls.map pD))), r3, r4] := e1
      dsimp only [rD] at *
      generalize (wsOf m Ls).map tp = WW at *
      generalize Ls.map pD = LL at *
      generalize ts.map tp = T at *
      generalize (prL m).map (fun (p : Nat) => PyData.int p) = PL at *
      simp [f_power, b_power, nr, nn, k0, h0, pi, e1', frz, frz1, k1]
    · unfold wsOf at ht
      obtain ⟨o, ho, rfl⟩ := List.mem_map.mp ht
      have h1 := (sortU_mem _).mp (List.mem_filter.mp ho).1
      obtain ⟨L, hL, h2⟩ := List.mem_flatMap.mp h1
      obtain ⟨t, ht, rfl⟩ := List.mem_map.mp h2
      obtain ⟨i, hi, rfl⟩ := List.getElem_of_mem hL
      exact (e3 i _ _ (List.getElem?_eq_getElem (by omega)) (List.getElem?_eq_getElem hi)).near t ht
end K01
end

section
set_option autoImplicit false
set_option maxRecDepth 100000
set_option linter.all false
namespace K01
open PySem PySem.Spec L2 MP
theorem Can.congr {m : Nat} {f g : Int → Int} {ts : DR.L} (h : DR.Can m f ts) (e : ∀ q, (m : Int) ∣ f q - g q) : DR.Can m g ts := ⟨h.asc, h.fac, fun p => by rw [h.val, emod_of' (e p)]⟩
theorem tidy_s {m : Nat} (hm : m ∈ tenN) {kv : DR.L} (hd : DR.Dc kv) (hl : kv.length ≤ 100000) :
    ∃ ts : DR.L, f__law_tidy [.d (dD kv), .d (.int m)] = .ok (.d (.tuple (ts.map tp))) [] ∧ DR.Can m (DR.gv kv) ts ∧ ∀ t ∈ ts, ∃ e ∈ kv, e.1 = t.1 := by
  have hm2 := ten_le hm
  obtain ⟨ks, hks⟩ : ∃ ks, ks = sortI (kv.map (·.1)) := ⟨_, rfl⟩
  have hp : ks.Perm (kv.map (·.1)) := by rw [hks]; exact sort_perm _
  have hs : ks.Pairwise (· ≤ ·) := by rw [hks]; exact sort_asc _
  have hcan := DR.can_of (m := m) (by omega) hd hp hs
  have hsort := sort_kv kv
  rw [← hks] at hsort
  have hkl : ks.length = kv.length := by rw [hp.length_eq, List.length_map]
  have hc := comp_map (vs := [2]) (tg := .n 2) (t := mTr (m2 cNe (m2 bMod (mB gInt [(m2 bIdxD (mV 0) (mV 2))]) (mV 1)) (mC (.int 0)))) (e := mTup [(mV 2), (m2 bMod (mB gInt [(m2 bIdxD (mV 0) (mV 2))]) (mV 1))]) (ρ := [some (.d (dD kv)), some (.d (.int m)), none])
    (c := nzT m kv) (y := cellT m kv) (xs := ks.map PyData.int) (acc := []) fun z hz => by
      obtain ⟨p, hp2, rfl⟩ := List.mem_map.mp hz
      obtain ⟨e, he, hpe⟩ := List.mem_map.mp (hp.mem_iff.mp hp2)
      have hi := idx_kv (DR.has_iff.mpr ⟨e, he, hpe⟩)
      have hmd : bMod (.int (DR.gv kv p)) (.int m) = some (.d (.int (DR.gv kv p % (m : Int)))) := mod_p (by omega)
      refine ⟨[some (.d (dD kv)), some (.d (.int m)), some (.d (.int p))], [some (.d (dD kv)), some (.d (.int m)), some (.d (.int p))], [some (.d (dD kv)), some (.d (.int m)), some (.d (.int p))], by simp, ?_, fun _ => by simp, fun _ => ⟨.d (tp (p, DR.gv kv p % (m : Int))), ?_, rfl, by simp⟩⟩
      · show _ = Out.ok (!(DR.gv kv p % (m : Int) == 0)) _
        dsimp only [dD] at *
        generalize DR.gv kv p = G at hi hmd
        generalize kvD kv = K at hi
        simp [hi, hmd]
      · dsimp only [dD] at *
        generalize DR.gv kv p = G at hi hmd
        generalize kvD kv = K at hi
        simp [hi, hmd, tp]
  rw [can_D, List.nil_append] at hc
  refine ⟨DR.canL m kv ks, ?_, hcan, fun t ht => ?_⟩
  · have lk : (ks.map PyData.int).length ≤ 16777216 := by rw [List.length_map]; omega
    dsimp only [dD] at *
    generalize (DR.canL m kv ks).map tp = C at hc
    generalize ks.map PyData.int = KS at *
    generalize kvD kv = K at *
    simp [f__law_tidy, b__law_tidy, hsort, lk, hc]
  · obtain ⟨e, he, hpe⟩ := List.mem_map.mp (hp.mem_iff.mp (DR.can_mem ht))
    exact ⟨e, he, hpe⟩
def FacT (us : DR.L) : Prop := ∀ t ∈ us, 0 ≤ t.2 ∧ t.2 < 1000
theorem prod_in (a0 a1 a2 : Option SV) (o f : Int) (hf : 0 ≤ f ∧ f < 1000) : ∀ (us kv : DR.L) (q6 q7 : Option SV), FacT us → DR.Dc kv → kv.length + us.length ≤ 100000 → OptD q6 → OptD q7 →
    ∃ (kv' : DR.L) (r6 r7 : Option SV), forGo (.t [(.n 6), (.n 7)]) lb__law_product_0 (us.map tp) [a0, a1, a2, some (.own (.dct (kvD kv))), some (.d (.int o)), some (.d (.int f)), q6, q7] = .next [a0, a1, a2, some (.own (.dct (kvD kv'))), some (.d (.int o)), some (.d (.int f)), r6, r7] ∧ DR.Dc kv' ∧
      (∀ q, DR.S kv' q = DR.S kv q + DR.S (DR.behindP [(o, f)] us) q) ∧ (∀ e ∈ kv', (∃ x ∈ kv, x.1 = e.1) ∨ ∃ u ∈ us, o + u.1 = e.1) ∧ kv'.length ≤ kv.length + us.length ∧ OptD r6 ∧ OptD r7
  | [], kv, q6, q7, _, hd, _, h6, h7 => ⟨kv, q6, q7, rfl, hd, fun q => by
    have : DR.S (DR.behindP [(o, f)] []) q = 0 := rfl
    rw [this, Int.add_zero], fun e he => .inl ⟨e, he, rfl⟩, Nat.le_refl _, h6, h7⟩
  | u :: us, kv, q6, q7, hu, hd, hl, h6, h7 => by
    rw [List.length_cons] at hl
    have hlen := DR.put_len kv (o + u.1) (DR.gv kv (o + u.1) + f * u.2)
    obtain ⟨kv', r6, r7, e1, e2, e3, e4, e5, e6, e7⟩ := prod_in a0 a1 a2 o f hf us (DR.put kv (o + u.1) (DR.gv kv (o + u.1) + f * u.2)) (some (.d (.int u.1))) (some (.d (.int u.2))) (fun t ht => hu t (List.mem_cons_of_mem _ ht)) (DR.put_dc hd _ _) (by omega) (.inr ⟨_, rfl⟩) (.inr ⟨_, rfl⟩)
    refine ⟨kv', r6, r7, ?_, e2, fun q => ?_, fun e he => ?_, by rw [List.length_cons]; omega, e6, e7⟩
    · have t1 : tgSet (.t [(.n 6), (.n 7)]) (tp u) [a0, a1, a2, some (.own (.dct (kvD kv))), some (.d (.int o)), some (.d (.int f)), q6, q7] = some [a0, a1, a2, some (.own (.dct (kvD kv))), some (.d (.int o)), some (.d (.int f)), some (.d (.int u.1)), some (.d (.int u.2))] := by
        rcases h6 with rfl | ⟨_, rfl⟩ <;> rcases h7 with rfl | ⟨_, rfl⟩ <;> simp [tp]
      have g1 := getD_kv kv (o + u.1)
      have mm : bMulI (.int f) (.int u.2) = some (.d (.int (f * u.2))) := mul_small hf.1 (by omega)
      have g2 := item_kv (ρ := [a0, a1, a2, some (.own (.dct (kvD kv))), some (.d (.int o)), some (.d (.int f)), some (.d (.int u.1)), some (.d (.int u.2))]) (i := 3) (o + u.1) (DR.gv kv (o + u.1) + f * u.2) rfl (by omega)
      have b1 : lb__law_product_0 [a0, a1, a2, some (.own (.dct (kvD kv))), some (.d (.int o)), some (.d (.int f)), some (.d (.int u.1)), some (.d (.int u.2))] = .next [a0, a1, a2, some (.own (.dct (kvD (DR.put kv (o + u.1) (DR.gv kv (o + u.1) + f * u.2))))), some (.d (.int o)), some (.d (.int f)), some (.d (.int u.1)), some (.d (.int u.2))] := by
        generalize kvD (DR.put kv (o + u.1) (DR.gv kv (o + u.1) + f * u.2)) = K2 at g2
        generalize kvD kv = K1 at g1 g2
        generalize DR.gv kv (o + u.1) = G at g1 g2
        simp [lb__law_product_0, g1, mm, g2]
      rw [List.map_cons, forGo_next t1 b1]
      exact e1
    · rw [e3, one_beh, DR.S_gv (DR.put_dc hd _ _), DR.gv_put, DR.S_gv hd]
      by_cases z : q = o + u.1
      · rw [if_pos z, if_pos z.symm, z]
        omega
      · rw [if_neg z, if_neg fun y => z y.symm]
        omega
    · rcases e4 e he with ⟨x, hx, hxe⟩ | ⟨x, hx, hxe⟩
      · rcases DR.put_mem hx with rfl | hx
        · exact .inr ⟨u, List.mem_cons_self, hxe⟩
        · exact .inl ⟨x, hx, hxe⟩
      · exact .inr ⟨x, List.mem_cons_of_mem _ hx, hxe⟩
theorem prod_out (a0 a2 : Option SV) {us : DR.L} (hu : FacT us) (hul : us.length ≤ 400) : ∀ (ts kv : DR.L) (q4 q5 q6 q7 : Option SV), FacT ts → DR.Dc kv → kv.length + ts.length * us.length ≤ 100000 → OptD q4 → OptD q5 → OptD q6 → OptD q7 →
    ∃ (kv' : DR.L) (r4 r5 r6 r7 : Option SV), forGo (.t [(.n 4), (.n 5)]) lb__law_product_1 (ts.map tp) [a0, some (.d (.tuple (us.map tp))), a2, some (.own (.dct (kvD kv))), q4, q5, q6, q7] = .next [a0, some (.d (.tuple (us.map tp))), a2, some (.own (.dct (kvD kv'))), r4, r5, r6, r7] ∧ DR.Dc kv' ∧
      (∀ q, DR.S kv' q = DR.S kv q + DR.S (DR.behindP ts us) q) ∧ (∀ e ∈ kv', (∃ x ∈ kv, x.1 = e.1) ∨ ∃ t ∈ ts, ∃ u ∈ us, t.1 + u.1 = e.1) ∧ kv'.length ≤ kv.length + ts.length * us.length
  | [], kv, q4, q5, q6, q7, _, hd, _, _, _, _, _ => ⟨kv, q4, q5, q6, q7, rfl, hd, fun q => by
    have : DR.S (DR.behindP [] us) q = 0 := rfl
    rw [this, Int.add_zero], fun e he => .inl ⟨e, he, rfl⟩, Nat.le_add_right _ _⟩
  | t :: ts, kv, q4, q5, q6, q7, ht, hd, hl, h4, h5, h6, h7 => by
    rw [List.length_cons, Nat.succ_mul] at hl
    obtain ⟨k1, r6, r7, a1, a3, a4, a5, a6, o6, o7⟩ := prod_in a0 (some (.d (.tuple (us.map tp)))) a2 t.1 t.2 (ht t List.mem_cons_self) us kv q6 q7 hu hd (by omega) h6 h7
    obtain ⟨kv', s4, s5, s6, s7, b1, b2, b3, b4, b5⟩ := prod_out a0 a2 hu hul ts k1 (some (.d (.int t.1))) (some (.d (.int t.2))) r6 r7 (fun x hx => ht x (List.mem_cons_of_mem _ hx)) a3 (by omega) (.inr ⟨_, rfl⟩) (.inr ⟨_, rfl⟩) o6 o7
    refine ⟨kv', s4, s5, s6, s7, ?_, b2, fun q => ?_, fun e he => ?_, by rw [List.length_cons, Nat.succ_mul]; omega⟩
    · have t1 : tgSet (.t [(.n 4), (.n 5)]) (tp t) [a0, some (.d (.tuple (us.map tp))), a2, some (.own (.dct (kvD kv))), q4, q5, q6, q7] = some [a0, some (.d (.tuple (us.map tp))), a2, some (.own (.dct (kvD kv))), some (.d (.int t.1)), some (.d (.int t.2)), q6, q7] := by
        rcases h4 with rfl | ⟨_, rfl⟩ <;> rcases h5 with rfl | ⟨_, rfl⟩ <;> simp [tp]
      have c1 : lb__law_product_1 [a0, some (.d (.tuple (us.map tp))), a2, some (.own (.dct (kvD kv))), some (.d (.int t.1)), some (.d (.int t.2)), q6, q7] = .next [a0, some (.d (.tuple (us.map tp))), a2, some (.own (.dct (kvD k1))), some (.d (.int t.1)), some (.d (.int t.2)), r6, r7] := by
        generalize us.map tp = U at *
        generalize kvD kv = K1 at *
        generalize kvD k1 = K2 at *
        simp [lb__law_product_1, a1]
      rw [List.map_cons, forGo_next t1 c1]
      exact b1
    · have e1 : DR.behindP (t :: ts) us = DR.behindP [(t.1, t.2)] us ++ DR.behindP ts us := by
        unfold DR.behindP
        simp
      rw [b3, a4, e1, DR.S_app]
      omega
    · rcases b4 e he with ⟨x, hx, hxe⟩ | ⟨x, hx, u, hu', hxe⟩
      · rcases a5 x hx with ⟨y, hy, hye⟩ | ⟨u, hu', hue⟩
        · exact .inl ⟨y, hy, hye.trans hxe⟩
        · exact .inr ⟨t, List.mem_cons_self, u, hu', hue.trans hxe⟩
      · exact .inr ⟨x, List.mem_cons_of_mem _ hx, u, hu', hxe⟩
theorem product_s {m : Nat} (hm : m ∈ tenN) {ts us : DR.L} (ht : FacT ts) (hu : FacT us) (htl : ts.length ≤ 400) (hul : us.length ≤ 200) :
    ∃ ws : DR.L, f__law_product [.d (.tuple (ts.map tp)), .d (.tuple (us.map tp)), .d (.int m)] = .ok (.d (.tuple (ws.map tp))) [] ∧ DR.Can m (DR.S (DR.behindP ts us)) ws ∧ ∀ t ∈ ws, ∃ a ∈ ts, ∃ b ∈ us, t.1 = a.1 + b.1 := by
  have hb : ts.length * us.length ≤ 400 * 200 := Nat.mul_le_mul htl hul
  obtain ⟨kv, r4, r5, r6, r7, e1, e2, e3, e4, e5⟩ := prod_out (some (.d (.tuple (ts.map tp)))) (some (.d (.int m))) hu (by omega) ts [] none none none none ht ⟨List.nodup_nil⟩ (by simp; omega) (.inl rfl) (.inl rfl) (.inl rfl) (.inl rfl)
  rw [List.length_nil, Nat.zero_add] at e5
  obtain ⟨ws, k1, k2, k3⟩ := tidy_s hm e2 (by omega)
  refine ⟨ws, ?_, Can.congr k2 fun q => ?_, fun t h => ?_⟩
  · have e1' : forGo (.t [(.n 4), (.n 5)]) lb__law_product_1 (ts.map tp) [some (.d (.tuple (ts.map tp))), some (.d (.tuple (us.map tp))), some (.d (.int m)), some (.own (.dct [])), none, none, none, none] = .next [some (.d (.tuple (ts.map tp))), some (.d (.tuple (us.map tp))), some (.d (.int m)), some (.own (.dct (kvD kv))), r4, r5, r6, r7] := e1
    dsimp only [dD] at *
    generalize ws.map tp = W at *
    generalize kvD kv = K at *
    generalize ts.map tp = T at *
    generalize us.map tp = U at *
    simp [f__law_product, b__law_product, e1', frz, frz1, k1]
  · rw [← DR.S_gv e2, e3, DR.S_nil, Int.zero_add, Int.sub_self]
    exact Int.dvd_zero _
  · obtain ⟨e, he, hee⟩ := k3 t h
    rcases e4 e he with ⟨_, hx, _⟩ | ⟨a, ha, b, hb', hab⟩
    · cases hx
    · exact ⟨a, ha, b, hb', by rw [← hee, hab]⟩
theorem can_fac {m : Nat} (hm : m ∈ tenN) {f : Int → Int} {ts : DR.L} (h : DR.Can m f ts) : FacT ts := fun t ht => by
  have := h.fac t ht
  have := ten_le hm
  omega
theorem law_power_s {m : Nat} (hm : m ∈ tenN) {ts : DR.L} (hf : FacT ts) (htl : ts.length ≤ 200) {w k : Nat} (hk : k ≤ 100) (hwk : w * k ≤ 195) (hn : ∀ t ∈ ts, t.1.natAbs ≤ w) :
    ∃ ws : DR.L, f__law_power [.d (.tuple (ts.map tp)), .d (.int k), .d (.int m)] = .ok (.d (.tuple (ws.map tp))) [] ∧ DR.Can m (DR.S (DR.pw ts k)) ws ∧ ∀ t ∈ ws, t.1.natAbs ≤ w * k := by
  have hm2 := ten_le hm
  obtain ⟨ρ', e1, ws, q4, rfl, k2, k3, _⟩ := for_at (tg := .n 4) (b := lb__law_power_0) (J := fun i ρ => ∃ (ws : DR.L) (q4 : Option SV), ρ = [some (.d (.tuple (ts.map tp))), some (.d (.int k)), some (.d (.int m)), some (.d (.tuple (ws.map tp))), q4] ∧ DR.Can m (DR.S (DR.pw ts i)) ws ∧ (∀ t ∈ ws, t.1.natAbs ≤ w * i) ∧ OptD q4)
    (intsD 0 k) 0 [some (.d (.tuple (ts.map tp))), some (.d (.int k)), some (.d (.int m)), some (.d (.tuple (([(0, 1)] : DR.L).map tp))), none] ⟨[(0, 1)], none, rfl, one_can (by omega), (fun t ht => by rw [List.mem_singleton.mp ht]; exact Nat.zero_le _), .inl rfl⟩ fun i x ρ hx hJ => by
      rw [Nat.zero_add] at hJ ⊢
      obtain ⟨ws, q4, rfl, h1, h2, h4⟩ := hJ
      have hik : i < k := by
        have := (List.getElem?_eq_some_iff.mp hx).1
        rw [intsD_len] at this
        exact this
      have hle : w * i ≤ w * k := Nat.mul_le_mul_left w (by omega)
      have hl := near_len h1.asc h2
      obtain ⟨vs, c1, c2, c3⟩ := product_s hm (can_fac hm h1) hf (by omega) htl
      refine ⟨[some (.d (.tuple (ts.map tp))), some (.d (.int k)), some (.d (.int m)), some (.d (.tuple (ws.map tp))), some (.d x)], [some (.d (.tuple (ts.map tp))), some (.d (.int k)), some (.d (.int m)), some (.d (.tuple (vs.map tp))), some (.d x)], ?_, ?_, vs, some (.d x), rfl, Can.congr c2 fun q => ?_, fun t ht => ?_, .inr ⟨_, rfl⟩⟩
      · generalize ts.map tp = T
        generalize ws.map tp = W
        rcases h4 with rfl | ⟨_, rfl⟩ <;> simp
      · generalize ts.map tp = T at *
        generalize ws.map tp = W at *
        generalize vs.map tp = V at *
        simp [lb__law_power_0, c1]
      · exact (DR.Eqv.behind (m := m) h1.cong (.refl _ ts)) q
      · obtain ⟨a, ha, b, hb, hab⟩ := c3 t ht
        have := h2 a ha
        have := hn b hb
        rw [Nat.mul_succ]
        omega
  rw [intsD_len, Nat.zero_add] at k2 k3
  refine ⟨ws, ?_, k2, k3⟩
  have rq := range1_nat (q := k) (by omega)
  have ptp : (([((0 : Int), (1 : Int))] : DR.L).map tp) = [.tuple [.int 0, .int 1]] := rfl
  rw [ptp] at e1
  generalize ws.map tp = W at *
  generalize ts.map tp = T at *
  simp [f__law_power, b__law_power, rq, e1]
/-! the sum -/
theorem sum_loop (a0 a1 a2 : Option SV) : ∀ (ps kv : DR.L) (q4 q5 : Option SV), DR.Dc kv → kv.length + ps.length ≤ 100000 → OptD q4 → OptD q5 →
    ∃ (kv' : DR.L) (r4 r5 : Option SV), forGo (.t [(.n 4), (.n 5)]) lb__law_sum_0 (ps.map tp) [a0, a1, a2, some (.own (.dct (kvD kv))), q4, q5] = .next [a0, a1, a2, some (.own (.dct (kvD kv'))), r4, r5] ∧ DR.Dc kv' ∧ (∀ p, DR.S kv' p = DR.S kv p + DR.S ps p) ∧ kv'.length ≤ kv.length + ps.length
  | [], kv, q4, q5, hk, _, _, _ => ⟨kv, q4, q5, rfl, hk, fun p => by rw [DR.S_nil, Int.add_zero], Nat.le_refl _⟩
  | t :: ps, kv, q4, q5, hk, hl, h4, h5 => by
    rw [List.length_cons] at hl
    have hk' := DR.put_dc hk t.1 (DR.gv kv t.1 + t.2)
    have hlen := DR.put_len kv t.1 (DR.gv kv t.1 + t.2)
    obtain ⟨kv', r4, r5, e1, e2, e3, e5⟩ := sum_loop a0 a1 a2 ps (DR.put kv t.1 (DR.gv kv t.1 + t.2)) (some (.d (.int t.1))) (some (.d (.int t.2))) hk' (by omega) (.inr ⟨_, rfl⟩) (.inr ⟨_, rfl⟩)
    refine ⟨kv', r4, r5, ?_, e2, fun p => ?_, by rw [List.length_cons]; omega⟩
    · have t1 : tgSet (.t [(.n 4), (.n 5)]) (tp t) [a0, a1, a2, some (.own (.dct (kvD kv))), q4, q5] = some [a0, a1, a2, some (.own (.dct (kvD kv))), some (.d (.int t.1)), some (.d (.int t.2))] := by
        rcases h4 with rfl | ⟨_, rfl⟩ <;> rcases h5 with rfl | ⟨_, rfl⟩ <;> simp [tp]
      have g1 := getD_kv kv t.1
      have b1 : lb__law_sum_0 [a0, a1, a2, some (.own (.dct (kvD kv))), some (.d (.int t.1)), some (.d (.int t.2))] = .next [a0, a1, a2, some (.own (.dct (kvD (DR.put kv t.1 (DR.gv kv t.1 + t.2))))), some (.d (.int t.1)), some (.d (.int t.2))] := by
        have g2 := item_kv (ρ := [a0, a1, a2, some (.own (.dct (kvD kv))), some (.d (.int t.1)), some (.d (.int t.2))]) (i := 3) t.1 (DR.gv kv t.1 + t.2) rfl (by omega)
        generalize kvD (DR.put kv t.1 (DR.gv kv t.1 + t.2)) = K2 at g2
        generalize kvD kv = K1 at g1 g2
        generalize DR.gv kv t.1 = G at g1 g2
        simp [lb__law_sum_0, g1, g2]
      rw [List.map_cons, forGo_next t1 b1]
      exact e1
    · rw [e3, DR.S_gv hk', DR.gv_put, DR.S_cons, DR.S_gv hk]
      by_cases q : p = t.1
      · subst q
        rw [if_pos rfl, if_pos rfl]
        omega
      · rw [if_neg q, if_neg fun z => q z.symm]
        omega
theorem law_sum_s {m : Nat} (hm : m ∈ tenN) {ts us : DR.L} (hl : ts.length + us.length ≤ 1000) :
    ∃ ws : DR.L, f__law_sum [.d (.tuple (ts.map tp)), .d (.tuple (us.map tp)), .d (.int m)] = .ok (.d (.tuple (ws.map tp))) [] ∧ DR.Can m (DR.S (ts ++ us)) ws := by
  obtain ⟨kv, r4, r5, e1, e2, e3, e5⟩ := sum_loop (some (.d (.tuple (ts.map tp)))) (some (.d (.tuple (us.map tp)))) (some (.d (.int m))) (ts ++ us) [] none none ⟨List.nodup_nil⟩ (by simp; omega) (.inl rfl) (.inl rfl)
  rw [List.length_nil, Nat.zero_add, List.length_append] at e5
  obtain ⟨ws, k1, k2, _⟩ := tidy_s hm e2 (by omega)
  refine ⟨ws, ?_, Can.congr k2 fun q => ?_⟩
  · have e1' : forGo (.t [(.n 4), (.n 5)]) lb__law_sum_0 ((ts ++ us).map tp) [some (.d (.tuple (ts.map tp))), some (.d (.tuple (us.map tp))), some (.d (.int m)), some (.own (.dct [])), none, none] = .next [some (.d (.tuple (ts.map tp))), some (.d (.tuple (us.map tp))), some (.d (.int m)), some (.own (.dct (kvD kv))), r4, r5] := e1
    have jo := join_ok (ts := ts) (rs := us) (by omega)
    dsimp only [dD] at *
    generalize ws.map tp = W at *
    generalize kvD kv = K at *
    generalize (ts ++ us).map tp = TU at *
    generalize ts.map tp = T at *
    generalize us.map tp = U at *
    simp [f__law_sum, b__law_sum, jo, e1', frz, frz1, k1]
  · rw [← DR.S_gv e2, e3, DR.S_nil, Int.zero_add, Int.sub_self]
    exact Int.dvd_zero _
end K01
end

section
set_option autoImplicit false
set_option maxRecDepth 100000
set_option linter.all false
namespace K01
open PySem PySem.Spec L2 MP
theorem repr_n {m : Nat} (hm : m ∈ tenN) {ts : DR.L} (h : Rl m ts) {w : Nat} (hw : w ≤ 195) (hn : ∀ t ∈ ts, t.1.natAbs ≤ w) : gReprW [rD m ts] = some (.d (.str (rD m ts).shown)) := by
  have hm2 := ten_le hm
  have hl := near_len h.asc hn
  have f1 : ∀ x ∈ ts.map tp, Fine 2 1 x := fun x hx => by
    obtain ⟨t, ht, rfl⟩ := List.mem_map.mp hx
    have h1 := h.fac t ht
    have h2 := hn t ht
    exact (fine_tuple (n := 2) (b := 0) (d := 0) (fun y hy => by
      simp only [List.mem_cons, List.not_mem_nil, or_false] at hy
      rcases hy with rfl | rfl
      · exact fine_small (Nat.lt_trans (show t.1.natAbs < 1000 by omega) (by decide))
      · exact fine_small (Nat.lt_trans (show t.2.natAbs < 1000 by omega) (by decide))) (by simp)).mono (by omega) (by omega)
  have f2 : Fine 1200 2 (.tuple (ts.map tp)) := (fine_tuple (n := 400) f1 (by rw [List.length_map]; omega)).mono (by omega) (by omega)
  have f3 : Fine 3000 3 (rD m ts) := (fine_tuple (n := 2) (b := 1200) (d := 2) (fun y hy => by
    simp only [List.mem_cons, List.not_mem_nil, or_false] at hy
    rcases hy with rfl | rfl
    · exact (fine_small (Nat.lt_trans (show ((m : Nat) : Int).natAbs < 1000 by omega) (by decide))).mono (by omega) (by omega)
    · exact f2) (by simp)).mono (by omega) (by omega)
  exact reprW_ok (f3.repW (by omega) (by omega))
/-- a rule near 0 -/
structure Ru (m w : Nat) (ts : DR.L) : Prop where
  rl : Rl m ts
  near : ∀ t ∈ ts, t.1.natAbs ≤ w
theorem Ru.len {m w : Nat} {ts : DR.L} (h : Ru m w ts) : ts.length ≤ 2 * w + 1 := near_len h.rl.asc h.near
theorem Ru.fac {m w : Nat} (hm : m ∈ tenN) {ts : DR.L} (h : Ru m w ts) : FacT ts := fun t ht => by
  have := h.rl.fac t ht
  have := ten_le hm
  omega
theorem ru_can {m w : Nat} {f : Int → Int} {ts : DR.L} (h : DR.Can m f ts) (hw : w ≤ 1000) (hn : ∀ t ∈ ts, t.1.natAbs ≤ w) : Ru m w ts := ⟨⟨by have := near_len h.asc hn; omega, h.fac, h.asc⟩, hn⟩
theorem two_right_s {m : Nat} (hm : m ∈ tenN) {as bs : DR.L} {wa wb : Nat} (ha : Ru m wa as) (hb : Ru m wb bs) (hwa : wa ≤ 90) (hwb : wb ≤ 90) (hl : as.length * bs.length ≤ 5000) : f__law_two_right [.d (rD m as), .d (rD m bs)] = .ok (.d (.bool true)) [] := by
  have la := ha.len
  have lb := hb.len
  obtain ⟨p1, k1, k2, k3⟩ := product_s hm (ha.fac hm) (hb.fac hm) (by omega) (by omega)
  obtain ⟨p2, j1, j2, j3, j4⟩ := behind_s hm ha.rl hb.rl hl
  obtain ⟨p3, i1, i2, i3, i4⟩ := behind_s hm hb.rl ha.rl (by rw [Nat.mul_comm]; exact hl)
  have e2 : p2 = p1 := j2.unique k2 fun q => by rw [Int.sub_self]; exact Int.dvd_zero _
  have e3 : p3 = p1 := i2.unique k2 fun q => (DR.behind_comm m bs as) q
  rw [e2] at j1
  rw [e3] at i1
  obtain ⟨s1, a1, a2⟩ := law_sum_s hm (ts := as) (us := bs) (by omega)
  obtain ⟨s2, b1, b2, b3, b4⟩ := plus_s hm ha.rl hb.rl (by omega)
  obtain ⟨s3, c1, c2, c3, c4⟩ := plus_s hm hb.rl ha.rl (by omega)
  have e4 : s2 = s1 := b2.unique a2 fun q => by rw [Int.sub_self]; exact Int.dvd_zero _
  have e5 : s3 = s1 := c2.unique a2 fun q => by
    rw [DR.S_app, DR.S_app, Int.add_comm, Int.sub_self]
    exact Int.dvd_zero _
  rw [e4] at b1
  rw [e5] at c1
  rw [e4] at b3
  have np : ∀ t ∈ p1, t.1.natAbs ≤ wa + wb := fun t ht => by
    obtain ⟨a, ha', b, hb', hab⟩ := k3 t ht
    have := ha.near a ha'
    have := hb.near b hb'
    omega
  have ns : ∀ t ∈ s1, t.1.natAbs ≤ 90 := fun t ht => by
    obtain ⟨e, he, hee⟩ := b3 t ht
    rcases List.mem_append.mp he with he | he
    · have := ha.near e he; omega
    · have := hb.near e he; omega
  have r1 := repr_n hm (ru_can k2 (by omega) np).rl (by omega) np
  have r2 := repr_n hm (ru_can a2 (by omega) ns).rl (by omega) ns
  have y1 := eqv_str_refl (rD m p1).shown
  have y2 := eqv_str_refl (rD m s1).shown
  generalize (rD m p1).shown = Z1 at *
  generalize (rD m s1).shown = Z2 at *
  dsimp only [rD] at *
  generalize p1.map tp = P2 at *
  generalize s1.map tp = S2 at *
  generalize as.map tp = A at *
  generalize bs.map tp = B at *
  simp [f__law_two_right, b__law_two_right, k1, r1, j1, i1, y1, a1, r2, b1, c1, y2]
theorem need_modulus_s {m : Nat} (hm : m ∈ tenN) : f_need_modulus [.d (.int m)] = .ok (.d .none) [] := by
  have h1 : f_is_modulus [.d (.int m)] = .ok (.d (.bool (isMod (.int m)))) [] := is_modulus_s _
  have h2 : isMod (.int m) = true := by
    have : ∀ p ∈ tenN, isMod (.int (p : Int)) = true := by decide
    exact this m hm
  rw [h2] at h1
  simp [f_need_modulus, b_need_modulus, h1]
theorem pr_same {m : Nat} (hm : m ∈ tenN) : (prL m).map (fun (p : Nat) => PyData.int p) = (primesOf m).map PyData.int := by
  unfold tenN at hm
  simp only [List.mem_cons, List.not_mem_nil, or_false] at hm
  rcases hm with rfl | rfl | rfl | rfl | rfl | rfl | rfl | rfl | rfl | rfl <;> rfl
theorem pr_small {m : Nat} (hm : m ∈ tenN) : (primesOf m).length ≤ 6 ∧ ∀ z ∈ primesOf m, z.natAbs < 1000 := by
  have : ∀ m ∈ tenN, (primesOf m).length ≤ 6 ∧ ∀ z ∈ primesOf m, z.natAbs < 1000 := by decide
  exact this m hm
theorem small_right_s {m : Nat} (hm : m ∈ tenN) : f__law_small_right [.d (.int m)] = .ok (.d (.bool true)) [] := by
  have hm2 := ten_le hm
  have k1 := primes_in_s hm
  rw [pr_same hm] at k1
  have k2 := need_modulus_s hm
  have k3 := primes_s (m := m) hm
  have k4 := still_s hm
  obtain ⟨pl1, pl2⟩ := pr_small hm
  have ptp : rD m [((0 : Int), (1 : Int))] = .tuple [.int m, .tuple [.tuple [.int 0, .int 1]]] := rfl
  have r1 := repr_n hm (rl_still hm) (w := 0) (by omega) (fun t ht => by rw [List.mem_singleton.mp ht]; exact Nat.zero_le _)
  have y1 := eqv_str_refl (rD m [((0 : Int), (1 : Int))]).shown
  have fl : Fine 100 1 (.list ((primesOf m).map PyData.int)) := (fine_list (n := 6) (b := 0) (d := 0) (fun x hx => by
    obtain ⟨z, hz, rfl⟩ := List.mem_map.mp hx
    exact fine_small (Nat.lt_trans (pl2 z hz) (by decide))) (by rw [List.length_map]; exact pl1)).mono (by omega) (by omega)
  have r2 := reprW_ok (fl.repW (by omega) (by omega))
  have y2 := eqv_str_refl (PyData.shown (.list ((primesOf m).map PyData.int)))
  have g := gApp_l (xs := (primesOf m).map PyData.int) (x := .int 4) (by rw [List.length_map]; omega)
  generalize (rD m [((0 : Int), (1 : Int))]).shown = Z1 at *
  generalize (PyData.shown (.list ((primesOf m).map PyData.int))) = Z2 at *
  rw [ptp] at k4 r1
  have k5 : f_primes_of [.d (.int m)] = .ok (.own (.lst ((primesOf m).map PyData.int))) [] := by
    generalize (primesOf m).map PyData.int = P at *
    simp [f_primes_of, b_primes_of, k2, k1]
  generalize (primesOf m).map PyData.int = P at *
  simp [f__law_small_right, b__law_small_right, k5, k3, r2, k4, r1, y1, y2, g]
theorem pow_ru {m : Nat} (hm : m ∈ tenN) {ts : DR.L} {w k : Nat} (h : Ru m w ts) (hw : w ≤ 90) (hk : k ≤ 40) (hwk : w * k ≤ 195) :
    ∃ ws : DR.L, f_power [.d (rD m ts), .d (.int k)] = .ok (.d (rD m ws)) [] ∧ f__law_power [.d (.tuple (ts.map tp)), .d (.int k), .d (.int m)] = .ok (.d (.tuple (ws.map tp))) [] ∧ DR.Can m (DR.S (DR.pw ts k)) ws ∧ Ru m (w * k) ws := by
  have hl := h.len
  obtain ⟨ws, a1, a2, a3⟩ := power_s hm h.rl hk hwk h.near
  obtain ⟨vs, b1, b2, b3⟩ := law_power_s hm (h.fac hm) (by omega) (k := k) (by omega) hwk h.near
  have e : vs = ws := b2.unique a2 fun q => by rw [Int.sub_self]; exact Int.dvd_zero _
  subst e
  exact ⟨vs, a1, b1, a2, ru_can a2 (by omega) a3⟩
theorem wide_right_s {N : Nat} {l : List D} (hs : Src N l) (hN : N ≤ 900000) {m : Nat} (hm : m ∈ tenN) {as bs : DR.L} (ha : Ru m 4 as) (hb : Ru m 4 bs) :
    ∃ l' : List D, f__law_wide_right [.ref (.lst l), .d (rD m as), .d (rD m bs)] = .ok (.d (.bool true)) [.lst l'] ∧ Src (N + 4) l' := by
  obtain ⟨c, l1, p1, S1, hc⟩ := pick_c hs (by omega) 5 (by omega) (by decide)
  have p1' : f__law_pick [.ref (.lst l), .d (.int 5)] = .ok (.d (.int c)) [.lst l1] := p1
  obtain ⟨k, hk⟩ : ∃ k, k = 1 + c := ⟨_, rfl⟩
  have ek : (1 : Int) + c = (k : Nat) := by omega
  obtain ⟨ws, a1, a2, a3, a4⟩ := pow_ru hm ha (k := k) (by omega) (by omega) (by omega)
  obtain ⟨vs, b1, b2, b3, b4⟩ := pow_ru hm hb (k := k) (by omega) (by omega) (by omega)
  have wk : 4 * k ≤ 20 := by omega
  have lw := a4.len
  have lv := b4.len
  have pl : ws.length * vs.length ≤ 41 * 41 := Nat.mul_le_mul (by omega) (by omega)
  obtain ⟨fs, c1, c2, c3, c4⟩ := behind_s hm a4.rl b4.rl (by omega)
  obtain ⟨gs, d1, d2, d3⟩ := product_s hm (a4.fac hm) (b4.fac hm) (by omega) (by omega)
  have eg : gs = fs := d2.unique c2 fun q => by rw [Int.sub_self]; exact Int.dvd_zero _
  subst eg
  have nf : ∀ t ∈ gs, t.1.natAbs ≤ 40 := fun t ht => by
    obtain ⟨a, ha', b, hb', hab⟩ := d3 t ht
    have := a4.near a ha'
    have := b4.near b hb'
    omega
  have hf : Ru m 40 gs := ru_can d2 (by omega) nf
  have lf := hf.len
  have lb := hb.len
  have t1 := two_right_s hm hf hb (by omega) (by omega) (Nat.le_trans (Nat.mul_le_mul (show gs.length ≤ 81 by omega) (show bs.length ≤ 9 by omega)) (by decide))
  have t2 := two_right_s hm a4 hf (by omega) (by omega) (Nat.le_trans (Nat.mul_le_mul (show ws.length ≤ 41 by omega) (show gs.length ≤ 81 by omega)) (by decide))
  obtain ⟨qs, e1, _, e3, e4⟩ := pow_ru hm hf (k := 2) (by omega) (by omega) (by omega)
  have e1' : f_power [.d (rD m gs), .d (.int 2)] = .ok (.d (rD m qs)) [] := e1
  obtain ⟨rs, f1, f2, f3⟩ := product_s hm (hf.fac hm) (hf.fac hm) (by omega) (by omega)
  have er : rs = qs := f2.unique e3 fun q => ((DR.Eqv.behind (DR.one_behind m gs) (.refl m gs)).symm) q
  subst er
  obtain ⟨x, l2, p2, S2, hx⟩ := pick_c S1 (by omega) 9 (by omega) (by decide)
  have p2' : f__law_pick [.ref (.lst l1), .d (.int 9)] = .ok (.d (.int x)) [.lst l2] := p2
  obtain ⟨fi, hfi⟩ : ∃ fi, fi = 2 + x := ⟨_, rfl⟩
  have efi : (2 : Int) + x = (fi : Nat) := by omega
  obtain ⟨y, l3, p3, S3, hy⟩ := pick_c S2 (by omega) 3 (by omega) (by decide)
  have p3' : f__law_pick [.ref (.lst l2), .d (.int 3)] = .ok (.d (.int y)) [.lst l3] := p3
  obtain ⟨z, hz, hat⟩ : ∃ z : Nat, z ≤ 40 ∧ atD [.int 40, .int 12, .int 12] (y : Int) = some (.int z) := by
    have : y = 0 ∨ y = 1 ∨ y = 2 := by omega
    rcases this with rfl | rfl | rfl
    · exact ⟨40, by omega, by rw [atD_nat] <;> rfl⟩
    · exact ⟨12, by omega, by rw [atD_nat] <;> rfl⟩
    · exact ⟨12, by omega, by rw [atD_nat] <;> rfl⟩
  have hdv : bDiv (.int z) (.int fi) = some (.d (.int ((z / fi : Nat) : Int))) := by
    rw [div_p (by omega) (Nat.lt_of_le_of_lt (Nat.log2_le_self _) (by simp; omega))] <;> rfl
  have hzf : fi * (z / fi) ≤ 40 := Nat.le_trans (Nat.mul_div_le z fi) hz
  have hzl : z / fi ≤ z := Nat.div_le_self z fi
  obtain ⟨zf, hzfe⟩ : ∃ zf, zf = z / fi := ⟨_, rfl⟩
  rw [← hzfe] at hdv hzf hzl
  obtain ⟨u, l4, p4, S4, hu⟩ := pick_c S3 (by omega) (1 + zf) (by omega) (Nat.lt_of_le_of_lt (Nat.log2_le_self _) (by omega))
  have e1z : ((1 + zf : Nat) : Int) = 1 + (zf : Int) := by omega
  rw [e1z] at p4
  have hfu : fi * u ≤ 40 := Nat.le_trans (Nat.mul_le_mul_left fi (by omega)) hzf
  have mm : bMulI (.int fi) (.int u) = some (.d (.int ((fi * u : Nat) : Int))) := by
    rw [Int.natCast_mul]
    exact mul_small (by omega) (by omega)
  obtain ⟨hs', g1, _, g3, g4⟩ := pow_ru hm ha (k := fi) (by omega) (by omega) (by omega)
  have hw4 : 4 * fi * u ≤ 160 := by rw [Nat.mul_assoc]; omega
  have hule : u ≤ 40 := by
    have : u ≤ fi * u := Nat.le_mul_of_pos_left u (by omega)
    omega
  obtain ⟨is, h1, _, h3, h4⟩ := pow_ru hm g4 (k := u) (by omega) hule (by omega)
  obtain ⟨ks, m1, m2', m3⟩ := law_power_s hm (ha.fac hm) (by have := ha.len; omega) (w := 4) (k := fi * u) (by omega) (by omega) ha.near
  have ei : ks = is := m2'.unique h3 fun q => (((DR.pw_congr (m := m) g3.cong u).trans (DR.pw_mul m as fi u)).symm) q
  subst ei
  refine ⟨l4, ?_, S4.mono (by omega)⟩
  have r1 := repr_n hm a4.rl (by omega) a4.near
  have r2 := repr_n hm hf.rl (by omega) hf.near
  have r3 := repr_n hm e4.rl (by omega) e4.near
  have r4 := repr_n hm h4.rl (by omega) h4.near
  have y1 := eqv_str_refl (rD m ws).shown
  have y2 := eqv_str_refl (rD m gs).shown
  have y3 := eqv_str_refl (rD m rs).shown
  have y4 := eqv_str_refl (rD m ks).shown
  clear hs S1 S2 S3 S4 a3 a4 b3 b4 c2 c3 d2 d3 nf hf e3 e4 f2 f3 g3 g4 h3 h4 m2' m3 ha hb
  generalize (rD m ws).shown = Z1 at *
  generalize (rD m gs).shown = Z2 at *
  generalize (rD m rs).shown = Z3 at *
  generalize (rD m ks).shown = Z4 at *
  dsimp only [rD] at *
  generalize ws.map tp = W at *
  generalize vs.map tp = V at *
  generalize gs.map tp = G at *
  generalize rs.map tp = RS at *
  generalize ks.map tp = KS at *
  generalize hs'.map tp = HS at *
  generalize as.map tp = A at *
  generalize bs.map tp = B at *
  generalize ((fi * u : Nat) : Int) = FU at *
  clear hzfe
  generalize (zf : Int) = ZF at *
  simp [f__law_wide_right, b__law_wide_right, p1', ek, a1, a2, r1, y1, b1, b2, c1, d1, r2, y2, t1, t2, e1', f1, r3, y3, p2', efi, p3', hat, hdv, p4, mm, m1, g1, h1, r4, y4]
end K01
end

section
set_option autoImplicit false
set_option maxRecDepth 100000
set_option linter.all false
namespace K01
open PySem PySem.Spec L2 MP
theorem tr_ru {m : Nat} {ts : DR.L} (h : Terms m 4 ts) : Ru m 4 ts := ⟨⟨by have := h.le; omega, h.fac, h.asc⟩, h.near⟩
set_option maxHeartbeats 4000000 in
theorem turn_s (xs : List Int) (k : Nat) (hl : xs.length ≤ 63) (hk : k ≤ 63) (q2 q3 q4 q5 q6 q7 q8 : Option SV) (h2 : q2 = none ∨ ∃ c, q2 = some (.own c)) (h3 : OptD q3) (h4 : OptD q4) (h5 : OptD q5) (h6 : OptD q6) (h7 : OptD q7) (h8 : OptD q8) :
    ∃ (l : List D) (r3 r4 r5 r6 r7 r8 : Option SV), lb_law_0 [some (.d (.list (xs.map PyData.int))), some (.d (.int k)), q2, q3, q4, q5, q6, q7, q8] = .next [some (.d (.list (xs.map PyData.int))), some (.d (.int k)), some (.own (.lst l)), r3, r4, r5, r6, r7, r8] ∧ OptD r3 ∧ OptD r4 ∧ OptD r5 ∧ OptD r6 ∧ OptD r7 ∧ OptD r8 := by
  obtain ⟨l0, j1, S0⟩ := source_s xs k hl hk
  obtain ⟨m, l1, j2, S1, hm⟩ := modulus_s S0 (by omega)
  have hm2 := ten_le hm
  obtain ⟨many, l2, j3, S2, _⟩ := pick_c S1 (by omega) 4 (by omega) (by decide)
  have j3' : f__law_pick [.ref (.lst l1), .d (.int 4)] = .ok (.d (.int many)) [.lst l2] := j3
  obtain ⟨as, l3, j4, S3, ha⟩ := terms_s S2 (by omega) hm
  obtain ⟨bs, l4, j5, S4, hb⟩ := terms_s S3 (by omega) hm
  obtain ⟨t0, l5, j6, S5, ht0⟩ := pick_c S4 (by omega) 5 (by omega) (by decide)
  have j6' : f__law_pick [.ref (.lst l4), .d (.int 5)] = .ok (.d (.int t0)) [.lst l5] := j6
  obtain ⟨t1, l6, j7, S6, ht1⟩ := pick_c S5 (by omega) 41 (by omega) (by decide)
  have j7' : f__law_pick [.ref (.lst l5), .d (.int 41)] = .ok (.d (.int t1)) [.lst l6] := j7
  obtain ⟨t2, l7, j8, S7, ht2⟩ := pick_c S6 (by omega) 2 (by omega) (by decide)
  have j8' : f__law_pick [.ref (.lst l6), .d (.int 2)] = .ok (.d (.int t2)) [.lst l7] := j8
  obtain ⟨t3, ht3, hat⟩ : ∃ t3 : Nat, t3 ≤ 40 ∧ atD [.int 40, .int t1] (t2 : Int) = some (.int t3) := by
    have : t2 = 0 ∨ t2 = 1 := by omega
    rcases this with rfl | rfl
    · exact ⟨40, by omega, by rw [atD_nat] <;> rfl⟩
    · exact ⟨t1, by omega, by rw [atD_nat] <;> rfl⟩
  have hA := tr_ru ha
  have hB := tr_ru hb
  have la := ha.le
  have lb := hb.le
  have s1 := small_right_s hm
  have s2 := two_right_s hm hA hB (by omega) (by omega) (Nat.le_trans (Nat.mul_le_mul la lb) (by decide))
  have s3 := two_right_s hm hA hA (by omega) (by omega) (Nat.le_trans (Nat.mul_le_mul la la) (by decide))
  -- the number of times, and the source then
  obtain ⟨t, l8, S8, ht, hT⟩ : ∃ (t : Nat) (l8 : List D), Src 1000 l8 ∧ t ≤ 40 ∧ (((many : Int) = 0 ∧ (k : Int) = 0) ∧ t = t3 ∧ l8 = l7 ∨ ¬ ((many : Int) = 0 ∧ (k : Int) = 0) ∧ t = t0 ∧ l8 = l5) := by
    by_cases z : (many : Int) = 0 ∧ (k : Int) = 0
    · exact ⟨t3, l7, S7.mono (by omega), ht3, .inl ⟨z, rfl, rfl⟩⟩
    · exact ⟨t0, l5, S5.mono (by omega), by omega, .inr ⟨z, rfl, rfl⟩⟩
  obtain ⟨ws, p1, p2, _, p4⟩ := pow_ru hm hA (k := t) (by omega) ht (by omega)
  have r1 := repr_n hm p4.rl (by omega) p4.near
  have y1 := eqv_str_refl (rD m ws).shown
  obtain ⟨l9, w1, S9⟩ := wide_right_s S8 (by omega) hm hA hB
  obtain ⟨lf, hlf⟩ : ∃ lf, lf = if (k : Int) = 0 then l9 else l8 := ⟨_, rfl⟩
  refine ⟨lf, some (.d (.int m)), some (.d (.int many)), some (.d (rD m as)), some (.d (rD m bs)), some (.d (.int t)), some (.d (.str (rD m ws).shown)), ?_, .inr ⟨_, rfl⟩, .inr ⟨_, rfl⟩, .inr ⟨_, rfl⟩, .inr ⟨_, rfl⟩, .inr ⟨_, rfl⟩, .inr ⟨_, rfl⟩⟩
  clear S0 S1 S2 S3 S4 S5 S6 S7 S8 S9 ha hb hA hB p4
  generalize (rD m ws).shown = Z1 at *
  dsimp only [rD] at *
  generalize ws.map tp = W at *
  generalize as.map tp = A at *
  generalize bs.map tp = B at *
  generalize xs.map PyData.int = X at *
  have F2 : ∀ a0 a1 r, free (a0 :: a1 :: q2 :: r) 2 = true := fun a0 a1 r => free_at (p := q2) rfl (by rcases h2 with rfl | ⟨_, rfl⟩ <;> exact fun c => nofun)
  have fo : ∀ {q : Option SV} (h : OptD q) (n : Nat) (ρ r : En), ρ.length = n → free (ρ ++ q :: r) n = true := fun {q} h n ρ r e => by
    refine free_at (p := q) ?_ (by rcases h with rfl | ⟨_, rfl⟩ <;> exact fun c => nofun)
    rw [List.getElem?_append_right (by omega), e, Nat.sub_self] <;> rfl
  have F3 : ∀ a0 a1 a2 r, free (a0 :: a1 :: a2 :: q3 :: r) 3 = true := fun a0 a1 a2 r => fo h3 3 [a0, a1, a2] r rfl
  have F4 : ∀ a0 a1 a2 a3 r, free (a0 :: a1 :: a2 :: a3 :: q4 :: r) 4 = true := fun a0 a1 a2 a3 r => fo h4 4 [a0, a1, a2, a3] r rfl
  have F5 : ∀ a0 a1 a2 a3 a4 r, free (a0 :: a1 :: a2 :: a3 :: a4 :: q5 :: r) 5 = true := fun a0 a1 a2 a3 a4 r => fo h5 5 [a0, a1, a2, a3, a4] r rfl
  have F6 : ∀ a0 a1 a2 a3 a4 a5 r, free (a0 :: a1 :: a2 :: a3 :: a4 :: a5 :: q6 :: r) 6 = true := fun a0 a1 a2 a3 a4 a5 r => fo h6 6 [a0, a1, a2, a3, a4, a5] r rfl
  have F7 : ∀ a0 a1 a2 a3 a4 a5 a6 r, free (a0 :: a1 :: a2 :: a3 :: a4 :: a5 :: a6 :: q7 :: r) 7 = true := fun a0 a1 a2 a3 a4 a5 a6 r => fo h7 7 [a0, a1, a2, a3, a4, a5, a6] r rfl
  have F7b : ∀ a0 a1 a2 a3 a4 a5 a6 (x : D) r, free (a0 :: a1 :: a2 :: a3 :: a4 :: a5 :: a6 :: some (.d x) :: r) 7 = true := fun a0 a1 a2 a3 a4 a5 a6 x r => by simp
  have F8 : ∀ a0 a1 a2 a3 a4 a5 a6 a7 r, free (a0 :: a1 :: a2 :: a3 :: a4 :: a5 :: a6 :: a7 :: q8 :: r) 8 = true := fun a0 a1 a2 a3 a4 a5 a6 a7 r => fo h8 8 [a0, a1, a2, a3, a4, a5, a6, a7] r rfl
  rcases hT with ⟨⟨z1, z2⟩, rfl, rfl⟩ | ⟨z, rfl, rfl⟩
  · rw [if_pos z2] at hlf
    subst hlf
    have z2' : k = 0 := by omega
    have z1' : many = 0 := by omega
    subst z2'
    have j1' : f__law_source [.d (.list X), .d (.int 0)] = .ok (.own (.lst l0)) [] := j1
    simp [-p_free, lb_law_0, F2, F3, F4, F5, F6, F7, F7b, F8, j1', j2, j3', j4, j5, j6', j7', j8', hat, z1, z1', s1, s2, s3, p1, p2, r1, y1, w1]
  · by_cases zk : (k : Int) = 0
    · rw [if_pos zk] at hlf
      subst hlf
      have zm : ¬ (many : Int) = 0 := fun y => z ⟨y, zk⟩
      have zk' : k = 0 := by omega
      have zm' : ¬ many = 0 := by omega
      subst zk'
      have j1' : f__law_source [.d (.list X), .d (.int 0)] = .ok (.own (.lst l0)) [] := j1
      simp [-p_free, lb_law_0, F2, F3, F4, F5, F6, F7, F7b, F8, j1', j2, j3', j4, j5, j6', zm, zm', s1, s2, s3, p1, p2, r1, y1, w1]
    · rw [if_neg zk] at hlf
      subst hlf
      have zk' : ¬ k = 0 := by omega
      by_cases zm : (many : Int) = 0
      · have zm' : many = 0 := by omega
        simp [-p_free, lb_law_0, F2, F3, F4, F5, F6, F7, F7b, F8, j1, j2, j3', j4, j5, j6', zk, zm, zk', zm', s1, s2, s3, p1, p2, r1, y1]
      · have zm' : ¬ many = 0 := by omega
        simp [-p_free, lb_law_0, F2, F3, F4, F5, F6, F7, F7b, F8, j1, j2, j3', j4, j5, j6', zk, zm, zk', zm', s1, s2, s3, p1, p2, r1, y1]
theorem law_true (ns : List Int) (hl : ns.length ≤ 63) : f_law [.d (.list (ns.map PyData.int))] = .ok (.d (.bool true)) [] := by
  obtain ⟨n, hn⟩ : ∃ n : Nat, n = max 1 (min 6 ns.length) := ⟨_, rfl⟩
  have hn2 : n ≤ 6 := by omega
  obtain ⟨ρ', e1, q1, q2, q3, q4, q5, q6, q7, q8, rfl, _⟩ := for_at (tg := .n 1) (b := lb_law_0) (J := fun _ ρ => ∃ q1 q2 q3 q4 q5 q6 q7 q8, ρ = [some (.d (.list (ns.map PyData.int))), q1, q2, q3, q4, q5, q6, q7, q8] ∧ OptD q1 ∧ (q2 = none ∨ ∃ c, q2 = some (.own c)) ∧ OptD q3 ∧ OptD q4 ∧ OptD q5 ∧ OptD q6 ∧ OptD q7 ∧ OptD q8)
    (intsD 0 n) 0 [some (.d (.list (ns.map PyData.int))), none, none, none, none, none, none, none, none] ⟨none, none, none, none, none, none, none, none, rfl, .inl rfl, .inl rfl, .inl rfl, .inl rfl, .inl rfl, .inl rfl, .inl rfl, .inl rfl⟩ fun i x ρ hx hJ => by
      obtain ⟨q1, q2, q3, q4, q5, q6, q7, q8, rfl, h1, h2, h3, h4, h5, h6, h7, h8⟩ := hJ
      obtain ⟨k, hk, rfl⟩ := mem_intsD (List.mem_of_getElem? hx)
      obtain ⟨l, r3, r4, r5, r6, r7, r8, t1, o3, o4, o5, o6, o7, o8⟩ := turn_s ns k hl (by omega) q2 q3 q4 q5 q6 q7 q8 h2 h3 h4 h5 h6 h7 h8
      refine ⟨_, _, ?_, t1, _, _, r3, r4, r5, r6, r7, r8, rfl, .inr ⟨_, rfl⟩, .inr ⟨_, rfl⟩, o3, o4, o5, o6, o7, o8⟩
      generalize ns.map PyData.int = X
      rcases h1 with rfl | ⟨_, rfl⟩ <;> simp
  have hmin : gMin [.int 6, .int (ns.length : Nat)] = some (.d (.int ((min 6 ns.length : Nat) : Int))) := by
    rw [gMin_int]
    congr 3
    split <;> omega
  have hmax : gMax [.int 1, .int ((min 6 ns.length : Nat) : Int)] = some (.d (.int (n : Nat))) := by
    rw [gMax_int, hn]
    congr 3
    split <;> omega
  have rq := range1_nat (q := n) (by omega)
  have hnl : (ns.map PyData.int).length = ns.length := List.length_map ..
  generalize ((min 6 ns.length : Nat) : Int) = MI at *
  generalize ns.map PyData.int = X at *
  simp [-gMin_int, -gMax_int, f_law, b_law, hnl, hmin, hmax, rq, e1]
end K01
end

section
set_option Elab.async false
set_option linter.all false
set_option maxRecDepth 100000
set_option maxHeartbeats 4000000
set_option autoImplicit false
/-! printed by gen.py -/
namespace K01
open PySem PySem.Spec L2 MP
section
variable {w : World} {K : Fg} {mg : Str → Option Value} {base : Heap} {CA : Str → Addr} {a : Addr} {fd : FuncData}
theorem sc_is_integer : FnScope N_is_integer ["value"] (fScope st_is_integer) := C8.fnScope_by (by decide +kernel)
theorem pa_is_integer : fPars st_is_integer = (["value"] : List Str) := by with_unfolding_all rfl
theorem d_is_integer (T : Tx K mg) (B : Sys base) (h : Here K mg "is_integer" st_is_integer a fd) : Cal prog w K mg base CA 1 st_is_integer "is_integer" f_is_integer 1 := by
  have S := sc_is_integer
  refine ⟨a, fd, ?_, h⟩
  rw [pa_is_integer]
  refine fn_G h S rfl rfl fun cd Ar ou s0 H0 W hr hg => ?_
  exact (b_one (z_ret (s_and (s_isi (T := "int") T.m_isinstance T.m_int (s_v 0) (by decide +kernel) (by decide +kernel)) (s_one (s_not (s_isi (T := "bool") T.m_isinstance T.m_bool (s_v 0) (by decide +kernel) (by decide +kernel)))))))
theorem sc_is_modulus : FnScope N_is_modulus ["value"] (fScope st_is_modulus) := C8.fnScope_by (by decide +kernel)
theorem pa_is_modulus : fPars st_is_modulus = (["value"] : List Str) := by with_unfolding_all rfl
theorem d_is_modulus (T : Tx K mg) (B : Sys base) (h : Here K mg "is_modulus" st_is_modulus a fd) (c_is_integer : Cal prog w K mg base CA 1 st_is_integer "is_integer" f_is_integer 1) : Cal prog w K mg base CA 2 st_is_modulus "is_modulus" f_is_modulus 1 := by
  obtain ⟨_, t_PRIMES, g_PRIMES⟩ := T.e_PRIMES
  have S := sc_is_modulus
  refine ⟨a, fd, ?_, h⟩
  rw [pa_is_modulus]
  refine fn_G h S rfl rfl fun cd Ar ou s0 H0 W hr hg => ?_
  exact (b_one (z_ret (s_and (s_call c_is_integer hr hg pb (s_cons (s_v 0) s_nil) (fun _ _ _ _ _ _ us hl => match us, hl with | [_], _ => rfl)) (s_one (s_inT t_PRIMES.tab g_PRIMES (s_v 0))))))
theorem sc_primes_in : FnScope N_primes_in ["modulus"] (fScope st_primes_in) := C8.fnScope_by (by decide +kernel)
theorem pa_primes_in : fPars st_primes_in = (["modulus"] : List Str) := by with_unfolding_all rfl
theorem d_primes_in (T : Tx K mg) (B : Sys base) (h : Here K mg "primes_in" st_primes_in a fd) : Cal prog w K mg base CA 1 st_primes_in "primes_in" f_primes_in 1 := by
  obtain ⟨_, t_PRIMES, g_PRIMES⟩ := T.e_PRIMES
  have S := sc_primes_in
  refine ⟨a, fd, ?_, h⟩
  rw [pa_primes_in]
  refine fn_G h S rfl rfl fun cd Ar ou s0 H0 W hr hg => ?_
  exact (b_one (z_ret (s_tab t_PRIMES g_PRIMES (s_v 0))))
theorem sc_are_pairs : FnScope N_are_pairs ["value", "modulus"] (fScope st_are_pairs) := C8.fnScope_by (by decide +kernel)
theorem pa_are_pairs : fPars st_are_pairs = (["value", "modulus"] : List Str) := by with_unfolding_all rfl
theorem d_are_pairs (T : Tx K mg) (B : Sys base) (h : Here K mg "are_pairs" st_are_pairs a fd) (c_is_integer : Cal prog w K mg base CA 1 st_is_integer "is_integer" f_is_integer 1) : Cal prog w K mg base CA 2 st_are_pairs "are_pairs" f_are_pairs 2 := by
  have S := sc_are_pairs
  refine ⟨a, fd, ?_, h⟩
  rw [pa_are_pairs]
  refine fn_G h S rfl rfl fun cd Ar ou s0 H0 W hr hg => ?_
  exact (b_cons (z_if (t_not (s_tr (s_isi (T := "tuple") T.m_isinstance T.m_tuple (s_v 0) (by decide +kernel) (by decide +kernel)))) (b_one (z_ret s_bl)) b_nil)
    (b_cons (z_for po rfl (i_seq (s_v 0)) (g_n 2 S.nd) (b_cons (z_if (PW.pt (t_or (t_not (s_tr (s_isi (T := "tuple") T.m_isinstance T.m_tuple (s_v 2) (by decide +kernel) (by decide +kernel)))) (t_or (s_cmpt (op_neP (u64 hr)) og_ne bf_ne (s_b (callOr call_len_seq call_len_str) og_len T.m_len (s_cons (s_v 2) s_nil)) s_int (nomark _)) (t_or1 (t_not (s_tr (s_b (cr_all rfl) og_all T.m_all (s_cons (s_lc (own := [("part", 3)]) rfl S.nd (i_seq (s_v 2)) (blkOk_by (N := N_are_pairs) (sc := fScope st_are_pairs) (by decide +kernel)) (fun _ _ _ _ _ => (g_n 3 S.nd)) (fun _ _ _ _ _ => f_nil) (fun _ _ _ _ _ => (s_call c_is_integer hr hg (fun _ => pass00) (s_cons (s_v 3) s_nil) (fun _ _ _ _ _ _ us hl => match us, hl with | [_], _ => rfl)))) s_nil)))))))) (b_one (z_ret s_bl)) b_nil)
    (b_one (z_if (t_not (t_ch op_le og_le op_lt og_lt bf_lt s_int (s_ix ix_seq og_idx (s_v 2) s_int) (s_v 1))) (b_one (z_ret s_bl)) b_nil))))
    (b_one (z_ret (s_b (cr_all rfl) og_all T.m_all (s_cons (s_lc (own := [("at", 4)]) rfl S.nd (i_range1 T.m_range (s_bin op_sub og_sub (s_b (callOr call_len_seq call_len_str) og_len T.m_len (s_cons (s_v 0) s_nil)) s_int)) (blkOk_by (N := N_are_pairs) (sc := fScope st_are_pairs) (by decide +kernel)) (fun _ _ _ _ _ => (g_n 4 S.nd)) (fun _ _ _ _ _ => f_nil) (fun _ _ _ _ _ => (s_cmp op_lt og_lt (s_ix ix_seq og_idx (s_ix ix_seq og_idx (s_v 0) (s_v 4)) s_int) (s_ix ix_seq og_idx (s_ix ix_seq og_idx (s_v 0) (s_bin op_addA og_add (s_v 4) s_int)) s_int) (nomark _)))) s_nil))))))
theorem sc_is_of_modulus : FnScope N_is_of_modulus ["value"] (fScope st_is_of_modulus) := C8.fnScope_by (by decide +kernel)
theorem pa_is_of_modulus : fPars st_is_of_modulus = (["value"] : List Str) := by with_unfolding_all rfl
theorem d_is_of_modulus (T : Tx K mg) (B : Sys base) (h : Here K mg "is_of_modulus" st_is_of_modulus a fd) (c_is_modulus : Cal prog w K mg base CA 2 st_is_modulus "is_modulus" f_is_modulus 1) : Cal prog w K mg base CA 3 st_is_of_modulus "is_of_modulus" f_is_of_modulus 1 := by
  have S := sc_is_of_modulus
  refine ⟨a, fd, ?_, h⟩
  rw [pa_is_of_modulus]
  refine fn_G h S rfl rfl fun cd Ar ou s0 H0 W hr hg => ?_
  exact (b_one (z_ret (s_and (s_isi (T := "tuple") T.m_isinstance T.m_tuple (s_v 0) (by decide +kernel) (by decide +kernel)) (s_and (s_cmp (op_eqP (u64 hr)) og_eq (s_b (callOr call_len_seq call_len_str) og_len T.m_len (s_cons (s_v 0) s_nil)) s_int (nomark _)) (s_and (s_call c_is_modulus hr hg pb (s_cons (s_ix ix_seq og_idx (s_v 0) s_int) s_nil) (fun _ _ _ _ _ _ us hl => match us, hl with | [_], _ => rfl)) (s_one (s_isi (T := "tuple") T.m_isinstance T.m_tuple (s_ix ix_seq og_idx (s_v 0) s_int) (by decide +kernel) (by decide +kernel))))))))
theorem sc_is_a_rule : FnScope N_is_a_rule ["value"] (fScope st_is_a_rule) := C8.fnScope_by (by decide +kernel)
theorem pa_is_a_rule : fPars st_is_a_rule = (["value"] : List Str) := by with_unfolding_all rfl
theorem d_is_a_rule (T : Tx K mg) (B : Sys base) (h : Here K mg "is_a_rule" st_is_a_rule a fd) (c_are_pairs : Cal prog w K mg base CA 2 st_are_pairs "are_pairs" f_are_pairs 2) (c_is_of_modulus : Cal prog w K mg base CA 3 st_is_of_modulus "is_of_modulus" f_is_of_modulus 1) : Cal prog w K mg base CA 4 st_is_a_rule "is_a_rule" f_is_a_rule 1 := by
  have S := sc_is_a_rule
  refine ⟨a, fd, ?_, h⟩
  rw [pa_is_a_rule]
  refine fn_G h S rfl rfl fun cd Ar ou s0 H0 W hr hg => ?_
  exact (b_one (z_ret (s_and (s_call c_is_of_modulus hr hg pb (s_cons (s_v 0) s_nil) (fun _ _ _ _ _ _ us hl => match us, hl with | [_], _ => rfl)) (s_one (s_call c_are_pairs hr hg pb (s_cons (s_ix ix_seq og_idx (s_v 0) s_int) (s_cons (s_ix ix_seq og_idx (s_v 0) s_int) s_nil)) (fun _ _ _ _ _ _ us hl => match us, hl with | [_, _], _ => rfl))))))
theorem sc_need_modulus : FnScope N_need_modulus ["modulus"] (fScope st_need_modulus) := C8.fnScope_by (by decide +kernel)
theorem pa_need_modulus : fPars st_need_modulus = (["modulus"] : List Str) := by with_unfolding_all rfl
theorem d_need_modulus (T : Tx K mg) (B : Sys base) (h : Here K mg "need_modulus" st_need_modulus a fd) (c_is_modulus : Cal prog w K mg base CA 2 st_is_modulus "is_modulus" f_is_modulus 1) : Cal prog w K mg base CA 3 st_need_modulus "need_modulus" f_need_modulus 1 := by
  have S := sc_need_modulus
  refine ⟨a, fd, ?_, h⟩
  rw [pa_need_modulus]
  refine fn_G h S rfl rfl fun cd Ar ou s0 H0 W hr hg => ?_
  exact (b_one (z_if (t_not (s_tr (s_call c_is_modulus hr hg pb (s_cons (s_v 0) s_nil) (fun _ _ _ _ _ _ us hl => match us, hl with | [_], _ => rfl)))) (b_one z_never) b_nil))
theorem sc_need_rule : FnScope N_need_rule ["rule"] (fScope st_need_rule) := C8.fnScope_by (by decide +kernel)
theorem pa_need_rule : fPars st_need_rule = (["rule"] : List Str) := by with_unfolding_all rfl
theorem d_need_rule (T : Tx K mg) (B : Sys base) (h : Here K mg "need_rule" st_need_rule a fd) (c_is_a_rule : Cal prog w K mg base CA 4 st_is_a_rule "is_a_rule" f_is_a_rule 1) : Cal prog w K mg base CA 5 st_need_rule "need_rule" f_need_rule 1 := by
  have S := sc_need_rule
  refine ⟨a, fd, ?_, h⟩
  rw [pa_need_rule]
  refine fn_G h S rfl rfl fun cd Ar ou s0 H0 W hr hg => ?_
  exact (b_one (z_if (t_not (s_tr (s_call c_is_a_rule hr hg pb (s_cons (s_v 0) s_nil) (fun _ _ _ _ _ _ us hl => match us, hl with | [_], _ => rfl)))) (b_one z_never) b_nil))
theorem sc_need_same : FnScope N_need_same ["one", "other"] (fScope st_need_same) := C8.fnScope_by (by decide +kernel)
theorem pa_need_same : fPars st_need_same = (["one", "other"] : List Str) := by with_unfolding_all rfl
theorem d_need_same (T : Tx K mg) (B : Sys base) (h : Here K mg "need_same" st_need_same a fd) : Cal prog w K mg base CA 1 st_need_same "need_same" f_need_same 2 := by
  have S := sc_need_same
  refine ⟨a, fd, ?_, h⟩
  rw [pa_need_same]
  refine fn_G h S rfl rfl fun cd Ar ou s0 H0 W hr hg => ?_
  exact (b_one (z_if (s_cmpt (op_neP (u64 hr)) og_ne bf_ne (s_ix ix_seq og_idx (s_v 0) s_int) (s_ix ix_seq og_idx (s_v 1) s_int) (nomark _)) (b_one z_never) b_nil))
theorem sc_need_number : FnScope N_need_number ["number", "low", "high"] (fScope st_need_number) := C8.fnScope_by (by decide +kernel)
theorem pa_need_number : fPars st_need_number = (["number", "low", "high"] : List Str) := by with_unfolding_all rfl
theorem d_need_number (T : Tx K mg) (B : Sys base) (h : Here K mg "need_number" st_need_number a fd) : Cal prog w K mg base CA 1 st_need_number "need_number" f_need_number 3 := by
  have S := sc_need_number
  refine ⟨a, fd, ?_, h⟩
  rw [pa_need_number]
  refine fn_G h S rfl rfl fun cd Ar ou s0 H0 W hr hg => ?_
  exact (b_one (z_if (PW.pt (t_or (s_cmpt op_lt og_lt bf_lt (s_v 0) (s_v 1) (nomark _)) (t_or1 (PW.pt (t_and (s_notNt (s_v 2)) (t_and1 (s_cmpt op_gt og_gt bf_gt (s_v 0) (s_v 2) (nomark _)))))))) (b_one z_never) b_nil))
theorem sc_together : FnScope N_together ["modulus", "rests"] (fScope st_together) := C8.fnScope_by (by decide +kernel)
theorem pa_together : fPars st_together = (["modulus", "rests"] : List Str) := by with_unfolding_all rfl
theorem d_together (T : Tx K mg) (B : Sys base) (h : Here K mg "together" st_together a fd) (c_primes_in : Cal prog w K mg base CA 1 st_primes_in "primes_in" f_primes_in 1) : Cal prog w K mg base CA 2 st_together "together" f_together 2 := by
  have S := sc_together
  refine ⟨a, fd, ?_, h⟩
  rw [pa_together]
  refine fn_G h S rfl rfl fun cd Ar ou s0 H0 W hr hg => ?_
  exact (b_cons (z_set 2 false (s_call c_primes_in hr hg pb (s_cons (s_v 0) s_nil) (fun _ _ _ _ _ _ us hl => match us, hl with | [_], _ => rfl)) S.nd)
    (b_cons (z_for po rfl (i_range1 T.m_range (s_v 0)) (g_n 3 S.nd) (b_one (z_if (s_tr (s_b (cr_all rfl) og_all T.m_all (s_cons (s_lc (own := [("prime", 4), ("rest", 5)]) rfl S.nd (i_zip3 T.m_zip (s_cons (s_v 2) (s_cons (s_v 1) s_nil))) (blkOk_by (N := N_together) (sc := fScope st_together) (by decide +kernel)) (fun _ _ _ _ _ => (g_t rfl (g_cons (g_n 4 S.nd) (g_cons (g_n 5 S.nd) g_nil)))) (fun _ _ _ _ _ => f_nil) (fun _ _ _ _ _ => (s_cmp (op_eqP (u64 hr)) og_eq (s_bin op_mod og_mod (s_v 3) (s_v 4)) (s_v 5) (nomark _)))) s_nil))) (b_one (z_ret (s_v 3))) b_nil)))
    (b_one (z_ret s_int))))
theorem sc_trimmed : FnScope N_trimmed ["numbers", "prime"] (fScope st_trimmed) := C8.fnScope_by (by decide +kernel)
theorem pa_trimmed : fPars st_trimmed = (["numbers", "prime"] : List Str) := by with_unfolding_all rfl
theorem d_trimmed (T : Tx K mg) (B : Sys base) (h : Here K mg "trimmed" st_trimmed a fd) : Cal prog w K mg base CA 1 st_trimmed "trimmed" f_trimmed 2 := by
  have S := sc_trimmed
  refine ⟨a, fd, ?_, h⟩
  rw [pa_trimmed]
  refine fn_G h S rfl rfl fun cd Ar ou s0 H0 W hr hg => ?_
  exact (b_cons (z_lc 2 true (own := [("number", 3)]) rfl S.nd (i_seq (s_v 0)) (blkOk_by (N := N_trimmed) (sc := fScope st_trimmed) (by decide +kernel)) (fun _ _ _ _ _ => (g_n 3 S.nd)) (fun _ _ _ _ _ => f_nil) (fun _ _ _ _ _ => (s_bin op_mod og_mod (s_v 3) (s_v 1))) rfl)
    (b_cons (z_while fu_trimmed_0 po (PW.pt (t_and (s_cmpt op_gt og_gt bf_gt (s_b (callOr call_len_seq call_len_str) og_len T.m_len (s_cons (s_v 2) s_nil)) s_int (nomark _)) (t_and1 (s_cmpt (op_eqP (u64 hr)) og_eq bf_eq (s_ix ix_seq og_idx (s_v 2) (s_un un_neg og_neg s_int)) s_int (nomark _))))) (b_one (z_expr (s_pop 2 (s_v 2)))))
    (b_one (z_ret (s_v 2)))))
theorem sc_in_one : FnScope N_in_one ["one"] (fScope st_in_one) := C8.fnScope_by (by decide +kernel)
theorem pa_in_one : fPars st_in_one = (["one"] : List Str) := by with_unfolding_all rfl
theorem d_in_one (T : Tx K mg) (B : Sys base) (h : Here K mg "in_one" st_in_one a fd) : Cal prog w K mg base CA 1 st_in_one "in_one" f_in_one 1 := by
  obtain ⟨_, g_BITS⟩ := T.e_BITS
  have S := sc_in_one
  refine ⟨a, fd, ?_, h⟩
  rw [pa_in_one]
  refine fn_G h S rfl rfl fun cd Ar ou s0 H0 W hr hg => ?_
  exact (b_cons (z_set 1 false s_int S.nd)
    (b_cons (z_for po rfl (i_rev T.m_reversed (s_v 0)) (g_n 2 S.nd) (b_one (z_set 1 false (s_bin op_or og_bor (s_bin op_shlW og_shl (s_v 1) (s_glI g_BITS)) (s_v 2)) S.nd)))
    (b_one (z_ret (s_v 1)))))
theorem sc_times_in_one : FnScope N_times_in_one ["one", "other", "prime"] (fScope st_times_in_one) := C8.fnScope_by (by decide +kernel)
theorem pa_times_in_one : fPars st_times_in_one = (["one", "other", "prime"] : List Str) := by with_unfolding_all rfl
theorem d_times_in_one (T : Tx K mg) (B : Sys base) (h : Here K mg "times_in_one" st_times_in_one a fd) (c_in_one : Cal prog w K mg base CA 1 st_in_one "in_one" f_in_one 1) (c_trimmed : Cal prog w K mg base CA 1 st_trimmed "trimmed" f_trimmed 2) : Cal prog w K mg base CA 2 st_times_in_one "times_in_one" f_times_in_one 3 := by
  obtain ⟨_, g_BITS⟩ := T.e_BITS
  obtain ⟨_, g_MASK⟩ := T.e_MASK
  have S := sc_times_in_one
  refine ⟨a, fd, ?_, h⟩
  rw [pa_times_in_one]
  refine fn_G h S rfl rfl fun cd Ar ou s0 H0 W hr hg => ?_
  exact (b_cons (z_par2 3 4 0 1 (s_bin op_mulA og_mul (s_call c_in_one hr hg pb (s_cons (s_v 0) s_nil) (fun _ _ _ _ _ _ us hl => match us, hl with | [_], _ => rfl)) (s_call c_in_one hr hg pb (s_cons (s_v 1) s_nil) (fun _ _ _ _ _ _ us hl => match us, hl with | [_], _ => rfl))) (s_lst s_nil) rfl S.nd rfl)
    (b_cons (z_while fu_times_in_one_0 po (s_cmpt op_gt og_gt bf_gt (s_v 3) s_int (nomark _)) (b_cons (z_expr (s_app 4 (s_v 4) (s_bin op_and og_band (s_v 3) (s_glI g_MASK))))
    (b_one (z_set 3 false (s_bin op_shr og_shr (s_v 3) (s_glI g_BITS)) S.nd))))
    (b_one (z_frz [4] (z_ret (s_call c_trimmed hr hg pb (s_cons (s_v 4) (s_cons (s_v 2) s_nil)) (fun _ _ _ _ _ _ us hl => match us, hl with | [_, _], _ => rfl)))))))
theorem sc_times : FnScope N_times ["one", "other", "prime"] (fScope st_times) := C8.fnScope_by (by decide +kernel)
theorem pa_times : fPars st_times = (["one", "other", "prime"] : List Str) := by with_unfolding_all rfl
theorem d_times (T : Tx K mg) (B : Sys base) (h : Here K mg "times" st_times a fd) (c_times_in_one : Cal prog w K mg base CA 2 st_times_in_one "times_in_one" f_times_in_one 3) (c_trimmed : Cal prog w K mg base CA 1 st_trimmed "trimmed" f_trimmed 2) : Cal prog w K mg base CA 3 st_times "times" f_times 3 := by
  have S := sc_times
  refine ⟨a, fd, ?_, h⟩
  rw [pa_times]
  refine fn_G h S rfl rfl fun cd Ar ou s0 H0 W hr hg => ?_
  exact (b_cons (z_if (PW.pt (t_or (s_cmpt (op_eqP (u64 hr)) og_eq bf_eq (s_b (callOr call_len_seq call_len_str) og_len T.m_len (s_cons (s_v 0) s_nil)) s_int (nomark _)) (t_or1 (s_cmpt (op_eqP (u64 hr)) og_eq bf_eq (s_b (callOr call_len_seq call_len_str) og_len T.m_len (s_cons (s_v 1) s_nil)) s_int (nomark _))))) (b_one (z_ret (s_lst s_nil))) b_nil)
    (b_cons (z_if (s_cmpt op_gt og_gt bf_gt (s_bin op_mulA og_mul (s_b (callOr call_len_seq call_len_str) og_len T.m_len (s_cons (s_v 0) s_nil)) (s_b (callOr call_len_seq call_len_str) og_len T.m_len (s_cons (s_v 1) s_nil))) s_int (nomark _)) (b_one (z_ret (s_call c_times_in_one hr hg pb (s_cons (s_v 0) (s_cons (s_v 1) (s_cons (s_v 2) s_nil))) (fun _ _ _ _ _ _ us hl => match us, hl with | [_, _, _], _ => rfl)))) b_nil)
    (b_cons (z_set 3 true (s_rep (s_lst (s_cons s_int s_nil)) (s_bin op_sub og_sub (s_bin op_addA og_add (s_b (callOr call_len_seq call_len_str) og_len T.m_len (s_cons (s_v 0) s_nil)) (s_b (callOr call_len_seq call_len_str) og_len T.m_len (s_cons (s_v 1) s_nil))) s_int)) S.nd)
    (b_cons (z_for po rfl (i_enum T.m_enumerate (s_v 0)) (g_t rfl (g_cons (g_n 4 S.nd) (g_cons (g_n 5 S.nd) g_nil))) (b_one (z_if (s_cmpt (op_neP (u64 hr)) og_ne bf_ne (s_v 5) s_int (nomark _)) (b_one (z_for po rfl (i_enum T.m_enumerate (s_v 1)) (g_t rfl (g_cons (g_n 6 S.nd) (g_cons (g_n 7 S.nd) g_nil))) (b_one (z_augi 3 iop_add og_addI (s_v 3) (s_bin op_addA og_add (s_v 4) (s_v 6)) (s_bin op_mulA og_mul (s_v 5) (s_v 7)))))) b_nil)))
    (b_one (z_frz [3] (z_ret (s_call c_trimmed hr hg pb (s_cons (s_v 3) (s_cons (s_v 2) s_nil)) (fun _ _ _ _ _ _ us hl => match us, hl with | [_, _], _ => rfl)))))))))
theorem sc_raised : FnScope N_raised ["one", "number", "prime"] (fScope st_raised) := C8.fnScope_by (by decide +kernel)
theorem pa_raised : fPars st_raised = (["one", "number", "prime"] : List Str) := by with_unfolding_all rfl
theorem d_raised (T : Tx K mg) (B : Sys base) (h : Here K mg "raised" st_raised a fd) (c_times : Cal prog w K mg base CA 3 st_times "times" f_times 3) : Cal prog w K mg base CA 4 st_raised "raised" f_raised 3 := by
  have S := sc_raised
  refine ⟨a, fd, ?_, h⟩
  rw [pa_raised]
  refine fn_G h S rfl rfl fun cd Ar ou s0 H0 W hr hg => ?_
  exact (b_cons (z_par3 3 4 5 0 0 0 (s_lst (s_cons s_int s_nil)) (s_v 0) (s_v 1) rfl S.nd rfl)
    (b_cons (z_while fu_raised_0 po (s_cmpt op_gt og_gt bf_gt (s_v 5) s_int (nomark _)) (b_cons (z_if (s_cmpt (op_eqP (u64 hr)) og_eq bf_eq (s_bin op_mod og_mod (s_v 5) s_int) s_int (nomark _)) (b_one (z_set 3 false (s_call c_times hr hg pb (s_cons (s_v 3) (s_cons (s_v 4) (s_cons (s_v 2) s_nil))) (fun _ _ _ _ _ _ us hl => match us, hl with | [_, _, _], _ => rfl)) S.nd)) b_nil)
    (b_cons (z_set 5 false (s_bin op_fdivW og_div (s_v 5) s_int) S.nd)
    (b_one (z_if (s_cmpt op_gt og_gt bf_gt (s_v 5) s_int (nomark _)) (b_one (z_set 4 false (s_call c_times hr hg pb (s_cons (s_v 4) (s_cons (s_v 4) (s_cons (s_v 2) s_nil))) (fun _ _ _ _ _ _ us hl => match us, hl with | [_, _, _], _ => rfl)) S.nd)) b_nil)))))
    (b_one (z_ret (s_v 3)))))
theorem sc_of_terms : FnScope N_of_terms ["terms", "prime"] (fScope st_of_terms) := C8.fnScope_by (by decide +kernel)
theorem pa_of_terms : fPars st_of_terms = (["terms", "prime"] : List Str) := by with_unfolding_all rfl
theorem d_of_terms (T : Tx K mg) (B : Sys base) (h : Here K mg "of_terms" st_of_terms a fd) : Cal prog w K mg base CA 1 st_of_terms "of_terms" f_of_terms 2 := by
  have S := sc_of_terms
  refine ⟨a, fd, ?_, h⟩
  rw [pa_of_terms]
  refine fn_G h S rfl rfl fun cd Ar ou s0 H0 W hr hg => ?_
  exact (b_cons (z_lc 2 false (own := [("offset", 5), ("factor", 6)]) rfl S.nd (i_seq (s_v 0)) (blkOk_by (N := N_of_terms) (sc := fScope st_of_terms) (by decide +kernel)) (fun _ _ _ _ _ => (g_t rfl (g_cons (g_n 5 S.nd) (g_cons (g_n 6 S.nd) g_nil)))) (fun _ _ _ _ _ => (f_one (s_cmpt (op_neP (u64 hr)) og_ne bf_ne (s_bin op_mod og_mod (s_v 6) (s_v 1)) s_int (nomark _)))) (fun _ _ _ _ _ => (s_tup (s_cons (s_v 5) (s_cons (s_bin op_mod og_mod (s_v 6) (s_v 1)) s_nil)))) rfl)
    (b_cons (z_if (s_cmpt (op_eqP (u64 hr)) og_eq bf_eq (s_b (callOr call_len_seq call_len_str) og_len T.m_len (s_cons (s_v 2) s_nil)) s_int (nomark _)) (b_one (z_ret s_non)) b_nil)
    (b_cons (z_set 3 false (s_ix ix_seq og_idx (s_ix ix_seq og_idx (s_v 2) s_int) s_int) S.nd)
    (b_cons (z_set 4 true (s_rep (s_lst (s_cons s_int s_nil)) (s_bin op_addA og_add (s_bin op_sub og_sub (s_ix ix_seq og_idx (s_ix ix_seq og_idx (s_v 2) (s_un un_neg og_neg s_int)) s_int) (s_v 3)) s_int)) S.nd)
    (b_cons (z_for po rfl (i_seq (s_v 2)) (g_t rfl (g_cons (g_n 5 S.nd) (g_cons (g_n 6 S.nd) g_nil))) (b_one (z_item 4 (s_v 4) (s_bin op_sub og_sub (s_v 5) (s_v 3)) (s_v 6))))
    (b_one (z_frz [4] (z_ret (s_tup (s_cons (s_v 3) (s_cons (s_v 4) s_nil)))))))))))
theorem sc_to_terms : FnScope N_to_terms ["low", "one"] (fScope st_to_terms) := C8.fnScope_by (by decide +kernel)
theorem pa_to_terms : fPars st_to_terms = (["low", "one"] : List Str) := by with_unfolding_all rfl
theorem d_to_terms (T : Tx K mg) (B : Sys base) (h : Here K mg "to_terms" st_to_terms a fd) : Cal prog w K mg base CA 1 st_to_terms "to_terms" f_to_terms 2 := by
  have S := sc_to_terms
  refine ⟨a, fd, ?_, h⟩
  rw [pa_to_terms]
  refine fn_G h S rfl rfl fun cd Ar ou s0 H0 W hr hg => ?_
  exact (b_one (z_ret (s_ty call_tupleF og_tup T.m_tuple (s_cons (s_lc (own := [("at", 2), ("number", 3)]) rfl S.nd (i_enum T.m_enumerate (s_v 1)) (blkOk_by (N := N_to_terms) (sc := fScope st_to_terms) (by decide +kernel)) (fun _ _ _ _ _ => (g_t rfl (g_cons (g_n 2 S.nd) (g_cons (g_n 3 S.nd) g_nil)))) (fun _ _ _ _ _ => (f_one (s_cmpt (op_neP (u64 hr)) og_ne bf_ne (s_v 3) s_int (nomark _)))) (fun _ _ _ _ _ => (s_tup (s_cons (s_bin op_addA og_add (s_v 0) (s_v 2)) (s_cons (s_v 3) s_nil))))) s_nil))))
theorem sc_primes_of : FnScope N_primes_of ["modulus"] (fScope st_primes_of) := C8.fnScope_by (by decide +kernel)
theorem pa_primes_of : fPars st_primes_of = (["modulus"] : List Str) := by with_unfolding_all rfl
theorem d_primes_of (T : Tx K mg) (B : Sys base) (h : Here K mg "primes_of" st_primes_of a fd) (c_need_modulus : Cal prog w K mg base CA 3 st_need_modulus "need_modulus" f_need_modulus 1) (c_primes_in : Cal prog w K mg base CA 1 st_primes_in "primes_in" f_primes_in 1) : Cal prog w K mg base CA 4 st_primes_of "primes_of" f_primes_of 1 := by
  have S := sc_primes_of
  refine ⟨a, fd, ?_, h⟩
  rw [pa_primes_of]
  refine fn_G h S rfl rfl fun cd Ar ou s0 H0 W hr hg => ?_
  exact (b_cons (z_expr (s_call c_need_modulus hr hg pb (s_cons (s_v 0) s_nil) (fun _ _ _ _ _ _ us hl => match us, hl with | [_], _ => rfl)))
    (b_one (z_ret (s_ty call_list_of og_lst T.m_list (s_cons (s_call c_primes_in hr hg pb (s_cons (s_v 0) s_nil) (fun _ _ _ _ _ _ us hl => match us, hl with | [_], _ => rfl)) s_nil)))))
theorem sc_still : FnScope N_still ["modulus"] (fScope st_still) := C8.fnScope_by (by decide +kernel)
theorem pa_still : fPars st_still = (["modulus"] : List Str) := by with_unfolding_all rfl
theorem d_still (T : Tx K mg) (B : Sys base) (h : Here K mg "still" st_still a fd) (c_need_modulus : Cal prog w K mg base CA 3 st_need_modulus "need_modulus" f_need_modulus 1) : Cal prog w K mg base CA 4 st_still "still" f_still 1 := by
  have S := sc_still
  refine ⟨a, fd, ?_, h⟩
  rw [pa_still]
  refine fn_G h S rfl rfl fun cd Ar ou s0 H0 W hr hg => ?_
  exact (b_cons (z_expr (s_call c_need_modulus hr hg pb (s_cons (s_v 0) s_nil) (fun _ _ _ _ _ _ us hl => match us, hl with | [_], _ => rfl)))
    (b_one (z_ret (s_tup (s_cons (s_v 0) (s_cons (s_tup (s_cons (s_tup (s_cons s_int (s_cons s_int s_nil))) s_nil)) s_nil))))))
theorem sc_collected : FnScope N_collected ["pairs", "modulus"] (fScope st_collected) := C8.fnScope_by (by decide +kernel)
theorem pa_collected : fPars st_collected = (["pairs", "modulus"] : List Str) := by with_unfolding_all rfl
theorem d_collected (T : Tx K mg) (B : Sys base) (h : Here K mg "collected" st_collected a fd) : Cal prog w K mg base CA 1 st_collected "collected" f_collected 2 := by
  have S := sc_collected
  refine ⟨a, fd, ?_, h⟩
  rw [pa_collected]
  refine fn_G h S rfl rfl fun cd Ar ou s0 H0 W hr hg => ?_
  exact (b_cons (z_set 2 true s_d0 S.nd)
    (b_cons (z_for po rfl (i_seq (s_v 0)) (g_t rfl (g_cons (g_n 3 S.nd) (g_cons (g_n 4 S.nd) g_nil))) (b_one (z_ditem 2 (s_v 2) (s_v 3) (s_bin op_addA og_add (s_get (s_v 2) (s_v 3) s_int (u65 hr)) (s_v 4)) (u65 hr))))
    (b_one (z_ret (s_ty call_tupleF og_tup T.m_tuple (s_cons (s_lc (own := [("place", 3)]) rfl S.nd (i_seq (s_b (callOr cr_sortedI (cr_sortDI rfl)) og_sortD T.m_sorted (s_cons (s_v 2) s_nil))) (blkOk_by (N := N_collected) (sc := fScope st_collected) (by decide +kernel)) (fun _ _ _ _ _ => (g_n 3 S.nd)) (fun _ _ _ _ _ => (f_one (s_cmpt (op_neP (u64 hr)) og_ne bf_ne (s_bin op_mod og_mod (s_ix (ixOr ix_seq (ix_dict (u65 hr))) (og_idxD og_idx) (s_v 2) (s_v 3)) (s_v 1)) s_int (nomark _)))) (fun _ _ _ _ _ => (s_tup (s_cons (s_v 3) (s_cons (s_bin op_mod og_mod (s_ix (ixOr ix_seq (ix_dict (u65 hr))) (og_idxD og_idx) (s_v 2) (s_v 3)) (s_v 1)) s_nil))))) s_nil))))))
theorem sc_plus : FnScope N_plus ["one", "other"] (fScope st_plus) := C8.fnScope_by (by decide +kernel)
theorem pa_plus : fPars st_plus = (["one", "other"] : List Str) := by with_unfolding_all rfl
theorem d_plus (T : Tx K mg) (B : Sys base) (h : Here K mg "plus" st_plus a fd) (c_collected : Cal prog w K mg base CA 1 st_collected "collected" f_collected 2) (c_need_rule : Cal prog w K mg base CA 5 st_need_rule "need_rule" f_need_rule 1) (c_need_same : Cal prog w K mg base CA 1 st_need_same "need_same" f_need_same 2) : Cal prog w K mg base CA 6 st_plus "plus" f_plus 2 := by
  have S := sc_plus
  refine ⟨a, fd, ?_, h⟩
  rw [pa_plus]
  refine fn_G h S rfl rfl fun cd Ar ou s0 H0 W hr hg => ?_
  exact (b_cons (z_expr (s_call c_need_rule hr hg pb (s_cons (s_v 0) s_nil) (fun _ _ _ _ _ _ us hl => match us, hl with | [_], _ => rfl)))
    (b_cons (z_expr (s_call c_need_rule hr hg pb (s_cons (s_v 1) s_nil) (fun _ _ _ _ _ _ us hl => match us, hl with | [_], _ => rfl)))
    (b_cons (z_expr (s_call c_need_same hr hg pb (s_cons (s_v 0) (s_cons (s_v 1) s_nil)) (fun _ _ _ _ _ _ us hl => match us, hl with | [_, _], _ => rfl)))
    (b_one (z_ret (s_tup (s_cons (s_ix ix_seq og_idx (s_v 0) s_int) (s_cons (s_call c_collected hr hg pb (s_cons (s_bin op_addA og_add (s_ix ix_seq og_idx (s_v 0) s_int) (s_ix ix_seq og_idx (s_v 1) s_int)) (s_cons (s_ix ix_seq og_idx (s_v 0) s_int) s_nil)) (fun _ _ _ _ _ _ us hl => match us, hl with | [_, _], _ => rfl)) s_nil))))))))
theorem sc_behind : FnScope N_behind ["one", "other"] (fScope st_behind) := C8.fnScope_by (by decide +kernel)
theorem pa_behind : fPars st_behind = (["one", "other"] : List Str) := by with_unfolding_all rfl
theorem d_behind (T : Tx K mg) (B : Sys base) (h : Here K mg "behind" st_behind a fd) (c_collected : Cal prog w K mg base CA 1 st_collected "collected" f_collected 2) (c_need_rule : Cal prog w K mg base CA 5 st_need_rule "need_rule" f_need_rule 1) (c_need_same : Cal prog w K mg base CA 1 st_need_same "need_same" f_need_same 2) : Cal prog w K mg base CA 6 st_behind "behind" f_behind 2 := by
  have S := sc_behind
  refine ⟨a, fd, ?_, h⟩
  rw [pa_behind]
  refine fn_G h S rfl rfl fun cd Ar ou s0 H0 W hr hg => ?_
  exact (b_cons (z_expr (s_call c_need_rule hr hg pb (s_cons (s_v 0) s_nil) (fun _ _ _ _ _ _ us hl => match us, hl with | [_], _ => rfl)))
    (b_cons (z_expr (s_call c_need_rule hr hg pb (s_cons (s_v 1) s_nil) (fun _ _ _ _ _ _ us hl => match us, hl with | [_], _ => rfl)))
    (b_cons (z_expr (s_call c_need_same hr hg pb (s_cons (s_v 0) (s_cons (s_v 1) s_nil)) (fun _ _ _ _ _ _ us hl => match us, hl with | [_, _], _ => rfl)))
    (b_cons (z_lc2 2 false (own := [("offset", 3), ("factor", 4), ("further", 5), ("number", 6)]) [5, 6] rfl S.nd (i_seq (s_ix ix_seq og_idx (s_v 0) s_int)) (blkOk_by (N := N_behind) (sc := fScope st_behind) (by decide +kernel)) (by decide) (fun _ _ _ _ _ => (g_t rfl (g_cons (g_n 3 S.nd) (g_cons (g_n 4 S.nd) g_nil)))) (fun _ _ _ _ _ => f_nil) (fun _ _ _ _ _ => (i_seq (s_ix ix_seq og_idx (s_v 1) s_int))) (fun _ _ _ _ _ => (g_t rfl (g_cons (g_n 5 S.nd) (g_cons (g_n 6 S.nd) g_nil)))) (fun _ _ _ _ _ => f_nil) (fun _ _ _ _ _ => (s_tup (s_cons (s_bin op_addA og_add (s_v 3) (s_v 5)) (s_cons (s_bin op_mulA og_mul (s_v 4) (s_v 6)) s_nil)))) rfl)
    (b_one (z_ret (s_tup (s_cons (s_ix ix_seq og_idx (s_v 0) s_int) (s_cons (s_call c_collected hr hg pb (s_cons (s_v 2) (s_cons (s_ix ix_seq og_idx (s_v 0) s_int) s_nil)) (fun _ _ _ _ _ _ us hl => match us, hl with | [_, _], _ => rfl)) s_nil)))))))))
theorem sc_from_parts : FnScope N_from_parts ["modulus", "parts"] (fScope st_from_parts) := C8.fnScope_by (by decide +kernel)
theorem pa_from_parts : fPars st_from_parts = (["modulus", "parts"] : List Str) := by with_unfolding_all rfl
theorem d_from_parts (T : Tx K mg) (B : Sys base) (h : Here K mg "from_parts" st_from_parts a fd) (c_together : Cal prog w K mg base CA 2 st_together "together" f_together 2) : Cal prog w K mg base CA 3 st_from_parts "from_parts" f_from_parts 2 := by
  have S := sc_from_parts
  refine ⟨a, fd, ?_, h⟩
  rw [pa_from_parts]
  refine fn_G h S rfl rfl fun cd Ar ou s0 H0 W hr hg => ?_
  exact (b_cons (z_set 2 false (s_lc (own := [("part", 5)]) rfl S.nd (i_seq (s_v 1)) (blkOk_by (N := N_from_parts) (sc := fScope st_from_parts) (by decide +kernel)) (fun _ _ _ _ _ => (g_n 5 S.nd)) (fun _ _ _ _ _ => f_nil) (fun _ _ _ _ _ => (s_ty (cr_dct rfl) og_dct T.m_dict (s_cons (s_v 5) s_nil)))) S.nd)
    (b_cons (z_set 3 false (s_sortS T.m_sorted (own := [("part", 5), ("offset", 6), ("factor", 7)]) [6, 7] rfl S.nd (i_seq (s_v 1)) (blkOk_by (N := N_from_parts) (sc := fScope st_from_parts) (by decide +kernel)) (by decide) (fun _ _ _ _ _ => (g_n 5 S.nd)) (fun _ _ _ _ _ => f_nil) (fun _ _ _ _ _ => (i_seq (s_v 5))) (fun _ _ _ _ _ => (g_t rfl (g_cons (g_n 6 S.nd) (g_cons (g_n 7 S.nd) g_nil)))) (fun _ _ _ _ _ => f_nil) (fun _ _ _ _ _ => (s_v 6))) S.nd)
    (b_cons (z_lc 4 false (own := [("offset", 6)]) rfl S.nd (i_seq (s_v 3)) (blkOk_by (N := N_from_parts) (sc := fScope st_from_parts) (by decide +kernel)) (fun _ _ _ _ _ => (g_n 6 S.nd)) (fun _ _ _ _ _ => f_nil) (fun _ _ _ _ _ => (s_tup (s_cons (s_v 6) (s_cons (s_call c_together hr hg (fun _ => pass00) (s_cons (s_v 0) (s_cons (s_lc (own := [("table", 8)]) rfl S.nd (i_seq (s_v 2)) (blkOk_by (by with_unfolding_all rfl)) (fun _ _ _ _ _ => (g_n 8 S.nd)) (fun _ _ _ _ _ => f_nil) (fun _ _ _ _ _ => (s_get (s_v 8) (s_v 6) s_int (u65 hr)))) s_nil)) (fun _ _ _ _ _ _ us hl => match us, hl with | [_, _], _ => rfl)) s_nil)))) rfl)
    (b_one (z_ret (s_tup (s_cons (s_v 0) (s_cons (s_ty call_tupleF og_tup T.m_tuple (s_cons (s_lc (own := [("offset", 6), ("value", 9)]) rfl S.nd (i_seq (s_v 4)) (blkOk_by (N := N_from_parts) (sc := fScope st_from_parts) (by decide +kernel)) (fun _ _ _ _ _ => (g_t rfl (g_cons (g_n 6 S.nd) (g_cons (g_n 9 S.nd) g_nil)))) (fun _ _ _ _ _ => (f_one (s_cmpt (op_neP (u64 hr)) og_ne bf_ne (s_v 9) s_int (nomark _)))) (fun _ _ _ _ _ => (s_tup (s_cons (s_v 6) (s_cons (s_v 9) s_nil))))) s_nil)) s_nil))))))))
theorem sc_power : FnScope N_power ["rule", "times"] (fScope st_power) := C8.fnScope_by (by decide +kernel)
theorem pa_power : fPars st_power = (["rule", "times"] : List Str) := by with_unfolding_all rfl
theorem d_power (T : Tx K mg) (B : Sys base) (h : Here K mg "power" st_power a fd) (c_from_parts : Cal prog w K mg base CA 3 st_from_parts "from_parts" f_from_parts 2) (c_need_number : Cal prog w K mg base CA 1 st_need_number "need_number" f_need_number 3) (c_need_rule : Cal prog w K mg base CA 5 st_need_rule "need_rule" f_need_rule 1) (c_of_terms : Cal prog w K mg base CA 1 st_of_terms "of_terms" f_of_terms 2) (c_primes_in : Cal prog w K mg base CA 1 st_primes_in "primes_in" f_primes_in 1) (c_raised : Cal prog w K mg base CA 4 st_raised "raised" f_raised 3) (c_to_terms : Cal prog w K mg base CA 1 st_to_terms "to_terms" f_to_terms 2) : Cal prog w K mg base CA 6 st_power "power" f_power 2 := by
  have S := sc_power
  refine ⟨a, fd, ?_, h⟩
  rw [pa_power]
  refine fn_G h S rfl rfl fun cd Ar ou s0 H0 W hr hg => ?_
  exact (b_cons (z_expr (s_call c_need_rule hr hg pb (s_cons (s_v 0) s_nil) (fun _ _ _ _ _ _ us hl => match us, hl with | [_], _ => rfl)))
    (b_cons (z_expr (s_call c_need_number hr hg pb (s_cons (s_v 1) (s_cons s_int (s_cons s_int s_nil))) (fun _ _ _ _ _ _ us hl => match us, hl with | [_, _, _], _ => rfl)))
    (b_cons (z_if (s_cmpt (op_eqP (u64 hr)) og_eq bf_eq (s_v 1) s_int (nomark _)) (b_one (z_ret (s_tup (s_cons (s_ix ix_seq og_idx (s_v 0) s_int) (s_cons (s_tup (s_cons (s_tup (s_cons s_int (s_cons s_int s_nil))) s_nil)) s_nil))))) b_nil)
    (b_cons (z_set 2 true (s_lst s_nil) S.nd)
    (b_cons (z_for po rfl (i_seq (s_call c_primes_in hr hg pb (s_cons (s_ix ix_seq og_idx (s_v 0) s_int) s_nil) (fun _ _ _ _ _ _ us hl => match us, hl with | [_], _ => rfl))) (g_n 3 S.nd) (b_cons (z_set 4 false (s_call c_of_terms hr hg pb (s_cons (s_ix ix_seq og_idx (s_v 0) s_int) (s_cons (s_v 3) s_nil)) (fun _ _ _ _ _ _ us hl => match us, hl with | [_, _], _ => rfl)) S.nd)
    (b_one (z_if (s_isNt (s_v 4)) (b_one (z_expr (s_app 2 (s_v 2) (s_tup s_nil)))) (b_one (z_expr (s_app 2 (s_v 2) (s_call c_to_terms hr hg pb (s_cons (s_bin op_mulA og_mul (s_ix ix_seq og_idx (s_v 4) s_int) (s_v 1)) (s_cons (s_call c_raised hr hg pb (s_cons (s_ix ix_seq og_idx (s_v 4) s_int) (s_cons (s_v 1) (s_cons (s_v 3) s_nil))) (fun _ _ _ _ _ _ us hl => match us, hl with | [_, _, _], _ => rfl)) s_nil)) (fun _ _ _ _ _ _ us hl => match us, hl with | [_, _], _ => rfl)))))))))
    (b_one (z_frz [2] (z_ret (s_call c_from_parts hr hg pb (s_cons (s_ix ix_seq og_idx (s_v 0) s_int) (s_cons (s_v 2) s_nil)) (fun _ _ _ _ _ _ us hl => match us, hl with | [_, _], _ => rfl))))))))))
theorem sc__law_source : FnScope N__law_source ["_law_script", "_law_k"] (fScope st__law_source) := C8.fnScope_by (by decide +kernel)
theorem pa__law_source : fPars st__law_source = (["_law_script", "_law_k"] : List Str) := by with_unfolding_all rfl
theorem d__law_source (T : Tx K mg) (B : Sys base) (h : Here K mg "_law_source" st__law_source a fd) : Cal prog w K mg base CA 1 st__law_source "_law_source" f__law_source 2 := by
  have S := sc__law_source
  refine ⟨a, fd, ?_, h⟩
  rw [pa__law_source]
  refine fn_G h S rfl rfl fun cd Ar ou s0 H0 W hr hg => ?_
  exact (b_cons (z_set 2 false (s_bin op_addA og_add (s_bin op_mulA og_mul s_int (s_v 1)) s_int) S.nd)
    (b_cons (z_if (s_cmpt op_lt og_lt bf_lt (s_v 1) (s_b (callOr call_len_seq call_len_str) og_len T.m_len (s_cons (s_v 0) s_nil)) (nomark _)) (b_one (z_set 2 false (s_ix ix_seq og_idx (s_v 0) (s_v 1)) S.nd)) b_nil)
    (b_cons (z_set 3 false (s_bin op_addA og_add (s_b (cr_sum rfl) og_sum T.m_sum (s_cons (s_lc (own := [("_law_place", 5), ("_law_other", 6)]) rfl S.nd (i_enum T.m_enumerate (s_v 0)) (blkOk_by (N := N__law_source) (sc := fScope st__law_source) (by decide +kernel)) (fun _ _ _ _ _ => (g_t rfl (g_cons (g_n 5 S.nd) (g_cons (g_n 6 S.nd) g_nil)))) (fun _ _ _ _ _ => f_nil) (fun _ _ _ _ _ => (s_bin op_mulA og_mul (s_bin op_mod og_mod (s_ty call_int1 og_int T.m_int (s_cons (s_v 6) s_nil)) (s_bin op_addA og_add (s_bin op_powA og_pow s_int s_int) s_int)) (s_bin op_addA og_add (s_v 5) s_int)))) s_nil)) (s_bin op_mulA og_mul s_int (s_b (callOr call_len_seq call_len_str) og_len T.m_len (s_cons (s_v 0) s_nil)))) S.nd)
    (b_cons (z_set 4 false (s_bin op_mod og_mod (s_ty call_int1 og_int T.m_int (s_cons (s_bin op_addA og_add (s_bin op_addA og_add (s_bin op_addA og_add (s_bin op_mulA og_mul (s_b call_abs og_abs T.m_abs (s_cons (s_v 2) s_nil)) s_int) (s_bin op_mulA og_mul s_int (s_ty call_int1 og_int T.m_int (s_cons (s_cmp op_lt og_lt (s_v 2) s_int (nomark _)) s_nil)))) (s_bin op_mulA og_mul (s_v 3) s_int)) (s_v 1)) s_nil)) (s_bin op_addA og_add (s_bin op_powA og_pow s_int s_int) s_int)) S.nd)
    (b_one (z_ret (s_lst (s_cons (s_b (callOr (cr_max rfl) (call_max2 rfl)) og_max T.m_max (s_cons s_int (s_cons (s_bin op_sub og_sub (s_v 2) (s_bin op_powA og_pow s_int s_int)) s_nil))) (s_cons (s_v 4) (s_cons s_int s_nil))))))))))
theorem sc__law_pick : FnScope N__law_pick ["_law_source_here", "_law_many"] (fScope st__law_pick) := C8.fnScope_by (by decide +kernel)
theorem pa__law_pick : fPars st__law_pick = (["_law_source_here", "_law_many"] : List Str) := by with_unfolding_all rfl
theorem d__law_pick (T : Tx K mg) (B : Sys base) (h : Here K mg "_law_pick" st__law_pick a fd) : Cal prog w K mg base CA 1 st__law_pick "_law_pick" f__law_pick 2 := by
  have S := sc__law_pick
  refine ⟨a, fd, ?_, h⟩
  rw [pa__law_pick]
  refine fn_G h S rfl rfl fun cd Ar ou s0 H0 W hr hg => ?_
  exact (b_cons (z_if (s_cmpt op_gt og_gt bf_gt (s_ix ix_seq og_idx (s_v 0) s_int) s_int (nomark _)) (b_cons (z_set 2 false (s_bin op_mod og_mod (s_ty call_int1 og_int T.m_int (s_cons (s_ix ix_seq og_idx (s_v 0) s_int) s_nil)) (s_v 1)) S.nd)
    (b_cons (z_item 0 (s_v 0) s_int (s_bin op_fdivW og_div (s_ix ix_seq og_idx (s_v 0) s_int) (s_v 1)))
    (b_one (z_ret (s_v 2))))) b_nil)
    (b_cons (z_item 0 (s_v 0) s_int (s_bin op_addA og_add (s_ix ix_seq og_idx (s_v 0) s_int) s_int))
    (b_cons (z_set 3 false (s_bin op_mod og_mod (s_ty call_int1 og_int T.m_int (s_cons (s_bin op_addA og_add (s_bin op_powA og_pow (s_bin op_addA og_add (s_ix ix_seq og_idx (s_v 0) s_int) (s_bin op_mulA og_mul s_int (s_ix ix_seq og_idx (s_v 0) s_int))) s_int) (s_bin op_mulA og_mul s_int (s_ix ix_seq og_idx (s_v 0) s_int))) s_nil)) (s_bin op_addA og_add (s_bin op_powA og_pow s_int s_int) s_int)) S.nd)
    (b_cons (z_set 3 false (s_bin op_mod og_mod (s_ty call_int1 og_int T.m_int (s_cons (s_bin op_mulA og_mul (s_v 3) (s_bin op_addA og_add (s_v 3) (s_bin op_mulA og_mul s_int (s_ix ix_seq og_idx (s_v 0) s_int)))) s_nil)) (s_bin op_addA og_add (s_bin op_powA og_pow s_int s_int) s_int)) S.nd)
    (b_one (z_ret (s_bin op_mod og_mod (s_ty call_int1 og_int T.m_int (s_cons (s_bin op_fdivW og_div (s_v 3) s_int) s_nil)) (s_v 1))))))))
theorem sc__law_primes : FnScope N__law_primes ["_law_modulus_here"] (fScope st__law_primes) := C8.fnScope_by (by decide +kernel)
theorem pa__law_primes : fPars st__law_primes = (["_law_modulus_here"] : List Str) := by with_unfolding_all rfl
theorem d__law_primes (T : Tx K mg) (B : Sys base) (h : Here K mg "_law_primes" st__law_primes a fd) : Cal prog w K mg base CA 1 st__law_primes "_law_primes" f__law_primes 1 := by
  have S := sc__law_primes
  refine ⟨a, fd, ?_, h⟩
  rw [pa__law_primes]
  refine fn_G h S rfl rfl fun cd Ar ou s0 H0 W hr hg => ?_
  exact (b_one (z_ret (s_lc (own := [("_law_prime", 1)]) rfl S.nd (i_seq (s_lst (s_cons s_int (s_cons s_int (s_cons s_int (s_cons s_int (s_cons s_int (s_cons s_int s_nil)))))))) (blkOk_by (N := N__law_primes) (sc := fScope st__law_primes) (by decide +kernel)) (fun _ _ _ _ _ => (g_n 1 S.nd)) (fun _ _ _ _ _ => (f_one (s_cmpt (op_eqP (u64 hr)) og_eq bf_eq (s_bin op_mod og_mod (s_ty call_int1 og_int T.m_int (s_cons (s_v 0) s_nil)) (s_v 1)) s_int (nomark _)))) (fun _ _ _ _ _ => (s_v 1)))))
theorem sc__law_modulus : FnScope N__law_modulus ["_law_source_here"] (fScope st__law_modulus) := C8.fnScope_by (by decide +kernel)
theorem pa__law_modulus : fPars st__law_modulus = (["_law_source_here"] : List Str) := by with_unfolding_all rfl
theorem d__law_modulus (T : Tx K mg) (B : Sys base) (h : Here K mg "_law_modulus" st__law_modulus a fd) (c__law_pick : Cal prog w K mg base CA 1 st__law_pick "_law_pick" f__law_pick 2) : Cal prog w K mg base CA 2 st__law_modulus "_law_modulus" f__law_modulus 1 := by
  have S := sc__law_modulus
  refine ⟨a, fd, ?_, h⟩
  rw [pa__law_modulus]
  refine fn_G h S rfl rfl fun cd Ar ou s0 H0 W hr hg => ?_
  exact (b_one (z_ret (s_ix ix_seq og_idx (s_lst (s_cons s_int (s_cons s_int (s_cons s_int (s_cons s_int (s_cons s_int (s_cons s_int (s_cons s_int (s_cons s_int (s_cons s_int (s_cons s_int s_nil))))))))))) (s_call c__law_pick hr hg pb (s_cons (s_v 0) (s_cons s_int s_nil)) (fun _ _ _ _ _ _ us hl => match us, hl with | [_, _], _ => rfl)))))
theorem sc__law_factor : FnScope N__law_factor ["_law_source_here", "_law_modulus_here", "_law_share"] (fScope st__law_factor) := C8.fnScope_by (by decide +kernel)
theorem pa__law_factor : fPars st__law_factor = (["_law_source_here", "_law_modulus_here", "_law_share"] : List Str) := by with_unfolding_all rfl
theorem d__law_factor (T : Tx K mg) (B : Sys base) (h : Here K mg "_law_factor" st__law_factor a fd) (c__law_pick : Cal prog w K mg base CA 1 st__law_pick "_law_pick" f__law_pick 2) : Cal prog w K mg base CA 2 st__law_factor "_law_factor" f__law_factor 3 := by
  have S := sc__law_factor
  refine ⟨a, fd, ?_, h⟩
  rw [pa__law_factor]
  refine fn_G h S rfl rfl fun cd Ar ou s0 H0 W hr hg => ?_
  exact (b_one (z_ret (s_bin op_mulA og_mul (s_v 2) (s_bin op_addA og_add s_int (s_call c__law_pick hr hg pb (s_cons (s_v 0) (s_cons (s_bin op_sub og_sub (s_bin op_fdivW og_div (s_v 1) (s_v 2)) s_int) s_nil)) (fun _ _ _ _ _ _ us hl => match us, hl with | [_, _], _ => rfl))))))
theorem sc__law_terms : FnScope N__law_terms ["_law_source_here", "_law_modulus_here"] (fScope st__law_terms) := C8.fnScope_by (by decide +kernel)
theorem pa__law_terms : fPars st__law_terms = (["_law_source_here", "_law_modulus_here"] : List Str) := by with_unfolding_all rfl
theorem d__law_terms (T : Tx K mg) (B : Sys base) (h : Here K mg "_law_terms" st__law_terms a fd) (c__law_factor : Cal prog w K mg base CA 2 st__law_factor "_law_factor" f__law_factor 3) (c__law_pick : Cal prog w K mg base CA 1 st__law_pick "_law_pick" f__law_pick 2) (c__law_primes : Cal prog w K mg base CA 1 st__law_primes "_law_primes" f__law_primes 1) : Cal prog w K mg base CA 3 st__law_terms "_law_terms" f__law_terms 2 := by
  have S := sc__law_terms
  refine ⟨a, fd, ?_, h⟩
  rw [pa__law_terms]
  refine fn_G h S rfl rfl fun cd Ar ou s0 H0 W hr hg => ?_
  exact (b_cons (z_par2 2 3 0 0 (s_call c__law_pick hr hg pb (s_cons (s_v 0) (s_cons s_int s_nil)) (fun _ _ _ _ _ _ us hl => match us, hl with | [_, _], _ => rfl)) (s_call c__law_primes hr hg pb (s_cons (s_v 1) s_nil) (fun _ _ _ _ _ _ us hl => match us, hl with | [_], _ => rfl)) rfl S.nd rfl)
    (b_cons (z_unp (s_tup (s_cons s_int (s_cons (s_lc (own := [("_law_offset", 7)]) rfl S.nd (i_range1 T.m_range s_int) (blkOk_by (N := N__law_terms) (sc := fScope st__law_terms) (by decide +kernel)) (fun _ _ _ _ _ => (g_n 7 S.nd)) (fun _ _ _ _ _ => f_nil) (fun _ _ _ _ _ => (s_call c__law_pick hr hg (fun _ => pass00) (s_cons (s_v 0) (s_cons s_int s_nil)) (fun _ _ _ _ _ _ us hl => match us, hl with | [_, _], _ => rfl)))) s_nil))) (g_t rfl (g_cons (g_n 4 S.nd) (g_cons (g_n 5 S.nd) g_nil))))
    (b_cons (z_lc 6 false (own := [("_law_offset", 7)]) rfl S.nd (i_range2 T.m_range (s_un un_neg og_neg s_int) s_int) (blkOk_by (N := N__law_terms) (sc := fScope st__law_terms) (by decide +kernel)) (fun _ _ _ _ _ => (g_n 7 S.nd)) (fun _ _ _ _ _ => (f_one (s_cmpt op_gt og_gt bf_gt (s_ix ix_seq og_idx (s_v 5) (s_bin op_addA og_add (s_v 7) s_int)) s_int (nomark _)))) (fun _ _ _ _ _ => (s_v 7)) rfl)
    (b_cons (z_if (s_cmpt op_lt og_lt bf_lt (s_v 2) s_int (nomark _)) (b_one (z_set 6 false (s_sl (s_v 6) so_n (so_s (s_v 2))) S.nd)) b_nil)
    (b_cons (z_if (PW.pt (t_and (s_cmpt op_gt og_gt bf_gt (s_v 2) s_int (nomark _)) (t_and1 (s_cmpt (op_eqP (u64 hr)) og_eq bf_eq (s_b (callOr call_len_seq call_len_str) og_len T.m_len (s_cons (s_v 3) s_nil)) s_int (nomark _))))) (b_one (z_set 4 false (s_ix ix_seq og_idx (s_v 3) (s_bin op_sub og_sub (s_v 2) s_int)) S.nd)) b_nil)
    (b_one (z_ret (s_ty call_tupleF og_tup T.m_tuple (s_cons (s_lc (own := [("_law_offset", 7)]) rfl S.nd (i_seq (s_v 6)) (blkOk_by (N := N__law_terms) (sc := fScope st__law_terms) (by decide +kernel)) (fun _ _ _ _ _ => (g_n 7 S.nd)) (fun _ _ _ _ _ => f_nil) (fun _ _ _ _ _ => (s_tup (s_cons (s_v 7) (s_cons (s_call c__law_factor hr hg (fun _ => pass00) (s_cons (s_v 0) (s_cons (s_v 1) (s_cons (s_v 4) s_nil))) (fun _ _ _ _ _ _ us hl => match us, hl with | [_, _, _], _ => rfl)) s_nil))))) s_nil)))))))))
theorem sc__law_tidy : FnScope N__law_tidy ["_law_table", "_law_modulus_here"] (fScope st__law_tidy) := C8.fnScope_by (by decide +kernel)
theorem pa__law_tidy : fPars st__law_tidy = (["_law_table", "_law_modulus_here"] : List Str) := by with_unfolding_all rfl
theorem d__law_tidy (T : Tx K mg) (B : Sys base) (h : Here K mg "_law_tidy" st__law_tidy a fd) : Cal prog w K mg base CA 1 st__law_tidy "_law_tidy" f__law_tidy 2 := by
  have S := sc__law_tidy
  refine ⟨a, fd, ?_, h⟩
  rw [pa__law_tidy]
  refine fn_G h S rfl rfl fun cd Ar ou s0 H0 W hr hg => ?_
  exact (b_one (z_ret (s_ty call_tupleF og_tup T.m_tuple (s_cons (s_lc (own := [("_law_place", 2)]) rfl S.nd (i_seq (s_b (callOr cr_sortedI (cr_sortDI rfl)) og_sortD T.m_sorted (s_cons (s_v 0) s_nil))) (blkOk_by (N := N__law_tidy) (sc := fScope st__law_tidy) (by decide +kernel)) (fun _ _ _ _ _ => (g_n 2 S.nd)) (fun _ _ _ _ _ => (f_one (s_cmpt (op_neP (u64 hr)) og_ne bf_ne (s_bin op_mod og_mod (s_ty call_int1 og_int T.m_int (s_cons (s_ix (ixOr ix_seq (ix_dict (u65 hr))) (og_idxD og_idx) (s_v 0) (s_v 2)) s_nil)) (s_v 1)) s_int (nomark _)))) (fun _ _ _ _ _ => (s_tup (s_cons (s_v 2) (s_cons (s_bin op_mod og_mod (s_ty call_int1 og_int T.m_int (s_cons (s_ix (ixOr ix_seq (ix_dict (u65 hr))) (og_idxD og_idx) (s_v 0) (s_v 2)) s_nil)) (s_v 1)) s_nil))))) s_nil))))
theorem sc__law_product : FnScope N__law_product ["_law_one", "_law_other", "_law_modulus_here"] (fScope st__law_product) := C8.fnScope_by (by decide +kernel)
theorem pa__law_product : fPars st__law_product = (["_law_one", "_law_other", "_law_modulus_here"] : List Str) := by with_unfolding_all rfl
theorem d__law_product (T : Tx K mg) (B : Sys base) (h : Here K mg "_law_product" st__law_product a fd) (c__law_tidy : Cal prog w K mg base CA 1 st__law_tidy "_law_tidy" f__law_tidy 2) : Cal prog w K mg base CA 2 st__law_product "_law_product" f__law_product 3 := by
  have S := sc__law_product
  refine ⟨a, fd, ?_, h⟩
  rw [pa__law_product]
  refine fn_G h S rfl rfl fun cd Ar ou s0 H0 W hr hg => ?_
  exact (b_cons (z_set 3 true s_d0 S.nd)
    (b_cons (z_for po rfl (i_seq (s_v 0)) (g_t rfl (g_cons (g_n 4 S.nd) (g_cons (g_n 5 S.nd) g_nil))) (b_one (z_for po rfl (i_seq (s_v 1)) (g_t rfl (g_cons (g_n 6 S.nd) (g_cons (g_n 7 S.nd) g_nil))) (b_one (z_ditem 3 (s_v 3) (s_bin op_addA og_add (s_v 4) (s_v 6)) (s_bin op_addA og_add (s_get (s_v 3) (s_bin op_addA og_add (s_v 4) (s_v 6)) s_int (u65 hr)) (s_bin op_mulA og_mul (s_v 5) (s_v 7))) (u65 hr))))))
    (b_one (z_frz [3] (z_ret (s_call c__law_tidy hr hg pb (s_cons (s_v 3) (s_cons (s_v 2) s_nil)) (fun _ _ _ _ _ _ us hl => match us, hl with | [_, _], _ => rfl)))))))
theorem sc__law_power : FnScope N__law_power ["_law_terms_here", "_law_times", "_law_modulus_here"] (fScope st__law_power) := C8.fnScope_by (by decide +kernel)
theorem pa__law_power : fPars st__law_power = (["_law_terms_here", "_law_times", "_law_modulus_here"] : List Str) := by with_unfolding_all rfl
theorem d__law_power (T : Tx K mg) (B : Sys base) (h : Here K mg "_law_power" st__law_power a fd) (c__law_product : Cal prog w K mg base CA 2 st__law_product "_law_product" f__law_product 3) : Cal prog w K mg base CA 3 st__law_power "_law_power" f__law_power 3 := by
  have S := sc__law_power
  refine ⟨a, fd, ?_, h⟩
  rw [pa__law_power]
  refine fn_G h S rfl rfl fun cd Ar ou s0 H0 W hr hg => ?_
  exact (b_cons (z_set 3 false (s_tup (s_cons (s_tup (s_cons s_int (s_cons s_int s_nil))) s_nil)) S.nd)
    (b_cons (z_for po rfl (i_range1 T.m_range (s_v 1)) (g_n 4 S.nd) (b_one (z_set 3 false (s_call c__law_product hr hg pb (s_cons (s_v 3) (s_cons (s_v 0) (s_cons (s_v 2) s_nil))) (fun _ _ _ _ _ _ us hl => match us, hl with | [_, _, _], _ => rfl)) S.nd)))
    (b_one (z_ret (s_v 3)))))
theorem sc__law_sum : FnScope N__law_sum ["_law_one", "_law_other", "_law_modulus_here"] (fScope st__law_sum) := C8.fnScope_by (by decide +kernel)
theorem pa__law_sum : fPars st__law_sum = (["_law_one", "_law_other", "_law_modulus_here"] : List Str) := by with_unfolding_all rfl
theorem d__law_sum (T : Tx K mg) (B : Sys base) (h : Here K mg "_law_sum" st__law_sum a fd) (c__law_tidy : Cal prog w K mg base CA 1 st__law_tidy "_law_tidy" f__law_tidy 2) : Cal prog w K mg base CA 2 st__law_sum "_law_sum" f__law_sum 3 := by
  have S := sc__law_sum
  refine ⟨a, fd, ?_, h⟩
  rw [pa__law_sum]
  refine fn_G h S rfl rfl fun cd Ar ou s0 H0 W hr hg => ?_
  exact (b_cons (z_set 3 true s_d0 S.nd)
    (b_cons (z_for po rfl (i_seq (s_bin op_addA og_add (s_v 0) (s_v 1))) (g_t rfl (g_cons (g_n 4 S.nd) (g_cons (g_n 5 S.nd) g_nil))) (b_one (z_ditem 3 (s_v 3) (s_v 4) (s_bin op_addA og_add (s_get (s_v 3) (s_v 4) s_int (u65 hr)) (s_v 5)) (u65 hr))))
    (b_one (z_frz [3] (z_ret (s_call c__law_tidy hr hg pb (s_cons (s_v 3) (s_cons (s_v 2) s_nil)) (fun _ _ _ _ _ _ us hl => match us, hl with | [_, _], _ => rfl)))))))
theorem sc__law_small_right : FnScope N__law_small_right ["_law_modulus_here"] (fScope st__law_small_right) := C8.fnScope_by (by decide +kernel)
theorem pa__law_small_right : fPars st__law_small_right = (["_law_modulus_here"] : List Str) := by with_unfolding_all rfl
theorem d__law_small_right (T : Tx K mg) (B : Sys base) (h : Here K mg "_law_small_right" st__law_small_right a fd) (c__law_primes : Cal prog w K mg base CA 1 st__law_primes "_law_primes" f__law_primes 1) (c_primes_of : Cal prog w K mg base CA 4 st_primes_of "primes_of" f_primes_of 1) (c_still : Cal prog w K mg base CA 4 st_still "still" f_still 1) : Cal prog w K mg base CA 5 st__law_small_right "_law_small_right" f__law_small_right 1 := by
  have S := sc__law_small_right
  refine ⟨a, fd, ?_, h⟩
  rw [pa__law_small_right]
  refine fn_G h S rfl rfl fun cd Ar ou s0 H0 W hr hg => ?_
  exact (b_cons (z_set 1 true (s_call c_primes_of hr hg pb (s_cons (s_v 0) s_nil) (fun _ _ _ _ _ _ us hl => match us, hl with | [_], _ => rfl)) S.nd)
    (b_cons (z_if (PW.pt (t_or (s_cmpt (op_neP (u64 hr)) og_ne bf_ne (s_b (cr_reprW B hg (u64 hr)) og_reprW T.m_repr (s_cons (s_v 1) s_nil)) (s_b (cr_reprW B hg (u64 hr)) og_reprW T.m_repr (s_cons (s_call c__law_primes hr hg pb (s_cons (s_v 0) s_nil) (fun _ _ _ _ _ _ us hl => match us, hl with | [_], _ => rfl)) s_nil)) (nomark _)) (t_or1 (s_cmpt (op_neP (u64 hr)) og_ne bf_ne (s_b (cr_reprW B hg (u64 hr)) og_reprW T.m_repr (s_cons (s_call c_still hr hg pb (s_cons (s_v 0) s_nil) (fun _ _ _ _ _ _ us hl => match us, hl with | [_], _ => rfl)) s_nil)) (s_b (cr_reprW B hg (u64 hr)) og_reprW T.m_repr (s_cons (s_tup (s_cons (s_v 0) (s_cons (s_tup (s_cons (s_tup (s_cons s_int (s_cons s_int s_nil))) s_nil)) s_nil))) s_nil)) (nomark _))))) (b_one (z_ret s_bl)) b_nil)
    (b_cons (z_expr (s_app 1 (s_v 1) s_int))
    (b_cons (z_if (s_cmpt (op_neP (u64 hr)) og_ne bf_ne (s_b (cr_reprW B hg (u64 hr)) og_reprW T.m_repr (s_cons (s_callK (ks := ["modulus"]) [0] c_still hr hg pb (k_cons (s_v 0) k_nil) (fun _ _ _ _ _ _ ws hl => match ws, hl with | [_], _ => rfl)) s_nil)) (s_b (cr_reprW B hg (u64 hr)) og_reprW T.m_repr (s_cons (s_tup (s_cons (s_v 0) (s_cons (s_tup (s_cons (s_tup (s_cons s_int (s_cons s_int s_nil))) s_nil)) s_nil))) s_nil)) (nomark _)) (b_one (z_ret s_bl)) b_nil)
    (b_one (z_ret (s_cmp (op_eqP (u64 hr)) og_eq (s_b (cr_reprW B hg (u64 hr)) og_reprW T.m_repr (s_cons (s_callK (ks := ["modulus"]) [0] c_primes_of hr hg pb (k_cons (s_v 0) k_nil) (fun _ _ _ _ _ _ ws hl => match ws, hl with | [_], _ => rfl)) s_nil)) (s_b (cr_reprW B hg (u64 hr)) og_reprW T.m_repr (s_cons (s_call c__law_primes hr hg pb (s_cons (s_v 0) s_nil) (fun _ _ _ _ _ _ us hl => match us, hl with | [_], _ => rfl)) s_nil)) (nomark _))))))))
theorem sc__law_two_right : FnScope N__law_two_right ["_law_one", "_law_other"] (fScope st__law_two_right) := C8.fnScope_by (by decide +kernel)
theorem pa__law_two_right : fPars st__law_two_right = (["_law_one", "_law_other"] : List Str) := by with_unfolding_all rfl
theorem d__law_two_right (T : Tx K mg) (B : Sys base) (h : Here K mg "_law_two_right" st__law_two_right a fd) (c__law_product : Cal prog w K mg base CA 2 st__law_product "_law_product" f__law_product 3) (c__law_sum : Cal prog w K mg base CA 2 st__law_sum "_law_sum" f__law_sum 3) (c_behind : Cal prog w K mg base CA 6 st_behind "behind" f_behind 2) (c_plus : Cal prog w K mg base CA 6 st_plus "plus" f_plus 2) : Cal prog w K mg base CA 7 st__law_two_right "_law_two_right" f__law_two_right 2 := by
  have S := sc__law_two_right
  refine ⟨a, fd, ?_, h⟩
  rw [pa__law_two_right]
  refine fn_G h S rfl rfl fun cd Ar ou s0 H0 W hr hg => ?_
  exact (b_cons (z_set 2 false (s_ix ix_seq og_idx (s_v 0) s_int) S.nd)
    (b_cons (z_set 3 false (s_b (cr_reprW B hg (u64 hr)) og_reprW T.m_repr (s_cons (s_tup (s_cons (s_v 2) (s_cons (s_call c__law_product hr hg pb (s_cons (s_ix ix_seq og_idx (s_v 0) s_int) (s_cons (s_ix ix_seq og_idx (s_v 1) s_int) (s_cons (s_v 2) s_nil))) (fun _ _ _ _ _ _ us hl => match us, hl with | [_, _, _], _ => rfl)) s_nil))) s_nil)) S.nd)
    (b_cons (z_if (PW.pt (t_or (s_cmpt (op_neP (u64 hr)) og_ne bf_ne (s_b (cr_reprW B hg (u64 hr)) og_reprW T.m_repr (s_cons (s_call c_behind hr hg pb (s_cons (s_v 0) (s_cons (s_v 1) s_nil)) (fun _ _ _ _ _ _ us hl => match us, hl with | [_, _], _ => rfl)) s_nil)) (s_v 3) (nomark _)) (t_or (s_cmpt (op_neP (u64 hr)) og_ne bf_ne (s_b (cr_reprW B hg (u64 hr)) og_reprW T.m_repr (s_cons (s_call c_behind hr hg pb (s_cons (s_v 1) (s_cons (s_v 0) s_nil)) (fun _ _ _ _ _ _ us hl => match us, hl with | [_, _], _ => rfl)) s_nil)) (s_v 3) (nomark _)) (t_or1 (s_cmpt (op_neP (u64 hr)) og_ne bf_ne (s_b (cr_reprW B hg (u64 hr)) og_reprW T.m_repr (s_cons (s_callK (ks := ["other", "one"]) [1, 0] c_behind hr hg pb (k_cons (s_v 1) (k_cons (s_v 0) k_nil)) (fun _ _ _ _ _ _ ws hl => match ws, hl with | [_, _], _ => rfl)) s_nil)) (s_v 3) (nomark _)))))) (b_one (z_ret s_bl)) b_nil)
    (b_cons (z_set 3 false (s_b (cr_reprW B hg (u64 hr)) og_reprW T.m_repr (s_cons (s_tup (s_cons (s_v 2) (s_cons (s_call c__law_sum hr hg pb (s_cons (s_ix ix_seq og_idx (s_v 0) s_int) (s_cons (s_ix ix_seq og_idx (s_v 1) s_int) (s_cons (s_v 2) s_nil))) (fun _ _ _ _ _ _ us hl => match us, hl with | [_, _, _], _ => rfl)) s_nil))) s_nil)) S.nd)
    (b_one (z_ret (s_and (s_cmp (op_eqP (u64 hr)) og_eq (s_b (cr_reprW B hg (u64 hr)) og_reprW T.m_repr (s_cons (s_call c_plus hr hg pb (s_cons (s_v 0) (s_cons (s_v 1) s_nil)) (fun _ _ _ _ _ _ us hl => match us, hl with | [_, _], _ => rfl)) s_nil)) (s_v 3) (nomark _)) (s_one (s_cmp (op_eqP (u64 hr)) og_eq (s_b (cr_reprW B hg (u64 hr)) og_reprW T.m_repr (s_cons (s_callK (ks := ["other", "one"]) [1, 0] c_plus hr hg pb (k_cons (s_v 0) (k_cons (s_v 1) k_nil)) (fun _ _ _ _ _ _ ws hl => match ws, hl with | [_, _], _ => rfl)) s_nil)) (s_v 3) (nomark _))))))))))
theorem sc__law_wide_right : FnScope N__law_wide_right ["_law_source_here", "_law_one", "_law_other"] (fScope st__law_wide_right) := C8.fnScope_by (by decide +kernel)
theorem pa__law_wide_right : fPars st__law_wide_right = (["_law_source_here", "_law_one", "_law_other"] : List Str) := by with_unfolding_all rfl
theorem d__law_wide_right (T : Tx K mg) (B : Sys base) (h : Here K mg "_law_wide_right" st__law_wide_right a fd) (c__law_pick : Cal prog w K mg base CA 1 st__law_pick "_law_pick" f__law_pick 2) (c__law_power : Cal prog w K mg base CA 3 st__law_power "_law_power" f__law_power 3) (c__law_product : Cal prog w K mg base CA 2 st__law_product "_law_product" f__law_product 3) (c__law_two_right : Cal prog w K mg base CA 7 st__law_two_right "_law_two_right" f__law_two_right 2) (c_behind : Cal prog w K mg base CA 6 st_behind "behind" f_behind 2) (c_power : Cal prog w K mg base CA 6 st_power "power" f_power 2) : Cal prog w K mg base CA 8 st__law_wide_right "_law_wide_right" f__law_wide_right 3 := by
  have S := sc__law_wide_right
  refine ⟨a, fd, ?_, h⟩
  rw [pa__law_wide_right]
  refine fn_G h S rfl rfl fun cd Ar ou s0 H0 W hr hg => ?_
  exact (b_cons (z_par2 3 4 0 0 (s_ix ix_seq og_idx (s_v 1) s_int) (s_bin op_addA og_add s_int (s_call c__law_pick hr hg pb (s_cons (s_v 0) (s_cons s_int s_nil)) (fun _ _ _ _ _ _ us hl => match us, hl with | [_, _], _ => rfl))) rfl S.nd rfl)
    (b_cons (z_set 5 false (s_call c_power hr hg pb (s_cons (s_v 1) (s_cons (s_v 4) s_nil)) (fun _ _ _ _ _ _ us hl => match us, hl with | [_, _], _ => rfl)) S.nd)
    (b_cons (z_if (s_cmpt (op_neP (u64 hr)) og_ne bf_ne (s_b (cr_reprW B hg (u64 hr)) og_reprW T.m_repr (s_cons (s_v 5) s_nil)) (s_b (cr_reprW B hg (u64 hr)) og_reprW T.m_repr (s_cons (s_tup (s_cons (s_v 3) (s_cons (s_call c__law_power hr hg pb (s_cons (s_ix ix_seq og_idx (s_v 1) s_int) (s_cons (s_v 4) (s_cons (s_v 3) s_nil))) (fun _ _ _ _ _ _ us hl => match us, hl with | [_, _, _], _ => rfl)) s_nil))) s_nil)) (nomark _)) (b_one (z_ret s_bl)) b_nil)
    (b_cons (z_set 6 false (s_call c_behind hr hg pb (s_cons (s_v 5) (s_cons (s_call c_power hr hg pb (s_cons (s_v 2) (s_cons (s_v 4) s_nil)) (fun _ _ _ _ _ _ us hl => match us, hl with | [_, _], _ => rfl)) s_nil)) (fun _ _ _ _ _ _ us hl => match us, hl with | [_, _], _ => rfl)) S.nd)
    (b_cons (z_if (s_cmpt (op_neP (u64 hr)) og_ne bf_ne (s_b (cr_reprW B hg (u64 hr)) og_reprW T.m_repr (s_cons (s_v 6) s_nil)) (s_b (cr_reprW B hg (u64 hr)) og_reprW T.m_repr (s_cons (s_tup (s_cons (s_v 3) (s_cons (s_call c__law_product hr hg pb (s_cons (s_ix ix_seq og_idx (s_v 5) s_int) (s_cons (s_call c__law_power hr hg pb (s_cons (s_ix ix_seq og_idx (s_v 2) s_int) (s_cons (s_v 4) (s_cons (s_v 3) s_nil))) (fun _ _ _ _ _ _ us hl => match us, hl with | [_, _, _], _ => rfl)) (s_cons (s_v 3) s_nil))) (fun _ _ _ _ _ _ us hl => match us, hl with | [_, _, _], _ => rfl)) s_nil))) s_nil)) (nomark _)) (b_one (z_ret s_bl)) b_nil)
    (b_cons (z_if (PW.pt (t_or (t_not (s_tr (s_call c__law_two_right hr hg pb (s_cons (s_v 6) (s_cons (s_v 2) s_nil)) (fun _ _ _ _ _ _ us hl => match us, hl with | [_, _], _ => rfl)))) (t_or1 (t_not (s_tr (s_call c__law_two_right hr hg pb (s_cons (s_v 5) (s_cons (s_v 6) s_nil)) (fun _ _ _ _ _ _ us hl => match us, hl with | [_, _], _ => rfl))))))) (b_one (z_ret s_bl)) b_nil)
    (b_cons (z_if (s_cmpt (op_neP (u64 hr)) og_ne bf_ne (s_b (cr_reprW B hg (u64 hr)) og_reprW T.m_repr (s_cons (s_call c_power hr hg pb (s_cons (s_v 6) (s_cons s_int s_nil)) (fun _ _ _ _ _ _ us hl => match us, hl with | [_, _], _ => rfl)) s_nil)) (s_b (cr_reprW B hg (u64 hr)) og_reprW T.m_repr (s_cons (s_tup (s_cons (s_v 3) (s_cons (s_call c__law_product hr hg pb (s_cons (s_ix ix_seq og_idx (s_v 6) s_int) (s_cons (s_ix ix_seq og_idx (s_v 6) s_int) (s_cons (s_v 3) s_nil))) (fun _ _ _ _ _ _ us hl => match us, hl with | [_, _, _], _ => rfl)) s_nil))) s_nil)) (nomark _)) (b_one (z_ret s_bl)) b_nil)
    (b_cons (z_set 7 false (s_bin op_addA og_add s_int (s_call c__law_pick hr hg pb (s_cons (s_v 0) (s_cons s_int s_nil)) (fun _ _ _ _ _ _ us hl => match us, hl with | [_, _], _ => rfl))) S.nd)
    (b_cons (z_set 8 false (s_call c__law_pick hr hg pb (s_cons (s_v 0) (s_cons (s_bin op_addA og_add s_int (s_bin op_fdivW og_div (s_ix ix_seq og_idx (s_lst (s_cons s_int (s_cons s_int (s_cons s_int s_nil)))) (s_call c__law_pick hr hg pb (s_cons (s_v 0) (s_cons s_int s_nil)) (fun _ _ _ _ _ _ us hl => match us, hl with | [_, _], _ => rfl))) (s_v 7))) s_nil)) (fun _ _ _ _ _ _ us hl => match us, hl with | [_, _], _ => rfl)) S.nd)
    (b_cons (z_set 9 false (s_tup (s_cons (s_v 3) (s_cons (s_call c__law_power hr hg pb (s_cons (s_ix ix_seq og_idx (s_v 1) s_int) (s_cons (s_bin op_mulA og_mul (s_v 7) (s_v 8)) (s_cons (s_v 3) s_nil))) (fun _ _ _ _ _ _ us hl => match us, hl with | [_, _, _], _ => rfl)) s_nil))) S.nd)
    (b_one (z_ret (s_cmp (op_eqP (u64 hr)) og_eq (s_b (cr_reprW B hg (u64 hr)) og_reprW T.m_repr (s_cons (s_callK (ks := ["times", "rule"]) [1, 0] c_power hr hg pb (k_cons (s_v 8) (k_cons (s_call c_power hr hg pb (s_cons (s_v 1) (s_cons (s_v 7) s_nil)) (fun _ _ _ _ _ _ us hl => match us, hl with | [_, _], _ => rfl)) k_nil)) (fun _ _ _ _ _ _ ws hl => match ws, hl with | [_, _], _ => rfl)) s_nil)) (s_b (cr_reprW B hg (u64 hr)) og_reprW T.m_repr (s_cons (s_v 9) s_nil)) (nomark _))))))))))))))
theorem sc_law : FnScope N_law ["_law_script"] (fScope st_law) := C8.fnScope_by (by decide +kernel)
theorem pa_law : fPars st_law = (["_law_script"] : List Str) := by with_unfolding_all rfl
theorem d_law (T : Tx K mg) (B : Sys base) (h : Here K mg "law" st_law a fd) (c__law_modulus : Cal prog w K mg base CA 2 st__law_modulus "_law_modulus" f__law_modulus 1) (c__law_pick : Cal prog w K mg base CA 1 st__law_pick "_law_pick" f__law_pick 2) (c__law_power : Cal prog w K mg base CA 3 st__law_power "_law_power" f__law_power 3) (c__law_small_right : Cal prog w K mg base CA 5 st__law_small_right "_law_small_right" f__law_small_right 1) (c__law_source : Cal prog w K mg base CA 1 st__law_source "_law_source" f__law_source 2) (c__law_terms : Cal prog w K mg base CA 3 st__law_terms "_law_terms" f__law_terms 2) (c__law_two_right : Cal prog w K mg base CA 7 st__law_two_right "_law_two_right" f__law_two_right 2) (c__law_wide_right : Cal prog w K mg base CA 8 st__law_wide_right "_law_wide_right" f__law_wide_right 3) (c_power : Cal prog w K mg base CA 6 st_power "power" f_power 2) : Cal prog w K mg base CA 9 st_law "law" f_law 1 := by
  have S := sc_law
  refine ⟨a, fd, ?_, h⟩
  rw [pa_law]
  refine fn_G h S rfl rfl fun cd Ar ou s0 H0 W hr hg => ?_
  exact (b_cons (z_for po rfl (i_range1 T.m_range (s_b (callOr (cr_max rfl) (call_max2 rfl)) og_max T.m_max (s_cons s_int (s_cons (s_b (callOr (cr_min rfl) (call_min2 rfl)) og_min T.m_min (s_cons s_int (s_cons (s_b (callOr call_len_seq call_len_str) og_len T.m_len (s_cons (s_v 0) s_nil)) s_nil))) s_nil)))) (g_n 1 S.nd) (b_cons (z_set 2 true (s_call c__law_source hr hg pb (s_cons (s_v 0) (s_cons (s_v 1) s_nil)) (fun _ _ _ _ _ _ us hl => match us, hl with | [_, _], _ => rfl)) S.nd)
    (b_cons (z_par2 3 4 0 0 (s_call c__law_modulus hr hg pb (s_cons (s_v 2) s_nil) (fun _ _ _ _ _ _ us hl => match us, hl with | [_], _ => rfl)) (s_call c__law_pick hr hg pb (s_cons (s_v 2) (s_cons s_int s_nil)) (fun _ _ _ _ _ _ us hl => match us, hl with | [_, _], _ => rfl)) rfl S.nd rfl)
    (b_cons (z_par2 5 6 0 0 (s_tup (s_cons (s_v 3) (s_cons (s_call c__law_terms hr hg pb (s_cons (s_v 2) (s_cons (s_v 3) s_nil)) (fun _ _ _ _ _ _ us hl => match us, hl with | [_, _], _ => rfl)) s_nil))) (s_tup (s_cons (s_v 3) (s_cons (s_call c__law_terms hr hg pb (s_cons (s_v 2) (s_cons (s_v 3) s_nil)) (fun _ _ _ _ _ _ us hl => match us, hl with | [_, _], _ => rfl)) s_nil))) rfl S.nd rfl)
    (b_cons (z_set 7 false (s_call c__law_pick hr hg pb (s_cons (s_v 2) (s_cons s_int s_nil)) (fun _ _ _ _ _ _ us hl => match us, hl with | [_, _], _ => rfl)) S.nd)
    (b_cons (z_if (PW.pt (t_and (s_cmpt (op_eqP (u64 hr)) og_eq bf_eq (s_v 4) s_int (nomark _)) (t_and1 (s_cmpt (op_eqP (u64 hr)) og_eq bf_eq (s_v 1) s_int (nomark _))))) (b_one (z_set 7 false (s_ix ix_seq og_idx (s_lst (s_cons s_int (s_cons (s_call c__law_pick hr hg pb (s_cons (s_v 2) (s_cons s_int s_nil)) (fun _ _ _ _ _ _ us hl => match us, hl with | [_, _], _ => rfl)) s_nil))) (s_call c__law_pick hr hg pb (s_cons (s_v 2) (s_cons s_int s_nil)) (fun _ _ _ _ _ _ us hl => match us, hl with | [_, _], _ => rfl))) S.nd)) b_nil)
    (b_cons (z_if (PW.pt (t_or (t_not (s_tr (s_call c__law_small_right hr hg pb (s_cons (s_v 3) s_nil) (fun _ _ _ _ _ _ us hl => match us, hl with | [_], _ => rfl)))) (t_or (t_not (s_tr (s_call c__law_two_right hr hg pb (s_cons (s_v 5) (s_cons (s_v 6) s_nil)) (fun _ _ _ _ _ _ us hl => match us, hl with | [_, _], _ => rfl)))) (t_or1 (t_not (s_tr (s_call c__law_two_right hr hg pb (s_cons (s_v 5) (s_cons (s_v 5) s_nil)) (fun _ _ _ _ _ _ us hl => match us, hl with | [_, _], _ => rfl)))))))) (b_one (z_ret s_bl)) b_nil)
    (b_cons (z_set 8 false (s_b (cr_reprW B hg (u64 hr)) og_reprW T.m_repr (s_cons (s_tup (s_cons (s_v 3) (s_cons (s_call c__law_power hr hg pb (s_cons (s_ix ix_seq og_idx (s_v 5) s_int) (s_cons (s_v 7) (s_cons (s_v 3) s_nil))) (fun _ _ _ _ _ _ us hl => match us, hl with | [_, _, _], _ => rfl)) s_nil))) s_nil)) S.nd)
    (b_cons (z_if (PW.pt (t_or (s_cmpt (op_neP (u64 hr)) og_ne bf_ne (s_b (cr_reprW B hg (u64 hr)) og_reprW T.m_repr (s_cons (s_call c_power hr hg pb (s_cons (s_v 5) (s_cons (s_v 7) s_nil)) (fun _ _ _ _ _ _ us hl => match us, hl with | [_, _], _ => rfl)) s_nil)) (s_v 8) (nomark _)) (t_or1 (s_cmpt (op_neP (u64 hr)) og_ne bf_ne (s_b (cr_reprW B hg (u64 hr)) og_reprW T.m_repr (s_cons (s_callK (ks := ["times", "rule"]) [1, 0] c_power hr hg pb (k_cons (s_v 7) (k_cons (s_v 5) k_nil)) (fun _ _ _ _ _ _ ws hl => match ws, hl with | [_, _], _ => rfl)) s_nil)) (s_v 8) (nomark _))))) (b_one (z_ret s_bl)) b_nil)
    (b_one (z_if (PW.pt (t_and (s_cmpt (op_eqP (u64 hr)) og_eq bf_eq (s_v 1) s_int (nomark _)) (t_and1 (t_not (s_tr (s_call c__law_wide_right hr hg pb (s_cons (s_v 2) (s_cons (s_v 5) (s_cons (s_v 6) s_nil))) (fun _ _ _ _ _ _ us hl => match us, hl with | [_, _, _], _ => rfl))))))) (b_one (z_ret s_bl)) b_nil)))))))))))
    (b_one (z_ret s_bl)))
end
end K01
end

section
set_option Elab.async false
set_option linter.all false
set_option maxRecDepth 100000
set_option maxHeartbeats 4000000
set_option autoImplicit false
/-! printed by gen.py -/
namespace K01
open PySem PySem.Spec L2 MP
theorem all_mk {w : World} {K : Fg} {mg : Str → Option Value} {h : Heap} {fa : Addr} (CA : Str → Addr) (X : K.In h) (G : h.Ns mainGlobals mg) (hfa : mg "law" = some (.ref fa))
    {f0 : Addr} {od0 an0 : Option Addr} {sl0 : Array (Option Value)} {oc0 kV0 dc0 pm0 cd0 ct0 : Value}
    {f1 : Addr} {od1 an1 : Option Addr} {sl1 : Array (Option Value)} {oc1 kV1 dc1 pm1 cd1 ct1 : Value}
    {f2 : Addr} {od2 an2 : Option Addr} {sl2 : Array (Option Value)} {oc2 kV2 dc2 pm2 cd2 ct2 : Value}
    {f3 : Addr} {od3 an3 : Option Addr} {sl3 : Array (Option Value)} {oc3 kV3 dc3 pm3 cd3 ct3 : Value}
    {f4 : Addr} {od4 an4 : Option Addr} {sl4 : Array (Option Value)} {oc4 kV4 dc4 pm4 cd4 ct4 : Value}
    {f5 : Addr} {od5 an5 : Option Addr} {sl5 : Array (Option Value)} {oc5 kV5 dc5 pm5 cd5 ct5 : Value}
    {f6 : Addr} {od6 an6 : Option Addr} {sl6 : Array (Option Value)} {oc6 kV6 dc6 pm6 cd6 ct6 : Value}
    {f7 : Addr} {od7 an7 : Option Addr} {sl7 : Array (Option Value)} {oc7 kV7 dc7 pm7 cd7 ct7 : Value}
    {f8 : Addr} {od8 an8 : Option Addr} {sl8 : Array (Option Value)} {oc8 kV8 dc8 pm8 cd8 ct8 : Value}
    {f9 : Addr} {od9 an9 : Option Addr} {sl9 : Array (Option Value)} {oc9 kV9 dc9 pm9 cd9 ct9 : Value}
    {f10 : Addr} {od10 an10 : Option Addr} {sl10 : Array (Option Value)} {oc10 kV10 dc10 pm10 cd10 ct10 : Value}
    {f11 : Addr} {od11 an11 : Option Addr} {sl11 : Array (Option Value)} {oc11 kV11 dc11 pm11 cd11 ct11 : Value}
    {f12 : Addr} {od12 an12 : Option Addr} {sl12 : Array (Option Value)} {oc12 kV12 dc12 pm12 cd12 ct12 : Value}
    {f13 : Addr} {od13 an13 : Option Addr} {sl13 : Array (Option Value)} {oc13 kV13 dc13 pm13 cd13 ct13 : Value}
    {f14 : Addr} {od14 an14 : Option Addr} {sl14 : Array (Option Value)} {oc14 kV14 dc14 pm14 cd14 ct14 : Value}
    {f15 : Addr} {od15 an15 : Option Addr} {sl15 : Array (Option Value)} {oc15 kV15 dc15 pm15 cd15 ct15 : Value}
    {f16 : Addr} {od16 an16 : Option Addr} {sl16 : Array (Option Value)} {oc16 kV16 dc16 pm16 cd16 ct16 : Value}
    {f17 : Addr} {od17 an17 : Option Addr} {sl17 : Array (Option Value)} {oc17 kV17 dc17 pm17 cd17 ct17 : Value}
    {f18 : Addr} {od18 an18 : Option Addr} {sl18 : Array (Option Value)} {oc18 kV18 dc18 pm18 cd18 ct18 : Value}
    {f19 : Addr} {od19 an19 : Option Addr} {sl19 : Array (Option Value)} {oc19 kV19 dc19 pm19 cd19 ct19 : Value}
    {f20 : Addr} {od20 an20 : Option Addr} {sl20 : Array (Option Value)} {oc20 kV20 dc20 pm20 cd20 ct20 : Value}
    {f21 : Addr} {od21 an21 : Option Addr} {sl21 : Array (Option Value)} {oc21 kV21 dc21 pm21 cd21 ct21 : Value}
    {f22 : Addr} {od22 an22 : Option Addr} {sl22 : Array (Option Value)} {oc22 kV22 dc22 pm22 cd22 ct22 : Value}
    {f23 : Addr} {od23 an23 : Option Addr} {sl23 : Array (Option Value)} {oc23 kV23 dc23 pm23 cd23 ct23 : Value}
    {f24 : Addr} {od24 an24 : Option Addr} {sl24 : Array (Option Value)} {oc24 kV24 dc24 pm24 cd24 ct24 : Value}
    {f25 : Addr} {od25 an25 : Option Addr} {sl25 : Array (Option Value)} {oc25 kV25 dc25 pm25 cd25 ct25 : Value}
    {f26 : Addr} {od26 an26 : Option Addr} {sl26 : Array (Option Value)} {oc26 kV26 dc26 pm26 cd26 ct26 : Value}
    {f27 : Addr} {od27 an27 : Option Addr} {sl27 : Array (Option Value)} {oc27 kV27 dc27 pm27 cd27 ct27 : Value}
    {f28 : Addr} {od28 an28 : Option Addr} {sl28 : Array (Option Value)} {oc28 kV28 dc28 pm28 cd28 ct28 : Value}
    {f29 : Addr} {od29 an29 : Option Addr} {sl29 : Array (Option Value)} {oc29 kV29 dc29 pm29 cd29 ct29 : Value}
    {f30 : Addr} {od30 an30 : Option Addr} {sl30 : Array (Option Value)} {oc30 kV30 dc30 pm30 cd30 ct30 : Value}
    {f31 : Addr} {od31 an31 : Option Addr} {sl31 : Array (Option Value)} {oc31 kV31 dc31 pm31 cd31 ct31 : Value}
    {f32 : Addr} {od32 an32 : Option Addr} {sl32 : Array (Option Value)} {oc32 kV32 dc32 pm32 cd32 ct32 : Value}
    {f33 : Addr} {od33 an33 : Option Addr} {sl33 : Array (Option Value)} {oc33 kV33 dc33 pm33 cd33 ct33 : Value}
    {f34 : Addr} {od34 an34 : Option Addr} {sl34 : Array (Option Value)} {oc34 kV34 dc34 pm34 cd34 ct34 : Value}
    {f35 : Addr} {od35 an35 : Option Addr} {sl35 : Array (Option Value)} {oc35 kV35 dc35 pm35 cd35 ct35 : Value}
    {f36 : Addr} {od36 an36 : Option Addr} {sl36 : Array (Option Value)} {oc36 kV36 dc36 pm36 cd36 ct36 : Value}
    {f37 : Addr} {od37 an37 : Option Addr} {sl37 : Array (Option Value)} {oc37 kV37 dc37 pm37 cd37 ct37 : Value}
    {f38 : Addr} {od38 an38 : Option Addr} {sl38 : Array (Option Value)} {oc38 kV38 dc38 pm38 cd38 ct38 : Value}
    {t_BITS : Tok}
    {t_MASK : Tok}
    {p_PRIMES : Addr} {es_PRIMES : Array DictEntry} {n_PRIMES : Nat}
    {q0_PRIMES : Addr} {d0_PRIMES : Option Addr} {i0_PRIMES : Array Value} {m0_PRIMES : Nat} {s0_PRIMES : Array (Option Value)}
    {q1_PRIMES : Addr} {d1_PRIMES : Option Addr} {i1_PRIMES : Array Value} {m1_PRIMES : Nat} {s1_PRIMES : Array (Option Value)}
    {q2_PRIMES : Addr} {d2_PRIMES : Option Addr} {i2_PRIMES : Array Value} {m2_PRIMES : Nat} {s2_PRIMES : Array (Option Value)}
    {q3_PRIMES : Addr} {d3_PRIMES : Option Addr} {i3_PRIMES : Array Value} {m3_PRIMES : Nat} {s3_PRIMES : Array (Option Value)}
    {q4_PRIMES : Addr} {d4_PRIMES : Option Addr} {i4_PRIMES : Array Value} {m4_PRIMES : Nat} {s4_PRIMES : Array (Option Value)}
    {q5_PRIMES : Addr} {d5_PRIMES : Option Addr} {i5_PRIMES : Array Value} {m5_PRIMES : Nat} {s5_PRIMES : Array (Option Value)}
    {q6_PRIMES : Addr} {d6_PRIMES : Option Addr} {i6_PRIMES : Array Value} {m6_PRIMES : Nat} {s6_PRIMES : Array (Option Value)}
    {q7_PRIMES : Addr} {d7_PRIMES : Option Addr} {i7_PRIMES : Array Value} {m7_PRIMES : Nat} {s7_PRIMES : Array (Option Value)}
    {q8_PRIMES : Addr} {d8_PRIMES : Option Addr} {i8_PRIMES : Array Value} {m8_PRIMES : Nat} {s8_PRIMES : Array (Option Value)}
    {q9_PRIMES : Addr} {d9_PRIMES : Option Addr} {i9_PRIMES : Array Value} {m9_PRIMES : Nat} {s9_PRIMES : Array (Option Value)}
    (a0 : PySem.W.nsIn K mainGlobals "is_integer" = some (some (.ref f0)))
    (l0 : K.lookup f0 = some ⟨oc0, od0, .func (PySem.W.fnOf "is_integer" "is_integer" (fArgs st_is_integer) (fBody st_is_integer) (fScope st_is_integer) .none kV0 dc0 pm0 an0 cd0 ct0), sl0⟩)
    (c0 : PySem.W.codeIn K cd0 "is_integer" = true)
    (k0 : PySem.W.keepIn K (.ref f0) = true)
    (a1 : PySem.W.nsIn K mainGlobals "is_modulus" = some (some (.ref f1)))
    (l1 : K.lookup f1 = some ⟨oc1, od1, .func (PySem.W.fnOf "is_modulus" "is_modulus" (fArgs st_is_modulus) (fBody st_is_modulus) (fScope st_is_modulus) .none kV1 dc1 pm1 an1 cd1 ct1), sl1⟩)
    (c1 : PySem.W.codeIn K cd1 "is_modulus" = true)
    (k1 : PySem.W.keepIn K (.ref f1) = true)
    (a2 : PySem.W.nsIn K mainGlobals "primes_in" = some (some (.ref f2)))
    (l2 : K.lookup f2 = some ⟨oc2, od2, .func (PySem.W.fnOf "primes_in" "primes_in" (fArgs st_primes_in) (fBody st_primes_in) (fScope st_primes_in) .none kV2 dc2 pm2 an2 cd2 ct2), sl2⟩)
    (c2 : PySem.W.codeIn K cd2 "primes_in" = true)
    (k2 : PySem.W.keepIn K (.ref f2) = true)
    (a3 : PySem.W.nsIn K mainGlobals "are_pairs" = some (some (.ref f3)))
    (l3 : K.lookup f3 = some ⟨oc3, od3, .func (PySem.W.fnOf "are_pairs" "are_pairs" (fArgs st_are_pairs) (fBody st_are_pairs) (fScope st_are_pairs) .none kV3 dc3 pm3 an3 cd3 ct3), sl3⟩)
    (c3 : PySem.W.codeIn K cd3 "are_pairs" = true)
    (k3 : PySem.W.keepIn K (.ref f3) = true)
    (a4 : PySem.W.nsIn K mainGlobals "is_of_modulus" = some (some (.ref f4)))
    (l4 : K.lookup f4 = some ⟨oc4, od4, .func (PySem.W.fnOf "is_of_modulus" "is_of_modulus" (fArgs st_is_of_modulus) (fBody st_is_of_modulus) (fScope st_is_of_modulus) .none kV4 dc4 pm4 an4 cd4 ct4), sl4⟩)
    (c4 : PySem.W.codeIn K cd4 "is_of_modulus" = true)
    (k4 : PySem.W.keepIn K (.ref f4) = true)
    (a5 : PySem.W.nsIn K mainGlobals "is_a_rule" = some (some (.ref f5)))
    (l5 : K.lookup f5 = some ⟨oc5, od5, .func (PySem.W.fnOf "is_a_rule" "is_a_rule" (fArgs st_is_a_rule) (fBody st_is_a_rule) (fScope st_is_a_rule) .none kV5 dc5 pm5 an5 cd5 ct5), sl5⟩)
    (c5 : PySem.W.codeIn K cd5 "is_a_rule" = true)
    (k5 : PySem.W.keepIn K (.ref f5) = true)
    (a6 : PySem.W.nsIn K mainGlobals "need_modulus" = some (some (.ref f6)))
    (l6 : K.lookup f6 = some ⟨oc6, od6, .func (PySem.W.fnOf "need_modulus" "need_modulus" (fArgs st_need_modulus) (fBody st_need_modulus) (fScope st_need_modulus) .none kV6 dc6 pm6 an6 cd6 ct6), sl6⟩)
    (c6 : PySem.W.codeIn K cd6 "need_modulus" = true)
    (k6 : PySem.W.keepIn K (.ref f6) = true)
    (a7 : PySem.W.nsIn K mainGlobals "need_rule" = some (some (.ref f7)))
    (l7 : K.lookup f7 = some ⟨oc7, od7, .func (PySem.W.fnOf "need_rule" "need_rule" (fArgs st_need_rule) (fBody st_need_rule) (fScope st_need_rule) .none kV7 dc7 pm7 an7 cd7 ct7), sl7⟩)
    (c7 : PySem.W.codeIn K cd7 "need_rule" = true)
    (k7 : PySem.W.keepIn K (.ref f7) = true)
    (a8 : PySem.W.nsIn K mainGlobals "need_same" = some (some (.ref f8)))
    (l8 : K.lookup f8 = some ⟨oc8, od8, .func (PySem.W.fnOf "need_same" "need_same" (fArgs st_need_same) (fBody st_need_same) (fScope st_need_same) .none kV8 dc8 pm8 an8 cd8 ct8), sl8⟩)
    (c8 : PySem.W.codeIn K cd8 "need_same" = true)
    (k8 : PySem.W.keepIn K (.ref f8) = true)
    (a9 : PySem.W.nsIn K mainGlobals "need_number" = some (some (.ref f9)))
    (l9 : K.lookup f9 = some ⟨oc9, od9, .func (PySem.W.fnOf "need_number" "need_number" (fArgs st_need_number) (fBody st_need_number) (fScope st_need_number) .none kV9 dc9 pm9 an9 cd9 ct9), sl9⟩)
    (c9 : PySem.W.codeIn K cd9 "need_number" = true)
    (k9 : PySem.W.keepIn K (.ref f9) = true)
    (a10 : PySem.W.nsIn K mainGlobals "together" = some (some (.ref f10)))
    (l10 : K.lookup f10 = some ⟨oc10, od10, .func (PySem.W.fnOf "together" "together" (fArgs st_together) (fBody st_together) (fScope st_together) .none kV10 dc10 pm10 an10 cd10 ct10), sl10⟩)
    (c10 : PySem.W.codeIn K cd10 "together" = true)
    (k10 : PySem.W.keepIn K (.ref f10) = true)
    (a11 : PySem.W.nsIn K mainGlobals "trimmed" = some (some (.ref f11)))
    (l11 : K.lookup f11 = some ⟨oc11, od11, .func (PySem.W.fnOf "trimmed" "trimmed" (fArgs st_trimmed) (fBody st_trimmed) (fScope st_trimmed) .none kV11 dc11 pm11 an11 cd11 ct11), sl11⟩)
    (c11 : PySem.W.codeIn K cd11 "trimmed" = true)
    (k11 : PySem.W.keepIn K (.ref f11) = true)
    (a12 : PySem.W.nsIn K mainGlobals "in_one" = some (some (.ref f12)))
    (l12 : K.lookup f12 = some ⟨oc12, od12, .func (PySem.W.fnOf "in_one" "in_one" (fArgs st_in_one) (fBody st_in_one) (fScope st_in_one) .none kV12 dc12 pm12 an12 cd12 ct12), sl12⟩)
    (c12 : PySem.W.codeIn K cd12 "in_one" = true)
    (k12 : PySem.W.keepIn K (.ref f12) = true)
    (a13 : PySem.W.nsIn K mainGlobals "times_in_one" = some (some (.ref f13)))
    (l13 : K.lookup f13 = some ⟨oc13, od13, .func (PySem.W.fnOf "times_in_one" "times_in_one" (fArgs st_times_in_one) (fBody st_times_in_one) (fScope st_times_in_one) .none kV13 dc13 pm13 an13 cd13 ct13), sl13⟩)
    (c13 : PySem.W.codeIn K cd13 "times_in_one" = true)
    (k13 : PySem.W.keepIn K (.ref f13) = true)
    (a14 : PySem.W.nsIn K mainGlobals "times" = some (some (.ref f14)))
    (l14 : K.lookup f14 = some ⟨oc14, od14, .func (PySem.W.fnOf "times" "times" (fArgs st_times) (fBody st_times) (fScope st_times) .none kV14 dc14 pm14 an14 cd14 ct14), sl14⟩)
    (c14 : PySem.W.codeIn K cd14 "times" = true)
    (k14 : PySem.W.keepIn K (.ref f14) = true)
    (a15 : PySem.W.nsIn K mainGlobals "raised" = some (some (.ref f15)))
    (l15 : K.lookup f15 = some ⟨oc15, od15, .func (PySem.W.fnOf "raised" "raised" (fArgs st_raised) (fBody st_raised) (fScope st_raised) .none kV15 dc15 pm15 an15 cd15 ct15), sl15⟩)
    (c15 : PySem.W.codeIn K cd15 "raised" = true)
    (k15 : PySem.W.keepIn K (.ref f15) = true)
    (a16 : PySem.W.nsIn K mainGlobals "of_terms" = some (some (.ref f16)))
    (l16 : K.lookup f16 = some ⟨oc16, od16, .func (PySem.W.fnOf "of_terms" "of_terms" (fArgs st_of_terms) (fBody st_of_terms) (fScope st_of_terms) .none kV16 dc16 pm16 an16 cd16 ct16), sl16⟩)
    (c16 : PySem.W.codeIn K cd16 "of_terms" = true)
    (k16 : PySem.W.keepIn K (.ref f16) = true)
    (a17 : PySem.W.nsIn K mainGlobals "to_terms" = some (some (.ref f17)))
    (l17 : K.lookup f17 = some ⟨oc17, od17, .func (PySem.W.fnOf "to_terms" "to_terms" (fArgs st_to_terms) (fBody st_to_terms) (fScope st_to_terms) .none kV17 dc17 pm17 an17 cd17 ct17), sl17⟩)
    (c17 : PySem.W.codeIn K cd17 "to_terms" = true)
    (k17 : PySem.W.keepIn K (.ref f17) = true)
    (a18 : PySem.W.nsIn K mainGlobals "primes_of" = some (some (.ref f18)))
    (l18 : K.lookup f18 = some ⟨oc18, od18, .func (PySem.W.fnOf "primes_of" "primes_of" (fArgs st_primes_of) (fBody st_primes_of) (fScope st_primes_of) .none kV18 dc18 pm18 an18 cd18 ct18), sl18⟩)
    (c18 : PySem.W.codeIn K cd18 "primes_of" = true)
    (k18 : PySem.W.keepIn K (.ref f18) = true)
    (a19 : PySem.W.nsIn K mainGlobals "still" = some (some (.ref f19)))
    (l19 : K.lookup f19 = some ⟨oc19, od19, .func (PySem.W.fnOf "still" "still" (fArgs st_still) (fBody st_still) (fScope st_still) .none kV19 dc19 pm19 an19 cd19 ct19), sl19⟩)
    (c19 : PySem.W.codeIn K cd19 "still" = true)
    (k19 : PySem.W.keepIn K (.ref f19) = true)
    (a20 : PySem.W.nsIn K mainGlobals "collected" = some (some (.ref f20)))
    (l20 : K.lookup f20 = some ⟨oc20, od20, .func (PySem.W.fnOf "collected" "collected" (fArgs st_collected) (fBody st_collected) (fScope st_collected) .none kV20 dc20 pm20 an20 cd20 ct20), sl20⟩)
    (c20 : PySem.W.codeIn K cd20 "collected" = true)
    (k20 : PySem.W.keepIn K (.ref f20) = true)
    (a21 : PySem.W.nsIn K mainGlobals "plus" = some (some (.ref f21)))
    (l21 : K.lookup f21 = some ⟨oc21, od21, .func (PySem.W.fnOf "plus" "plus" (fArgs st_plus) (fBody st_plus) (fScope st_plus) .none kV21 dc21 pm21 an21 cd21 ct21), sl21⟩)
    (c21 : PySem.W.codeIn K cd21 "plus" = true)
    (k21 : PySem.W.keepIn K (.ref f21) = true)
    (a22 : PySem.W.nsIn K mainGlobals "behind" = some (some (.ref f22)))
    (l22 : K.lookup f22 = some ⟨oc22, od22, .func (PySem.W.fnOf "behind" "behind" (fArgs st_behind) (fBody st_behind) (fScope st_behind) .none kV22 dc22 pm22 an22 cd22 ct22), sl22⟩)
    (c22 : PySem.W.codeIn K cd22 "behind" = true)
    (k22 : PySem.W.keepIn K (.ref f22) = true)
    (a23 : PySem.W.nsIn K mainGlobals "from_parts" = some (some (.ref f23)))
    (l23 : K.lookup f23 = some ⟨oc23, od23, .func (PySem.W.fnOf "from_parts" "from_parts" (fArgs st_from_parts) (fBody st_from_parts) (fScope st_from_parts) .none kV23 dc23 pm23 an23 cd23 ct23), sl23⟩)
    (c23 : PySem.W.codeIn K cd23 "from_parts" = true)
    (k23 : PySem.W.keepIn K (.ref f23) = true)
    (a24 : PySem.W.nsIn K mainGlobals "power" = some (some (.ref f24)))
    (l24 : K.lookup f24 = some ⟨oc24, od24, .func (PySem.W.fnOf "power" "power" (fArgs st_power) (fBody st_power) (fScope st_power) .none kV24 dc24 pm24 an24 cd24 ct24), sl24⟩)
    (c24 : PySem.W.codeIn K cd24 "power" = true)
    (k24 : PySem.W.keepIn K (.ref f24) = true)
    (a25 : PySem.W.nsIn K mainGlobals "_law_source" = some (some (.ref f25)))
    (l25 : K.lookup f25 = some ⟨oc25, od25, .func (PySem.W.fnOf "_law_source" "_law_source" (fArgs st__law_source) (fBody st__law_source) (fScope st__law_source) .none kV25 dc25 pm25 an25 cd25 ct25), sl25⟩)
    (c25 : PySem.W.codeIn K cd25 "_law_source" = true)
    (k25 : PySem.W.keepIn K (.ref f25) = true)
    (a26 : PySem.W.nsIn K mainGlobals "_law_pick" = some (some (.ref f26)))
    (l26 : K.lookup f26 = some ⟨oc26, od26, .func (PySem.W.fnOf "_law_pick" "_law_pick" (fArgs st__law_pick) (fBody st__law_pick) (fScope st__law_pick) .none kV26 dc26 pm26 an26 cd26 ct26), sl26⟩)
    (c26 : PySem.W.codeIn K cd26 "_law_pick" = true)
    (k26 : PySem.W.keepIn K (.ref f26) = true)
    (a27 : PySem.W.nsIn K mainGlobals "_law_primes" = some (some (.ref f27)))
    (l27 : K.lookup f27 = some ⟨oc27, od27, .func (PySem.W.fnOf "_law_primes" "_law_primes" (fArgs st__law_primes) (fBody st__law_primes) (fScope st__law_primes) .none kV27 dc27 pm27 an27 cd27 ct27), sl27⟩)
    (c27 : PySem.W.codeIn K cd27 "_law_primes" = true)
    (k27 : PySem.W.keepIn K (.ref f27) = true)
    (a28 : PySem.W.nsIn K mainGlobals "_law_modulus" = some (some (.ref f28)))
    (l28 : K.lookup f28 = some ⟨oc28, od28, .func (PySem.W.fnOf "_law_modulus" "_law_modulus" (fArgs st__law_modulus) (fBody st__law_modulus) (fScope st__law_modulus) .none kV28 dc28 pm28 an28 cd28 ct28), sl28⟩)
    (c28 : PySem.W.codeIn K cd28 "_law_modulus" = true)
    (k28 : PySem.W.keepIn K (.ref f28) = true)
    (a29 : PySem.W.nsIn K mainGlobals "_law_factor" = some (some (.ref f29)))
    (l29 : K.lookup f29 = some ⟨oc29, od29, .func (PySem.W.fnOf "_law_factor" "_law_factor" (fArgs st__law_factor) (fBody st__law_factor) (fScope st__law_factor) .none kV29 dc29 pm29 an29 cd29 ct29), sl29⟩)
    (c29 : PySem.W.codeIn K cd29 "_law_factor" = true)
    (k29 : PySem.W.keepIn K (.ref f29) = true)
    (a30 : PySem.W.nsIn K mainGlobals "_law_terms" = some (some (.ref f30)))
    (l30 : K.lookup f30 = some ⟨oc30, od30, .func (PySem.W.fnOf "_law_terms" "_law_terms" (fArgs st__law_terms) (fBody st__law_terms) (fScope st__law_terms) .none kV30 dc30 pm30 an30 cd30 ct30), sl30⟩)
    (c30 : PySem.W.codeIn K cd30 "_law_terms" = true)
    (k30 : PySem.W.keepIn K (.ref f30) = true)
    (a31 : PySem.W.nsIn K mainGlobals "_law_tidy" = some (some (.ref f31)))
    (l31 : K.lookup f31 = some ⟨oc31, od31, .func (PySem.W.fnOf "_law_tidy" "_law_tidy" (fArgs st__law_tidy) (fBody st__law_tidy) (fScope st__law_tidy) .none kV31 dc31 pm31 an31 cd31 ct31), sl31⟩)
    (c31 : PySem.W.codeIn K cd31 "_law_tidy" = true)
    (k31 : PySem.W.keepIn K (.ref f31) = true)
    (a32 : PySem.W.nsIn K mainGlobals "_law_product" = some (some (.ref f32)))
    (l32 : K.lookup f32 = some ⟨oc32, od32, .func (PySem.W.fnOf "_law_product" "_law_product" (fArgs st__law_product) (fBody st__law_product) (fScope st__law_product) .none kV32 dc32 pm32 an32 cd32 ct32), sl32⟩)
    (c32 : PySem.W.codeIn K cd32 "_law_product" = true)
    (k32 : PySem.W.keepIn K (.ref f32) = true)
    (a33 : PySem.W.nsIn K mainGlobals "_law_power" = some (some (.ref f33)))
    (l33 : K.lookup f33 = some ⟨oc33, od33, .func (PySem.W.fnOf "_law_power" "_law_power" (fArgs st__law_power) (fBody st__law_power) (fScope st__law_power) .none kV33 dc33 pm33 an33 cd33 ct33), sl33⟩)
    (c33 : PySem.W.codeIn K cd33 "_law_power" = true)
    (k33 : PySem.W.keepIn K (.ref f33) = true)
    (a34 : PySem.W.nsIn K mainGlobals "_law_sum" = some (some (.ref f34)))
    (l34 : K.lookup f34 = some ⟨oc34, od34, .func (PySem.W.fnOf "_law_sum" "_law_sum" (fArgs st__law_sum) (fBody st__law_sum) (fScope st__law_sum) .none kV34 dc34 pm34 an34 cd34 ct34), sl34⟩)
    (c34 : PySem.W.codeIn K cd34 "_law_sum" = true)
    (k34 : PySem.W.keepIn K (.ref f34) = true)
    (a35 : PySem.W.nsIn K mainGlobals "_law_small_right" = some (some (.ref f35)))
    (l35 : K.lookup f35 = some ⟨oc35, od35, .func (PySem.W.fnOf "_law_small_right" "_law_small_right" (fArgs st__law_small_right) (fBody st__law_small_right) (fScope st__law_small_right) .none kV35 dc35 pm35 an35 cd35 ct35), sl35⟩)
    (c35 : PySem.W.codeIn K cd35 "_law_small_right" = true)
    (k35 : PySem.W.keepIn K (.ref f35) = true)
    (a36 : PySem.W.nsIn K mainGlobals "_law_two_right" = some (some (.ref f36)))
    (l36 : K.lookup f36 = some ⟨oc36, od36, .func (PySem.W.fnOf "_law_two_right" "_law_two_right" (fArgs st__law_two_right) (fBody st__law_two_right) (fScope st__law_two_right) .none kV36 dc36 pm36 an36 cd36 ct36), sl36⟩)
    (c36 : PySem.W.codeIn K cd36 "_law_two_right" = true)
    (k36 : PySem.W.keepIn K (.ref f36) = true)
    (a37 : PySem.W.nsIn K mainGlobals "_law_wide_right" = some (some (.ref f37)))
    (l37 : K.lookup f37 = some ⟨oc37, od37, .func (PySem.W.fnOf "_law_wide_right" "_law_wide_right" (fArgs st__law_wide_right) (fBody st__law_wide_right) (fScope st__law_wide_right) .none kV37 dc37 pm37 an37 cd37 ct37), sl37⟩)
    (c37 : PySem.W.codeIn K cd37 "_law_wide_right" = true)
    (k37 : PySem.W.keepIn K (.ref f37) = true)
    (a38 : PySem.W.nsIn K mainGlobals "law" = some (some (.ref f38)))
    (l38 : K.lookup f38 = some ⟨oc38, od38, .func (PySem.W.fnOf "law" "law" (fArgs st_law) (fBody st_law) (fScope st_law) .none kV38 dc38 pm38 an38 cd38 ct38), sl38⟩)
    (c38 : PySem.W.codeIn K cd38 "law" = true)
    (k38 : PySem.W.keepIn K (.ref f38) = true)
    (z_abs : PySem.W.nsIn K mainGlobals "abs" = some none)
    (z_all : PySem.W.nsIn K mainGlobals "all" = some none)
    (z_bool : PySem.W.nsIn K mainGlobals "bool" = some none)
    (z_dict : PySem.W.nsIn K mainGlobals "dict" = some none)
    (z_enumerate : PySem.W.nsIn K mainGlobals "enumerate" = some none)
    (z_int : PySem.W.nsIn K mainGlobals "int" = some none)
    (z_isinstance : PySem.W.nsIn K mainGlobals "isinstance" = some none)
    (z_len : PySem.W.nsIn K mainGlobals "len" = some none)
    (z_list : PySem.W.nsIn K mainGlobals "list" = some none)
    (z_max : PySem.W.nsIn K mainGlobals "max" = some none)
    (z_min : PySem.W.nsIn K mainGlobals "min" = some none)
    (z_range : PySem.W.nsIn K mainGlobals "range" = some none)
    (z_repr : PySem.W.nsIn K mainGlobals "repr" = some none)
    (z_reversed : PySem.W.nsIn K mainGlobals "reversed" = some none)
    (z_sorted : PySem.W.nsIn K mainGlobals "sorted" = some none)
    (z_sum : PySem.W.nsIn K mainGlobals "sum" = some none)
    (z_tuple : PySem.W.nsIn K mainGlobals "tuple" = some none)
    (z_zip : PySem.W.nsIn K mainGlobals "zip" = some none)
    (z_BITS : PySem.W.nsIn K mainGlobals "BITS" = some (some (.int 24 t_BITS)))
    (z_MASK : PySem.W.nsIn K mainGlobals "MASK" = some (some (.int 16777215 t_MASK)))
    (z_PRIMES : PySem.W.nsIn K mainGlobals "PRIMES" = some (some (.ref p_PRIMES)))
    (y_PRIMES : K.lookup p_PRIMES = some ⟨.type "dict", none, .dict es_PRIMES n_PRIMES, #[]⟩)
    (x_PRIMES : EntsR es_PRIMES.toList [(2, q0_PRIMES), (3, q1_PRIMES), (5, q2_PRIMES), (6, q3_PRIMES), (7, q4_PRIMES), (10, q5_PRIMES), (11, q6_PRIMES), (13, q7_PRIMES), (14, q8_PRIMES), (15, q9_PRIMES)])
    (w_PRIMES : (p_PRIMES == sysModules) = false)
    (v0_PRIMES : K.lookup q0_PRIMES = some ⟨.type "tuple", d0_PRIMES, .seq i0_PRIMES m0_PRIMES, s0_PRIMES⟩)
    (u0_PRIMES : PyProof.Rows.IntsAre i0_PRIMES.toList [2])
    (v1_PRIMES : K.lookup q1_PRIMES = some ⟨.type "tuple", d1_PRIMES, .seq i1_PRIMES m1_PRIMES, s1_PRIMES⟩)
    (u1_PRIMES : PyProof.Rows.IntsAre i1_PRIMES.toList [3])
    (v2_PRIMES : K.lookup q2_PRIMES = some ⟨.type "tuple", d2_PRIMES, .seq i2_PRIMES m2_PRIMES, s2_PRIMES⟩)
    (u2_PRIMES : PyProof.Rows.IntsAre i2_PRIMES.toList [5])
    (v3_PRIMES : K.lookup q3_PRIMES = some ⟨.type "tuple", d3_PRIMES, .seq i3_PRIMES m3_PRIMES, s3_PRIMES⟩)
    (u3_PRIMES : PyProof.Rows.IntsAre i3_PRIMES.toList [2, 3])
    (v4_PRIMES : K.lookup q4_PRIMES = some ⟨.type "tuple", d4_PRIMES, .seq i4_PRIMES m4_PRIMES, s4_PRIMES⟩)
    (u4_PRIMES : PyProof.Rows.IntsAre i4_PRIMES.toList [7])
    (v5_PRIMES : K.lookup q5_PRIMES = some ⟨.type "tuple", d5_PRIMES, .seq i5_PRIMES m5_PRIMES, s5_PRIMES⟩)
    (u5_PRIMES : PyProof.Rows.IntsAre i5_PRIMES.toList [2, 5])
    (v6_PRIMES : K.lookup q6_PRIMES = some ⟨.type "tuple", d6_PRIMES, .seq i6_PRIMES m6_PRIMES, s6_PRIMES⟩)
    (u6_PRIMES : PyProof.Rows.IntsAre i6_PRIMES.toList [11])
    (v7_PRIMES : K.lookup q7_PRIMES = some ⟨.type "tuple", d7_PRIMES, .seq i7_PRIMES m7_PRIMES, s7_PRIMES⟩)
    (u7_PRIMES : PyProof.Rows.IntsAre i7_PRIMES.toList [13])
    (v8_PRIMES : K.lookup q8_PRIMES = some ⟨.type "tuple", d8_PRIMES, .seq i8_PRIMES m8_PRIMES, s8_PRIMES⟩)
    (u8_PRIMES : PyProof.Rows.IntsAre i8_PRIMES.toList [2, 7])
    (v9_PRIMES : K.lookup q9_PRIMES = some ⟨.type "tuple", d9_PRIMES, .seq i9_PRIMES m9_PRIMES, s9_PRIMES⟩)
    (u9_PRIMES : PyProof.Rows.IntsAre i9_PRIMES.toList [3, 5])
    : ∃ fd : FuncData, (∀ (s : Shared) (u : Value), BindsTo s fd ⟨[u], []⟩ [("_law_script", u)]) ∧ ∀ base : Heap, K.In base → base.Ns mainGlobals mg → Sys base → FnG prog w K mg base 9 fa fd ["_law_script"] (spOf ⟨K, CA⟩ f_law 1) := by
  have T : Tx K mg := ⟨PySem.W.mg_none_of X G z_abs, PySem.W.mg_none_of X G z_all, PySem.W.mg_none_of X G z_bool, PySem.W.mg_none_of X G z_dict, PySem.W.mg_none_of X G z_enumerate, PySem.W.mg_none_of X G z_int, PySem.W.mg_none_of X G z_isinstance, PySem.W.mg_none_of X G z_len, PySem.W.mg_none_of X G z_list, PySem.W.mg_none_of X G z_max, PySem.W.mg_none_of X G z_min, PySem.W.mg_none_of X G z_range, PySem.W.mg_none_of X G z_repr, PySem.W.mg_none_of X G z_reversed, PySem.W.mg_none_of X G z_sorted, PySem.W.mg_none_of X G z_sum, PySem.W.mg_none_of X G z_tuple, PySem.W.mg_none_of X G z_zip, ⟨_, PySem.W.mg_of X G z_BITS⟩, ⟨_, PySem.W.mg_of X G z_MASK⟩, ⟨_, ⟨⟨_, _, y_PRIMES, ents_mk x_PRIMES ⟨rfl, tupI_mk v0_PRIMES u0_PRIMES (by decide), rfl, tupI_mk v1_PRIMES u1_PRIMES (by decide), rfl, tupI_mk v2_PRIMES u2_PRIMES (by decide), rfl, tupI_mk v3_PRIMES u3_PRIMES (by decide), rfl, tupI_mk v4_PRIMES u4_PRIMES (by decide), rfl, tupI_mk v5_PRIMES u5_PRIMES (by decide), rfl, tupI_mk v6_PRIMES u6_PRIMES (by decide), rfl, tupI_mk v7_PRIMES u7_PRIMES (by decide), rfl, tupI_mk v8_PRIMES u8_PRIMES (by decide), rfl, tupI_mk v9_PRIMES u9_PRIMES (by decide), trivial⟩⟩, w_PRIMES⟩, PySem.W.mg_of X G z_PRIMES⟩⟩
  have h0 := here_mk (st := st_is_integer) X G a0 l0 c0 k0
  have h1 := here_mk (st := st_is_modulus) X G a1 l1 c1 k1
  have h2 := here_mk (st := st_primes_in) X G a2 l2 c2 k2
  have h3 := here_mk (st := st_are_pairs) X G a3 l3 c3 k3
  have h4 := here_mk (st := st_is_of_modulus) X G a4 l4 c4 k4
  have h5 := here_mk (st := st_is_a_rule) X G a5 l5 c5 k5
  have h6 := here_mk (st := st_need_modulus) X G a6 l6 c6 k6
  have h7 := here_mk (st := st_need_rule) X G a7 l7 c7 k7
  have h8 := here_mk (st := st_need_same) X G a8 l8 c8 k8
  have h9 := here_mk (st := st_need_number) X G a9 l9 c9 k9
  have h10 := here_mk (st := st_together) X G a10 l10 c10 k10
  have h11 := here_mk (st := st_trimmed) X G a11 l11 c11 k11
  have h12 := here_mk (st := st_in_one) X G a12 l12 c12 k12
  have h13 := here_mk (st := st_times_in_one) X G a13 l13 c13 k13
  have h14 := here_mk (st := st_times) X G a14 l14 c14 k14
  have h15 := here_mk (st := st_raised) X G a15 l15 c15 k15
  have h16 := here_mk (st := st_of_terms) X G a16 l16 c16 k16
  have h17 := here_mk (st := st_to_terms) X G a17 l17 c17 k17
  have h18 := here_mk (st := st_primes_of) X G a18 l18 c18 k18
  have h19 := here_mk (st := st_still) X G a19 l19 c19 k19
  have h20 := here_mk (st := st_collected) X G a20 l20 c20 k20
  have h21 := here_mk (st := st_plus) X G a21 l21 c21 k21
  have h22 := here_mk (st := st_behind) X G a22 l22 c22 k22
  have h23 := here_mk (st := st_from_parts) X G a23 l23 c23 k23
  have h24 := here_mk (st := st_power) X G a24 l24 c24 k24
  have h25 := here_mk (st := st__law_source) X G a25 l25 c25 k25
  have h26 := here_mk (st := st__law_pick) X G a26 l26 c26 k26
  have h27 := here_mk (st := st__law_primes) X G a27 l27 c27 k27
  have h28 := here_mk (st := st__law_modulus) X G a28 l28 c28 k28
  have h29 := here_mk (st := st__law_factor) X G a29 l29 c29 k29
  have h30 := here_mk (st := st__law_terms) X G a30 l30 c30 k30
  have h31 := here_mk (st := st__law_tidy) X G a31 l31 c31 k31
  have h32 := here_mk (st := st__law_product) X G a32 l32 c32 k32
  have h33 := here_mk (st := st__law_power) X G a33 l33 c33 k33
  have h34 := here_mk (st := st__law_sum) X G a34 l34 c34 k34
  have h35 := here_mk (st := st__law_small_right) X G a35 l35 c35 k35
  have h36 := here_mk (st := st__law_two_right) X G a36 l36 c36 k36
  have h37 := here_mk (st := st__law_wide_right) X G a37 l37 c37 k37
  have h38 := here_mk (st := st_law) X G a38 l38 c38 k38
  have e := hfa.symm.trans h38.named
  cases e
  refine ⟨PySem.W.fnOf "law" "law" (fArgs st_law) (fBody st_law) (fScope st_law) .none kV38 dc38 pm38 an38 cd38 ct38, fun s v => .of_eq rfl, fun base _ _ B => ?_⟩
  have m_is_integer := d_is_integer (w := w) (base := base) (CA := CA) T B h0
  have m_is_modulus := d_is_modulus (w := w) (base := base) (CA := CA) T B h1 m_is_integer
  have m_primes_in := d_primes_in (w := w) (base := base) (CA := CA) T B h2
  have m_are_pairs := d_are_pairs (w := w) (base := base) (CA := CA) T B h3 m_is_integer
  have m_is_of_modulus := d_is_of_modulus (w := w) (base := base) (CA := CA) T B h4 m_is_modulus
  have m_is_a_rule := d_is_a_rule (w := w) (base := base) (CA := CA) T B h5 m_are_pairs m_is_of_modulus
  have m_need_modulus := d_need_modulus (w := w) (base := base) (CA := CA) T B h6 m_is_modulus
  have m_need_rule := d_need_rule (w := w) (base := base) (CA := CA) T B h7 m_is_a_rule
  have m_need_same := d_need_same (w := w) (base := base) (CA := CA) T B h8
  have m_need_number := d_need_number (w := w) (base := base) (CA := CA) T B h9
  have m_together := d_together (w := w) (base := base) (CA := CA) T B h10 m_primes_in
  have m_trimmed := d_trimmed (w := w) (base := base) (CA := CA) T B h11
  have m_in_one := d_in_one (w := w) (base := base) (CA := CA) T B h12
  have m_times_in_one := d_times_in_one (w := w) (base := base) (CA := CA) T B h13 m_in_one m_trimmed
  have m_times := d_times (w := w) (base := base) (CA := CA) T B h14 m_times_in_one m_trimmed
  have m_raised := d_raised (w := w) (base := base) (CA := CA) T B h15 m_times
  have m_of_terms := d_of_terms (w := w) (base := base) (CA := CA) T B h16
  have m_to_terms := d_to_terms (w := w) (base := base) (CA := CA) T B h17
  have m_primes_of := d_primes_of (w := w) (base := base) (CA := CA) T B h18 m_need_modulus m_primes_in
  have m_still := d_still (w := w) (base := base) (CA := CA) T B h19 m_need_modulus
  have m_collected := d_collected (w := w) (base := base) (CA := CA) T B h20
  have m_plus := d_plus (w := w) (base := base) (CA := CA) T B h21 m_collected m_need_rule m_need_same
  have m_behind := d_behind (w := w) (base := base) (CA := CA) T B h22 m_collected m_need_rule m_need_same
  have m_from_parts := d_from_parts (w := w) (base := base) (CA := CA) T B h23 m_together
  have m_power := d_power (w := w) (base := base) (CA := CA) T B h24 m_from_parts m_need_number m_need_rule m_of_terms m_primes_in m_raised m_to_terms
  have m__law_source := d__law_source (w := w) (base := base) (CA := CA) T B h25
  have m__law_pick := d__law_pick (w := w) (base := base) (CA := CA) T B h26
  have m__law_primes := d__law_primes (w := w) (base := base) (CA := CA) T B h27
  have m__law_modulus := d__law_modulus (w := w) (base := base) (CA := CA) T B h28 m__law_pick
  have m__law_factor := d__law_factor (w := w) (base := base) (CA := CA) T B h29 m__law_pick
  have m__law_terms := d__law_terms (w := w) (base := base) (CA := CA) T B h30 m__law_factor m__law_pick m__law_primes
  have m__law_tidy := d__law_tidy (w := w) (base := base) (CA := CA) T B h31
  have m__law_product := d__law_product (w := w) (base := base) (CA := CA) T B h32 m__law_tidy
  have m__law_power := d__law_power (w := w) (base := base) (CA := CA) T B h33 m__law_product
  have m__law_sum := d__law_sum (w := w) (base := base) (CA := CA) T B h34 m__law_tidy
  have m__law_small_right := d__law_small_right (w := w) (base := base) (CA := CA) T B h35 m__law_primes m_primes_of m_still
  have m__law_two_right := d__law_two_right (w := w) (base := base) (CA := CA) T B h36 m__law_product m__law_sum m_behind m_plus
  have m__law_wide_right := d__law_wide_right (w := w) (base := base) (CA := CA) T B h37 m__law_pick m__law_power m__law_product m__law_two_right m_behind m_power
  have m_law := d_law (w := w) (base := base) (CA := CA) T B h38 m__law_modulus m__law_pick m__law_power m__law_small_right m__law_source m__law_terms m__law_two_right m__law_wide_right m_power
  exact m_law.fn h38
end K01
open PySem PySem.W PyProof.Rows
set_option maxRecDepth 100000 in
set_option maxHeartbeats 0 in
theorem PySem.Challenge.cw_nearadds_k01_rules_put_together_holds : PySem.Challenge.rw_nearadds_k01_rules_put_together.Holds := by
  w_on; o_law; k_head; (case hw => w_witness2)
  k_fill
  refine MP.walk_G2 (l := PySem.Challenge.rw_nearadds_k01_rules_put_together) (n := 63) (k := 9) (x := "_law_script") (sp := fun K => MP.spOf ⟨K, fun _ => 0⟩ K01.f_law 1) rfl (by decide) rfl ⟨rfl, by decide, by decide⟩ (by decide +kernel) (fun w h Y => PySem.W.kIn_of Y) ?F (fun K H a ns hl hS => MP.sp_law (K01.law_true ns hl) hS)
  case F =>
    intro w mg fa h KX G hmg
    refine' K01.all_mk (fun _ => 0) KX G hmg ?a0 ?l0 ?c0 ?k0 ?a1 ?l1 ?c1 ?k1 ?a2 ?l2 ?c2 ?k2 ?a3 ?l3 ?c3 ?k3 ?a4 ?l4 ?c4 ?k4 ?a5 ?l5 ?c5 ?k5 ?a6 ?l6 ?c6 ?k6 ?a7 ?l7 ?c7 ?k7 ?a8 ?l8 ?c8 ?k8 ?a9 ?l9 ?c9 ?k9 ?a10 ?l10 ?c10 ?k10 ?a11 ?l11 ?c11 ?k11 ?a12 ?l12 ?c12 ?k12 ?a13 ?l13 ?c13 ?k13 ?a14 ?l14 ?c14 ?k14 ?a15 ?l15 ?c15 ?k15 ?a16 ?l16 ?c16 ?k16 ?a17 ?l17 ?c17 ?k17 ?a18 ?l18 ?c18 ?k18 ?a19 ?l19 ?c19 ?k19 ?a20 ?l20 ?c20 ?k20 ?a21 ?l21 ?c21 ?k21 ?a22 ?l22 ?c22 ?k22 ?a23 ?l23 ?c23 ?k23 ?a24 ?l24 ?c24 ?k24 ?a25 ?l25 ?c25 ?k25 ?a26 ?l26 ?c26 ?k26 ?a27 ?l27 ?c27 ?k27 ?a28 ?l28 ?c28 ?k28 ?a29 ?l29 ?c29 ?k29 ?a30 ?l30 ?c30 ?k30 ?a31 ?l31 ?c31 ?k31 ?a32 ?l32 ?c32 ?k32 ?a33 ?l33 ?c33 ?k33 ?a34 ?l34 ?c34 ?k34 ?a35 ?l35 ?c35 ?k35 ?a36 ?l36 ?c36 ?k36 ?a37 ?l37 ?c37 ?k37 ?a38 ?l38 ?c38 ?k38 ?z_abs ?z_all ?z_bool ?z_dict ?z_enumerate ?z_int ?z_isinstance ?z_len ?z_list ?z_max ?z_min ?z_range ?z_repr ?z_reversed ?z_sorted ?z_sum ?z_tuple ?z_zip ?z_BITS ?z_MASK ?z_PRIMES ?y_PRIMES ?x_PRIMES ?w_PRIMES ?v0_PRIMES ?u0_PRIMES ?v1_PRIMES ?u1_PRIMES ?v2_PRIMES ?u2_PRIMES ?v3_PRIMES ?u3_PRIMES ?v4_PRIMES ?u4_PRIMES ?v5_PRIMES ?u5_PRIMES ?v6_PRIMES ?u6_PRIMES ?v7_PRIMES ?u7_PRIMES ?v8_PRIMES ?u8_PRIMES ?v9_PRIMES ?u9_PRIMES
    (case a0 => k_is)
    (case l0 => k_is)
    (case c0 => k_is)
    (case k0 => k_is)
    (case a1 => k_is)
    (case l1 => k_is)
    (case c1 => k_is)
    (case k1 => k_is)
    (case a2 => k_is)
    (case l2 => k_is)
    (case c2 => k_is)
    (case k2 => k_is)
    (case a3 => k_is)
    (case l3 => k_is)
    (case c3 => k_is)
    (case k3 => k_is)
    (case a4 => k_is)
    (case l4 => k_is)
    (case c4 => k_is)
    (case k4 => k_is)
    (case a5 => k_is)
    (case l5 => k_is)
    (case c5 => k_is)
    (case k5 => k_is)
    (case a6 => k_is)
    (case l6 => k_is)
    (case c6 => k_is)
    (case k6 => k_is)
    (case a7 => k_is)
    (case l7 => k_is)
    (case c7 => k_is)
    (case k7 => k_is)
    (case a8 => k_is)
    (case l8 => k_is)
    (case c8 => k_is)
    (case k8 => k_is)
    (case a9 => k_is)
    (case l9 => k_is)
    (case c9 => k_is)
    (case k9 => k_is)
    (case a10 => k_is)
    (case l10 => k_is)
    (case c10 => k_is)
    (case k10 => k_is)
    (case a11 => k_is)
    (case l11 => k_is)
    (case c11 => k_is)
    (case k11 => k_is)
    (case a12 => k_is)
    (case l12 => k_is)
    (case c12 => k_is)
    (case k12 => k_is)
    (case a13 => k_is)
    (case l13 => k_is)
    (case c13 => k_is)
    (case k13 => k_is)
    (case a14 => k_is)
    (case l14 => k_is)
    (case c14 => k_is)
    (case k14 => k_is)
    (case a15 => k_is)
    (case l15 => k_is)
    (case c15 => k_is)
    (case k15 => k_is)
    (case a16 => k_is)
    (case l16 => k_is)
    (case c16 => k_is)
    (case k16 => k_is)
    (case a17 => k_is)
    (case l17 => k_is)
    (case c17 => k_is)
    (case k17 => k_is)
    (case a18 => k_is)
    (case l18 => k_is)
    (case c18 => k_is)
    (case k18 => k_is)
    (case a19 => k_is)
    (case l19 => k_is)
    (case c19 => k_is)
    (case k19 => k_is)
    (case a20 => k_is)
    (case l20 => k_is)
    (case c20 => k_is)
    (case k20 => k_is)
    (case a21 => k_is)
    (case l21 => k_is)
    (case c21 => k_is)
    (case k21 => k_is)
    (case a22 => k_is)
    (case l22 => k_is)
    (case c22 => k_is)
    (case k22 => k_is)
    (case a23 => k_is)
    (case l23 => k_is)
    (case c23 => k_is)
    (case k23 => k_is)
    (case a24 => k_is)
    (case l24 => k_is)
    (case c24 => k_is)
    (case k24 => k_is)
    (case a25 => k_is)
    (case l25 => k_is)
    (case c25 => k_is)
    (case k25 => k_is)
    (case a26 => k_is)
    (case l26 => k_is)
    (case c26 => k_is)
    (case k26 => k_is)
    (case a27 => k_is)
    (case l27 => k_is)
    (case c27 => k_is)
    (case k27 => k_is)
    (case a28 => k_is)
    (case l28 => k_is)
    (case c28 => k_is)
    (case k28 => k_is)
    (case a29 => k_is)
    (case l29 => k_is)
    (case c29 => k_is)
    (case k29 => k_is)
    (case a30 => k_is)
    (case l30 => k_is)
    (case c30 => k_is)
    (case k30 => k_is)
    (case a31 => k_is)
    (case l31 => k_is)
    (case c31 => k_is)
    (case k31 => k_is)
    (case a32 => k_is)
    (case l32 => k_is)
    (case c32 => k_is)
    (case k32 => k_is)
    (case a33 => k_is)
    (case l33 => k_is)
    (case c33 => k_is)
    (case k33 => k_is)
    (case a34 => k_is)
    (case l34 => k_is)
    (case c34 => k_is)
    (case k34 => k_is)
    (case a35 => k_is)
    (case l35 => k_is)
    (case c35 => k_is)
    (case k35 => k_is)
    (case a36 => k_is)
    (case l36 => k_is)
    (case c36 => k_is)
    (case k36 => k_is)
    (case a37 => k_is)
    (case l37 => k_is)
    (case c37 => k_is)
    (case k37 => k_is)
    (case a38 => k_is)
    (case l38 => k_is)
    (case c38 => k_is)
    (case k38 => k_is)
    (case z_abs => k_is)
    (case z_all => k_is)
    (case z_bool => k_is)
    (case z_dict => k_is)
    (case z_enumerate => k_is)
    (case z_int => k_is)
    (case z_isinstance => k_is)
    (case z_len => k_is)
    (case z_list => k_is)
    (case z_max => k_is)
    (case z_min => k_is)
    (case z_range => k_is)
    (case z_repr => k_is)
    (case z_reversed => k_is)
    (case z_sorted => k_is)
    (case z_sum => k_is)
    (case z_tuple => k_is)
    (case z_zip => k_is)
    (case z_BITS => k_is)
    (case z_MASK => k_is)
    (case z_PRIMES => k_is)
    (case y_PRIMES => k_is)
    (case x_PRIMES => exact ⟨⟨_, rfl⟩, rfl, rfl, ⟨_, rfl⟩, rfl, rfl, ⟨_, rfl⟩, rfl, rfl, ⟨_, rfl⟩, rfl, rfl, ⟨_, rfl⟩, rfl, rfl, ⟨_, rfl⟩, rfl, rfl, ⟨_, rfl⟩, rfl, rfl, ⟨_, rfl⟩, rfl, rfl, ⟨_, rfl⟩, rfl, rfl, ⟨_, rfl⟩, rfl, rfl, trivial⟩)
    (case w_PRIMES => first | rfl | decide | k_is)
    (case v0_PRIMES => k_is)
    (case u0_PRIMES => exact (.cons _ _ .nil))
    (case v1_PRIMES => k_is)
    (case u1_PRIMES => exact (.cons _ _ .nil))
    (case v2_PRIMES => k_is)
    (case u2_PRIMES => exact (.cons _ _ .nil))
    (case v3_PRIMES => k_is)
    (case u3_PRIMES => exact (.cons _ _ (.cons _ _ .nil)))
    (case v4_PRIMES => k_is)
    (case u4_PRIMES => exact (.cons _ _ .nil))
    (case v5_PRIMES => k_is)
    (case u5_PRIMES => exact (.cons _ _ (.cons _ _ .nil)))
    (case v6_PRIMES => k_is)
    (case u6_PRIMES => exact (.cons _ _ .nil))
    (case v7_PRIMES => k_is)
    (case u7_PRIMES => exact (.cons _ _ .nil))
    (case v8_PRIMES => k_is)
    (case u8_PRIMES => exact (.cons _ _ (.cons _ _ .nil)))
    (case v9_PRIMES => k_is)
    (case u9_PRIMES => exact (.cons _ _ (.cons _ _ .nil)))
end
