import PyProof.Rows.All
import Wide.All
import OpenK.AllK
import Wide.FinOn
import PySem.PyData
import KE.DataEq
import PyProof.ReprReads
import HandS.ForMost
import HandS.ForExc
import HandS.Wide
import HandS.IsInst
import HandS.Flow
import HandS.TupAny
import HandS.Style
import HandS.Conv
import HandS.SortInts
import HandS.RaiseMore
import PyProof.ReprRoads
import HandS.Ends
import HandS.TupMul
import HandS.TryOnly
import HandS.Zip
import PyProof.ReprBulk
import PyProof.FitsInt
import HandS.Codes
import PySem.Challenge.RW_nearadds_k29_bars_of_round_rows_judged
set_option Elab.async false
section
set_option linter.all false
set_option autoImplicit true
/-! A small functional semantics over data, without a heap. -/
namespace MP
open PySem

abbrev D := PyData

/-- what a mutable object holds -/
inductive Cell where
  | lst (xs : List D)
  | dct (kvs : List (D × D))

/-- what a slot holds, what an expression gives: data that never changes; an object of its own (in a slot: only that slot knows it; as a result: new); a parameter that the caller owns; the object of a slot; an error; a def -/
inductive SV where
  | d (x : D)
  | own (c : Cell)
  | ref (c : Cell)
  | pk (i : Nat)
  | exc (c : Str) (x : D)
  | fn (n : Str)

abbrev En := List (Option SV)

inductive Out (α : Type) where
  | ok (a : α) (ρ : En)
  | raise (c : Str) (x : D) (ρ : En)
  | stuck

def Out.bind {α β : Type} (o : Out α) (f : α → En → Out β) : Out β :=
  match o with
  | .ok a ρ => f a ρ
  | .raise c x ρ => .raise c x ρ
  | .stuck => .stuck
@[simp] theorem Out.bind_ok {α β : Type} {a : α} {ρ : En} {f : α → En → Out β} : (Out.ok a ρ).bind f = f a ρ := rfl
@[simp] theorem Out.bind_raise {α β : Type} {c : Str} {x : D} {ρ : En} {f : α → En → Out β} : (Out.raise c x ρ : Out α).bind f = .raise c x ρ := rfl
@[simp] theorem Out.bind_stuck {α β : Type} {f : α → En → Out β} : (Out.stuck : Out α).bind f = .stuck := rfl

abbrev ME := En → Out SV
abbrev MT := En → Out Bool
abbrev MI := En → Out (List D)

def Cell.py : Cell → D
  | .lst xs => .list xs
  | .dct kvs => .dict kvs
@[simp] theorem Cell.py_lst {xs : List D} : (Cell.lst xs).py = .list xs := rfl
@[simp] theorem Cell.py_dct {xs : List (D × D)} : (Cell.dct xs).py = .dict xs := rfl

/-- the cell that a slot owns or borrows -/
def cellAt (ρ : En) (i : Nat) : Option Cell :=
  match ρ[i]? with
  | some (some (.own c)) => some c
  | some (some (.ref c)) => some c
  | _ => none
/-- as data to be kept -/
def toD : SV → Option D
  | .d x => some x
  | .own c => some c.py
  | _ => none
@[simp] theorem toD_d {x : D} : toD (.d x) = some x := rfl
@[simp] theorem toD_own {c : Cell} : toD (.own c) = some c.py := rfl
/-- as data to be looked at -/
def view (ρ : En) : SV → Option D
  | .d x => some x
  | .own c => some c.py
  | .pk i => (cellAt ρ i).map Cell.py
  | _ => none
@[simp] theorem view_d {ρ : En} {x : D} : view ρ (.d x) = some x := rfl
@[simp] theorem view_own {ρ : En} {c : Cell} : view ρ (.own c) = some c.py := rfl
@[simp] theorem view_pk {ρ : En} {i : Nat} : view ρ (.pk i) = (cellAt ρ i).map Cell.py := rfl

def opt {α : Type} (o : Option α) (ρ : En) : Out α :=
  match o with
  | some v => .ok v ρ
  | none => .stuck
@[simp] theorem opt_some {α : Type} {v : α} {ρ : En} : opt (some v) ρ = .ok v ρ := rfl
@[simp] theorem opt_none {α : Type} {ρ : En} : opt (none : Option α) ρ = .stuck := rfl

def viewB {β : Type} (ρ : En) (v : SV) (f : D → Out β) : Out β :=
  match view ρ v with
  | some x => f x
  | none => .stuck
def toB {β : Type} (v : SV) (f : D → Out β) : Out β :=
  match toD v with
  | some x => f x
  | none => .stuck
@[simp] theorem viewB_d {β : Type} {ρ : En} {x : D} {f : D → Out β} : viewB ρ (.d x) f = f x := rfl
@[simp] theorem viewB_own {β : Type} {ρ : En} {c : Cell} {f : D → Out β} : viewB ρ (.own c) f = f c.py := rfl
@[simp] theorem toB_d {β : Type} {x : D} {f : D → Out β} : toB (.d x) f = f x := rfl
@[simp] theorem toB_own {β : Type} {c : Cell} {f : D → Out β} : toB (.own c) f = f c.py := rfl

/-! ### expressions -/
def mC (x : D) : ME := fun ρ => .ok (.d x) ρ
def mV (i : Nat) : ME := fun ρ =>
  match ρ[i]? with
  | some (some (.d x)) => .ok (.d x) ρ
  | some (some (.own _)) => .ok (.pk i) ρ
  | some (some (.ref _)) => .ok (.pk i) ρ
  | some (some (.exc c x)) => .ok (.exc c x) ρ
  | some (some (.fn n)) => .ok (.fn n) ρ
  | _ => .stuck
/-- an operation upon one value, upon two -/
def m1 (f : D → Option SV) (a : ME) : ME := fun ρ => (a ρ).bind fun v ρ1 => viewB ρ1 v fun x => opt (f x) ρ1
def m2 (f : D → D → Option SV) (a b : ME) : ME := fun ρ => (a ρ).bind fun v ρ1 => (b ρ1).bind fun w ρ2 => viewB ρ2 v fun x => viewB ρ2 w fun y => opt (f x y) ρ2
def mArgs : List ME → En → Out (List SV)
  | [], ρ => .ok [] ρ
  | m :: ms, ρ => (m ρ).bind fun v ρ1 => (mArgs ms ρ1).bind fun vs ρ2 => .ok (v :: vs) ρ2
@[simp] theorem mArgs_nil {ρ : En} : mArgs [] ρ = .ok [] ρ := rfl
@[simp] theorem mArgs_cons {m : ME} {ms : List ME} {ρ : En} : mArgs (m :: ms) ρ = (m ρ).bind fun v ρ1 => (mArgs ms ρ1).bind fun vs ρ2 => .ok (v :: vs) ρ2 := rfl
def allD : List SV → Option (List D)
  | [] => some []
  | v :: vs => (toD v).bind fun x => (allD vs).map fun xs => x :: xs
@[simp] theorem allD_nil : allD [] = some [] := rfl
@[simp] theorem allD_cons {v : SV} {vs : List SV} : allD (v :: vs) = (toD v).bind fun x => (allD vs).map fun xs => x :: xs := rfl
def allV (ρ : En) : List SV → Option (List D)
  | [] => some []
  | v :: vs => (view ρ v).bind fun x => (allV ρ vs).map fun xs => x :: xs
@[simp] theorem allV_nil {ρ : En} : allV ρ [] = some [] := rfl
@[simp] theorem allV_cons {ρ : En} {v : SV} {vs : List SV} : allV ρ (v :: vs) = (view ρ v).bind fun x => (allV ρ vs).map fun xs => x :: xs := rfl
def mTup (ms : List ME) : ME := fun ρ => (mArgs ms ρ).bind fun vs ρ1 => opt ((allD vs).map fun xs => SV.d (.tuple xs)) ρ1
def mLst (ms : List ME) : ME := fun ρ => (mArgs ms ρ).bind fun vs ρ1 => opt ((allD vs).map fun xs => SV.own (.lst xs)) ρ1
/-- a built-in function of its arguments -/
def mB (f : List D → Option SV) (ms : List ME) : ME := fun ρ => (mArgs ms ρ).bind fun vs ρ1 => opt ((allV ρ1 vs).bind f) ρ1

/-! ### tests -/
def truth : D → Option Bool
  | .none => some false
  | .bool b => some b
  | .int i => some (i != 0)
  | .str x => if x.length ≤ 16777216 then some ((x.length : Int) != 0) else none
  | .list xs => some (!xs.isEmpty)
  | .tuple xs => some (!xs.isEmpty)
  | .dict kvs => some (!kvs.isEmpty)
@[simp] theorem truth_bool {b : Bool} : truth (.bool b) = some b := rfl
@[simp] theorem truth_int {i : Int} : truth (.int i) = some (i != 0) := rfl
@[simp] theorem truth_list {xs : List D} : truth (.list xs) = some (!xs.isEmpty) := rfl
@[simp] theorem truth_tuple {xs : List D} : truth (.tuple xs) = some (!xs.isEmpty) := rfl
/-- an expression as a test -/
def mTr (a : ME) : MT := fun ρ => (a ρ).bind fun v ρ1 => viewB ρ1 v fun x => opt (truth x) ρ1
def kAnd (a b : MT) : MT := fun ρ => (a ρ).bind fun c ρ1 => if c = true then b ρ1 else .ok false ρ1
def kOr (a b : MT) : MT := fun ρ => (a ρ).bind fun c ρ1 => if c = true then .ok true ρ1 else b ρ1
def kNot (a : MT) : MT := fun ρ => (a ρ).bind fun c ρ1 => .ok (!c) ρ1
/-- tests as values; and, or of any values that are data -/
def mAnd (a b : ME) : ME := fun ρ => (a ρ).bind fun v ρ1 => toB v fun x => (opt (truth x) ρ1).bind fun c ρ2 => if c = true then b ρ2 else .ok (.d x) ρ2
def mOr (a b : ME) : ME := fun ρ => (a ρ).bind fun v ρ1 => toB v fun x => (opt (truth x) ρ1).bind fun c ρ2 => if c = true then .ok (.d x) ρ2 else b ρ2
def mNot (a : ME) : ME := fun ρ => (mTr a ρ).bind fun c ρ1 => .ok (.d (.bool (!c))) ρ1
def mIf (t : MT) (a b : ME) : ME := fun ρ => (t ρ).bind fun c ρ1 => if c = true then a ρ1 else b ρ1
/-- a < b < c -/
def boolOf : SV → Option Bool
  | .d (.bool b) => some b
  | _ => none
@[simp] theorem boolOf_d {b : Bool} : boolOf (.d (.bool b)) = some b := rfl
def mCh (f g : D → D → Option SV) (a b c : ME) : ME := fun ρ => (a ρ).bind fun u ρ1 => (b ρ1).bind fun v ρ2 => toB u fun x => toB v fun y => (opt ((f x y).bind boolOf) ρ2).bind fun k ρ3 =>
  if k = true then (c ρ3).bind fun w ρ4 => toB w fun z => opt (((g y z).bind boolOf).map fun q => SV.d (.bool q)) ρ4 else .ok (.d (.bool false)) ρ3

/-! ### targets -/
inductive Tg where
  | n (i : Nat)
  | t (ts : List Tg)
def free (ρ : En) (i : Nat) : Bool :=
  match ρ[i]? with
  | some (some (.ref _)) => false
  | some _ => true
  | none => false
mutual
def tgSet : Tg → D → En → Option En
  | .n i, x, ρ => if free ρ i = true then some (ρ.set i (some (.d x))) else none
  | .t ts, .tuple xs, ρ => tgSets ts xs ρ
  | .t ts, _, _ => none
def tgSets : List Tg → List D → En → Option En
  | [], [], ρ => some ρ
  | t :: ts, x :: xs, ρ => (tgSet t x ρ).bind fun ρ1 => tgSets ts xs ρ1
  | _, _, _ => none
end
mutual
def Tg.slots : Tg → List Nat
  | .n i => [i]
  | .t ts => tgSlots ts
def tgSlots : List Tg → List Nat
  | [] => []
  | t :: ts => t.slots ++ tgSlots ts
end

/-! ### comprehensions -/
def wipeE (ρ : En) : List Nat → En
  | [] => ρ
  | v :: vs => (wipeE ρ vs).set v none
/-- the slots vs as they were -/
def back (ρ : En) (ρ' : En) : List Nat → En
  | [] => ρ'
  | v :: vs => (back ρ ρ' vs).set v (ρ[v]?.getD none)
def noRaise {α β : Type} (o : Out α) (f : α → En → Out β) : Out β :=
  match o with
  | .ok a ρ => f a ρ
  | _ => .stuck
@[simp] theorem noRaise_ok {α β : Type} {a : α} {ρ : En} {f : α → En → Out β} : noRaise (Out.ok a ρ) f = f a ρ := rfl
def mYes : MT := fun ρ => .ok true ρ
def compGo (vs : List Nat) (tg : Tg) (t : MT) (e : ME) : List D → List D → En → Out SV
  | [], acc, ρ => .ok (.own (.lst acc)) ρ
  | x :: xs, acc, ρ =>
    match tgSet tg x (wipeE ρ vs) with
    | none => .stuck
    | some ρa => noRaise (t ρa) fun c ρb =>
      if c = true then noRaise (e ρb) fun v ρc => toB v fun y => compGo vs tg t e xs (acc ++ [y]) (back ρ ρc vs)
      else compGo vs tg t e xs acc (back ρ ρb vs)
/-- no slot of vs owns -/
def plainAt (ρ : En) (vs : List Nat) : Bool := vs.all fun i => (cellAt ρ i).isNone && decide (i < ρ.length)
/-- the target's slots are among vs -/
def tgIn (tg : Tg) (vs : List Nat) : Bool := tg.slots.all fun i => vs.contains i
def mComp (vs : List Nat) (tg : Tg) (it : MI) (t : MT) (e : ME) : ME := fun ρ => (it ρ).bind fun xs ρ1 => if (plainAt ρ1 vs && tgIn tg vs && decide (xs.length ≤ 16777216)) = true then compGo vs tg t e xs [] ρ1 else .stuck
/-! ### what is walked -/
def iterD : D → Option (List D)
  | .list xs => some xs
  | .tuple xs => some xs
  | .str x => some (x.cps.toList.map fun c => PyData.str ⟨#[c]⟩)
  | .dict kvs => some (kvs.map (·.1))
  | _ => none
@[simp] theorem iterD_list {xs : List D} : iterD (.list xs) = some xs := rfl
@[simp] theorem iterD_tuple {xs : List D} : iterD (.tuple xs) = some xs := rfl
def seqD : D → Option (List D)
  | .list xs => some xs
  | .tuple xs => some xs
  | _ => none
@[simp] theorem seqD_list {xs : List D} : seqD (.list xs) = some xs := rfl
@[simp] theorem seqD_tuple {xs : List D} : seqD (.tuple xs) = some xs := rfl
def i1 (f : D → Option (List D)) (a : ME) : MI := fun ρ => (a ρ).bind fun v ρ1 => toB v fun x => opt (f x) ρ1
def i2 (f : D → D → Option (List D)) (a b : ME) : MI := fun ρ => (a ρ).bind fun v ρ1 => (b ρ1).bind fun w ρ2 => toB v fun x => toB w fun y => opt (f x y) ρ2
def small62 (i : Int) : Bool := decide (i.natAbs < 4611686018427387904)
theorem small62_iff {i : Int} (h : small62 i = true) : -(2 ^ 62) ≤ i ∧ i < 2 ^ 62 := by
  unfold small62 at h
  rw [decide_eq_true_eq] at h
  omega
theorem small62_mk {i : Int} (h : i.natAbs < 4611686018427387904) : small62 i = true := by
  unfold small62
  exact decide_eq_true h
def intsD (lo : Int) (n : Nat) : List D := (List.range n).map fun k => PyData.int (lo + (k : Nat))
def range1 : D → Option (List D)
  | .int n => if small62 n = true then some (intsD 0 n.toNat) else none
  | _ => none
def range2 : D → D → Option (List D)
  | .int a, .int b => if small62 a && small62 b then some (intsD a (b - a).toNat) else none
  | _, _ => none
def enumFrom (k : Int) : List D → List D
  | [] => []
  | x :: xs => .tuple [.int k, x] :: enumFrom (k + 1) xs
def enumD : D → Option (List D)
  | .list xs => some (enumFrom 0 xs)
  | _ => none

/-! ### calls -/
inductive FRes where
  | ok (v : SV) (outs : List Cell)
  | raise (c : Str) (x : D) (outs : List Cell)
  | stuck
abbrev F := List SV → FRes
/-- as an argument -/
def argOf (ρ : En) : SV → Option SV
  | .d x => some (.d x)
  | .own c => some (.d c.py)
  | .pk i => (cellAt ρ i).map SV.ref
  | .exc c x => some (.exc c x)
  | .fn n => some (.fn n)
  | .ref _ => none
def argsOf (ρ : En) : List SV → Option (List SV)
  | [] => some []
  | v :: vs => (argOf ρ v).bind fun x => (argsOf ρ vs).map fun xs => x :: xs
@[simp] theorem argsOf_nil {ρ : En} : argsOf ρ [] = some [] := rfl
@[simp] theorem argsOf_cons {ρ : En} {v : SV} {vs : List SV} : argsOf ρ (v :: vs) = (argOf ρ v).bind fun x => (argsOf ρ vs).map fun xs => x :: xs := rfl
@[simp] theorem argOf_d {ρ : En} {x : D} : argOf ρ (.d x) = some (.d x) := rfl
@[simp] theorem argOf_own {ρ : En} {c : Cell} : argOf ρ (.own c) = some (.d c.py) := rfl
@[simp] theorem argOf_pk {ρ : En} {i : Nat} : argOf ρ (.pk i) = (cellAt ρ i).map SV.ref := rfl
def refIx : List SV → List Nat
  | [] => []
  | .pk i :: vs => i :: refIx vs
  | _ :: vs => refIx vs
/-- a new content in the same slot -/
def putCell (ρ : En) (i : Nat) (c : Cell) : En :=
  match ρ[i]? with
  | some (some (.own _)) => ρ.set i (some (.own c))
  | some (some (.ref _)) => ρ.set i (some (.ref c))
  | _ => ρ
def putCells (ρ : En) : List Nat → List Cell → Option En
  | [], [] => some ρ
  | i :: is, c :: cs => putCells (putCell ρ i c) is cs
  | _, _ => none
/-- data or a new object -/
def isRes : SV → Bool
  | .d _ => true
  | .own _ => true
  | _ => false
@[simp] theorem isRes_d {x : D} : isRes (.d x) = true := rfl
@[simp] theorem isRes_own {x : Cell} : isRes (.own x) = true := rfl
def callEnd (ρ1 : En) (is : List Nat) : FRes → Out SV
  | .ok v outs => if isRes v = true then (match putCells ρ1 is outs with | some ρ2 => .ok v ρ2 | none => .stuck) else .stuck
  | .raise c x outs => (match putCells ρ1 is outs with | some ρ2 => .raise c x ρ2 | none => .stuck)
  | .stuck => .stuck
def mCallGo (f : F) (vs : List SV) (ρ1 : En) : Out SV :=
  match argsOf ρ1 vs with
  | none => .stuck
  | some as => if (refIx vs).Nodup then callEnd ρ1 (refIx vs) (f as) else .stuck
/-- a def's call -/
def mCall (f : F) (ms : List ME) : ME := fun ρ => (mArgs ms ρ).bind fun vs ρ1 => mCallGo f vs ρ1
/-- with keywords: the values as they are written; perm brings them into the parameters' order -/
def mCallK (f : F) (perm : List Nat) (ms : List ME) : ME := fun ρ => (mArgs ms ρ).bind fun vs ρ1 => mCallGo f (perm.map fun j => vs[j]?.getD (.d .none)) ρ1

/-! ### statements -/
inductive SOut where
  | next (ρ : En)
  | ret (v : SV) (ρ : En)
  | brk (ρ : En)
  | cont (ρ : En)
  | raise (c : Str) (x : D) (ρ : En)
  | stuck
abbrev MS := En → SOut
def Out.st {α : Type} (o : Out α) (f : α → En → SOut) : SOut :=
  match o with
  | .ok a ρ => f a ρ
  | .raise c x ρ => .raise c x ρ
  | .stuck => .stuck
@[simp] theorem Out.st_ok {α : Type} {a : α} {ρ : En} {f : α → En → SOut} : (Out.ok a ρ).st f = f a ρ := rfl
@[simp] theorem Out.st_raise {α : Type} {c : Str} {x : D} {ρ : En} {f : α → En → SOut} : (Out.raise c x ρ : Out α).st f = .raise c x ρ := rfl
@[simp] theorem Out.st_stuck {α : Type} {f : α → En → SOut} : (Out.stuck : Out α).st f = .stuck := rfl
def SOut.seq (o : SOut) (f : En → SOut) : SOut :=
  match o with
  | .next ρ => f ρ
  | o => o
@[simp] theorem SOut.seq_next {ρ : En} {f : En → SOut} : (SOut.next ρ).seq f = f ρ := rfl
@[simp] theorem SOut.seq_ret {ρ : En} {v : SV} {f : En → SOut} : (SOut.ret v ρ).seq f = .ret v ρ := rfl
@[simp] theorem SOut.seq_brk {ρ : En} {f : En → SOut} : (SOut.brk ρ).seq f = .brk ρ := rfl
@[simp] theorem SOut.seq_cont {ρ : En} {f : En → SOut} : (SOut.cont ρ).seq f = .cont ρ := rfl
@[simp] theorem SOut.seq_raise {ρ : En} {c : Str} {x : D} {f : En → SOut} : (SOut.raise c x ρ).seq f = .raise c x ρ := rfl
@[simp] theorem SOut.seq_stuck {f : En → SOut} : SOut.stuck.seq f = .stuck := rfl
def sNext : MS := fun ρ => .next ρ
def sBreak : MS := fun ρ => .brk ρ
def sCont : MS := fun ρ => .cont ρ
def sNever : MS := fun _ => .stuck
def sSeq (a b : MS) : MS := fun ρ => (a ρ).seq b
def sExpr (m : ME) : MS := fun ρ => (m ρ).st fun _ ρ1 => .next ρ1
def sRet (m : ME) : MS := fun ρ => (m ρ).st fun v ρ1 => .ret v ρ1
def sRetN : MS := fun ρ => .ret (.d .none) ρ
def sIf (t : MT) (a b : MS) : MS := fun ρ => (t ρ).st fun c ρ1 => if c = true then a ρ1 else b ρ1
/-- as what a slot keeps; k: an object of its own stays one -/
def kept (k : Bool) : SV → Option SV
  | .d x => some (.d x)
  | .own c => some (if k = true then .own c else .d c.py)
  | .exc c x => some (.exc c x)
  | .fn n => some (.fn n)
  | _ => none
@[simp] theorem kept_d {k : Bool} {x : D} : kept k (.d x) = some (.d x) := rfl
@[simp] theorem kept_own_t {c : Cell} : kept true (.own c) = some (.own c) := rfl
@[simp] theorem kept_own_f {c : Cell} : kept false (.own c) = some (.d c.py) := rfl
def setS (k : Bool) (i : Nat) (v : SV) (ρ : En) : SOut :=
  if free ρ i = true then match kept k v with
    | some w => .next (ρ.set i (some w))
    | none => .stuck
  else .stuck
def sSet (k : Bool) (i : Nat) (m : ME) : MS := fun ρ => (m ρ).st fun v ρ1 => setS k i v ρ1
/-- a, b = e: e a tuple -/
def sUnp (tg : Tg) (m : ME) : MS := fun ρ => (m ρ).st fun v ρ1 => match toD v with
  | some x => (match tgSet tg x ρ1 with | some ρ2 => .next ρ2 | none => .stuck)
  | none => .stuck
/-- a, b = x, y; stored from the right -/
def sPar2 (k i l j : Nat) (a b : ME) : MS := fun ρ => (a ρ).st fun v ρ1 => (b ρ1).st fun w ρ2 => (setS (l == 1) j w ρ2).seq fun ρ3 => setS (k == 1) i v ρ3
def sPar3 (k i l j m h : Nat) (a b c : ME) : MS := fun ρ => (a ρ).st fun u ρ1 => (b ρ1).st fun v ρ2 => (c ρ2).st fun w ρ3 => (setS (m == 1) h w ρ3).seq fun ρ4 => (setS (l == 1) j v ρ4).seq fun ρ5 => setS (k == 1) i u ρ5
def sAug (i : Nat) (f : D → D → Option SV) (m : ME) : MS := fun ρ => match ρ[i]? with
  | some (some (.d x)) => (m ρ).st fun w ρ1 => match view ρ1 w with
    | some y => (match (f x y).bind toD with | some z => .next (ρ1.set i (some (.d z))) | none => .stuck)
    | none => .stuck
  | _ => .stuck
/-- the slots' own objects become data that never changes -/
def frz1 (ρ : En) (i : Nat) : En :=
  match ρ[i]? with
  | some (some (.own c)) => ρ.set i (some (.d c.py))
  | _ => ρ
def frz (ρ : En) : List Nat → En
  | [] => ρ
  | i :: is => frz (frz1 ρ i) is
@[simp] theorem frz_nil {ρ : En} : frz ρ [] = ρ := rfl
@[simp] theorem frz_cons {ρ : En} {i : Nat} {is : List Nat} : frz ρ (i :: is) = frz (frz1 ρ i) is := rfl
def sFrz (is : List Nat) (a : MS) : MS := fun ρ => a (frz ρ is)
def forGo (tg : Tg) (b : MS) : List D → En → SOut
  | [], ρ => .next ρ
  | x :: xs, ρ => match tgSet tg x ρ with
    | none => .stuck
    | some ρ1 => match b ρ1 with
      | .next ρ2 => forGo tg b xs ρ2
      | .cont ρ2 => forGo tg b xs ρ2
      | .brk ρ2 => .next ρ2
      | .ret v ρ2 => .ret v ρ2
      | .raise c x ρ2 => .raise c x ρ2
      | .stuck => .stuck
def sFor (tg : Tg) (it : MI) (b : MS) : MS := fun ρ => (it ρ).st fun xs ρ1 => forGo tg b xs ρ1
def whileGo (t : MT) (b : MS) : Nat → En → SOut
  | 0, _ => .stuck
  | n + 1, ρ => (t ρ).st fun c ρ1 => if c = true then (match b ρ1 with
      | .next ρ2 => whileGo t b n ρ2
      | .cont ρ2 => whileGo t b n ρ2
      | .brk ρ2 => .next ρ2
      | .ret v ρ2 => .ret v ρ2
      | .raise c x ρ2 => .raise c x ρ2
      | .stuck => .stuck) else .next ρ1
def sWhile (fuel : En → Nat) (t : MT) (b : MS) : MS := fun ρ => whileGo t b (fuel ρ) ρ

/-! ### changes of a slot's own object -/
def cellB {β : Type} (ρ : En) (i : Nat) (f : Cell → Out β) : Out β :=
  match cellAt ρ i with
  | some c => f c
  | none => .stuck
def line : Nat := 16777216
/-- it is a list, a dict -/
def isL (ρ : En) (i : Nat) : Bool :=
  match cellAt ρ i with
  | some (.lst _) => true
  | _ => false
def isK (ρ : En) (i : Nat) : Bool :=
  match cellAt ρ i with
  | some (.dct _) => true
  | _ => false
/-- x.m(e): g the new content and the value -/
def mCell1 (i : Nat) (g : Cell → D → Option (Cell × D)) (a : ME) : ME := fun ρ => if isL ρ i = true then (a ρ).bind fun v ρ1 => toB v fun x => cellB ρ1 i fun c => match g c x with
  | some (c', r) => .ok (.d r) (putCell ρ1 i c')
  | none => .stuck
  else .stuck
def mCell0 (i : Nat) (g : Cell → Option (Cell × D)) : ME := fun ρ => if isL ρ i = true then cellB ρ i fun c => match g c with
  | some (c', r) => .ok (.d r) (putCell ρ i c')
  | none => .stuck
  else .stuck
def gApp : Cell → D → Option (Cell × D)
  | .lst xs, x => if xs.length < line then some (.lst (xs ++ [x]), .none) else none
  | _, _ => none
def gPop : Cell → Option (Cell × D)
  | .lst xs => (xs[xs.length - 1]?).map fun y => (.lst xs.dropLast, y)
  | _ => none
/-- x.extend(a new list) -/
def extGo (i : Nat) (ys : List D) (ρ1 : En) : Out SV := cellB ρ1 i fun c => match c with
    | .lst xs => if xs.length + ys.length ≤ line then .ok (.d .none) (putCell ρ1 i (.lst (xs ++ ys))) else .stuck
    | _ => .stuck
def mExt (i : Nat) (a : ME) : ME := fun ρ => if isL ρ i = true then (a ρ).bind fun v ρ1 => match v with
  | .own (.lst ys) => extGo i ys ρ1
  | _ => .stuck
  else .stuck
def ix (n : Nat) (i : Int) : Option Nat := if 0 ≤ i then (if i < n then some i.toNat else none) else if -(n : Int) ≤ i then some (i + n).toNat else none
def atD (xs : List D) (i : Int) : Option D := (ix xs.length i).bind fun j => xs[j]?
/-- x[k] = v, x a list of a slot -/
def itemGo (i : Nat) (w k : SV) (ρ2 : En) : SOut := match toD w, k, cellAt ρ2 i with
  | some y, .d (.int k), some (.lst xs) => (match ix xs.length k with | some j => .next (putCell ρ2 i (.lst (xs.set j y))) | none => .stuck)
  | _, _, _ => .stuck
def sItem (i : Nat) (a v : ME) : MS := fun ρ => (v ρ).st fun w ρ1 => if isL ρ1 i = true then (a ρ1).st fun k ρ2 => itemGo i w k ρ2 else .stuck
theorem itemGo_inv {i : Nat} {w k : SV} {ρ : En} : itemGo i w k ρ = .stuck ∨ ∃ y n xs j, toD w = some y ∧ k = .d (.int n) ∧ cellAt ρ i = some (.lst xs) ∧ ix xs.length n = some j ∧ itemGo i w k ρ = .next (putCell ρ i (.lst (xs.set j y))) := by
  unfold itemGo
  split
  · rename_i y n xs h1 h2
    cases h : ix xs.length n with
    | none => exact .inl rfl
    | some j => exact .inr ⟨y, n, xs, j, h1, rfl, h2, h, rfl⟩
  · exact .inl rfl
/-- x[k] op= v -/
def augGet (i : Nat) (k : SV) (ρ : En) : Option D := match k, cellAt ρ i with
  | .d (.int k), some (.lst xs) => atD xs k
  | _, _ => none
def augGo (i : Nat) (f : D → D → Option SV) (x : D) (k w : SV) (ρ : En) : SOut := match view ρ w with
  | some y => (match (f x y).bind toD with
    | some z => itemGo i (.d z) k ρ
    | none => .stuck)
  | none => .stuck
def sAugI (i : Nat) (f : D → D → Option SV) (a v : ME) : MS := fun ρ => if isL ρ i = true then (a ρ).st fun k ρ1 => match augGet i k ρ1 with
  | some x => (v ρ1).st fun w ρ2 => augGo i f x k w ρ2
  | none => .stuck
  else .stuck
theorem augGet_inv {i : Nat} {k : SV} {ρ : En} {x : D} (h : augGet i k ρ = some x) : ∃ n xs, k = .d (.int n) ∧ cellAt ρ i = some (.lst xs) ∧ atD xs n = some x := by
  unfold augGet at h
  split at h
  · exact ⟨_, _, rfl, by assumption, h⟩
  · cases h
/-- the arguments, the borrowed ones with what they hold now -/
def putRefs : List SV → List Cell → Option En
  | [], [] => some []
  | [], _ :: _ => none
  | a :: as, cs => match a with
    | .ref _ => (match cs with
      | c :: cs => (putRefs as cs).map fun r => some (.ref c) :: r
      | [] => none)
    | a => (putRefs as cs).map fun r => some a :: r
/-! ### a def -/
def outsOf : List SV → En → Option (List Cell)
  | [], _ => some []
  | a :: as, ρ => match a with
    | .ref _ => (match ρ with
      | some (.ref c) :: r => (outsOf as r).map fun cs => c :: cs
      | _ => none)
    | _ => outsOf as ρ.tail
def resOf (ρ : En) : SV → Option SV
  | .d x => some (.d x)
  | .own c => some (.own c)
  | .pk i => (match ρ[i]? with | some (some (.own c)) => some (.own c) | _ => none)
  | .exc c x => some (.exc c x)
  | .fn n => some (.fn n)
  | .ref _ => none
def finish (as : List SV) (v : SV) (ρ : En) : FRes :=
  match resOf ρ v, outsOf as ρ with
  | some w, some outs => .ok w outs
  | _, _ => .stuck
def semDef (n : Nat) (b : MS) : F := fun as =>
  match b (as.map some ++ List.replicate (n - as.length) none) with
  | .ret v ρ => finish as v ρ
  | .next ρ => finish as (.d .none) ρ
  | .raise c x ρ => (match outsOf as ρ with | some outs => .raise c x outs | none => .stuck)
  | _ => .stuck

/-! ### operations -/
def mulOk (i j : Int) : Bool := decide (i.natAbs < 2 ^ 64) || decide (j.natAbs < 2 ^ 64) || decide (i.natAbs.log2 + j.natAbs.log2 < 60000000)
def bAdd : D → D → Option SV
  | .int i, .int j => some (.d (.int (i + j)))
  | .str x, .str y => if x.length + y.length ≤ line then some (.d (.str (x ++ y))) else none
  | .list xs, .list ys => if xs.length + ys.length ≤ line then some (.own (.lst (xs ++ ys))) else none
  | .tuple xs, .tuple ys => if xs.length + ys.length ≤ line then some (.d (.tuple (xs ++ ys))) else none
  | _, _ => none
def bSub : D → D → Option SV
  | .int i, .int j => some (.d (.int (i - j)))
  | _, _ => none
def bMulI : D → D → Option SV
  | .int i, .int j => if mulOk i j = true then some (.d (.int (i * j))) else none
  | _, _ => none
/-- [..] * n -/
def mRep (a b : ME) : ME := fun ρ => (a ρ).bind fun v ρ1 => (b ρ1).bind fun w ρ2 => match v with
  | .own (.lst xs) => (match w with
    | .d (.int k) => if (small62 k && decide (xs.length * k.toNat ≤ line)) = true then .ok (.own (.lst ((List.replicate k.toNat xs).flatten))) ρ2 else .stuck
    | _ => .stuck)
  | _ => .stuck
def bDiv : D → D → Option SV
  | .int i, .int j => if 0 < j ∧ j.natAbs.log2 < 9000 then some (.d (.int (i / j))) else none
  | _, _ => none
def bMod : D → D → Option SV
  | .int i, .int j => if 0 < j then some (.d (.int (i % j))) else none
  | _, _ => none
def bPow : D → D → Option SV
  | .int i, .int j => if 0 ≤ j ∧ (i.natAbs.log2 + 1) * j.toNat ≤ 134217728 then some (.d (.int (i ^ j.toNat))) else none
  | _, _ => none
def uNeg : D → Option SV
  | .int i => some (.d (.int (-i)))
  | _ => none
def cLt : D → D → Option SV
  | .int i, .int j => some (.d (.bool (decide (i < j))))
  | _, _ => none
def cLe : D → D → Option SV
  | .int i, .int j => some (.d (.bool (decide (i ≤ j))))
  | _, _ => none
def cGt : D → D → Option SV
  | .int i, .int j => some (.d (.bool (decide (j < i))))
  | _, _ => none
def cGe : D → D → Option SV
  | .int i, .int j => some (.d (.bool (decide (j ≤ i))))
  | _, _ => none
def bIdx : D → D → Option SV
  | .list xs, .int i => (atD xs i).map SV.d
  | .tuple xs, .int i => (atD xs i).map SV.d
  | .str x, .int i => if x.length ≤ line then (ix x.length i).bind fun j => (x.cps.toList[j]?).map fun c => SV.d (.str ⟨#[c]⟩) else none
  | _, _ => none
def lenD : List D → Option SV
  | [.list xs] => some (.d (.int (xs.length : Nat)))
  | [.tuple xs] => some (.d (.int (xs.length : Nat)))
  | [.str x] => if x.length ≤ line then some (.d (.int (x.length : Nat))) else none
  | _ => none
end MP
namespace MP
open PySem
/-! ### slices -/
def clampI (n : Nat) (v : Int) : Nat := if 0 ≤ v then min v.toNat n else (v + (n : Int)).toNat
def cutLo (n : Nat) (lo : Option Int) : Nat := lo.elim 0 (clampI n)
def cutHi (n : Nat) (hi : Option Int) : Nat := hi.elim n (clampI n)
def cutD {α : Type} (xs : List α) (lo hi : Option Int) : List α := (xs.drop (cutLo xs.length lo)).take (cutHi xs.length hi - cutLo xs.length lo)
def slD : D → Option Int → Option Int → Option SV
  | .list xs, lo, hi => some (.own (.lst (cutD xs lo hi)))
  | .tuple xs, lo, hi => some (.d (.tuple (cutD xs lo hi)))
  | _, _, _ => none
def intB {β : Type} (v : SV) (f : Int → Out β) : Out β :=
  match v with
  | .d (.int i) => f i
  | _ => .stuck
@[simp] theorem intB_d {β : Type} {i : Int} {f : Int → Out β} : intB (.d (.int i)) f = f i := rfl
def mPart : Option ME → En → Out (Option Int)
  | none, ρ => .ok none ρ
  | some m, ρ => (m ρ).bind fun v ρ1 => intB v fun i => .ok (some i) ρ1
@[simp] theorem mPart_none {ρ : En} : mPart none ρ = .ok none ρ := rfl
@[simp] theorem mPart_some {m : ME} {ρ : En} : mPart (some m) ρ = (m ρ).bind fun v ρ1 => intB v fun i => .ok (some i) ρ1 := rfl
def mSl (a : ME) (lo hi : Option ME) : ME := fun ρ => (a ρ).bind fun v ρ1 => (mPart lo ρ1).bind fun l ρ2 => (mPart hi ρ2).bind fun h ρ3 => viewB ρ3 v fun x => opt (slD x l h) ρ3
/-- x[::-1] -/
def revD : D → Option SV
  | .list xs => some (.own (.lst xs.reverse))
  | .tuple xs => some (.d (.tuple xs.reverse))
  | _ => none
/-- the type's name of plain data -/
def tyD : D → String
  | .none => "NoneType"
  | .bool _ => "bool"
  | .int _ => "int"
  | .str _ => "str"
  | .list _ => "list"
  | .tuple _ => "tuple"
  | .dict _ => "dict"
def subTy (t u : String) : Bool := t == u || (t == "bool" && u == "int")
def isinst (T : String) (x : D) : Option SV := some (.d (.bool (subTy (tyD x) T)))
end MP

namespace MP
open PySem
/-! ### == and in -/
def noItem : D → D → Bool
  | .tuple xs, .tuple ys => xs.isEmpty || ys.isEmpty
  | _, _ => false
def eqOk (x y : D) : Bool := noItem x y || (x.plain && y.plain && decide (min x.depth y.depth ≤ 64))
def cEq (x y : D) : Option SV := if eqOk x y = true then some (.d (.bool (PyData.eqv x y))) else none
def cNe (x y : D) : Option SV := if eqOk x y = true then some (.d (.bool (!PyData.eqv x y))) else none
def inOk (x : D) (xs : List D) : Bool := x.plain && PyData.plainAll xs && decide (min (PyData.depthAll xs) x.depth ≤ 64)
def cIn : D → D → Option SV
  | x, .list xs => if inOk x xs = true then some (.d (.bool (xs.any fun y => PyData.eqv y x))) else none
  | x, .tuple xs => if inOk x xs = true then some (.d (.bool (xs.any fun y => PyData.eqv y x))) else none
  | _, _ => none
def cNotIn : D → D → Option SV
  | x, .list xs => if inOk x xs = true then some (.d (.bool (!xs.any fun y => PyData.eqv y x))) else none
  | x, .tuple xs => if inOk x xs = true then some (.d (.bool (!xs.any fun y => PyData.eqv y x))) else none
  | _, _ => none
def isN : D → Bool
  | .none => true
  | _ => false
@[simp] theorem isN_none : isN .none = true := rfl
@[simp] theorem isN_int {i : Int} : isN (.int i) = false := rfl
@[simp] theorem isN_tuple {i : List D} : isN (.tuple i) = false := rfl
@[simp] theorem isN_list {i : List D} : isN (.list i) = false := rfl
def cIsN (x : D) : Option SV := some (.d (.bool (isN x)))
def cNotN (x : D) : Option SV := some (.d (.bool (!isN x)))
end MP

namespace MP
open PySem
/-- in a table of the module, int keys -/
def cInT (ks : List Int) : D → Option SV
  | .int i => some (.d (.bool (ks.contains i)))
  | _ => none
def mDct0 : ME := fun ρ => .ok (.own (.dct [])) ρ
def mDct1 (i j : Int) : ME := fun ρ => .ok (.own (.dct [(.int i, .int j)])) ρ
end MP
end

section
set_option Elab.async false
set_option linter.all false
set_option maxRecDepth 100000
set_option maxHeartbeats 4000000
set_option autoImplicit false
namespace MP
open PySem PySem.Spec L2

abbrev Fg := PySem.W.Frag
def keyD : Key → D
  | .inl i => .int i
  | .inr x => .str x

mutual
/-- v stands for the data d in the heap H -/
inductive Rp (K : Fg) (H : Hp) : V → D → Prop
  | non : Rp K H .non .none
  | bl (b : Bool) : Rp K H (.bl b) (.bool b)
  | int (i : Int) : Rp K H (.int i) (.int i)
  | str (x : Str) : Rp K H (.str x) (.str x)
  | lst {a : Addr} {xs : List V} {ds : List D} : SqL K H a xs → RpAll K H xs ds → Rp K H (.ref a) (.list ds)
  | tup {a : Addr} {xs : List V} {ds : List D} : SqT K H a xs → RpAll K H xs ds → Rp K H (.ref a) (.tuple ds)
  | dic {a : Addr} {xs : List (Key × V)} {ds : List (D × D)} : H a = some (.dK xs) → RpKv K H xs ds → Rp K H (.ref a) (.dict ds)
inductive RpAll (K : Fg) (H : Hp) : List V → List D → Prop
  | nil : RpAll K H [] []
  | cons {v : V} {vs : List V} {d : D} {ds : List D} : Rp K H v d → RpAll K H vs ds → RpAll K H (v :: vs) (d :: ds)
inductive RpKv (K : Fg) (H : Hp) : List (Key × V) → List (D × D) → Prop
  | nil : RpKv K H [] []
  | cons {k : Key} {v : V} {vs : List (Key × V)} {d : D} {ds : List (D × D)} : Rp K H v d → RpKv K H vs ds → RpKv K H ((k, v) :: vs) ((keyD k, d) :: ds)
end

/-- all that H knows H' knows -/
def Grow (H H' : Hp) : Prop := ∀ a o, H a = some o → H' a = some o
theorem Grow.refl (H : Hp) : Grow H H := fun _ _ h => h
theorem Grow.trans {H H1 H2 : Hp} (a : Grow H H1) (b : Grow H1 H2) : Grow H H2 := fun x o h => b x o (a x o h)
theorem Grow.new {H : Hp} {p : Addr} {o : HO} (h : H p = none) : Grow H (upd H p o) := fun a u e => by
  rw [upd_ne (ne_of_none e h)]
  exact e
theorem Grow.rd {H H' : Hp} (e : Grow H H') {a : Addr} {u : HO} (h : Rd H a u) : Rd H' a u := by
  rcases h with h | ⟨o, h⟩
  · exact .inl (e a _ h)
  · exact .inr ⟨o, e a _ h⟩
theorem Grow.sl {K : Fg} {H H' : Hp} (e : Grow H H') {a : Addr} {xs : List V} (h : SqL K H a xs) : SqL K H' a xs := by
  rcases h with h | h
  · exact .inl (e.rd h)
  · exact .inr h
theorem Grow.st {K : Fg} {H H' : Hp} (e : Grow H H') {a : Addr} {xs : List V} (h : SqT K H a xs) : SqT K H' a xs := by
  rcases h with h | h
  · exact .inl (e.rd h)
  · exact .inr h
mutual
theorem Rp.grow {K : Fg} {H H' : Hp} (e : Grow H H') : ∀ {v : V} {d : D}, Rp K H v d → Rp K H' v d
  | _, _, .non => .non
  | _, _, .bl b => .bl b
  | _, _, .int b => .int b
  | _, _, .str b => .str b
  | _, _, .lst h r => .lst (e.sl h) (RpAll.grow e r)
  | _, _, .tup h r => .tup (e.st h) (RpAll.grow e r)
  | _, _, .dic h r => .dic (e _ _ h) (RpKv.grow e r)
theorem RpAll.grow {K : Fg} {H H' : Hp} (e : Grow H H') : ∀ {v : List V} {d : List D}, RpAll K H v d → RpAll K H' v d
  | _, _, .nil => .nil
  | _, _, .cons h r => .cons (Rp.grow e h) (RpAll.grow e r)
theorem RpKv.grow {K : Fg} {H H' : Hp} (e : Grow H H') : ∀ {v : List (Key × V)} {d : List (D × D)}, RpKv K H v d → RpKv K H' v d
  | _, _, .nil => .nil
  | _, _, .cons h r => .cons (Rp.grow e h) (RpKv.grow e r)
end
theorem RpAll.length {K : Fg} {H : Hp} : ∀ {v : List V} {d : List D}, RpAll K H v d → v.length = d.length
  | _, _, .nil => rfl
  | _, _, .cons _ r => congrArg (· + 1) (RpAll.length r)
theorem RpKv.length {K : Fg} {H : Hp} : ∀ {v : List (Key × V)} {d : List (D × D)}, RpKv K H v d → v.length = d.length
  | _, _, .nil => rfl
  | _, _, .cons _ r => congrArg (· + 1) (RpKv.length r)
theorem RpAll.get {K : Fg} {H : Hp} : ∀ {vs : List V} {ds : List D} {i : Nat} {d : D}, RpAll K H vs ds → ds[i]? = some d → ∃ v, vs[i]? = some v ∧ Rp K H v d
  | _, _, _, _, .nil, h => by simp at h
  | _, _, 0, _, .cons h r, e => by
    simp at e
    subst e
    exact ⟨_, rfl, h⟩
  | _, _, i + 1, _, .cons h r, e => by
    obtain ⟨v, q, w⟩ := RpAll.get (i := i) r (by simpa using e)
    exact ⟨v, by simpa using q, w⟩
theorem RpAll.get' {K : Fg} {H : Hp} : ∀ {vs : List V} {ds : List D} {i : Nat} {v : V}, RpAll K H vs ds → vs[i]? = some v → ∃ d, ds[i]? = some d ∧ Rp K H v d
  | _, _, _, _, .nil, h => by simp at h
  | _, _, 0, _, .cons h r, e => by
    simp at e
    subst e
    exact ⟨_, rfl, h⟩
  | _, _, i + 1, _, .cons h r, e => by
    obtain ⟨v, q, w⟩ := RpAll.get' (i := i) r (by simpa using e)
    exact ⟨v, by simpa using q, w⟩
theorem RpAll.append {K : Fg} {H : Hp} : ∀ {vs ws : List V} {ds es : List D}, RpAll K H vs ds → RpAll K H ws es → RpAll K H (vs ++ ws) (ds ++ es)
  | _, _, _, _, .nil, q => q
  | _, _, _, _, .cons h r, q => .cons h (RpAll.append r q)
theorem RpAll.take {K : Fg} {H : Hp} : ∀ {vs : List V} {ds : List D} (n : Nat), RpAll K H vs ds → RpAll K H (vs.take n) (ds.take n)
  | _, _, 0, _ => .nil
  | _, _, _ + 1, .nil => .nil
  | _, _, n + 1, .cons h r => .cons h (RpAll.take n r)
theorem RpAll.drop {K : Fg} {H : Hp} : ∀ {vs : List V} {ds : List D} (n : Nat), RpAll K H vs ds → RpAll K H (vs.drop n) (ds.drop n)
  | _, _, 0, q => q
  | _, _, _ + 1, .nil => .nil
  | _, _, n + 1, .cons h r => RpAll.drop n r
theorem RpAll.set {K : Fg} {H : Hp} {v : V} {d : D} (q : Rp K H v d) : ∀ {vs : List V} {ds : List D} (n : Nat), RpAll K H vs ds → RpAll K H (vs.set n v) (ds.set n d)
  | _, _, _, .nil => .nil
  | _, _, 0, .cons h r => .cons q r
  | _, _, n + 1, .cons h r => .cons h (RpAll.set q n r)
theorem RpAll.reverse {K : Fg} {H : Hp} : ∀ {vs : List V} {ds : List D}, RpAll K H vs ds → RpAll K H vs.reverse ds.reverse
  | _, _, .nil => .nil
  | _, _, .cons h r => by
    rw [List.reverse_cons, List.reverse_cons]
    exact RpAll.append (RpAll.reverse r) (.cons h .nil)
theorem RpAll.dropLast {K : Fg} {H : Hp} {vs : List V} {ds : List D} (h : RpAll K H vs ds) : RpAll K H vs.dropLast ds.dropLast := by
  rw [List.dropLast_eq_take, List.dropLast_eq_take, h.length]
  exact h.take _

/-! ### hiding -/
open Classical in
noncomputable def hid (P : Addr → Prop) (H : Hp) : Hp := fun a => if P a then none else H a
theorem hid_some {P : Addr → Prop} {H : Hp} {a : Addr} {o : HO} : hid P H a = some o ↔ ¬ P a ∧ H a = some o := by
  unfold hid
  by_cases h : P a
  · rw [if_pos h]
    exact ⟨fun e => (nomatch e), fun e => absurd h e.1⟩
  · rw [if_neg h]
    exact ⟨fun e => ⟨h, e⟩, fun e => e.2⟩
theorem hid_le {P : Addr → Prop} {H : Hp} : Grow (hid P H) H := fun a o e => (hid_some.mp e).2
theorem hid_grow {P P' : Addr → Prop} {H H' : Hp} (h : ∀ a o, ¬ P a → H a = some o → ¬ P' a ∧ H' a = some o) : Grow (hid P H) (hid P' H') := fun a o e => hid_some.mpr (h a o (hid_some.mp e).1 (hid_some.mp e).2)

/-- what a cell holds, at a -/
def CellR (K : Fg) (Hh H : Hp) (a : Addr) : Cell → Prop
  | .lst ds => ∃ xs, H a = some (.lst xs) ∧ RpAll K Hh xs ds
  | .dct ds => ∃ xs, H a = some (.dK xs) ∧ RpKv K Hh xs ds
theorem CellR.some {K : Fg} {Hh H : Hp} {a : Addr} {c : Cell} (h : CellR K Hh H a c) : ∃ o, H a = some o := by
  cases c with
  | lst ds => obtain ⟨xs, e, _⟩ := h; exact ⟨_, e⟩
  | dct ds => obtain ⟨xs, e, _⟩ := h; exact ⟨_, e⟩
theorem CellR.mono {K : Fg} {Hh H Hh' H' : Hp} {a : Addr} {c : Cell} (h : CellR K Hh H a c) (e : Grow Hh Hh') (ea : H' a = H a) : CellR K Hh' H' a c := by
  cases c with
  | lst ds => obtain ⟨xs, q, r⟩ := h; exact ⟨xs, ea.trans q, r.grow e⟩
  | dct ds => obtain ⟨xs, q, r⟩ := h; exact ⟨xs, ea.trans q, r.grow e⟩

/-! ### slots -/
def Own (σ : St) (ρ : En) (a : Addr) : Prop := ∃ i c, cellAt ρ i = some c ∧ σ[i]? = some (some (.ref a))
structure Gh where
  Pm : Addr → Prop
  rf : Nat → Option Addr
/-- what stands outside the frozen part -/
def Out' (g : Gh) (σ : St) (ρ : En) (a : Addr) : Prop := g.Pm a ∨ Own σ ρ a
structure Rep (K : Fg) (g : Gh) (H : Hp) (σ : St) (ρ : En) : Prop where
  len : σ.length = ρ.length
  d : ∀ (i : Nat) (x : D), ρ[i]? = some (some (SV.d x)) → ∃ v, σ[i]? = some (some v) ∧ Rp K (hid (Out' g σ ρ) H) v x
  cell : ∀ (i : Nat) (c : Cell), cellAt ρ i = some c → ∃ a, σ[i]? = some (some (.ref a)) ∧ ¬ g.Pm a ∧ CellR K (hid (Out' g σ ρ) H) H a c
  inj : ∀ (i j : Nat) (c c' : Cell) (a : Addr), cellAt ρ i = some c → cellAt ρ j = some c' → σ[i]? = some (some (.ref a)) → σ[j]? = some (some (.ref a)) → i = j
  pm : ∀ a, g.Pm a → ∃ o, H a = some o
  rf : ∀ (i : Nat) (c : Cell), ρ[i]? = some (some (SV.ref c)) → ∃ a, g.rf i = some a ∧ σ[i]? = some (some (.ref a))
  rfs : ∀ (i : Nat) (a : Addr), g.rf i = some a → ∃ c, ρ[i]? = some (some (SV.ref c))
  noexc : ∀ (i : Nat) (c : Str) (x : D), ρ[i]? ≠ some (some (SV.exc c x))
  nofn : ∀ (i : Nat) (n : Str), ρ[i]? ≠ some (some (SV.fn n))
def SameC (ρ ρ' : En) : Prop := ∀ i, (cellAt ρ' i).isSome = (cellAt ρ i).isSome
theorem SameC.refl (ρ : En) : SameC ρ ρ := fun _ => rfl
theorem SameC.trans {ρ ρ1 ρ2 : En} (a : SameC ρ ρ1) (b : SameC ρ1 ρ2) : SameC ρ ρ2 := fun i => (b i).trans (a i)
theorem SameC.symm {ρ ρ1 : En} (a : SameC ρ ρ1) : SameC ρ1 ρ := fun i => (a i).symm
theorem SameC.get {ρ ρ' : En} (h : SameC ρ ρ') {i : Nat} {c : Cell} (e : cellAt ρ i = some c) : ∃ c', cellAt ρ' i = some c' := by
  have q := h i
  rw [e] at q
  exact Option.isSome_iff_exists.mp q
theorem SameC.own {ρ ρ' : En} (h : SameC ρ ρ') {σ : St} {a : Addr} (e : Own σ ρ a) : Own σ ρ' a := by
  obtain ⟨i, c, h1, h2⟩ := e
  obtain ⟨c', q⟩ := h.get h1
  exact ⟨i, c', q, h2⟩
theorem SameC.out {ρ ρ' : En} (h : SameC ρ ρ') {g : Gh} {σ : St} {a : Addr} (e : Out' g σ ρ a) : Out' g σ ρ' a := e.imp id fun q => h.own q

/-- the heap behind: what is not owned is kept; nothing is forgotten -/
structure FrE (H : Hp) (M : Addr → Prop) (H' : Hp) : Prop where
  keep : ∀ a o, H a = some o → ¬ M a → H' a = some o
  stay : ∀ a o, H a = some o → ∃ o', H' a = some o'
theorem FrE.refl (H : Hp) (M : Addr → Prop) : FrE H M H := ⟨fun _ _ h _ => h, fun _ o h => ⟨o, h⟩⟩
theorem FrE.trans {H H1 H2 : Hp} {M M1 : Addr → Prop} (a : FrE H M H1) (b : FrE H1 M1 H2) (h : ∀ x, M1 x → M x) : FrE H M H2 :=
  ⟨fun x o e n => b.keep x o (a.keep x o e n) (fun q => n (h x q)), fun x o e => let ⟨_, q⟩ := a.stay x o e; b.stay x _ q⟩
theorem FrE.of_grow {H H' : Hp} {M : Addr → Prop} (h : Grow H H') : FrE H M H' := ⟨fun a o e _ => h a o e, fun a o e => ⟨o, h a o e⟩⟩
theorem FrE.back {H H' : Hp} {M : Addr → Prop} (h : FrE H M H') {a : Addr} (e : H' a = none) : H a = none := by
  cases q : H a with
  | none => rfl
  | some o =>
    obtain ⟨o', q'⟩ := h.stay a o q
    rw [e] at q'
    cases q'

/-- v is what an expression gave -/
def RV0 (K : Fg) (g : Gh) (H0 H : Hp) (σ : St) (ρ : En) (v : V) : SV → Prop
  | .d x => Rp K (hid (Out' g σ ρ) H) v x
  | .own c => ∃ p, v = .ref p ∧ H0 p = none ∧ ¬ Out' g σ ρ p ∧ CellR K (hid (fun a => Out' g σ ρ a ∨ a = p) H) H p c
  | .pk i => ∃ c, cellAt ρ i = some c ∧ σ[i]? = some (some v)
  | .ref _ => False
  | .exc _ _ => False
  | .fn _ => False

section
variable {K : Fg} {g : Gh} {H0 H H1 H' : Hp} {σ : St} {ρ ρ' : En} {v : V} {sv : SV}
/-- later: the frozen part has grown -/
theorem hid_later (s : SameC ρ ρ') (f : FrE H (Own σ ρ) H') : Grow (hid (Out' g σ ρ) H) (hid (Out' g σ ρ') H') :=
  hid_grow fun a o n e => ⟨fun q => n (s.symm.out q), f.keep a o e fun q => n (.inr q)⟩
theorem RV0.later (r : RV0 K g H0 H σ ρ v sv) (s : SameC ρ ρ') (f : FrE H (Own σ ρ) H') : RV0 K g H0 H' σ ρ' v sv := by
  cases sv with
  | d x => exact Rp.grow (hid_later s f) r
  | own c =>
    obtain ⟨p, e, n, no, q⟩ := r
    obtain ⟨o, eo⟩ := q.some
    refine ⟨p, e, n, fun z => no (s.symm.out z), q.mono (hid_grow fun a o n e => ⟨fun z => n (z.imp (s.symm.out) id), f.keep a o e fun z => n (.inl (.inr z))⟩) ?_⟩
    rw [f.keep p o eo fun z => no (.inr z), eo]
  | pk i =>
    obtain ⟨c, e, q⟩ := r
    obtain ⟨c', e'⟩ := s.get e
    exact ⟨c', e', q⟩
  | ref _ => exact r
  | exc _ _ => exact r
  | fn _ => exact r
theorem RV0.older (r : RV0 K g H1 H σ ρ v sv) (h : ∀ p, H1 p = none → H0 p = none) : RV0 K g H0 H σ ρ v sv := by
  cases sv with
  | own c =>
    obtain ⟨p, e, n, q⟩ := r
    exact ⟨p, e, h p n, q⟩
  | _ => exact r
theorem Rep.grow (r : Rep K g H σ ρ) (e : Grow H H') : Rep K g H' σ ρ := by
  have gr : Grow (hid (Out' g σ ρ) H) (hid (Out' g σ ρ) H') := hid_grow fun a o n q => ⟨n, e a o q⟩
  refine ⟨r.len, fun i x h => ?_, fun i c h => ?_, r.inj, fun a h => ?_, r.rf, r.rfs, r.noexc, r.nofn⟩
  · obtain ⟨v, h1, h2⟩ := r.d i x h
    exact ⟨v, h1, h2.grow gr⟩
  · obtain ⟨a, h1, h2, h3⟩ := r.cell i c h
    obtain ⟨o, eo⟩ := h3.some
    exact ⟨a, h1, h2, h3.mono gr (by rw [e a o eo, eo])⟩
  · obtain ⟨o, q⟩ := r.pm a h
    exact ⟨o, e a o q⟩
end

/-! ### a value with its top in H and its parts in the frozen part -/
def Top (K : Fg) (Hh H : Hp) (v : V) : D → Prop
  | .none => v = .non
  | .bool b => v = .bl b
  | .int i => v = .int i
  | .str x => v = .str x
  | .list ds => ∃ a xs, v = .ref a ∧ SqL K H a xs ∧ RpAll K Hh xs ds
  | .tuple ds => ∃ a xs, v = .ref a ∧ SqT K Hh a xs ∧ RpAll K Hh xs ds
  | .dict ds => ∃ a xs, v = .ref a ∧ H a = some (.dK xs) ∧ RpKv K Hh xs ds
theorem Rp.top {K : Fg} {Hh H : Hp} {v : V} {x : D} (h : Rp K Hh v x) (e : Grow Hh H) : Top K Hh H v x := by
  cases h with
  | non => rfl
  | bl b => rfl
  | int i => rfl
  | str x => rfl
  | lst h r => exact ⟨_, _, rfl, e.sl h, r⟩
  | tup h r => exact ⟨_, _, rfl, h, r⟩
  | dic h r => exact ⟨_, _, rfl, e _ _ h, r⟩
theorem Top.rp {K : Fg} {Hh H : Hp} {v : V} {x : D} (h : Top K Hh H v x) (e : Grow Hh H) : Rp K H v x := by
  cases x with
  | none => cases h; exact .non
  | bool b => cases h; exact .bl b
  | int b => cases h; exact .int b
  | str b => cases h; exact .str b
  | list ds => obtain ⟨a, xs, rfl, q, r⟩ := h; exact .lst q (r.grow e)
  | tuple ds => obtain ⟨a, xs, rfl, q, r⟩ := h; exact .tup (e.st q) (r.grow e)
  | dict ds => obtain ⟨a, xs, rfl, q, r⟩ := h; exact .dic q (r.grow e)
theorem Top.grow {K : Fg} {Hh H Hh' H' : Hp} {v : V} {x : D} (h : Top K Hh H v x) (e : Grow Hh Hh') (e' : Grow H H') : Top K Hh' H' v x := by
  cases x with
  | none => exact h
  | bool b => exact h
  | int b => exact h
  | str b => exact h
  | list ds => obtain ⟨a, xs, q1, q2, q3⟩ := h; exact ⟨a, xs, q1, e'.sl q2, q3.grow e⟩
  | tuple ds => obtain ⟨a, xs, q1, q2, q3⟩ := h; exact ⟨a, xs, q1, e.st q2, q3.grow e⟩
  | dict ds => obtain ⟨a, xs, q1, q2, q3⟩ := h; exact ⟨a, xs, q1, e' _ _ q2, q3.grow e⟩
theorem CellR.top {K : Fg} {Hh H : Hp} {a : Addr} {c : Cell} (h : CellR K Hh H a c) : Top K Hh H (.ref a) c.py := by
  cases c with
  | lst ds => obtain ⟨xs, e, r⟩ := h; exact ⟨a, xs, rfl, .of e, r⟩
  | dct ds => obtain ⟨xs, e, r⟩ := h; exact ⟨a, xs, rfl, e, r⟩
section
variable {K : Fg} {g : Gh} {H0 H H1 H' : Hp} {σ : St} {ρ ρ' : En} {v : V} {sv : SV} {x : D}
theorem RV0.top (r : RV0 K g H0 H σ ρ v sv) (rp : Rep K g H σ ρ) (h : view ρ sv = some x) : Top K (hid (Out' g σ ρ) H) H v x := by
  cases sv with
  | d y =>
    have e : y = x := Option.some.inj h
    subst e
    exact Rp.top r hid_le
  | own c =>
    have e : c.py = x := Option.some.inj h
    subst e
    obtain ⟨p, rfl, n, no, q⟩ := r
    exact (CellR.top q).grow (hid_grow fun a o n e => ⟨fun z => n (.inl z), e⟩) (Grow.refl _)
  | pk i =>
    obtain ⟨c, e, q⟩ := r
    have h' : (cellAt ρ i).map Cell.py = some x := h
    rw [e] at h'
    have e2 : c.py = x := Option.some.inj h'
    subst e2
    obtain ⟨a, q1, q2, q3⟩ := rp.cell i c e
    rw [q] at q1
    cases q1
    exact q3.top
  | ref _ => exact r.elim
  | exc _ _ => exact r.elim
  | fn _ => exact r.elim
/-- as data to be kept -/
theorem RV0.keep (r : RV0 K g H0 H σ ρ v sv) (h : toD sv = some x) : Rp K (hid (Out' g σ ρ) H) v x := by
  cases sv with
  | d y =>
    have e : y = x := Option.some.inj h
    subst e
    exact r
  | own c =>
    have e : c.py = x := Option.some.inj h
    subst e
    obtain ⟨p, rfl, n, no, q⟩ := r
    have gr : Grow (hid (fun a => Out' g σ ρ a ∨ a = p) H) (hid (Out' g σ ρ) H) := hid_grow fun a o n e => ⟨fun z => n (.inl z), e⟩
    cases c with
    | lst ds =>
      obtain ⟨xs, q1, q2⟩ := q
      exact .lst (.of (hid_some.mpr ⟨no, q1⟩)) (q2.grow gr)
    | dct ds =>
      obtain ⟨xs, q1, q2⟩ := q
      exact .dic (hid_some.mpr ⟨no, q1⟩) (q2.grow gr)
  | pk i => cases h
  | ref _ => exact r.elim
  | exc _ _ => exact r.elim
  | fn _ => exact r.elim
end
/-! ### more is protected -/
def Gh.add (g : Gh) (p : Addr) : Gh := ⟨fun a => g.Pm a ∨ a = p, g.rf⟩
structure Gh.le (g g' : Gh) : Prop where
  pm : ∀ a, g.Pm a → g'.Pm a
  rf : g'.rf = g.rf
theorem Gh.le_refl (g : Gh) : g.le g := ⟨fun _ h => h, rfl⟩
theorem Gh.le_add (g : Gh) (p : Addr) : g.le (g.add p) := ⟨fun _ h => .inl h, rfl⟩
theorem Gh.add_mono {g g' : Gh} (h : g.le g') (p : Addr) : (g.add p).le (g'.add p) := ⟨fun a q => q.imp (h.pm a) id, h.rf⟩
section
variable {K : Fg} {g g' : Gh} {H0 H H1 H' : Hp} {σ : St} {ρ ρ' : En} {v : V} {sv : SV} {x : D}
theorem Gh.le.out (h : g.le g') {a : Addr} (q : Out' g σ ρ a) : Out' g' σ ρ a := q.imp (h.pm a) id
theorem Gh.le.hid (h : g.le g') : Grow (hid (Out' g' σ ρ) H) (hid (Out' g σ ρ) H) := hid_grow fun a o n e => ⟨fun z => n (h.out z), e⟩
theorem Rep.less (r : Rep K g' H σ ρ) (h : g.le g') : Rep K g H σ ρ := by
  refine ⟨r.len, fun i x e => ?_, fun i c e => ?_, r.inj, fun a q => r.pm a (h.pm a q), fun i c e => ?_, fun i a e => r.rfs i a (by rw [h.rf]; exact e), r.noexc, r.nofn⟩
  · obtain ⟨v, h1, h2⟩ := r.d i x e
    exact ⟨v, h1, h2.grow h.hid⟩
  · obtain ⟨a, h1, h2, h3⟩ := r.cell i c e
    exact ⟨a, h1, fun z => h2 (h.pm a z), h3.mono h.hid rfl⟩
  · obtain ⟨a, h1, h2⟩ := r.rf i c e
    exact ⟨a, by rw [← h.rf]; exact h1, h2⟩
theorem RV0.less (r : RV0 K g' H0 H σ ρ v sv) (h : g.le g') : RV0 K g H0 H σ ρ v sv := by
  cases sv with
  | d x => exact Rp.grow h.hid r
  | own c =>
    obtain ⟨p, e, n, no, q⟩ := r
    exact ⟨p, e, n, fun z => no (h.out z), q.mono (hid_grow fun a o n e => ⟨fun z => n (z.imp h.out id), e⟩) rfl⟩
  | pk i => exact r
  | ref _ => exact r
  | exc _ _ => exact r
  | fn _ => exact r
/-- a new object is known to no slot -/
theorem Rep.add_new {p : Addr} (r : Rep K g H σ ρ) (hp : H p = none) (e : Grow H H') (hp' : ∃ o, H' p = some o) : Rep K (g.add p) H' σ ρ := by
  have no : ∀ {a o}, H a = some o → a ≠ p := fun q => ne_of_none q hp
  have own : ¬ Own σ ρ p := fun ⟨i, c, h1, h2⟩ => by
    obtain ⟨a, q1, _, q3⟩ := r.cell i c h1
    rw [h2] at q1
    cases q1
    obtain ⟨o, eo⟩ := q3.some
    rw [hp] at eo
    cases eo
  have gr : Grow (MP.hid (Out' g σ ρ) H) (MP.hid (Out' (g.add p) σ ρ) H') := hid_grow fun a o n q => ⟨fun z => z.elim (fun z => z.elim (fun z => n (.inl z)) (no q)) fun z => n (.inr z), e a o q⟩
  refine ⟨r.len, fun i x h => ?_, fun i c h => ?_, r.inj, fun a h => ?_, r.rf, r.rfs, r.noexc, r.nofn⟩
  · obtain ⟨v, h1, h2⟩ := r.d i x h
    exact ⟨v, h1, h2.grow gr⟩
  · obtain ⟨a, h1, h2, h3⟩ := r.cell i c h
    obtain ⟨o, eo⟩ := h3.some
    exact ⟨a, h1, fun z => z.elim h2 (no eo), h3.mono gr (by rw [e a o eo, eo])⟩
  · rcases h with h | h
    · obtain ⟨o, q⟩ := r.pm a h
      exact ⟨o, e a o q⟩
    · rw [h]
      exact hp'
/-- no slot knows the new object -/
def RVX (K : Fg) (g : Gh) (H : Hp) (σ : St) (ρ : En) (v : V) : SV → Prop
  | .own _ => ∀ p, v = .ref p → Rep K (g.add p) H σ ρ
  | _ => True
structure RV (K : Fg) (g : Gh) (H0 H : Hp) (σ : St) (ρ : En) (v : V) (sv : SV) : Prop where
  b : RV0 K g H0 H σ ρ v sv
  x : RVX K g H σ ρ v sv
theorem RV.later (r : RV K g H0 H σ ρ v sv) (s : SameC ρ ρ') (f : FrE H (Own σ ρ) H') : RV0 K g H0 H' σ ρ' v sv := r.b.later s f
theorem RV.older (r : RV K g H1 H σ ρ v sv) (h : ∀ p, H1 p = none → H0 p = none) : RV K g H0 H σ ρ v sv := ⟨r.b.older h, r.x⟩
theorem RV.top (r : RV K g H0 H σ ρ v sv) (rp : Rep K g H σ ρ) (h : view ρ sv = some x) : Top K (MP.hid (Out' g σ ρ) H) H v x := r.b.top rp h
theorem RV.keep (r : RV K g H0 H σ ρ v sv) (h : toD sv = some x) : Rp K (MP.hid (Out' g σ ρ) H) v x := r.b.keep h
theorem RV.d {x : D} (h : Rp K (MP.hid (Out' g σ ρ) H) v x) : RV K g H0 H σ ρ v (.d x) := ⟨h, trivial⟩
theorem RV.less (r : RV K g' H0 H σ ρ v sv) (h : g.le g') : RV K g H0 H σ ρ v sv := by
  refine ⟨r.b.less h, ?_⟩
  have := r.x
  cases sv with
  | own c => exact fun p e => (this p e).less (Gh.add_mono h p)
  | _ => trivial
/-- what is protected from here on -/
def gadd (g : Gh) (v : V) : SV → Gh
  | .own _ => (match v with | .ref p => g.add p | _ => g)
  | _ => g
theorem le_gadd (g : Gh) (v : V) (sv : SV) : g.le (gadd g v sv) := by
  unfold gadd
  split
  · split
    · exact g.le_add _
    · exact g.le_refl
  · exact g.le_refl
theorem RV.gadd (r : RV K g H0 H σ ρ v sv) (rp : Rep K g H σ ρ) : Rep K (MP.gadd g v sv) H σ ρ := by
  have hx := r.x
  have hb := r.b
  cases sv with
  | own c =>
    obtain ⟨p, rfl, _⟩ := hb
    exact hx p rfl
  | _ => exact rp
theorem RV.is_int {i : Int} (h : RV K g H0 H σ ρ v (.d (.int i))) : v = .int i := by
  cases (show Rp _ _ v (.int i) from h.b)
  rfl
theorem RV.is_bl {i : Bool} (h : RV K g H0 H σ ρ v (.d (.bool i))) : v = .bl i := by
  cases (show Rp _ _ v (.bool i) from h.b)
  rfl
end
end MP
end

section
set_option Elab.async false
set_option linter.all false
set_option maxRecDepth 100000
set_option maxHeartbeats 4000000
set_option autoImplicit false
namespace MP
open PySem PySem.Spec L2

/-- the written part; where the error classes stand -/
structure Pk where
  K : Fg
  CA : Str → Addr

section
variable {P : Pk} {E : St → XK} {g : Gh} {σ : St} {ρ ρ1 : En} {H H1 : Hp}

def RX (P : Pk) (E : St → XK) (g : Gh) (σ : St) (ρ : En) (H : Hp) (c : Str) (x : D) (ρ' : En) : Prop :=
  ∀ d v H', Rep P.K g H' σ ρ' → SameC ρ ρ' → FrE H (Own σ ρ) H' → H' d = some (.xd [("value", v)]) → Rp P.K (hid (Out' g σ ρ') H') v x → E σ (.ref (P.CA c)) (some d) H'
/-- what an outcome promises to what follows; new objects are new to H0 -/
def PostG {α β : Type} (R : Gh → Hp → Hp → St → En → β → α → Prop) (P : Pk) (E : St → XK) (g : Gh) (σ : St) (ρ : En) (H0 H : Hp) (Q : β → Hp → Prop) : Out α → Prop
  | .ok a ρ' => ∀ v H', Rep P.K g H' σ ρ' → SameC ρ ρ' → FrE H (Own σ ρ) H' → R g H0 H' σ ρ' v a → Q v H'
  | .raise c x ρ' => RX P E g σ ρ H c x ρ'
  | .stuck => False
abbrev RVP (P : Pk) : Gh → Hp → Hp → St → En → V → SV → Prop := fun g H0 H σ ρ v s => RV P.K g H0 H σ ρ v s
abbrev RB : Gh → Hp → Hp → St → En → Bool → Bool → Prop := fun _ _ _ _ _ v b => v = b
inductive RVs (K : Fg) : Gh → Hp → Hp → St → En → List V → List SV → Prop
  | nil {g : Gh} {H0 H : Hp} {σ : St} {ρ : En} : RVs K g H0 H σ ρ [] []
  | cons {g : Gh} {H0 H : Hp} {σ : St} {ρ : En} {v : V} {vs : List V} {s : SV} {ss : List SV} : RV K g H0 H σ ρ v s → RVs K (gadd g v s) H0 H σ ρ vs ss → RVs K g H0 H σ ρ (v :: vs) (s :: ss)
abbrev RAP (P : Pk) : Gh → Hp → Hp → St → En → List V → List SV → Prop := fun g H0 H σ ρ vs ss => RVs P.K g H0 H σ ρ vs ss
abbrev PostE (P : Pk) := PostG (RVP P) P
abbrev PostA (P : Pk) := PostG (RAP P) P
abbrev PostT (P : Pk) := PostG RB P
def tM (P : Pk) (E : St → XK) (m : ME) : TE := fun σ H Q => ∃ g ρ, Rep P.K g H σ ρ ∧ PostE P E g σ ρ H H Q (m ρ)
def tAs (P : Pk) (E : St → XK) (ms : List ME) : TA := fun σ H Q => ∃ g ρ, Rep P.K g H σ ρ ∧ PostA P E g σ ρ H H Q (mArgs ms ρ)
def tT (P : Pk) (E : St → XK) (t : MT) : TT := fun σ H Q => ∃ g ρ, Rep P.K g H σ ρ ∧ PostT P E g σ ρ H H Q (t ρ)
/-- new to H1 is new to H0 -/
def Free (H0 H1 : Hp) : Prop := ∀ p, H1 p = none → H0 p = none
theorem Free.refl (H : Hp) : Free H H := fun _ h => h
theorem Free.trans {H0 H1 H2 : Hp} (a : Free H0 H1) (b : Free H1 H2) : Free H0 H2 := fun p h => a p (b p h)
theorem FrE.free {M : Addr → Prop} {H H1 : Hp} (f : FrE H M H1) : Free H H1 := fun _ h => f.back h
def Old {α β : Type} (R : Gh → Hp → Hp → St → En → β → α → Prop) : Prop := ∀ g H0 H1 H σ ρ v a, R g H1 H σ ρ v a → Free H0 H1 → R g H0 H σ ρ v a
theorem old_V {P : Pk} : Old (RVP P) := fun _ _ _ _ _ _ _ _ r h => r.older h
theorem old_B : Old RB := fun _ _ _ _ _ _ _ _ r _ => r
theorem RVs.older {K : Fg} {H0 : Hp} {vs : List V} {ss : List SV} (r : RVs K g H1 H σ ρ vs ss) (h : ∀ p, H1 p = none → H0 p = none) : RVs K g H0 H σ ρ vs ss := by
  induction r with
  | nil => exact .nil
  | cons q _ ih => exact .cons (q.older h) (ih h)
theorem old_A {P : Pk} : Old (RAP P) := fun _ _ _ _ _ _ _ _ r h => r.older h
theorem gadd_mono {g g' : Gh} (h : g.le g') (v : V) (s : SV) : (gadd g v s).le (gadd g' v s) := by
  unfold gadd
  split
  · split
    · exact Gh.add_mono h _
    · exact h
  · exact h
theorem RVs.less {K : Fg} {g' : Gh} {H0 : Hp} {vs : List V} {ss : List SV} (r : RVs K g' H0 H σ ρ vs ss) (h : g.le g') : RVs K g H0 H σ ρ vs ss := by
  induction r generalizing g with
  | nil => exact .nil
  | cons q _ ih => exact .cons (q.less h) (ih (gadd_mono h _ _))
def Less {α β : Type} (R : Gh → Hp → Hp → St → En → β → α → Prop) : Prop := ∀ g g' H0 H σ ρ v a, R g' H0 H σ ρ v a → g.le g' → R g H0 H σ ρ v a
theorem less_V {P : Pk} : Less (RVP P) := fun _ _ _ _ _ _ _ _ r h => r.less h
theorem less_B : Less RB := fun _ _ _ _ _ _ _ _ r _ => r
theorem less_A {P : Pk} : Less (RAP P) := fun _ _ _ _ _ _ _ _ r h => r.less h
theorem RX.step {c : Str} {x : D} {ρ' : En} (h : RX P E g σ ρ H c x ρ') (s : SameC ρ ρ1) (f : FrE H (Own σ ρ) H1) : RX P E g σ ρ1 H1 c x ρ' :=
  fun d v H' r s' f' e q => h d v H' r (s.trans s') (f.trans f' fun _ z => s.symm.own z) e q
theorem PostG.step {α β : Type} {R : Gh → Hp → Hp → St → En → β → α → Prop} {Q : β → Hp → Prop} {o : Out α} {H0 : Hp} (h : PostG R P E g σ ρ H0 H Q o) (s : SameC ρ ρ1) (f : FrE H (Own σ ρ) H1) : PostG R P E g σ ρ1 H0 H1 Q o := by
  cases o with
  | ok a ρ' => exact fun v H' r s' f' rv => h v H' r (s.trans s') (f.trans f' fun _ z => s.symm.own z) rv
  | raise c x ρ' => exact RX.step h s f
  | stuck => exact h
theorem PostG.based {α β : Type} {R : Gh → Hp → Hp → St → En → β → α → Prop} (old : Old R) {Q : β → Hp → Prop} {o : Out α} {H0 : Hp} (h : PostG R P E g σ ρ H0 H Q o) (f : Free H0 H1) : PostG R P E g σ ρ H1 H Q o := by
  cases o with
  | ok a ρ' => exact fun v H' r s' f' rv => h v H' r s' f' (old _ _ _ _ _ _ _ _ rv f)
  | raise c x ρ' => exact h
  | stuck => exact h

theorem PostG.more {α β : Type} {R : Gh → Hp → Hp → St → En → β → α → Prop} (ls : Less R) {Q : β → Hp → Prop} {o : Out α} {H0 : Hp} {g' : Gh} (h : PostG R P E g σ ρ H0 H Q o) (le : g.le g') : PostG R P E g' σ ρ H0 H Q o := by
  cases o with
  | ok a ρ' => exact fun v H' r s' f' rv => h v H' (r.less le) s' f' (ls _ _ _ _ _ _ _ _ rv le)
  | raise c x ρ' => exact fun d v H' r s f e q => h d v H' (r.less le) s f e (q.grow le.hid)
  | stuck => exact h
/-- one part after another: f goes on with what o gave; h is what is known of the whole -/
theorem bindG {α β α' β' : Type} {R : Gh → Hp → Hp → St → En → β → α → Prop} {R' : Gh → Hp → Hp → St → En → β' → α' → Prop}
    {Q : β' → Hp → Prop} {o : Out α} {f : α → En → Out α'} {Q' : β → Hp → Prop} {H0 : Hp} (h : PostG R' P E g σ ρ H0 H Q (o.bind f))
    (k : ∀ a ρ1 v H1, Rep P.K g H1 σ ρ1 → SameC ρ ρ1 → FrE H (Own σ ρ) H1 → R g H H1 σ ρ1 v a → PostG R' P E g σ ρ1 H0 H1 Q (f a ρ1) → Q' v H1) : PostG R P E g σ ρ H H Q' o := by
  cases o with
  | ok a ρ' => exact fun v H' r s fr rv => k a ρ' v H' r s fr rv (PostG.step h s fr)
  | raise c x ρ' => exact h
  | stuck => exact h
theorem Rep.out_some {K : Fg} (r : Rep K g H σ ρ) {a : Addr} (h : Out' g σ ρ a) : ∃ o, H a = some o := by
  rcases h with h | ⟨i, c, h1, h2⟩
  · exact r.pm a h
  · obtain ⟨b, q1, _, q3⟩ := r.cell i c h1
    rw [h2] at q1
    cases q1
    exact q3.some
/-- what an operation on values gives -/
def Res (K : Fg) (Pr : Addr → Prop) (H0 H : Hp) (v : V) : SV → Prop
  | .d x => Rp K (hid Pr H) v x
  | .own c => ∃ p, v = .ref p ∧ H0 p = none ∧ CellR K (hid (fun a => Pr a ∨ a = p) H) H p c
  | _ => False
theorem Rep.res {K : Fg} {H' : Hp} {v : V} {sv : SV} (r : Rep K g H σ ρ) (e : Grow H H') (h : Res K (Out' g σ ρ) H H' v sv) : RV K g H H' σ ρ v sv := by
  cases sv with
  | d x => exact ⟨h, trivial⟩
  | own c =>
    obtain ⟨p, ev, n, q⟩ := h
    refine ⟨⟨p, ev, n, fun z => ?_, q⟩, fun p' ep => ?_⟩
    · obtain ⟨o, eo⟩ := r.out_some z
      rw [n] at eo
      cases eo
    · rw [ev] at ep
      cases ep
      exact r.add_new n e q.some
  | _ => exact h.elim
/-- the end of an operation -/
theorem post_res {Q : VK} {sv : SV} {v : V} {H' : Hp} (r : Rep P.K g H σ ρ) {H0 : Hp} (f : Free H0 H) (h : PostE P E g σ ρ H0 H Q (.ok sv ρ)) (e : Grow H H') (q : Res P.K (Out' g σ ρ) H H' v sv) : Q v H' :=
  h v H' (r.grow e) (.refl _) (.of_grow e) ((r.res e q).older f)
def Tracked (H : Hp) (Pr : Addr → Prop) : Prop := ∀ a, Pr a → ∃ o, H a = some o
/-- an operation on two values, on one, on a list of them -/
def OpG (r : R2) (K : Fg) (f : D → D → Option SV) : Prop := ∀ (Pr : Addr → Prop) (H : Hp) (v w : V) (x y : D) (sv : SV) (Q : VK), Tracked H Pr → Top K (hid Pr H) H v x → Top K (hid Pr H) H w y → f x y = some sv →
  (∀ v' H', Grow H H' → Res K Pr H H' v' sv → Q v' H') → r v w H Q
def OpG1 (r : V → Hp → VK → Prop) (K : Fg) (f : D → Option SV) : Prop := ∀ (Pr : Addr → Prop) (H : Hp) (v : V) (x : D) (sv : SV) (Q : VK), Tracked H Pr → Top K (hid Pr H) H v x → f x = some sv →
  (∀ v' H', Grow H H' → Res K Pr H H' v' sv → Q v' H') → r v H Q
inductive TopAll (K : Fg) (Hh H : Hp) : List V → List D → Prop
  | nil : TopAll K Hh H [] []
  | cons {v : V} {vs : List V} {x : D} {xs : List D} : Top K Hh H v x → TopAll K Hh H vs xs → TopAll K Hh H (v :: vs) (x :: xs)
def CallG (r : List V → Hp → VK → Prop) (K : Fg) (f : List D → Option SV) : Prop := ∀ (Pr : Addr → Prop) (H : Hp) (vs : List V) (xs : List D) (sv : SV) (Q : VK), Tracked H Pr → TopAll K (hid Pr H) H vs xs → f xs = some sv →
  (∀ v' H', Grow H H' → Res K Pr H H' v' sv → Q v' H') → r vs H Q

theorem viewB_some {β : Type} {R : Gh → Hp → Hp → St → En → β → SV → Prop} {Q : β → Hp → Prop} {sv : SV} {f : D → Out SV} {ρ2 : En} {H0 : Hp} (h : PostG R P E g σ ρ H0 H Q (viewB ρ2 sv f)) : ∃ x, view ρ2 sv = some x ∧ PostG R P E g σ ρ H0 H Q (f x) := by
  unfold viewB at h
  split at h
  · exact ⟨_, by assumption, h⟩
  · exact h.elim
theorem viewB_some' {β α : Type} {R : Gh → Hp → Hp → St → En → β → α → Prop} {Q : β → Hp → Prop} {sv : SV} {f : D → Out α} {ρ2 : En} {H0 : Hp} (h : PostG R P E g σ ρ H0 H Q (viewB ρ2 sv f)) : ∃ x, view ρ2 sv = some x ∧ PostG R P E g σ ρ H0 H Q (f x) := by
  unfold viewB at h
  split at h
  · exact ⟨_, by assumption, h⟩
  · exact h.elim
theorem toB_some {β α : Type} {R : Gh → Hp → Hp → St → En → β → α → Prop} {Q : β → Hp → Prop} {sv : SV} {f : D → Out α} {H0 : Hp} (h : PostG R P E g σ ρ H0 H Q (toB sv f)) : ∃ x, toD sv = some x ∧ PostG R P E g σ ρ H0 H Q (f x) := by
  unfold toB at h
  split at h
  · exact ⟨_, by assumption, h⟩
  · exact h.elim
theorem opt_of {β α : Type} {R : Gh → Hp → Hp → St → En → β → α → Prop} {Q : β → Hp → Prop} {o : Option α} {ρ2 : En} {H0 : Hp} (h : PostG R P E g σ ρ H0 H Q (opt o ρ2)) : ∃ a, o = some a ∧ PostG R P E g σ ρ H0 H Q (.ok a ρ2) := by
  cases o with
  | some a => exact ⟨a, rfl, h⟩
  | none => exact h.elim
end

theorem PE.imp {X : Cx} {e : Expr} {t t' : TE} (h : PE X e t) (k : ∀ σ H Q, t' σ H Q → t σ H Q) : PE X e t' := ⟨fun pins s σ H Q I q => h.run pins s σ H Q I (k σ H Q q)⟩
theorem PT.imp {X : Cx} {e : Expr} {t t' : TT} (h : PT X e t) (k : ∀ σ H Q, t' σ H Q → t σ H Q) : PT X e t' := ⟨fun pins s σ H Q I q => h.run pins s σ H Q I (k σ H Q q)⟩
theorem PA.imp {X : Cx} {e : List Expr} {t t' : TA} (h : PA X e t) (k : ∀ σ H Q, t' σ H Q → t σ H Q) : PA X e t' := ⟨fun pos pins s σ H Q I q => h.run pos pins s σ H Q I (k σ H Q q)⟩
theorem PS.imp {X : Cx} {e : Stmt} {t t' : TS} (h : PS X e t) (k : ∀ D σ H, t' D σ H → t D σ H) : PS X e t' := ⟨fun pins s σ H D I q => h.run pins s σ H D I (k D σ H q)⟩

section
variable {X : Cx} {P : Pk} {E : St → XK} {a b : Expr} {ma mb : ME} {pos : Pos}

/-! ### constants and names -/
theorem tM_c {x : D} {v : V} (hv : ∀ K H, Rp K H v x) : ∀ σ H Q, tM P E (mC x) σ H Q → tC v σ H Q := fun σ H Q ⟨g, ρ, r, h⟩ => h v H r (.refl _) (.refl _ _) (.d (hv _ _))
theorem s_int {i : Int} {j} : PE X (.Constant (.int i) j pos) (tM P E (mC (.int i))) := PE.imp pe_int (tM_c fun _ _ => .int i)
theorem s_bl {i : Bool} {j} : PE X (.Constant (.bool i) j pos) (tM P E (mC (.bool i))) := PE.imp pe_bl (tM_c fun _ _ => .bl i)
theorem s_non {j} : PE X (.Constant .none j pos) (tM P E (mC .none)) := PE.imp pe_non (tM_c fun _ _ => .non)
theorem s_str {x : Str} {j} : PE X (.Constant (.str x) j pos) (tM P E (mC (.str x))) := PE.imp pe_str (tM_c fun _ _ => .str x)
theorem cellAt_own {ρ : En} {i : Nat} {c : Cell} (h : ρ[i]? = some (some (.own c))) : cellAt ρ i = some c := by unfold cellAt; rw [h]
theorem cellAt_ref {ρ : En} {i : Nat} {c : Cell} (h : ρ[i]? = some (some (.ref c))) : cellAt ρ i = some c := by unfold cellAt; rw [h]
theorem s_v (i : Nat) {x : Str} (hN : X.N[i]? = some x := by rfl) (hv : Vis X.env.scope x := by first | exact Or.inl rfl | exact Or.inr (Or.inl rfl) | exact Or.inr (Or.inr rfl)) (hd : (x == ("__debug__" : Str)) = false := by decide)
    (hcd : (x == ("__classdict__" : Str)) = false := by decide) : PE X (.Name x pos) (tM P E (mV i)) := by
  refine PE.imp (pe_var hN hv hd hcd) fun σ H Q ⟨g, ρ, r, h⟩ => ?_
  unfold mV at h
  split at h
  · rename_i x e
    obtain ⟨v, q1, q2⟩ := r.d i x e
    exact ⟨v, q1, h v H r (.refl _) (.refl _ _) (.d q2)⟩
  · rename_i c e
    obtain ⟨p, q1, q2, q3⟩ := r.cell i c (cellAt_own e)
    exact ⟨.ref p, q1, h (.ref p) H r (.refl _) (.refl _ _) ⟨⟨c, cellAt_own e, q1⟩, trivial⟩⟩
  · rename_i c e
    obtain ⟨p, q1, q2, q3⟩ := r.cell i c (cellAt_ref e)
    exact ⟨.ref p, q1, h (.ref p) H r (.refl _) (.refl _ _) ⟨⟨c, cellAt_ref e, q1⟩, trivial⟩⟩
  · exact (r.noexc _ _ _ (by assumption)).elim
  · exact (r.nofn _ _ (by assumption)).elim
  · exact h.elim

/-! ### lists of expressions -/
theorem s_nil : PA X [] (tAs P E []) := PA.imp pa_nil fun σ H Q ⟨g, ρ, r, h⟩ => h [] H r (.refl _) (.refl _ _) .nil
theorem RV.later_own {K : Fg} {g : Gh} {H0 H H' : Hp} {σ : St} {ρ ρ' : En} {v : V} {sv : SV} (r : RV K g H0 H σ ρ v sv) (s : SameC ρ ρ') (f : FrE H (Own σ ρ) H') (rp : Rep K (MP.gadd g v sv) H' σ ρ') : RV K g H0 H' σ ρ' v sv := by
  refine ⟨r.b.later s f, ?_⟩
  have hb := r.b
  cases sv with
  | own c =>
    obtain ⟨p, rfl, _⟩ := hb
    intro p' e
    cases e
    exact rp
  | _ => trivial
theorem s_cons {es : List Expr} {m : ME} {ms : List ME} (ha : PE X a (tM P E m)) (hr : PA X es (tAs P E ms)) (hs : starEach (a :: es) X.env = (false, eval a X.env) :: starEach es X.env := by rfl) : PA X (a :: es) (tAs P E (m :: ms)) := by
  refine PA.imp (pa_cons ha hr hs) fun σ H Q ⟨g, ρ, r, h⟩ => ?_
  refine ⟨g, ρ, r, bindG (R := RVP P) (R' := RAP P) (f := fun v ρ1 => (mArgs ms ρ1).bind fun vs ρ2 => .ok (v :: vs) ρ2) h fun sv ρ1 v H1 r1 s1 f1 q1 h1 => ?_⟩
  have h1' := PostG.more less_A h1 (le_gadd g v sv)
  refine ⟨gadd g v sv, ρ1, q1.gadd r1, ?_⟩
  cases e : mArgs ms ρ1 with
  | ok ss ρ2 =>
    rw [e] at h1
    intro vs H2 r2 s2 f2 q2
    exact h1 (v :: vs) H2 (r2.less (le_gadd g v sv)) s2 f2 (.cons (q1.later_own s2 f2 r2) (q2.older f1.free))
  | raise c x ρ2 =>
    rw [e] at h1'
    exact h1'
  | stuck =>
    rw [e] at h1'
    exact h1'
end
end MP
end

section
set_option Elab.async false
set_option linter.all false
set_option maxRecDepth 100000
set_option maxHeartbeats 4000000
set_option autoImplicit false
namespace MP
open PySem PySem.Spec L2

theorem line_eq : line = sizeLine := by decide
/-! ### either rule -/
theorem opOr {X : Cx} {f : Value → Value → Sem Value} {r r' : R2} (a : OpR X f r) (b : OpR X f r') : OpR X f (fun x y H Q => r x y H Q ∨ r' x y H Q) :=
  fun pins s σ H x y v u Q I rx ry h => h.elim (a pins s σ H x y v u Q I rx ry) (b pins s σ H x y v u Q I rx ry)
theorem callOr {X : Cx} {f : Value} {r r' : List V → Hp → VK → Prop} (a : CallR X f r) (b : CallR X f r') : CallR X f (fun xs H Q => r xs H Q ∨ r' xs H Q) :=
  fun pins s σ H xs us Q I rx h => h.elim (a pins s σ H xs us Q I rx) (b pins s σ H xs us Q I rx)

section
variable {X : Cx} {P : Pk} {E : St → XK} {a b : Expr} {ma mb : ME} {pos : Pos}
theorem bin_of {r : R2} {f : D → D → Option SV} (hg : OpG r P.K f) : ∀ σ H Q, tM P E (m2 f ma mb) σ H Q → tOp r (tM P E ma) (tM P E mb) σ H Q := fun σ H Q ⟨g, ρ, rp, h⟩ => by
  refine ⟨g, ρ, rp, bindG (R := RVP P) (R' := RVP P) h fun sv ρ1 v H1 r1 s1 f1 q1 h1 => ?_⟩
  refine ⟨g, ρ1, r1, bindG (R := RVP P) (R' := RVP P) h1 fun sw ρ2 w H2 r2 s2 f2 q2 h2 => ?_⟩
  obtain ⟨x, ex, h2⟩ := viewB_some' h2
  obtain ⟨y, ey, h2⟩ := viewB_some' h2
  obtain ⟨z, ez, h2⟩ := opt_of h2
  exact hg (Out' g σ ρ2) H2 v w x y z Q (fun a h => r2.out_some h) ((q1.later s2 f2).top r2 ex) (q2.top r2 ey) ez fun v' H' gr rs => post_res r2 (f1.free.trans f2.free) h2 gr rs
theorem s_bin {op : Operator} {r : R2} {f : D → D → Option SV} (ho : OpR X (binaryOp op) r) (hg : OpG r P.K f) (ha : PE X a (tM P E ma)) (hb : PE X b (tM P E mb)) : PE X (.BinOp a op b pos) (tM P E (m2 f ma mb)) :=
  PE.imp (pe_op ho ha hb) (bin_of hg)
theorem s_cmp {op : CmpOp} {r : R2} {f : D → D → Option SV} (ho : OpR X (compareOp op) r) (hg : OpG r P.K f) (ha : PE X a (tM P E ma)) (hb : PE X b (tM P E mb)) (hm : behindInMarks op b = false) : PE X (.Compare a [op] [b] pos) (tM P E (m2 f ma mb)) :=
  PE.imp (pe_cmpR ho ha hb hm) (bin_of hg)
theorem s_un {op : UnaryOp} {r : V → Hp → VK → Prop} {f : D → Option SV} (ho : UnR X (unaryOp op) r) (hg : OpG1 r P.K f) (ha : PE X a (tM P E ma)) : PE X (.UnaryOp op a pos) (tM P E (m1 f ma)) := by
  refine PE.imp (pe_un ho ha) fun σ H Q ⟨g, ρ, rp, h⟩ => ?_
  refine ⟨g, ρ, rp, bindG (R := RVP P) (R' := RVP P) h fun sv ρ1 v H1 r1 s1 f1 q1 h1 => ?_⟩
  obtain ⟨x, ex, h1⟩ := viewB_some' h1
  obtain ⟨z, ez, h1⟩ := opt_of h1
  exact hg (Out' g σ ρ1) H1 v x z Q (fun a h => r1.out_some h) (q1.top r1 ex) ez fun v' H' gr rs => post_res r1 f1.free h1 gr rs
theorem s_ix {r : R2} {f : D → D → Option SV} (ho : IxR X r) (hg : OpG r P.K f) (ha : PE X a (tM P E ma)) (hb : PE X b (tM P E mb)) (hs : PlainIx b := by exact fun _ _ => rfl) : PE X (.Subscript a b pos) (tM P E (m2 f ma mb)) :=
  PE.imp (pe_ix ho ha hb hs) (bin_of hg)
end

/-! ### the operations -/
theorem res_int {K : Fg} {Pr : Addr → Prop} {H0 H : Hp} {i : Int} : Res K Pr H0 H (.int i) (.d (.int i)) := Rp.int i
theorem res_bool {K : Fg} {Pr : Addr → Prop} {H0 H : Hp} {i : Bool} : Res K Pr H0 H (.bl i) (.d (.bool i)) := Rp.bl i
theorem res_str {K : Fg} {Pr : Addr → Prop} {H0 H : Hp} {i : Str} : Res K Pr H0 H (.str i) (.d (.str i)) := Rp.str i
theorem res_non {K : Fg} {Pr : Addr → Prop} {H0 H : Hp} : Res K Pr H0 H .non (.d .none) := Rp.non
theorem ne_new {H : Hp} {p a : Addr} {o : HO} (e : H a = some o) (hp : H p = none) : a ≠ p := ne_of_none e hp
theorem hid_new {Pr : Addr → Prop} {H : Hp} {p : Addr} {o : HO} (hp : H p = none) : Grow (hid Pr H) (hid (fun a => Pr a ∨ a = p) (upd H p o)) :=
  hid_grow fun a u n e => ⟨fun z => z.elim n (ne_new e hp), (upd_ne (ne_new e hp)).trans e⟩
theorem hid_newT {Pr : Addr → Prop} {H : Hp} {p : Addr} {o : HO} (hp : H p = none) : Grow (hid Pr H) (hid Pr (upd H p o)) :=
  hid_grow fun a u n e => ⟨n, (upd_ne (ne_new e hp)).trans e⟩
theorem not_tr {Pr : Addr → Prop} {H : Hp} {p : Addr} (tr : Tracked H Pr) (hp : H p = none) : ¬ Pr p := fun z => by
  obtain ⟨o, e⟩ := tr p z
  rw [hp] at e
  cases e
theorem res_lst {K : Fg} {Pr : Addr → Prop} {H : Hp} {p : Addr} {xs : List V} {ds : List D} (hp : H p = none) (r : RpAll K (hid Pr H) xs ds) : Res K Pr H (upd H p (.lst xs)) (.ref p) (.own (.lst ds)) :=
  ⟨p, rfl, hp, xs, upd_same, r.grow (hid_new hp)⟩
theorem res_tup {K : Fg} {Pr : Addr → Prop} {H : Hp} {p : Addr} {xs : List V} {ds : List D} (tr : Tracked H Pr) (hp : H p = none) (r : RpAll K (hid Pr H) xs ds) : Res K Pr H (upd H p (.tup xs)) (.ref p) (.d (.tuple ds)) :=
  Rp.tup (.of (hid_some.mpr ⟨not_tr tr hp, upd_same⟩)) (r.grow (hid_newT hp))
/-- a list, a tuple that is not empty is a proper object -/
theorem top_len {K : Fg} {H : Hp} {a : Addr} {xs : List V} {ds : List D} {Hh : Hp} (r : RpAll K Hh xs ds) : xs.length = ds.length := r.length

/-! ### + -/
def rCatL (K : Fg) : R2 := fun x y H Q => ∃ l b xs zs, x = .ref l ∧ y = .ref b ∧ SqL K H l xs ∧ SqL K H b zs ∧ xs.length + zs.length ≤ sizeLine ∧ ∀ p, H p = none → Q (.ref p) (upd H p (.lst (xs ++ zs)))
theorem op_catL {X : Cx} : OpR X (binaryOp .Add) (rCatL X.K) := by
  intro pins s σ H x y v u Q I rx ry h
  obtain ⟨l, b, xs, zs, rfl, rfl, hH, hB, hz, q⟩ := h
  cases rx
  cases ry
  obtain ⟨its, r, ⟨⟨cls, dd, data, sl⟩, n, ho, hc, hd, hs⟩, z1⟩ := I.list hH
  obtain ⟨its2, r2, ⟨⟨cls2, dd2, data2, sl2⟩, n2, ho2, hc2, hd2, hs2⟩, z2⟩ := I.list hB
  simp only at hc hs hc2 hs2
  subst hc hs hc2 hs2
  have hl := r.length
  have hl2 := r2.length
  refine concat_meets ⟨_, ho, rfl⟩ ⟨_, ho2, rfl⟩ noFill_list_add seq_list_add F.slot_list_add F.entry_list_add (F.args_list_add_2 _ _) (PyProof.Rows.list_addW l b its.toArray its2.toArray n n2 dd dd2 sl sl2 (by rw [List.size_toArray, List.size_toArray]; omega)) ⟨ho, ho2, ?_⟩
  have ea : its.toArray ++ its2.toArray = (its ++ its2).toArray := by simp
  rw [ea]
  exact ⟨.ref _, _, I.lnew (t' := s.toks) (r.append r2) (by rw [List.length_append]; omega), rfl, q _ I.fresh⟩
def rStrAdd : R2 := fun x y H Q => ∃ i j, x = .str i ∧ y = .str j ∧ i.length + j.length ≤ sizeLine ∧ Q (.str (i ++ j)) H
def rAddA (K : Fg) : R2 := fun x y H Q => (rI0 (fun i j => .int (i + j)) x y H Q ∨ rStrAdd x y H Q) ∨ (rCatL K x y H Q ∨ rCatA K x y H Q)
theorem op_addA {X : Cx} : OpR X (binaryOp .Add) (rAddA X.K) := opOr (opOr op_add op_add_str) (opOr op_catL op_catA)
theorem og_add {K : Fg} : OpG (rAddA K) K bAdd := by
  intro Pr H v w x y sv Q tr hv hw e k
  unfold bAdd at e
  split at e
  · cases e
    cases hv
    cases hw
    exact .inl (.inl ⟨_, _, rfl, rfl, k _ _ (.refl _) res_int⟩)
  · split at e
    · cases e
      cases hv
      cases hw
      exact .inl (.inr ⟨_, _, rfl, rfl, by rw [← line_eq]; assumption, k _ _ (.refl _) res_str⟩)
    · cases e
  · split at e
    · cases e
      obtain ⟨a, xs, rfl, h1, r1⟩ := hv
      obtain ⟨b, ys, rfl, h2, r2⟩ := hw
      exact .inr (.inl ⟨a, b, xs, ys, rfl, rfl, h1, h2, by rw [r1.length, r2.length, ← line_eq]; assumption, fun p hp => k _ _ (.new hp) (res_lst hp (r1.append r2))⟩)
    · cases e
  · split at e
    · cases e
      obtain ⟨a, xs, rfl, h1, r1⟩ := hv
      obtain ⟨b, ys, rfl, h2, r2⟩ := hw
      refine .inr (.inr ⟨a, b, xs, ys, rfl, rfl, hid_le.st h1, hid_le.st h2, by rw [r1.length, r2.length, ← line_eq]; assumption, fun z => ?_, fun _ z => ?_, fun _ _ p hp => k _ _ (.new hp) (res_tup tr hp (r1.append r2))⟩)
      · subst z
        cases r1
        exact k _ _ (.refl _) (Rp.tup h2 r2)
      · subst z
        cases r2
        rw [List.append_nil] at k
        exact k _ _ (.refl _) (Rp.tup h1 r1)
    · cases e
  · cases e

/-! ### the other operations of numbers -/
theorem og_I0 {K : Fg} {r : R2} {f : D → D → Option SV} {g : Int → Int → V} {g' : Int → Int → D} (hg : ∀ Hh i j, Rp K Hh (g i j) (g' i j)) (hr : ∀ i j H Q, Q (g i j) H → r (.int i) (.int j) H Q) (hf : ∀ x y sv, f x y = some sv → ∃ i j, x = .int i ∧ y = .int j ∧ sv = .d (g' i j)) : OpG r K f := by
  intro Pr H v w x y sv Q tr hv hw e k
  obtain ⟨i, j, rfl, rfl, rfl⟩ := hf x y sv e
  cases hv
  cases hw
  exact hr i j H Q (k _ _ (.refl _) (hg _ i j))
theorem og_IC {K : Fg} {r : R2} {f : D → D → Option SV} {g : Int → Int → V} {g' : Int → Int → D} {C : Int → Int → Prop} (hg : ∀ Hh i j, Rp K Hh (g i j) (g' i j)) (hr : ∀ i j H Q, C i j → Q (g i j) H → r (.int i) (.int j) H Q) (hf : ∀ x y sv, f x y = some sv → ∃ i j, x = .int i ∧ y = .int j ∧ sv = .d (g' i j) ∧ C i j) : OpG r K f := by
  intro Pr H v w x y sv Q tr hv hw e k
  obtain ⟨i, j, rfl, rfl, rfl, c⟩ := hf x y sv e
  cases hv
  cases hw
  exact hr i j H Q c (k _ _ (.refl _) (hg _ i j))
def f2 (g : Int → Int → D) : D → D → Option SV
  | .int i, .int j => some (.d (g i j))
  | _, _ => none
theorem f2_inv {g : Int → Int → D} {x y : D} {sv : SV} (h : f2 g x y = some sv) : ∃ i j, x = .int i ∧ y = .int j ∧ sv = .d (g i j) := by
  unfold f2 at h
  split at h
  · cases h
    exact ⟨_, _, rfl, rfl, rfl⟩
  · cases h
theorem og_sub {K : Fg} : OpG (rI0 fun i j => .int (i - j)) K bSub := og_I0 (g := fun i j => .int (i - j)) (g' := fun i j => .int (i - j)) (fun _ _ _ => .int _) (fun i j H Q q => ⟨i, j, rfl, rfl, q⟩) fun x y sv e => by
  unfold bSub at e
  split at e
  · cases e; exact ⟨_, _, rfl, rfl, rfl⟩
  · cases e
theorem og_lt {K : Fg} : OpG (rI0 fun i j => .bl (decide (i < j))) K cLt := og_I0 (g := fun i j => .bl (decide (i < j))) (g' := fun i j => .bool (decide (i < j))) (fun _ _ _ => .bl _) (fun i j H Q q => ⟨i, j, rfl, rfl, q⟩) fun x y sv e => by
  unfold cLt at e
  split at e
  · cases e; exact ⟨_, _, rfl, rfl, rfl⟩
  · cases e
theorem og_le {K : Fg} : OpG (rI0 fun i j => .bl (decide (i ≤ j))) K cLe := og_I0 (g := fun i j => .bl (decide (i ≤ j))) (g' := fun i j => .bool (decide (i ≤ j))) (fun _ _ _ => .bl _) (fun i j H Q q => ⟨i, j, rfl, rfl, q⟩) fun x y sv e => by
  unfold cLe at e
  split at e
  · cases e; exact ⟨_, _, rfl, rfl, rfl⟩
  · cases e
theorem og_gt {K : Fg} : OpG (rI0 fun i j => .bl (decide (j < i))) K cGt := og_I0 (g := fun i j => .bl (decide (j < i))) (g' := fun i j => .bool (decide (j < i))) (fun _ _ _ => .bl _) (fun i j H Q q => ⟨i, j, rfl, rfl, q⟩) fun x y sv e => by
  unfold cGt at e
  split at e
  · cases e; exact ⟨_, _, rfl, rfl, rfl⟩
  · cases e
theorem og_ge {K : Fg} : OpG (rI0 fun i j => .bl (decide (j ≤ i))) K cGe := og_I0 (g := fun i j => .bl (decide (j ≤ i))) (g' := fun i j => .bool (decide (j ≤ i))) (fun _ _ _ => .bl _) (fun i j H Q q => ⟨i, j, rfl, rfl, q⟩) fun x y sv e => by
  unfold cGe at e
  split at e
  · cases e; exact ⟨_, _, rfl, rfl, rfl⟩
  · cases e
theorem og_mod {K : Fg} : OpG (rI (fun _ j => 0 < j) fun i j => .int (i % j)) K bMod := og_IC (g := fun i j => .int (i % j)) (g' := fun i j => .int (i % j)) (C := fun _ j => 0 < j) (fun _ _ _ => .int _) (fun i j H Q c q => ⟨i, j, rfl, rfl, c, q⟩) fun x y sv e => by
  unfold bMod at e
  split at e
  · split at e
    · cases e; exact ⟨_, _, rfl, rfl, rfl, by assumption⟩
    · cases e
  · cases e
theorem og_div {K : Fg} : OpG (rI CDivW fun i j => .int (i / j)) K bDiv := og_IC (g := fun i j => .int (i / j)) (g' := fun i j => .int (i / j)) (C := CDivW) (fun _ _ _ => .int _) (fun i j H Q c q => ⟨i, j, rfl, rfl, c, q⟩) fun x y sv e => by
  unfold bDiv at e
  split at e
  · split at e
    · cases e; exact ⟨_, _, rfl, rfl, rfl, by assumption⟩
    · cases e
  · cases e
theorem mulOk_ok {i j : Int} (h : mulOk i j = true) : IntMulOk i j := by
  unfold mulOk at h
  rw [Bool.or_eq_true, Bool.or_eq_true, decide_eq_true_eq, decide_eq_true_eq, decide_eq_true_eq] at h
  have b : ∀ x : Int, Builtin.Int.intBits x ≤ x.natAbs.log2 + 1 := fun x => by
    unfold Builtin.Int.intBits
    split <;> omega
  have c : ∀ x : Int, x.natAbs < 2 ^ 64 → Builtin.Int.intBits x ≤ 64 := fun x hx => by
    have := PySem.Flt.log2_lt_of (by decide : 0 < 64) hx
    have := b x
    omega
  rcases h with (h | h) | h
  · exact .of_left (c _ h)
  · exact .of_right (c _ h)
  · have h1 := b i
    have h2 := b j
    have e : bitsLine = 134217728 := by decide
    unfold IntMulOk
    intro z
    rw [Bool.and_eq_true] at z
    have z2 := z.2
    unfold Builtin.Int.intTooBig at z2
    have z3 := of_decide_eq_true z2
    rw [e] at z3
    omega
theorem op_mulA {X : Cx} : OpR X (binaryOp .Mult) (rI IntMulOk fun i j => .int (i * j)) := opI fun _ _ _ _ _ _ _ hc q => PyProof.Rows.mul_int q hc
theorem og_mul {K : Fg} : OpG (rI IntMulOk fun i j => .int (i * j)) K bMulI := og_IC (g := fun i j => .int (i * j)) (g' := fun i j => .int (i * j)) (C := IntMulOk) (fun _ _ _ => .int _) (fun i j H Q c q => ⟨i, j, rfl, rfl, c, q⟩) fun x y sv e => by
  unfold bMulI at e
  split at e
  · split at e
    · cases e; exact ⟨_, _, rfl, rfl, rfl, mulOk_ok (by assumption)⟩
    · cases e
  · cases e
def CPowA (i j : Int) : Prop := 0 ≤ j ∧ (i.natAbs.log2 + 1) * j.toNat ≤ 134217728
theorem op_powA {X : Cx} : OpR X (binaryOp .Pow) (rI CPowA fun i j => .int (i ^ j.toNat)) := opI fun i j _ _ _ _ _ hc q => PyProof.Rows.pow_int hc.1 (by
  have b : (Builtin.Int.intBits i : Int) ≤ i.natAbs.log2 + 1 := by
    unfold Builtin.Int.intBits
    split <;> omega
  have e : ((j.toNat : Nat) : Int) = j := Int.toNat_of_nonneg hc.1
  have h2 : ((i.natAbs.log2 + 1 : Nat) : Int) * ((j.toNat : Nat) : Int) ≤ ((134217728 : Nat) : Int) := by exact_mod_cast hc.2
  rw [e] at h2
  exact Int.le_trans (Int.mul_le_mul_of_nonneg_right b hc.1) (by simpa using h2)) q
theorem og_pow {K : Fg} : OpG (rI CPowA fun i j => .int (i ^ j.toNat)) K bPow := og_IC (g := fun i j => .int (i ^ j.toNat)) (g' := fun i j => .int (i ^ j.toNat)) (C := CPowA) (fun _ _ _ => .int _) (fun i j H Q c q => ⟨i, j, rfl, rfl, c, q⟩) fun x y sv e => by
  unfold bPow at e
  split at e
  · split at e
    · cases e; exact ⟨_, _, rfl, rfl, rfl, by assumption⟩
    · cases e
  · cases e
theorem og_neg {K : Fg} : OpG1 (rU fun i => .int (-i)) K uNeg := by
  intro Pr H v x sv Q tr hv e k
  unfold uNeg at e
  split at e
  · cases e
    cases hv
    exact ⟨_, rfl, k _ _ (.refl _) res_int⟩
  · cases e
/-- [..] * n -/
theorem s_rep {X : Cx} {P : Pk} {E : St → XK} {a b : Expr} {ma mb : ME} {pos : Pos} (ha : PE X a (tM P E ma)) (hb : PE X b (tM P E mb)) : PE X (.BinOp a .Mult b pos) (tM P E (mRep ma mb)) := by
  refine PE.imp (pe_op op_rep ha hb) fun σ H Q ⟨g, ρ, rp, h⟩ => ?_
  refine ⟨g, ρ, rp, bindG (R := RVP P) (R' := RVP P) h fun sv ρ1 v H1 r1 s1 f1 q1 h1 => ?_⟩
  refine ⟨g, ρ1, r1, bindG (R := RVP P) (R' := RVP P) h1 fun sw ρ2 w H2 r2 s2 f2 q2 h2 => ?_⟩
  split at h2
  · rename_i xs
    split at h2
    · rename_i n
      split at h2
      · rename_i hc
        rw [Bool.and_eq_true, decide_eq_true_eq] at hc
        obtain ⟨p, rfl, n0, no, xs', e1, e2⟩ := q1.later s2 f2
        have e3 : w = .int n := q2.is_int
        subst e3
        have hs := small62_iff hc.1
        have gr : Grow (hid (fun a => Out' g σ ρ2 a ∨ a = p) H2) (hid (Out' g σ ρ2) H2) := hid_grow fun a o n e => ⟨fun z => n (.inl z), e⟩
        refine ⟨p, n, xs', rfl, rfl, e1, by omega, by omega, by rw [e2.length, ← line_eq]; exact hc.2, fun q hq => ?_⟩
        refine post_res r2 (f1.free.trans f2.free) h2 (.new hq) (res_lst hq ?_)
        clear h2 hc
        generalize n.toNat = m
        induction m with
        | zero => exact .nil
        | succ m ih =>
          rw [List.replicate_succ, List.replicate_succ, List.flatten_cons, List.flatten_cons]
          exact (e2.grow gr).append ih
      · exact h2.elim
    · exact h2.elim
  · exact h2.elim
end MP
end

section
set_option Elab.async false
set_option linter.all false
set_option maxRecDepth 100000
set_option maxHeartbeats 4000000
set_option autoImplicit false
namespace MP
open PySem PySem.Spec L2

/-! ### an item -/
theorem ix_atI {α : Type} {xs : List α} {i : Int} {j : Nat} (h : ix xs.length i = some j) : ixN xs.length i = some j := h
theorem atD_of {K : Fg} {Hh : Hp} {vs : List V} {xs : List D} {i : Int} {x : D} (r : RpAll K Hh vs xs) (h : atD xs i = some x) : ∃ v, atI vs i = some v ∧ Rp K Hh v x := by
  unfold atD at h
  cases e : ix xs.length i with
  | none => rw [e] at h; cases h
  | some j =>
    rw [e] at h
    obtain ⟨v, q1, q2⟩ := r.get h
    refine ⟨v, ?_, q2⟩
    unfold atI
    have e' : ixN vs.length i = some j := by
      rw [r.length]
      exact e
    rw [e']
    exact q1
theorem og_idx {K : Fg} : OpG (rIx K) K bIdx := by
  intro Pr H v w x y sv Q tr hv hw e k
  unfold bIdx at e
  split at e
  · obtain ⟨a, xs, rfl, h1, r1⟩ := hv
    cases hw
    rename_i ds i
    cases e2 : atD ds i with
    | none => rw [e2] at e; cases e
    | some z =>
      rw [e2] at e
      cases e
      obtain ⟨v, q1, q2⟩ := atD_of r1 e2
      exact .inl ⟨a, xs, i, v, rfl, rfl, h1, q1, k _ _ (.refl _) q2⟩
  · obtain ⟨a, xs, rfl, h1, r1⟩ := hv
    cases hw
    rename_i ds i
    cases e2 : atD ds i with
    | none => rw [e2] at e; cases e
    | some z =>
      rw [e2] at e
      cases e
      obtain ⟨v, q1, q2⟩ := atD_of r1 e2
      exact .inr (.inl ⟨a, xs, i, v, rfl, rfl, hid_le.st h1, q1, k _ _ (.refl _) q2⟩)
  · cases hv
    cases hw
    rename_i z i
    split at e
    · rename_i hz
      cases e1 : ix z.length i with
      | none => rw [e1] at e; cases e
      | some j =>
        rw [e1] at e
        cases e2 : z.cps.toList[j]? with
        | none =>
          rw [show ((some j).bind fun j => (z.cps.toList[j]?).map fun c => SV.d (.str ⟨#[c]⟩)) = (z.cps.toList[j]?).map fun c => SV.d (.str ⟨#[c]⟩) from rfl, e2] at e
          cases e
        | some c =>
          rw [show ((some j).bind fun j => (z.cps.toList[j]?).map fun c => SV.d (.str ⟨#[c]⟩)) = (z.cps.toList[j]?).map fun c => SV.d (.str ⟨#[c]⟩) from rfl, e2] at e
          cases e
          refine .inr (.inr ⟨z, i, c, rfl, rfl, by rw [← line_eq]; exact hz, ?_, k _ _ (.refl _) res_str⟩)
          unfold atI
          have e' : ixN z.cps.toList.length i = some j := by
            rw [Array.length_toList]
            exact e1
          rw [e']
          exact e2
    · cases e
  · cases e

/-! ### slices -/
theorem clamp_lo (n d : Nat) (o : Option Int) : HT.sIx n 0 o = cutLo n o := by
  cases o with
  | none => rfl
  | some v =>
    show (if v < 0 then (v + (n : Int)).toNat else min v.toNat n) = if 0 ≤ v then min v.toNat n else (v + (n : Int)).toNat
    by_cases h : v < 0
    · rw [if_pos h, if_neg (by omega)]
    · rw [if_neg h, if_pos (by omega)]
theorem clamp_hi (n : Nat) (o : Option Int) : HT.sIx n n o = cutHi n o := by
  cases o with
  | none => rfl
  | some v =>
    show (if v < 0 then (v + (n : Int)).toNat else min v.toNat n) = if 0 ≤ v then min v.toNat n else (v + (n : Int)).toNat
    by_cases h : v < 0
    · rw [if_pos h, if_neg (by omega)]
    · rw [if_neg h, if_pos (by omega)]
theorem cut_rp {K : Fg} {Hh : Hp} {vs : List V} {xs : List D} (r : RpAll K Hh vs xs) (lo hi : Option Int) : RpAll K Hh (cutV vs lo hi) (cutD xs lo hi) := by
  unfold cutV cutD
  rw [clamp_lo _ 0, clamp_hi, r.length]
  exact (r.drop _).take _
theorem cut_whole {α : Type} {xs : List α} {lo hi : Option Int} (h1 : HT.sIx xs.length 0 lo = 0) (h2 : HT.sIx xs.length xs.length hi = xs.length) : cutD xs lo hi = xs := by
  unfold cutD
  rw [← clamp_lo _ 0, ← clamp_hi, h1, h2]
  simp
section
variable {X : Cx} {P : Pk} {E : St → XK} {a b : Expr} {ma mb : ME} {pos : Pos}
def tO (P : Pk) (E : St → XK) (m : Option ME) : TO := fun σ H Q => ∃ g ρ, Rep P.K g H σ ρ ∧ PostG (fun _ _ _ _ _ v b => v = b) P E g σ ρ H H Q (mPart m ρ)
theorem PO.imp {e : Option Expr} {t t' : TO} (h : PO X e t) (k : ∀ σ H Q, t' σ H Q → t σ H Q) : PO X e t' := ⟨fun pins s σ H Q I q => h.run pins s σ H Q I (k σ H Q q)⟩
theorem so_n : PO X none (tO P E none) := PO.imp po_none fun σ H Q ⟨g, ρ, r, h⟩ => h none H r (.refl _) (.refl _ _) rfl
theorem intB_some {β α : Type} {R : Gh → Hp → Hp → St → En → β → α → Prop} {g : Gh} {σ : St} {ρ : En} {H0 H : Hp} {Q : β → Hp → Prop} {sv : SV} {f : Int → Out α} (h : PostG R P E g σ ρ H0 H Q (intB sv f)) : ∃ i, sv = .d (.int i) ∧ PostG R P E g σ ρ H0 H Q (f i) := by
  unfold intB at h
  split at h
  · exact ⟨_, rfl, h⟩
  · exact h.elim
theorem so_s (ha : PE X a (tM P E ma)) : PO X (some a) (tO P E (some ma)) := by
  refine PO.imp (po_some ha) fun σ H Q ⟨g, ρ, r, h⟩ => ?_
  refine ⟨g, ρ, r, bindG (R := RVP P) (R' := fun _ _ _ _ _ v b => v = b) h fun sv ρ1 v H1 r1 s1 f1 q1 h1 => ?_⟩
  obtain ⟨i, rfl, h1⟩ := intB_some h1
  have e : v = .int i := q1.is_int
  exact ⟨i, e, h1 (some i) H1 r1 (.refl _) (.refl _ _) rfl⟩
def rSlAll (K : Fg) : V → Option Int → Option Int → Hp → VK → Prop := fun x lo hi H Q => rSlL K x lo hi H Q ∨ rSlA K x lo hi H Q
theorem s_sl {lo hi : Option Expr} {ml mh : Option ME} {p2 : Pos} (ha : PE X a (tM P E ma)) (hl : PO X lo (tO P E ml)) (hh : PO X hi (tO P E mh)) (hK : X.K = P.K := by rfl) : PE X (.Subscript a (.Slice lo hi none p2) pos) (tM P E (mSl ma ml mh)) := by
  obtain ⟨K, CA⟩ := P
  subst hK
  refine PE.imp (pe_slice (SlR.or sl_list sl_tupA) ha hl hh) fun σ H Q ⟨g, ρ, rp, h⟩ => ?_
  refine ⟨g, ρ, rp, bindG (R := RVP _) (R' := RVP _) h fun sv ρ1 v H1 r1 s1 f1 q1 h1 => ?_⟩
  refine ⟨g, ρ1, r1, bindG (R := fun _ _ _ _ _ v b => v = b) (R' := RVP _) h1 fun l ρ2 l' H2 r2 s2 f2 el h2 => ?_⟩
  refine ⟨g, ρ2, r2, bindG (R := fun _ _ _ _ _ v b => v = b) (R' := RVP _) h2 fun u ρ3 u' H3 r3 s3 f3 eu h3 => ?_⟩
  subst el eu
  obtain ⟨x, ex, h3⟩ := viewB_some' h3
  obtain ⟨z, ez, h3⟩ := opt_of h3
  have tp := (((q1.later s2 f2).later s3 f3)).top r3 ex
  have fr : Free H H3 := (f1.free.trans f2.free).trans f3.free
  unfold slD at ez
  split at ez
  · cases ez
    obtain ⟨a, xs, rfl, e1, e2⟩ := tp
    exact .inl ⟨a, xs, rfl, e1, fun p hp => post_res r3 fr h3 (.new hp) (res_lst hp (cut_rp e2 _ _))⟩
  · cases ez
    obtain ⟨a, xs, rfl, e1, e2⟩ := tp
    refine .inr ⟨a, xs, rfl, hid_le.st e1, fun ⟨w1, w2⟩ => post_res r3 fr h3 (.refl _) ?_, fun w p hp => post_res r3 fr h3 (.new hp) (res_tup (fun _ z => r3.out_some z) hp (cut_rp e2 _ _))⟩
    rw [e2.length] at w1 w2
    rw [cut_whole w1 w2]
    exact Rp.tup e1 e2
  · cases ez
end
end MP
end

section
set_option Elab.async false
set_option linter.all false
set_option maxRecDepth 100000
set_option maxHeartbeats 4000000
set_option autoImplicit false
namespace MP
open PySem PySem.Spec L2

/-! ### reading data -/
section
variable {X : Cx} {pins : List (Addr × Obj)} {σ : St} {H : Hp} {s : Shared}
mutual
theorem Rp.reads (I : Inv X pins σ H s) : ∀ (d : D) (v : V) (u : Value), Rp X.K H v d → RelV v u → ∃ as, Reads s.heap u d as
  | .none, _, _, h, r => by
    cases h
    cases r
    exact ⟨_, Reads.none⟩
  | .bool b, _, _, h, r => by
    cases h
    cases r
    exact ⟨_, Reads.bool b⟩
  | .int i, _, _, h, r => by
    cases h
    obtain ⟨t, rfl⟩ := r
    exact ⟨_, Reads.int i t⟩
  | .str x, _, _, h, r => by
    cases h
    obtain ⟨t, rfl⟩ := r
    exact ⟨_, Reads.str x t⟩
  | .list ds, _, _, h, r => by
    cases h with
    | lst hs ha =>
      cases r
      obtain ⟨its, rv, ⟨o, n, ho, hc, _, hd⟩, _⟩ := I.list hs
      obtain ⟨as, hr⟩ := RpAll.reads I ds _ its ha rv
      exact ⟨_, Reads.list ho hc hd hr⟩
  | .tuple ds, _, _, h, r => by
    cases h with
    | tup hs ha =>
      cases r
      obtain ⟨its, rv, ⟨o, ho, hc, n, hd⟩, _⟩ := I.tuple hs
      obtain ⟨as, hr⟩ := RpAll.reads I ds _ its ha rv
      exact ⟨_, Reads.tuple ho hc hd hr⟩
  | .dict kvs, _, _, h, r => by
    cases h with
    | dic hs ha =>
      cases r
      obtain ⟨_, _, vs, kv, o, es, ep, ho, hx, hd, ks, hp, _⟩ := I.hok _ _ hs
      obtain ⟨as, bs, r1, r2⟩ := RpKv.reads I kvs _ vs es.toList ha kv hp
      exact ⟨_, Reads.dict ho hx.1 hd r1 r2⟩
theorem RpAll.reads (I : Inv X pins σ H s) : ∀ (ds : List D) (vs : List V) (us : List Value), RpAll X.K H vs ds → Vals vs us → ∃ as, ReadsAll s.heap us ds as
  | [], _, _, h, r => by
    cases h
    cases r
    exact ⟨_, ReadsAll.nil⟩
  | d :: ds, _, _, h, r => by
    cases h with
    | cons h1 h2 =>
      cases r with
      | cons r1 r2 =>
        obtain ⟨as, q1⟩ := Rp.reads I d _ _ h1 r1
        obtain ⟨bs, q2⟩ := RpAll.reads I ds _ _ h2 r2
        exact ⟨_, ReadsAll.cons q1 q2⟩
theorem RpKv.reads (I : Inv X pins σ H s) : ∀ (ds : List (D × D)) (vs : List (Key × V)) (us : List (Key × Value)) (es : List DictEntry), RpKv X.K H vs ds → KV vs us → Pairs (mixKind X.prog X.w) es us →
    ∃ as bs, ReadsAll s.heap (es.map (·.key)) (ds.map (·.1)) as ∧ ReadsAll s.heap (es.map (·.val)) (ds.map (·.2)) bs
  | [], _, _, _, h, r, p => by
    cases h
    cases r
    cases p
    exact ⟨_, _, ReadsAll.nil, ReadsAll.nil⟩
  | d :: ds, _, _, _, h, r, p => by
    cases h with
    | cons h1 h2 =>
      cases r with
      | cons r1 r2 =>
        cases p with
        | cons k1 e1 p' =>
          obtain ⟨as, bs, q1, q2⟩ := RpKv.reads I ds _ _ _ h2 r2 p'
          obtain ⟨r1a, r1b⟩ := r1
          obtain ⟨cs, q3⟩ := Rp.reads I _ _ _ h1 r1b
          have r1c := r1a
          simp only at r1c
          rw [← e1] at q3
          rcases keyIs_shape k1 with ⟨i, t, h3, h4⟩ | ⟨x, t, h3, h4⟩
          · rw [r1c, h3]
            exact ⟨_, _, ReadsAll.cons (show Reads s.heap _ (keyD (.inl i)) [] by simp only [h4]; exact Reads.int i t) q1, ReadsAll.cons q3 q2⟩
          · rw [r1c, h3]
            exact ⟨_, _, ReadsAll.cons (show Reads s.heap _ (keyD (.inr x)) [] by simp only [h4]; exact Reads.str x t) q1, ReadsAll.cons q3 q2⟩
end
end

/-! ### == and != -/
def rEqP (K : Fg) : R2 := fun x y H Q => ∃ d e, Rp K H x d ∧ Rp K H y e ∧ eqOk d e = true ∧ Q (.bl (PyData.eqv d e)) H
def rNeP (K : Fg) : R2 := fun x y H Q => ∃ d e, Rp K H x d ∧ Rp K H y e ∧ eqOk d e = true ∧ Q (.bl (!PyData.eqv d e)) H
theorem noItem_shape {d e : D} (h : noItem d e = true) : ∃ xs ys, d = .tuple xs ∧ e = .tuple ys ∧ (xs = [] ∨ ys = []) := by
  unfold noItem at h
  split at h
  · rename_i xs ys
    refine ⟨xs, ys, rfl, rfl, ?_⟩
    rw [Bool.or_eq_true, List.isEmpty_iff, List.isEmpty_iff] at h
    exact h
  · cases h
theorem eqv_noItem {xs ys : List D} {n m : Nat} (h : xs = [] ∨ ys = []) (n1 : n = xs.length) (n2 : m = ys.length) : ((List.range (min n m)).all (fun _ => true) && n == m) = PyData.eqv (.tuple xs) (.tuple ys) := by
  have e : min n m = 0 := by
    rcases h with h | h
    · subst h; simp at n1; omega
    · subst h; simp at n2; omega
  rw [e]
  subst n1 n2
  rcases h with h | h
  · subst h
    cases ys <;> simp [PyData.eqv, PyData.eqvAll]
  · subst h
    cases xs <;> simp [PyData.eqv, PyData.eqvAll]
theorem op_eqP {X : Cx} (hu : X.A.units + 64 < cLine) : OpR X (compareOp .Eq) (rEqP X.K) := by
  intro pins s σ H x y v u Q I rx ry h
  obtain ⟨d, e, hd, he, ok, q⟩ := h
  obtain ⟨as, r1⟩ := Rp.reads I d x v hd rx
  obtain ⟨bs, r2⟩ := Rp.reads I e y u he ry
  unfold eqOk at ok
  rw [Bool.or_eq_true, Bool.and_eq_true, Bool.and_eq_true, decide_eq_true_eq] at ok
  rcases ok with ok | ⟨⟨p1, p2⟩, p3⟩
  · obtain ⟨xs, ys, rfl, rfl, em⟩ := noItem_shape ok
    cases r1 with
    | @tuple l o vs n _ as₁ h1 h2 h3 h4 =>
      cases r2 with
      | @tuple l' o' vs' n' _ bs₁ k1 k2 k3 k4 =>
        have n1 : vs.size = xs.length := by simpa using SeqAt.ReadsAll.length _ _ _ h4
        have n2 : vs'.size = ys.length := by simpa using SeqAt.ReadsAll.length _ _ _ k4
        refine SeqAt.RcAt.tuples (e := fun _ => true) ⟨_, h1, h2, _, h3⟩ ⟨_, k1, k2, _, k3⟩ (by omega) (fun j j1 j2 => ?_) X.prog X.w _ _ ?_
        · exfalso
          rcases em with em | em
          · rw [em, List.length_nil] at n1
            omega
          · rw [em, List.length_nil] at n2
            omega
        · rw [eqv_noItem em n1 n2]
          exact ⟨.bl _, H, I, rfl, q⟩
  · exact SeqAt.eq_plain r1 r2 p1 p2 (by omega) ⟨.bl _, H, I, rfl, q⟩
theorem op_neP {X : Cx} (hu : X.A.units + 64 < cLine) : OpR X (compareOp .NotEq) (rNeP X.K) := by
  intro pins s σ H x y v u Q I rx ry h
  obtain ⟨d, e, hd, he, ok, q⟩ := h
  obtain ⟨as, r1⟩ := Rp.reads I d x v hd rx
  obtain ⟨bs, r2⟩ := Rp.reads I e y u he ry
  unfold eqOk at ok
  rw [Bool.or_eq_true, Bool.and_eq_true, Bool.and_eq_true, decide_eq_true_eq] at ok
  rcases ok with ok | ⟨⟨p1, p2⟩, p3⟩
  · obtain ⟨xs, ys, rfl, rfl, em⟩ := noItem_shape ok
    cases r1 with
    | @tuple l o vs n _ as₁ h1 h2 h3 h4 =>
      cases r2 with
      | @tuple l' o' vs' n' _ bs₁ k1 k2 k3 k4 =>
        have n1 : vs.size = xs.length := by simpa using SeqAt.ReadsAll.length _ _ _ h4
        have n2 : vs'.size = ys.length := by simpa using SeqAt.ReadsAll.length _ _ _ k4
        refine SeqAt.RcNeAt.tuples (e := fun _ => true) ⟨_, h1, h2, _, h3⟩ ⟨_, k1, k2, _, k3⟩ (by omega) (fun j j1 j2 => ?_) X.prog X.w _ _ ?_
        · exfalso
          rcases em with em | em
          · rw [em, List.length_nil] at n1
            omega
          · rw [em, List.length_nil] at n2
            omega
        · rw [eqv_noItem em n1 n2]
          exact ⟨.bl _, H, I, rfl, q⟩
  · exact SeqAt.ne_plain r1 r2 p1 p2 (by omega) ⟨.bl _, H, I, rfl, q⟩
theorem og_eq {K : Fg} : OpG (rEqP K) K cEq := by
  intro Pr H v w x y sv Q tr hv hw e k
  unfold cEq at e
  split at e
  · cases e
    exact ⟨x, y, hv.rp hid_le, hw.rp hid_le, by assumption, k _ _ (.refl _) res_bool⟩
  · cases e
theorem og_ne {K : Fg} : OpG (rNeP K) K cNe := by
  intro Pr H v w x y sv Q tr hv hw e k
  unfold cNe at e
  split at e
  · cases e
    exact ⟨x, y, hv.rp hid_le, hw.rp hid_le, by assumption, k _ _ (.refl _) res_bool⟩
  · cases e
/-! ### in -/
def rInP (K : Fg) : R2 := fun x y H Q => ∃ d ds, Rp K H x d ∧ (Rp K H y (.list ds) ∨ Rp K H y (.tuple ds)) ∧ inOk d ds = true ∧ Q (.bl (ds.any fun z => PyData.eqv z d)) H
def rNotInP (K : Fg) : R2 := fun x y H Q => ∃ d ds, Rp K H x d ∧ (Rp K H y (.list ds) ∨ Rp K H y (.tuple ds)) ∧ inOk d ds = true ∧ Q (.bl (!ds.any fun z => PyData.eqv z d)) H
theorem inOk_of {d : D} {ds : List D} (h : inOk d ds = true) : d.plain = true ∧ PyData.plainAll ds = true ∧ min (PyData.depthAll ds) d.depth ≤ 64 := by
  unfold inOk at h
  rw [Bool.and_eq_true, Bool.and_eq_true, decide_eq_true_eq] at h
  exact ⟨h.1.1, h.1.2, h.2⟩
theorem op_inP {X : Cx} (hu : X.A.units + 65 < cLine) : OpR X (compareOp .In) (rInP X.K) := by
  intro pins s σ H x y v u Q I rx ry h
  obtain ⟨d, ds, hd, he, ok, q⟩ := h
  obtain ⟨p1, p2, p3⟩ := inOk_of ok
  obtain ⟨as, r1⟩ := Rp.reads I d x v hd rx
  rcases he with he | he
  · obtain ⟨bs, r2⟩ := Rp.reads I _ y u he ry
    exact SeqAt.in_list_data r2 r1 p2 p1 (by omega) ⟨.bl _, H, I, rfl, q⟩
  · obtain ⟨bs, r2⟩ := Rp.reads I _ y u he ry
    exact SeqAt.in_tuple_data r2 r1 p2 p1 (by omega) ⟨.bl _, H, I, rfl, q⟩
theorem op_notInP {X : Cx} (hu : X.A.units + 65 < cLine) : OpR X (compareOp .NotIn) (rNotInP X.K) := by
  intro pins s σ H x y v u Q I rx ry h
  obtain ⟨d, ds, hd, he, ok, q⟩ := h
  obtain ⟨p1, p2, p3⟩ := inOk_of ok
  obtain ⟨as, r1⟩ := Rp.reads I d x v hd rx
  rcases he with he | he
  · obtain ⟨bs, r2⟩ := Rp.reads I _ y u he ry
    exact SeqAt.notIn_list_data r2 r1 p2 p1 (by omega) ⟨.bl _, H, I, rfl, q⟩
  · obtain ⟨bs, r2⟩ := Rp.reads I _ y u he ry
    exact SeqAt.notIn_tuple_data r2 r1 p2 p1 (by omega) ⟨.bl _, H, I, rfl, q⟩
theorem og_in {K : Fg} : OpG (rInP K) K cIn := by
  intro Pr H v w x y sv Q tr hv hw e k
  unfold cIn at e
  split at e
  · split at e
    · cases e
      exact ⟨x, _, hv.rp hid_le, .inl (hw.rp hid_le), by assumption, k _ _ (.refl _) res_bool⟩
    · cases e
  · split at e
    · cases e
      exact ⟨x, _, hv.rp hid_le, .inr (hw.rp hid_le), by assumption, k _ _ (.refl _) res_bool⟩
    · cases e
  · cases e
theorem og_notIn {K : Fg} : OpG (rNotInP K) K cNotIn := by
  intro Pr H v w x y sv Q tr hv hw e k
  unfold cNotIn at e
  split at e
  · split at e
    · cases e
      exact ⟨x, _, hv.rp hid_le, .inl (hw.rp hid_le), by assumption, k _ _ (.refl _) res_bool⟩
    · cases e
  · split at e
    · cases e
      exact ⟨x, _, hv.rp hid_le, .inr (hw.rp hid_le), by assumption, k _ _ (.refl _) res_bool⟩
    · cases e
  · cases e
/-! ### is None -/
theorem top_non {K : Fg} {Hh H : Hp} {v : V} {x : D} (h : Top K Hh H v x) : (decide (v = .non)) = isN x := by
  cases x with
  | none => cases h; rfl
  | bool b => cases h; rfl
  | int b => cases h; rfl
  | str b => cases h; rfl
  | list ds => obtain ⟨a, xs, rfl, _⟩ := h; rfl
  | tuple ds => obtain ⟨a, xs, rfl, _⟩ := h; rfl
  | dict ds => obtain ⟨a, xs, rfl, _⟩ := h; rfl
def rIsN : R2 := fun x y H Q => y = .non ∧ Q (.bl (decide (x = .non))) H
def rNotN : R2 := fun x y H Q => y = .non ∧ Q (.bl (!decide (x = .non))) H
section
variable {X : Cx} {P : Pk} {E : St → XK} {a : Expr} {ma : ME} {pos p2 : Pos} {j : Nat}
theorem s_isN (ha : PE X a (tM P E ma)) : PE X (.Compare a [.Is] [.Constant .none j p2] pos) (tM P E (m1 cIsN ma)) := by
  refine PE.imp (pe_cmp (pc_isN ha) rfl) fun σ H Q ⟨g, ρ, rp, h⟩ => ?_
  refine ⟨g, ρ, rp, bindG (R := RVP P) (R' := RVP P) h fun sv ρ1 v H1 r1 s1 f1 q1 h1 => ?_⟩
  obtain ⟨x, ex, h1⟩ := viewB_some' h1
  rw [top_non (q1.top r1 ex)]
  exact post_res r1 f1.free h1 (.refl _) res_bool
theorem s_notN (ha : PE X a (tM P E ma)) : PE X (.Compare a [.IsNot] [.Constant .none j p2] pos) (tM P E (m1 cNotN ma)) := by
  refine PE.imp (pe_cmp (pc_notN ha) rfl) fun σ H Q ⟨g, ρ, rp, h⟩ => ?_
  refine ⟨g, ρ, rp, bindG (R := RVP P) (R' := RVP P) h fun sv ρ1 v H1 r1 s1 f1 q1 h1 => ?_⟩
  obtain ⟨x, ex, h1⟩ := viewB_some' h1
  show Q (.bl (!decide (v = .non))) H1
  rw [top_non (q1.top r1 ex)]
  exact post_res r1 f1.free h1 (.refl _) res_bool
end
end MP
end

section
set_option Elab.async false
set_option linter.all false
set_option maxRecDepth 100000
set_option maxHeartbeats 4000000
set_option autoImplicit false
namespace MP
open PySem PySem.Spec L2

section
variable {X : Cx} {P : Pk} {E : St → XK} {a b c : Expr} {es : List Expr} {ma mb mc : ME} {ms : List ME} {ta tb : MT} {pos p2 p3 : Pos}
/-! ### displays -/
theorem TopAll.grow {K : Fg} {Hh Hh' H H' : Hp} {vs : List V} {xs : List D} (h : TopAll K Hh H vs xs) (e : Grow Hh Hh') (e' : Grow H H') : TopAll K Hh' H' vs xs := by
  induction h with
  | nil => exact .nil
  | cons q _ ih => exact .cons (q.grow e e') ih
theorem RVs.allD {K : Fg} {g : Gh} {H0 H : Hp} {σ : St} {ρ : En} {vs : List V} {ss : List SV} (r : RVs K g H0 H σ ρ vs ss) {xs : List D} (h : allD ss = some xs) : RpAll K (hid (Out' g σ ρ) H) vs xs := by
  induction r generalizing xs with
  | nil =>
    cases h
    exact .nil
  | @cons g H0 H σ ρ v vs s ss q r ih =>
    rw [allD_cons] at h
    cases e1 : toD s with
    | none => rw [e1] at h; cases h
    | some x =>
      cases e2 : MP.allD ss with
      | none => rw [e1, e2] at h; cases h
      | some ys =>
        rw [e1, e2] at h
        cases h
        exact .cons (q.keep e1) ((ih e2).grow (le_gadd g v s).hid)
theorem RVs.allV {K : Fg} {g : Gh} {H0 H : Hp} {σ : St} {ρ : En} {vs : List V} {ss : List SV} (r : RVs K g H0 H σ ρ vs ss) (rp : Rep K g H σ ρ) {xs : List D} (h : allV ρ ss = some xs) : TopAll K (hid (Out' g σ ρ) H) H vs xs := by
  induction r generalizing xs with
  | nil =>
    cases h
    exact .nil
  | @cons g H0 H σ ρ v vs s ss q r ih =>
    rw [allV_cons] at h
    cases e1 : view ρ s with
    | none => rw [e1] at h; cases h
    | some x =>
      cases e2 : MP.allV ρ ss with
      | none => rw [e1, e2] at h; cases h
      | some ys =>
        rw [e1, e2] at h
        cases h
        exact .cons (q.top rp e1) ((ih (q.gadd rp) e2).grow (le_gadd g v s).hid (.refl _))
theorem mArgs_len {g : Gh} {σ : St} {ρ : En} {H0 H : Hp} {K : Fg} {vs : List V} {ss : List SV} (r : RVs K g H0 H σ ρ vs ss) : vs.length = ss.length := by
  induction r with
  | nil => rfl
  | cons _ _ ih => exact congrArg (· + 1) ih
theorem allD_len : ∀ {ss : List SV} {xs : List D}, allD ss = some xs → ss.length = xs.length
  | [], xs, h => by cases h; rfl
  | s :: ss, xs, h => by
    rw [allD_cons] at h
    cases e1 : toD s with
    | none => rw [e1] at h; cases h
    | some x =>
      cases e2 : MP.allD ss with
      | none => rw [e1, e2] at h; cases h
      | some ys =>
        rw [e1, e2] at h
        cases h
        exact congrArg (· + 1) (allD_len e2)
theorem mArgs_ok : ∀ {ms : List ME} {ρ ρ' : En} {ss : List SV}, mArgs ms ρ = .ok ss ρ' → ss.length = ms.length
  | [], ρ, ρ', ss, h => by
    cases h
    rfl
  | m :: ms, ρ, ρ', ss, h => by
    rw [mArgs_cons] at h
    cases e1 : m ρ with
    | ok v ρ1 =>
      rw [e1, Out.bind_ok] at h
      cases e2 : mArgs ms ρ1 with
      | ok vs ρ2 =>
        rw [e2, Out.bind_ok] at h
        cases h
        exact congrArg (· + 1) (mArgs_ok e2)
      | raise c x ρ2 => rw [e2] at h; cases h
      | stuck => rw [e2] at h; cases h
    | raise c x ρ1 => rw [e1] at h; cases h
    | stuck => rw [e1] at h; cases h
/-- bindG with what o was -/
theorem bindG' {g : Gh} {σ : St} {ρ : En} {H : Hp} {α β α' β' : Type} {R : Gh → Hp → Hp → St → En → β → α → Prop} {R' : Gh → Hp → Hp → St → En → β' → α' → Prop}
    {Q : β' → Hp → Prop} {o : Out α} {f : α → En → Out α'} {Q' : β → Hp → Prop} {H0 : Hp} (h : PostG R' P E g σ ρ H0 H Q (o.bind f))
    (k : ∀ a ρ1 v H1, o = .ok a ρ1 → Rep P.K g H1 σ ρ1 → SameC ρ ρ1 → FrE H (Own σ ρ) H1 → R g H H1 σ ρ1 v a → PostG R' P E g σ ρ1 H0 H1 Q (f a ρ1) → Q' v H1) : PostG R P E g σ ρ H H Q' o := by
  cases o with
  | ok a ρ' => exact fun v H' r s fr rv => k a ρ' v H' rfl r s fr rv (PostG.step h s fr)
  | raise c x ρ' => exact h
  | stuck => exact h
theorem s_tup {x1} (h : PA X es (tAs P E ms)) (hl : ms.length ≤ 1000 := by first | decide | exact Nat.le_of_ble_eq_true rfl) : PE X (.Tuple es x1 pos) (tM P E (mTup ms)) := by
  refine PE.imp (pe_tup h) fun σ H Q ⟨g, ρ, rp, h⟩ => ?_
  refine ⟨g, ρ, rp, bindG' (R := RAP P) (R' := RVP P) h fun ss ρ1 vs H1 eo r1 s1 f1 q1 h1 => ?_⟩
  obtain ⟨z, ez, h1⟩ := opt_of h1
  cases e : allD ss with
  | none => rw [e] at ez; cases ez
  | some xs =>
    rw [e] at ez
    cases ez
    have hn : vs.length ≤ 1000 := by rw [mArgs_len q1, mArgs_ok eo]; exact hl
    exact ⟨Nat.le_trans hn (by decide), fun p hp => post_res r1 f1.free h1 (.new hp) (res_tup (fun _ z => r1.out_some z) hp (q1.allD e))⟩
theorem s_lst (h : PA X es (tAs P E ms)) (hl : ms.length ≤ 1000 := by first | decide | exact Nat.le_of_ble_eq_true rfl) : PE X (.List es pos) (tM P E (mLst ms)) := by
  refine PE.imp (pe_lst h) fun σ H Q ⟨g, ρ, rp, h⟩ => ?_
  refine ⟨g, ρ, rp, bindG' (R := RAP P) (R' := RVP P) h fun ss ρ1 vs H1 eo r1 s1 f1 q1 h1 => ?_⟩
  obtain ⟨z, ez, h1⟩ := opt_of h1
  cases e : allD ss with
  | none => rw [e] at ez; cases ez
  | some xs =>
    rw [e] at ez
    cases ez
    have hn : vs.length ≤ 1000 := by rw [mArgs_len q1, mArgs_ok eo]; exact hl
    exact ⟨Nat.le_trans hn (by decide), fun p hp => post_res r1 f1.free h1 (.new hp) (res_lst hp (q1.allD e))⟩

/-! ### built-in functions -/
theorem cb_of {r : List V → Hp → VK → Prop} {f : List D → Option SV} (hg : CallG r P.K f) : ∀ σ H Q, tM P E (mB f ms) σ H Q → tCB r (tAs P E ms) σ H Q := fun σ H Q ⟨g, ρ, rp, h⟩ => by
  refine ⟨g, ρ, rp, bindG (R := RAP P) (R' := RVP P) h fun ss ρ1 vs H1 r1 s1 f1 q1 h1 => ?_⟩
  obtain ⟨z, ez, h1⟩ := opt_of h1
  cases e : allV ρ1 ss with
  | none => rw [e] at ez; cases ez
  | some xs =>
    rw [e] at ez
    exact hg (Out' g σ ρ1) H1 vs xs z Q (fun a h => r1.out_some h) (q1.allV r1 e) ez fun v' H' gr rs => post_res r1 f1.free h1 gr rs
theorem s_b {id : String} {r : List V → Hp → VK → Prop} {f : List D → Option SV} {x : Str} (hc : CallR X (.builtin id) r) (hG : CallG r P.K f) (hm : X.mg x = none) (ha : PA X (a :: es) (tAs P E ms)) (hg : Gl X x := by rfl) (hv : bootBuiltins x = some (.builtin id) := by decide +kernel) (hn : x ≠ "__name__" := by decide) (hdb : (x == ("__debug__" : Str)) = false := by decide)
    (he : starEach (a :: es) X.env = (false, eval a X.env) :: starEach es X.env := by rfl) (hpl : (backTo pos (starEach es X.env)).any (·.1) = false := by rfl) : PE X (.Call (.Name x p2) (a :: es) [] pos) (tM P E (mB f ms)) :=
  PE.imp (pe_callB hc hg hm hv ha hn hdb he hpl) (cb_of hG)
theorem s_ty {T : String} {r : List V → Hp → VK → Prop} {f : List D → Option SV} {x : Str} (hc : CallR X (.type T) r) (hG : CallG r P.K f) (hm : X.mg x = none) (ha : PA X (a :: es) (tAs P E ms)) (hg : Gl X x := by rfl) (hv : bootBuiltins x = some (.type T) := by decide +kernel) (hn : x ≠ "__name__" := by decide) (hdb : (x == ("__debug__" : Str)) = false := by decide)
    (he : starEach (a :: es) X.env = (false, eval a X.env) :: starEach es X.env := by rfl) (hpl : (backTo pos (starEach es X.env)).any (·.1) = false := by rfl) : PE X (.Call (.Name x p2) (a :: es) [] pos) (tM P E (mB f ms)) :=
  PE.imp (pe_callTy hc hg hm hv ha hn hdb he hpl) (cb_of hG)
/-! isinstance -/
theorem top_ty {K : Fg} {Pr : Addr → Prop} {H : Hp} {v : V} {x : D} (h : Top K (hid Pr H) H v x) : TyX K H v (.type (tyD x)) := by
  have seqL : ∀ {a : Addr} {xs : List V}, SqL K H a xs → TyX K H (.ref a) (.type "list") := fun {a xs} h => by
    rcases h with (h | ⟨o, h⟩) | ⟨o, its, n, h, c, _⟩
    · exact .base (.lst h)
    · exact .base (.frz h)
    · exact .kList h c
  have seqT : ∀ {a : Addr} {xs : List V}, SqT K H a xs → TyX K H (.ref a) (.type "tuple") := fun {a xs} h => by
    rcases h with (h | ⟨o, h⟩) | ⟨o, its, n, h, c, _⟩
    · exact .base (.tup h)
    · exact .fTuple h
    · exact .kTuple h c
  cases x with
  | none => cases h; exact .base .non
  | bool b => cases h; exact .base (.bl b)
  | int i => cases h; exact .base (.int i)
  | str x => cases h; exact .base (.str x)
  | list ds => obtain ⟨a, xs, rfl, q, _⟩ := h; exact seqL q
  | tuple ds => obtain ⟨a, xs, rfl, q, _⟩ := h; exact seqT (hid_le.st q)
  | dict ds => obtain ⟨a, xs, rfl, q, _⟩ := h; exact .base (.dK q)
def tyOk (T : String) : Bool := (["NoneType", "bool", "int", "str", "list", "tuple", "dict"] : List String).all fun t => kitB t T == some (subTy t T)
theorem tyOk_of {T : String} (h : tyOk T = true) (x : D) : kitB (tyD x) T = some (subTy (tyD x) T) := by
  unfold tyOk at h
  rw [List.all_eq_true] at h
  exact eq_of_beq (h (tyD x) (by cases x <;> simp [tyD]))
theorem s_isi {T : String} {x y : Str} (hm : X.mg x = none) (hmT : X.mg y = none) (ha : PE X a (tM P E ma)) (hT : tyOk T = true) (hvT : bootBuiltins y = some (.type T)) (hK : X.K = P.K := by rfl) (hg : Gl X x := by rfl) (hgT : Gl X y := by rfl) (hv : bootBuiltins x = some (.builtin "isinstance") := by decide +kernel) (hn : x ≠ "__name__" := by decide) (hdb : (x == ("__debug__" : Str)) = false := by decide)
    (hnT : y ≠ "__name__" := by decide) (hdbT : (y == ("__debug__" : Str)) = false := by decide)
    (he : starEach [a, .Name y p3] X.env = (false, eval a X.env) :: starEach [.Name y p3] X.env := by rfl) (hpl : (backTo pos (starEach [.Name y p3] X.env)).any (·.1) = false := by rfl) : PE X (.Call (.Name x p2) [a, .Name y p3] [] pos) (tM P E (m1 (isinst T) ma)) := by
  obtain ⟨K, CA⟩ := P
  subst hK
  refine PE.imp (pe_callB call_isi hg hm hv (pa_cons ha (pa_cons (pe_bltn (v := .ty T) hgT hmT hvT rfl hnT hdbT) pa_nil) he) hn hdb he hpl) fun σ H Q ⟨g, ρ, rp, h⟩ => ?_
  refine ⟨g, ρ, rp, bindG (R := RVP _) (R' := RVP _) h fun sv ρ1 v H1 r1 s1 f1 q1 h1 => ?_⟩
  obtain ⟨x, ex, h1⟩ := viewB_some' h1
  obtain ⟨z, ez, h1⟩ := opt_of h1
  cases ez
  exact ⟨v, .ty T, _, _, _, rfl, .ty T, top_ty (q1.top r1 ex), kit_ty (tyOk_of hT x), post_res r1 f1.free h1 (.refl _) res_bool⟩
/-! len -/
def rLenD : List V → Hp → VK → Prop := fun xs H Q => ∃ d kvs, xs = [.ref d] ∧ H d = some (.dK kvs) ∧ Q (.int kvs.length) H
theorem og_len {K : Fg} : CallG (fun xs H Q => (∃ p ys, xs = [.ref p] ∧ (SqL K H p ys ∨ SqT K H p ys) ∧ Q (.int ys.length) H) ∨ (∃ z, xs = [.str z] ∧ z.length ≤ sizeLine ∧ Q (.int z.length) H)) K lenD := by
  intro Pr H vs xs sv Q tr hv e k
  unfold lenD at e
  split at e
  · cases e
    cases hv with
    | cons h1 h2 =>
      cases h2
      obtain ⟨a, xs, rfl, q, r⟩ := h1
      refine .inl ⟨a, xs, rfl, .inl q, ?_⟩
      rw [r.length]
      exact k _ _ (.refl _) res_int
  · cases e
    cases hv with
    | cons h1 h2 =>
      cases h2
      obtain ⟨a, xs, rfl, q, r⟩ := h1
      refine .inl ⟨a, xs, rfl, .inr (hid_le.st q), ?_⟩
      rw [r.length]
      exact k _ _ (.refl _) res_int
  · split at e
    · cases e
      cases hv with
      | cons h1 h2 =>
        cases h2
        cases h1
        exact .inr ⟨_, rfl, by rw [← line_eq]; assumption, k _ _ (.refl _) res_int⟩
    · cases e
  · cases e
/-! ### tests -/
theorem top_tru {K : Fg} {Pr : Addr → Prop} {H : Hp} {v : V} {x : D} {k : Bool} (h : Top K (hid Pr H) H v x) (e : truth x = some k) : TruV K v H k := by
  cases x with
  | none => cases h; cases e; rfl
  | bool b => cases h; cases e; rfl
  | int b => cases h; cases e; rfl
  | str b =>
    cases h
    have e' : (if b.length ≤ 16777216 then some ((b.length : Int) != 0) else none) = some k := e
    split at e'
    · cases e'
      exact ⟨by rw [← line_eq]; assumption, rfl⟩
    · cases e'
  | list ds =>
    obtain ⟨a, xs, rfl, q, r⟩ := h
    cases e
    refine .inl ⟨xs, q, ?_⟩
    have := r.length
    cases xs <;> cases ds <;> simp_all
  | tuple ds =>
    obtain ⟨a, xs, rfl, q, r⟩ := h
    cases e
    refine .inr (.inl ⟨xs, hid_le.st q, ?_⟩)
    have := r.length
    cases xs <;> cases ds <;> simp_all
  | dict ds =>
    obtain ⟨a, xs, rfl, q, r⟩ := h
    cases e
    refine .inr (.inr ⟨xs, q, ?_⟩)
    have := r.length
    cases xs <;> cases ds <;> simp_all
end
end MP
end

section
set_option Elab.async false
set_option linter.all false
set_option maxRecDepth 100000
set_option maxHeartbeats 4000000
set_option autoImplicit false
namespace MP
open PySem PySem.Spec L2

section
variable {X : Cx} {P : Pk} {E : St → XK} {a b c : Expr} {rest : List Expr} {ma mb mc : ME} {ta tb : MT} {pos : Pos}
/-- the truth of what a value was -/
theorem s_tr (ha : PE X a (tM P E ma)) (hK : X.K = P.K := by rfl) (he : ∀ whole, isTrue a X.env whole = (do let v ← whole; standAt a.pos; holding [v] (truthy v)) := by intro _; rfl) : PT X a (tT P E (mTr ma)) := by
  obtain ⟨K, CA⟩ := P
  subst hK
  refine PT.imp (pt_truth ha he) fun σ H Q ⟨g, ρ, rp, h⟩ => ?_
  refine ⟨g, ρ, rp, bindG (R := RVP _) (R' := RB) h fun sv ρ1 v H1 r1 s1 f1 q1 h1 => ?_⟩
  obtain ⟨x, ex, h1⟩ := viewB_some' h1
  obtain ⟨k, ek, h1⟩ := opt_of h1
  exact ⟨k, top_tru (q1.top r1 ex) ek, h1 k H1 r1 (.refl _) (.refl _ _) rfl⟩
/-- operations that give truth values alone -/
def BoolF (f : D → D → Option SV) : Prop := ∀ x y sv, f x y = some sv → ∃ b, sv = .d (.bool b)
theorem bf_lt : BoolF cLt := fun x y sv e => by unfold cLt at e; split at e <;> cases e; exact ⟨_, rfl⟩
theorem bf_le : BoolF cLe := fun x y sv e => by unfold cLe at e; split at e <;> cases e; exact ⟨_, rfl⟩
theorem bf_gt : BoolF cGt := fun x y sv e => by unfold cGt at e; split at e <;> cases e; exact ⟨_, rfl⟩
theorem bf_ge : BoolF cGe := fun x y sv e => by unfold cGe at e; split at e <;> cases e; exact ⟨_, rfl⟩
theorem bf_eq : BoolF cEq := fun x y sv e => by unfold cEq at e; split at e <;> cases e; exact ⟨_, rfl⟩
theorem bf_ne : BoolF cNe := fun x y sv e => by unfold cNe at e; split at e <;> cases e; exact ⟨_, rfl⟩
theorem bf_in : BoolF cIn := fun x y sv e => by
  unfold cIn at e
  split at e
  · split at e <;> cases e
    exact ⟨_, rfl⟩
  · split at e <;> cases e
    exact ⟨_, rfl⟩
  · cases e
theorem bf_notIn : BoolF cNotIn := fun x y sv e => by
  unfold cNotIn at e
  split at e
  · split at e <;> cases e
    exact ⟨_, rfl⟩
  · split at e <;> cases e
    exact ⟨_, rfl⟩
  · cases e
/-- a value that is a truth value, as a test -/
theorem val_test {m : ME} {t : TE} (hm : ∀ ρ sv ρ', m ρ = .ok sv ρ' → ∃ b, sv = .d (.bool b)) (ht : ∀ σ H Q, tM P E m σ H Q → t σ H Q) : ∀ σ H Q, tT P E (mTr m) σ H Q → tTest t σ H Q := fun σ H Q ⟨g, ρ, rp, h⟩ => by
  refine ht σ H _ ⟨g, ρ, rp, bindG' (R := RVP _) (R' := RB) h fun sv ρ1 v H1 eo r1 s1 f1 q1 h1 => ?_⟩
  obtain ⟨k, rfl⟩ := hm _ _ _ eo
  have e : v = .bl k := q1.is_bl
  exact ⟨k, e, h1 k H1 r1 (.refl _) (.refl _ _) rfl⟩
theorem m2_bool {f : D → D → Option SV} (hf : BoolF f) : ∀ ρ sv ρ', m2 f ma mb ρ = .ok sv ρ' → ∃ b, sv = .d (.bool b) := fun ρ sv ρ' h => by
  unfold m2 at h
  cases e1 : ma ρ with
  | ok v ρ1 =>
    rw [e1, Out.bind_ok] at h
    cases e2 : mb ρ1 with
    | ok w ρ2 =>
      rw [e2, Out.bind_ok] at h
      unfold viewB at h
      split at h
      · split at h
        · rename_i x _ _ y _
          have h' : opt (f x y) ρ2 = .ok sv ρ' := h
          cases e3 : f x y with
          | none => rw [e3] at h'; cases h'
          | some z =>
            rw [e3] at h'
            cases h'
            exact hf _ _ _ e3
        · cases h
      · cases h
    | raise c x ρ2 => rw [e2] at h; cases h
    | stuck => rw [e2] at h; cases h
  | raise c x ρ1 => rw [e1] at h; cases h
  | stuck => rw [e1] at h; cases h
theorem s_cmpt {op : CmpOp} {r : R2} {f : D → D → Option SV} (ho : OpR X (compareOp op) r) (hg : OpG r P.K f) (hf : BoolF f) (ha : PE X a (tM P E ma)) (hb : PE X b (tM P E mb)) (hm : behindInMarks op b = false) : PT X (.Compare a [op] [b] pos) (tT P E (mTr (m2 f ma mb))) :=
  PT.imp (pt_cmpR ho ha hb hm) (val_test (m2_bool hf) (bin_of hg))
theorem s_isNt {p2 : Pos} {j : Nat} (ha : PE X a (tM P E ma)) : PT X (.Compare a [.Is] [.Constant .none j p2] pos) (tT P E (mTr (m1 cIsN ma))) := by
  refine PT.imp (pt_cmp (pc_isN ha) rfl) fun σ H Q ⟨g, ρ, rp, h⟩ => ?_
  have h' : PostT P E g σ ρ H H Q ((ma ρ).bind fun v ρ1 => (viewB ρ1 v fun x => opt (cIsN x) ρ1).bind fun v ρ1 => viewB ρ1 v fun x => opt (truth x) ρ1) := by
    unfold mTr m1 at h
    cases e : ma ρ with
    | ok v ρ1 => rw [e] at h; exact h
    | raise c x ρ1 => rw [e] at h; exact h
    | stuck => rw [e] at h; exact h
  refine ⟨g, ρ, rp, bindG (R := RVP P) (R' := RB) h' fun sv ρ1 v H1 r1 s1 f1 q1 h1 => ?_⟩
  unfold viewB at h1
  split at h1
  · rename_i x ex
    refine ⟨isN x, ?_, h1 (isN x) H1 r1 (.refl _) (.refl _ _) rfl⟩
    rw [top_non (q1.top r1 ex)]
  · exact h1.elim
theorem s_notNt {p2 : Pos} {j : Nat} (ha : PE X a (tM P E ma)) : PT X (.Compare a [.IsNot] [.Constant .none j p2] pos) (tT P E (mTr (m1 cNotN ma))) := by
  refine PT.imp (pt_cmp (pc_notN ha) rfl) fun σ H Q ⟨g, ρ, rp, h⟩ => ?_
  have h' : PostT P E g σ ρ H H Q ((ma ρ).bind fun v ρ1 => (viewB ρ1 v fun x => opt (cNotN x) ρ1).bind fun v ρ1 => viewB ρ1 v fun x => opt (truth x) ρ1) := by
    unfold mTr m1 at h
    cases e : ma ρ with
    | ok v ρ1 => rw [e] at h; exact h
    | raise c x ρ1 => rw [e] at h; exact h
    | stuck => rw [e] at h; exact h
  refine ⟨g, ρ, rp, bindG (R := RVP P) (R' := RB) h' fun sv ρ1 v H1 r1 s1 f1 q1 h1 => ?_⟩
  unfold viewB at h1
  split at h1
  · rename_i x ex
    refine ⟨!isN x, ?_, h1 (!isN x) H1 r1 (.refl _) (.refl _ _) rfl⟩
    rw [top_non (q1.top r1 ex)]
  · exact h1.elim
/-! ### and, or, not -/
theorem PW.imp {e : Expr} {t t' : TT} (h : PW X e t) (k : ∀ σ H Q, t' σ H Q → t σ H Q) : PW X e t' := ⟨fun wh pins s σ H Q I q => h.run wh pins s σ H Q I (k σ H Q q)⟩
theorem t_and1 (ha : PT X a (tT P E ta)) : PW X (.BoolOp .And [a] pos) (tT P E ta) := pw_and1 ha
theorem t_or1 (ha : PT X a (tT P E ta)) : PW X (.BoolOp .Or [a] pos) (tT P E ta) := pw_or1 ha
theorem t_and (ha : PT X a (tT P E ta)) (hb : PW X (.BoolOp .And (b :: rest) pos) (tT P E tb)) : PW X (.BoolOp .And (a :: b :: rest) pos) (tT P E (kAnd ta tb)) := by
  refine PW.imp (pw_and ha hb) fun σ H Q ⟨g, ρ, rp, h⟩ => ?_
  refine ⟨g, ρ, rp, bindG (R := RB) (R' := RB) h fun k0 ρ1 d H1 r1 s1 f1 q1 h1 => ?_⟩
  subst q1
  cases d with
  | true => exact ⟨g, ρ1, r1, PostG.based old_B h1 f1.free⟩
  | false => exact h1 false H1 r1 (.refl _) (.refl _ _) rfl
theorem t_or (ha : PT X a (tT P E ta)) (hb : PW X (.BoolOp .Or (b :: rest) pos) (tT P E tb)) : PW X (.BoolOp .Or (a :: b :: rest) pos) (tT P E (kOr ta tb)) := by
  refine PW.imp (pw_or ha hb) fun σ H Q ⟨g, ρ, rp, h⟩ => ?_
  refine ⟨g, ρ, rp, bindG (R := RB) (R' := RB) h fun k0 ρ1 d H1 r1 s1 f1 q1 h1 => ?_⟩
  subst q1
  cases d with
  | false => exact ⟨g, ρ1, r1, PostG.based old_B h1 f1.free⟩
  | true => exact h1 true H1 r1 (.refl _) (.refl _ _) rfl
theorem t_not (ha : PT X a (tT P E ta)) : PT X (.UnaryOp .Not a pos) (tT P E (kNot ta)) := by
  refine PT.imp (pt_not ha) fun σ H Q ⟨g, ρ, rp, h⟩ => ?_
  refine ⟨g, ρ, rp, bindG (R := RB) (R' := RB) h fun k0 ρ1 d H1 r1 s1 f1 q1 h1 => ?_⟩
  subst q1
  exact h1 _ H1 r1 (.refl _) (.refl _ _) rfl
theorem s_one {op} (h : PE X a (tM P E ma)) : PE X (.BoolOp op [a] pos) (tM P E ma) := pe_one h
theorem s_and (ha : PE X a (tM P E ma)) (hb : PE X (.BoolOp .And (b :: rest) pos) (tM P E mb)) (hK : X.K = P.K := by rfl) : PE X (.BoolOp .And (a :: b :: rest) pos) (tM P E (mAnd ma mb)) := by
  obtain ⟨K, CA⟩ := P
  subst hK
  refine PE.imp (pe_andT ha hb) fun σ H Q ⟨g, ρ, rp, h⟩ => ?_
  refine ⟨g, ρ, rp, bindG (R := RVP _) (R' := RVP _) h fun sv ρ1 v H1 r1 s1 f1 q1 h1 => ?_⟩
  obtain ⟨x, ex, h1⟩ := toB_some h1
  have rv := q1.keep ex
  cases e : truth x with
  | none => rw [e] at h1; exact h1.elim
  | some k =>
    rw [e] at h1
    refine ⟨k, top_tru (rv.top hid_le) e, ?_⟩
    cases k with
    | true => exact ⟨g, ρ1, r1, PostG.based old_V h1 f1.free⟩
    | false => exact h1 v H1 r1 (.refl _) (.refl _ _) (.d rv)
theorem s_or (ha : PE X a (tM P E ma)) (hb : PE X (.BoolOp .Or (b :: rest) pos) (tM P E mb)) (hK : X.K = P.K := by rfl) : PE X (.BoolOp .Or (a :: b :: rest) pos) (tM P E (mOr ma mb)) := by
  obtain ⟨K, CA⟩ := P
  subst hK
  refine PE.imp (pe_orT ha hb) fun σ H Q ⟨g, ρ, rp, h⟩ => ?_
  refine ⟨g, ρ, rp, bindG (R := RVP _) (R' := RVP _) h fun sv ρ1 v H1 r1 s1 f1 q1 h1 => ?_⟩
  obtain ⟨x, ex, h1⟩ := toB_some h1
  have rv := q1.keep ex
  cases e : truth x with
  | none => rw [e] at h1; exact h1.elim
  | some k =>
    rw [e] at h1
    refine ⟨k, top_tru (rv.top hid_le) e, ?_⟩
    cases k with
    | false => exact ⟨g, ρ1, r1, PostG.based old_V h1 f1.free⟩
    | true => exact h1 v H1 r1 (.refl _) (.refl _ _) (.d rv)
theorem bind_assoc {α β γ : Type} {o : Out α} {f : α → En → Out β} {k : β → En → Out γ} : (o.bind f).bind k = o.bind fun a ρ => (f a ρ).bind k := by cases o <;> rfl
theorem viewB_bind {β γ : Type} {ρ : En} {v : SV} {f : D → Out β} {k : β → En → Out γ} : (viewB ρ v f).bind k = viewB ρ v fun x => (f x).bind k := by
  unfold viewB
  split <;> rfl
theorem s_not (ha : PE X a (tM P E ma)) (hK : X.K = P.K := by rfl) : PE X (.UnaryOp .Not a pos) (tM P E (mNot ma)) := by
  obtain ⟨K, CA⟩ := P
  subst hK
  refine PE.imp (pe_notT ha) fun σ H Q ⟨g, ρ, rp, h⟩ => ?_
  have h' : PostE ⟨X.K, CA⟩ E g σ ρ H H Q ((ma ρ).bind fun v ρ1 => viewB ρ1 v fun x => (opt (truth x) ρ1).bind fun c ρ2 => .ok (.d (.bool (!c))) ρ2) := by
    have e : mNot ma ρ = (ma ρ).bind fun v ρ1 => viewB ρ1 v fun x => (opt (truth x) ρ1).bind fun c ρ2 => .ok (.d (.bool (!c))) ρ2 := by
      unfold mNot mTr
      rw [bind_assoc]
      congr 1
      funext v ρ1
      rw [viewB_bind]
    rw [← e]
    exact h
  refine ⟨g, ρ, rp, bindG (R := RVP _) (R' := RVP _) h' fun sv ρ1 v H1 r1 s1 f1 q1 h1 => ?_⟩
  obtain ⟨x, ex, h1⟩ := viewB_some' h1
  cases e : truth x with
  | none => rw [e] at h1; exact h1.elim
  | some k =>
    rw [e] at h1
    exact ⟨k, top_tru (q1.top r1 ex) e, h1 _ H1 r1 (.refl _) (.refl _ _) (.d (.bl _))⟩
theorem s_ife (hc : PT X c (tT P E ta)) (ha : PE X a (tM P E ma)) (hb : PE X b (tM P E mb)) : PE X (.IfExp c a b pos) (tM P E (mIf ta ma mb)) := by
  refine PE.imp (pe_ifExp hc ha hb) fun σ H Q ⟨g, ρ, rp, h⟩ => ?_
  refine ⟨g, ρ, rp, bindG (R := RB) (R' := RVP P) h fun k0 ρ1 d H1 r1 s1 f1 q1 h1 => ?_⟩
  subst q1
  cases d with
  | true => exact ⟨g, ρ1, r1, PostG.based old_V h1 f1.free⟩
  | false => exact ⟨g, ρ1, r1, PostG.based old_V h1 f1.free⟩
/-! ### a < b < c -/
theorem ch_of {r r' : R2} {f f' : D → D → Option SV} (hg : OpG r P.K f) (hg' : OpG r' P.K f') : ∀ σ H Q, tM P E (mCh f f' ma mb mc) σ H Q → tChain r r' (tM P E ma) (tM P E mb) (tM P E mc) σ H Q := fun σ H Q ⟨g, ρ, rp, h⟩ => by
  refine ⟨g, ρ, rp, bindG (R := RVP P) (R' := RVP P) h fun su ρ1 u H1 r1 s1 f1 q1 h1 => ?_⟩
  refine ⟨g, ρ1, r1, bindG (R := RVP P) (R' := RVP P) h1 fun sv ρ2 v H2 r2 s2 f2 q2 h2 => ?_⟩
  obtain ⟨x, ex, h2⟩ := toB_some h2
  obtain ⟨y, ey, h2⟩ := toB_some h2
  have ru := (q1.later s2 f2).keep ex
  have rv := q2.keep ey
  cases e1 : f x y with
  | none => rw [e1] at h2; exact h2.elim
  | some z =>
    rw [e1] at h2
    cases e2 : boolOf z with
    | none =>
      have h2' : PostE P E g σ ρ2 H H2 Q ((opt (boolOf z) ρ2).bind _) := h2
      rw [e2] at h2'
      exact h2'.elim
    | some k =>
      have h2' : PostE P E g σ ρ2 H H2 Q ((opt (boolOf z) ρ2).bind _) := h2
      rw [e2, opt_some, Out.bind_ok] at h2'
      have ez : z = .d (.bool k) := by
        unfold boolOf at e2
        split at e2
        · cases e2; rfl
        · cases e2
      subst ez
      refine hg (Out' g σ ρ2) H2 u v x y _ _ (fun a h => r2.out_some h) (ru.top hid_le) (rv.top hid_le) e1 fun v' H3 gr rs => ?_
      have ev : v' = .bl k := by cases rs; rfl
      refine ⟨k, ev, ?_⟩
      have r3 := r2.grow gr
      have fr : FrE H2 (Own σ ρ2) H3 := .of_grow gr
      have h3 := PostG.step h2' (SameC.refl ρ2) fr
      cases k with
      | false => exact h3 _ H3 r3 (.refl _) (.refl _ _) (.d (.bl _))
      | true =>
        refine ⟨g, ρ2, r3, bindG (R := RVP P) (R' := RVP P) h3 fun sw ρ4 w H4 r4 s4 f4 q4 h4 => ?_⟩
        obtain ⟨z', ez', h4⟩ := toB_some h4
        obtain ⟨s', es', h4⟩ := opt_of h4
        cases e5 : f' y z' with
        | none => rw [e5] at es'; cases es'
        | some z2 =>
          rw [e5] at es'
          cases e6 : boolOf z2 with
          | none =>
            have es2 : ((boolOf z2).map fun q => SV.d (.bool q)) = some s' := es'
            rw [e6] at es2
            cases es2
          | some k2 =>
            have es2 : ((boolOf z2).map fun q => SV.d (.bool q)) = some s' := es'
            rw [e6] at es2
            cases es2
            have ez2 : z2 = .d (.bool k2) := by
              unfold boolOf at e6
              split at e6
              · cases e6; rfl
              · cases e6
            subst ez2
            have rv4 : Rp P.K (hid (Out' g σ ρ4) H4) v y := (rv.grow (hid_later (SameC.refl ρ2) fr)).grow (hid_later s4 f4)
            exact hg' (Out' g σ ρ4) H4 v w y z' _ Q (fun a h => r4.out_some h) (rv4.top hid_le) ((q4.keep ez').top hid_le) e5 fun v' H5 gr rs => post_res r4 (((f1.free.trans f2.free).trans fr.free).trans f4.free) h4 gr rs
theorem s_ch {op op' : CmpOp} {r r' : R2} {f f' : D → D → Option SV} (ho : OpR X (compareOp op) r) (hg : OpG r P.K f) (ho' : OpR X (compareOp op') r') (hg' : OpG r' P.K f') (ha : PE X a (tM P E ma)) (hb : PE X b (tM P E mb)) (hc : PE X c (tM P E mc))
    (hm : lastMarks [op, op'] [b, c] = false := by with_unfolding_all rfl) : PE X (.Compare a [op, op'] [b, c] pos) (tM P E (mCh f f' ma mb mc)) := PE.imp (pe_chain ho ho' ha hb hc hm) (ch_of hg hg')
end
end MP
end

section
set_option Elab.async false
set_option linter.all false
set_option maxRecDepth 100000
set_option maxHeartbeats 4000000
set_option autoImplicit false
namespace MP
open PySem PySem.Spec L2

/-! ### a slot is set -/
section
variable {K : Fg} {g : Gh} {H0 H H1 H' : Hp} {σ σ' : St} {ρ ρ' : En} {v : V} {sv : SV} {x : D} {i j : Nat}
theorem free_lt (h : free ρ i = true) : i < ρ.length := by
  unfold free at h
  cases e : ρ[i]? with
  | none => rw [e] at h; cases h
  | some o => exact (List.getElem?_eq_some_iff.mp e).1
theorem free_noref (h : free ρ i = true) (c : Cell) : ρ[i]? ≠ some (some (SV.ref c)) := fun e => by
  unfold free at h
  rw [e] at h
  cases h
theorem cellAt_set_ne {o : Option SV} (h : i ≠ j) : cellAt (ρ.set i o) j = cellAt ρ j := by
  unfold cellAt
  rw [List.getElem?_set_ne h]
theorem cellAt_set_d (h : i < ρ.length) : cellAt (ρ.set i (some (.d x))) i = none := by
  unfold cellAt
  rw [List.getElem?_set_self h]
theorem cellAt_set_own {c : Cell} (h : i < ρ.length) : cellAt (ρ.set i (some (.own c))) i = some c := by
  unfold cellAt
  rw [List.getElem?_set_self h]
theorem cellAt_set_none (h : i < ρ.length) : cellAt (ρ.set i none) i = none := by
  unfold cellAt
  rw [List.getElem?_set_self h]
theorem own_set_d (hi : i < ρ.length) {o : Option V} {a : Addr} (h : Own (σ.set i o) (ρ.set i (some (.d x))) a) : Own σ ρ a := by
  obtain ⟨k, c, h1, h2⟩ := h
  by_cases e : i = k
  · subst e
    rw [cellAt_set_d hi] at h1
    cases h1
  · rw [cellAt_set_ne e] at h1
    rw [List.getElem?_set_ne e] at h2
    exact ⟨k, c, h1, h2⟩
theorem Rep.set_d (r : Rep K g H σ ρ) (fr : free ρ i = true) (q : Rp K (hid (Out' g σ ρ) H) v x) : Rep K g H (σ.set i (some v)) (ρ.set i (some (.d x))) := by
  have hi := free_lt fr
  have gr : Grow (hid (Out' g σ ρ) H) (hid (Out' g (σ.set i (some v)) (ρ.set i (some (.d x)))) H) := hid_grow fun a o n e => ⟨fun z => n (z.imp id (own_set_d hi)), e⟩
  refine ⟨by rw [List.length_set, List.length_set]; exact r.len, fun j y e => ?_, fun j c e => ?_, fun j k c c' a e1 e2 e3 e4 => ?_, r.pm, fun j c e => ?_, fun j a e => ?_, fun j c y e => ?_, fun j n e => ?_⟩
  · by_cases h : i = j
    · subst h
      rw [List.getElem?_set_self hi] at e
      cases e
      exact ⟨v, List.getElem?_set_self (by rw [r.len]; exact hi), q.grow gr⟩
    · rw [List.getElem?_set_ne h] at e
      rw [List.getElem?_set_ne h]
      obtain ⟨w, h1, h2⟩ := r.d j y e
      exact ⟨w, h1, h2.grow gr⟩
  · by_cases h : i = j
    · subst h
      rw [cellAt_set_d hi] at e
      cases e
    · rw [cellAt_set_ne h] at e
      rw [List.getElem?_set_ne h]
      obtain ⟨a, h1, h2, h3⟩ := r.cell j c e
      exact ⟨a, h1, h2, h3.mono gr rfl⟩
  · by_cases h : i = j
    · subst h
      rw [cellAt_set_d hi] at e1
      cases e1
    · by_cases h' : i = k
      · subst h'
        rw [cellAt_set_d hi] at e2
        cases e2
      · rw [cellAt_set_ne h] at e1
        rw [cellAt_set_ne h'] at e2
        rw [List.getElem?_set_ne h] at e3
        rw [List.getElem?_set_ne h'] at e4
        exact r.inj j k c c' a e1 e2 e3 e4
  · by_cases h : i = j
    · subst h
      rw [List.getElem?_set_self hi] at e
      cases e
    · rw [List.getElem?_set_ne h] at e
      rw [List.getElem?_set_ne h]
      exact r.rf j c e
  · obtain ⟨c, q⟩ := r.rfs j a e
    by_cases h : i = j
    · subst h
      exact (free_noref fr c q).elim
    · exact ⟨c, by rw [List.getElem?_set_ne h]; exact q⟩
  · by_cases h : i = j
    · subst h
      rw [List.getElem?_set_self hi] at e
      cases e
    · rw [List.getElem?_set_ne h] at e
      exact r.noexc j c y e
  · by_cases h : i = j
    · subst h
      rw [List.getElem?_set_self hi] at e
      cases e
    · rw [List.getElem?_set_ne h] at e
      exact r.nofn j n e
theorem own_set_own (hi : i < ρ.length) {p : Addr} {c : Cell} (hs : i < σ.length) {a : Addr} (h : Own (σ.set i (some (.ref p))) (ρ.set i (some (.own c))) a) : Own σ ρ a ∨ a = p := by
  obtain ⟨k, c, h1, h2⟩ := h
  by_cases e : i = k
  · subst e
    rw [List.getElem?_set_self hs] at h2
    cases h2
    exact .inr rfl
  · rw [cellAt_set_ne e] at h1
    rw [List.getElem?_set_ne e] at h2
    exact .inl ⟨k, c, h1, h2⟩
theorem Rep.set_own {p : Addr} {c : Cell} (r : Rep K g H σ ρ) (r' : Rep K (g.add p) H σ ρ) (fr : free ρ i = true) (no : ¬ Out' g σ ρ p) (q : CellR K (hid (fun a => Out' g σ ρ a ∨ a = p) H) H p c) : Rep K g H (σ.set i (some (.ref p))) (ρ.set i (some (.own c))) := by
  have hi := free_lt fr
  have hs : i < σ.length := by rw [r.len]; exact hi
  have sub : ∀ a, Out' g (σ.set i (some (.ref p))) (ρ.set i (some (.own c))) a → Out' g σ ρ a ∨ a = p := fun a z => z.elim (fun z => .inl (.inl z)) fun z => (own_set_own hi hs z).imp .inr id
  have gr : Grow (hid (Out' (g.add p) σ ρ) H) (hid (Out' g (σ.set i (some (.ref p))) (ρ.set i (some (.own c)))) H) := hid_grow fun a o n e => ⟨fun z => n ((sub a z).elim (fun z => z.elim (fun z => .inl (.inl z)) .inr) fun z => .inl (.inr z)), e⟩
  have gr2 : Grow (hid (fun a => Out' g σ ρ a ∨ a = p) H) (hid (Out' g (σ.set i (some (.ref p))) (ρ.set i (some (.own c)))) H) := hid_grow fun a o n e => ⟨fun z => n (sub a z), e⟩
  refine ⟨by rw [List.length_set, List.length_set]; exact r.len, fun j y e => ?_, fun j c' e => ?_, fun j k c1 c2 a e1 e2 e3 e4 => ?_, r.pm, fun j c' e => ?_, fun j a e => ?_, fun j c y e => ?_, fun j n e => ?_⟩
  · by_cases h : i = j
    · subst h
      rw [List.getElem?_set_self hi] at e
      cases e
    · rw [List.getElem?_set_ne h] at e
      rw [List.getElem?_set_ne h]
      obtain ⟨w, h1, h2⟩ := r'.d j y e
      exact ⟨w, h1, h2.grow gr⟩
  · by_cases h : i = j
    · subst h
      rw [cellAt_set_own hi] at e
      cases e
      exact ⟨p, List.getElem?_set_self hs, fun z => no (.inl z), q.mono gr2 rfl⟩
    · rw [cellAt_set_ne h] at e
      rw [List.getElem?_set_ne h]
      obtain ⟨a, h1, h2, h3⟩ := r'.cell j c' e
      exact ⟨a, h1, fun z => h2 (.inl z), h3.mono gr rfl⟩
  · have other : ∀ {j : Nat} {c : Cell}, i ≠ j → cellAt (ρ.set i (some (.own c2))) j = some c → True := fun _ _ => trivial
    by_cases h : i = j
    · by_cases h' : i = k
      · exact h.symm.trans h'
      · subst h
        rw [cellAt_set_ne h'] at e2
        rw [List.getElem?_set_self hs] at e3
        rw [List.getElem?_set_ne h'] at e4
        cases e3
        exact (no (.inr ⟨k, c2, e2, e4⟩)).elim
    · by_cases h' : i = k
      · subst h'
        rw [cellAt_set_ne h] at e1
        rw [List.getElem?_set_self hs] at e4
        rw [List.getElem?_set_ne h] at e3
        cases e4
        exact (no (.inr ⟨j, c1, e1, e3⟩)).elim
      · rw [cellAt_set_ne h] at e1
        rw [cellAt_set_ne h'] at e2
        rw [List.getElem?_set_ne h] at e3
        rw [List.getElem?_set_ne h'] at e4
        exact r.inj j k c1 c2 a e1 e2 e3 e4
  · by_cases h : i = j
    · subst h
      rw [List.getElem?_set_self hi] at e
      cases e
    · rw [List.getElem?_set_ne h] at e
      rw [List.getElem?_set_ne h]
      exact r.rf j c' e
  · obtain ⟨c, q⟩ := r.rfs j a e
    by_cases h : i = j
    · subst h
      exact (free_noref fr c q).elim
    · exact ⟨c, by rw [List.getElem?_set_ne h]; exact q⟩
  · by_cases h : i = j
    · subst h
      rw [List.getElem?_set_self hi] at e
      cases e
    · rw [List.getElem?_set_ne h] at e
      exact r.noexc j c y e
  · by_cases h : i = j
    · subst h
      rw [List.getElem?_set_self hi] at e
      cases e
    · rw [List.getElem?_set_ne h] at e
      exact r.nofn j n e
theorem Rep.set {k : Bool} {w : SV} (r : Rep K g H σ ρ) (fr : free ρ i = true) (q : RV K g H0 H σ ρ v sv) (hk : kept k sv = some w) :
    Rep K g H (σ.set i (some v)) (ρ.set i (some w)) ∧ ∀ a, Own (σ.set i (some v)) (ρ.set i (some w)) a → Own σ ρ a ∨ H0 a = none := by
  have hi := free_lt fr
  have hs : i < σ.length := by rw [r.len]; exact hi
  cases sv with
  | d x =>
    cases hk
    exact ⟨r.set_d fr q.b, fun a h => .inl (own_set_d hi h)⟩
  | own c =>
    have hb := q.b
    have hx := q.x
    cases k with
    | true =>
      cases hk
      obtain ⟨p, rfl, n, no, cr⟩ := hb
      exact ⟨r.set_own (hx p rfl) fr no cr, fun a h => (own_set_own hi hs h).imp id fun e => by rw [e]; exact n⟩
    | false =>
      cases hk
      exact ⟨r.set_d fr (q.keep rfl), fun a h => .inl (own_set_d hi h)⟩
  | pk i => cases hk
  | ref _ => cases hk
  | exc _ _ => exact q.b.elim
  | fn _ => exact q.b.elim
end

/-! ### statements -/
structure FrS (H : Hp) (M : Addr → Prop) (H' : Hp) (M' : Addr → Prop) : Prop where
  keep : ∀ a o, H a = some o → ¬ M a → H' a = some o
  stay : ∀ a o, H a = some o → ∃ o', H' a = some o'
  new : ∀ a, M' a → M a ∨ H a = none
theorem FrS.refl (H : Hp) (M : Addr → Prop) : FrS H M H M := ⟨fun _ _ h _ => h, fun _ o h => ⟨o, h⟩, fun _ h => .inl h⟩
theorem FrS.free {M M' : Addr → Prop} {H H1 : Hp} (f : FrS H M H1 M') : Free H H1 := fun a e => by
  cases q : H a with
  | none => rfl
  | some o =>
    obtain ⟨o', q'⟩ := f.stay a o q
    rw [e] at q'
    cases q'
theorem FrS.trans {H H1 H2 : Hp} {M M1 M2 : Addr → Prop} (a : FrS H M H1 M1) (b : FrS H1 M1 H2 M2) : FrS H M H2 M2 := by
  refine ⟨fun x o e n => b.keep x o (a.keep x o e n) fun z => ?_, fun x o e => let ⟨_, q⟩ := a.stay x o e; b.stay x _ q, fun x h => ?_⟩
  · rcases a.new x z with h | h
    · exact n h
    · rw [e] at h
      cases h
  · rcases b.new x h with h | h
    · exact a.new x h
    · exact .inr (a.free x h)
theorem FrS.of {H H1 : Hp} {M : Addr → Prop} (f : FrE H M H1) : FrS H M H1 M := ⟨f.keep, f.stay, fun _ h => .inl h⟩
theorem FrE.then {H H1 H2 : Hp} {M M1 M2 : Addr → Prop} (f : FrE H M H1) (e : ∀ a, M1 a → M a) (b : FrS H1 M1 H2 M2) : FrS H M H2 M2 := by
  have f' : FrS H M H1 M1 := ⟨f.keep, f.stay, fun a h => .inl (e a h)⟩
  exact f'.trans b

section
variable {P : Pk} {E : St → XK} {g : Gh} {σ σ1 : St} {ρ ρ1 : En} {H0 H H1 : Hp} {D D' : Ends}
def PostS (P : Pk) (E : St → XK) (g : Gh) (σ : St) (ρ : En) (H0 H : Hp) (D : Ends) : SOut → Prop
  | .next ρ' => ∀ σ' H', Rep P.K g H' σ' ρ' → FrS H (Own σ ρ) H' (Own σ' ρ') → D.nx σ' H'
  | .ret s ρ' => ∀ v σ' H', Rep P.K g H' σ' ρ' → FrS H (Own σ ρ) H' (Own σ' ρ') → RV P.K g H0 H' σ' ρ' v s → D.rt v H'
  | .brk ρ' => ∀ σ' H', Rep P.K g H' σ' ρ' → FrS H (Own σ ρ) H' (Own σ' ρ') → D.bk σ' H'
  | .cont ρ' => ∀ σ' H', Rep P.K g H' σ' ρ' → FrS H (Own σ ρ) H' (Own σ' ρ') → D.ct σ' H'
  | .raise c x ρ' => ∀ d v σ' H', Rep P.K g H' σ' ρ' → FrS H (Own σ ρ) H' (Own σ' ρ') → H' d = some (.xd [("value", v)]) → Rp P.K (hid (Out' g σ' ρ') H') v x → E σ' (.ref (P.CA c)) (some d) H'
  | .stuck => False
def tS (P : Pk) (E : St → XK) (s : MS) : TS := fun D σ H => ∃ g ρ, Rep P.K g H σ ρ ∧ PostS P E g σ ρ H H D (s ρ)
theorem PostS.step {o : SOut} (h : PostS P E g σ ρ H0 H D o) (f : FrS H (Own σ ρ) H1 (Own σ1 ρ1)) : PostS P E g σ1 ρ1 H0 H1 D o := by
  cases o with
  | next ρ' => exact fun σ' H' r f' => h σ' H' r (f.trans f')
  | ret s ρ' => exact fun v σ' H' r f' q => h v σ' H' r (f.trans f') q
  | brk ρ' => exact fun σ' H' r f' => h σ' H' r (f.trans f')
  | cont ρ' => exact fun σ' H' r f' => h σ' H' r (f.trans f')
  | raise c x ρ' => exact fun d v σ' H' r f' e q => h d v σ' H' r (f.trans f') e q
  | stuck => exact h
theorem PostS.based {o : SOut} (h : PostS P E g σ ρ H0 H D o) (f : Free H0 H1) : PostS P E g σ ρ H1 H D o := by
  cases o with
  | ret s ρ' => exact fun v σ' H' r f' q => h v σ' H' r f' (q.older f)
  | _ => exact h
theorem PostS.ends {o : SOut} (h : PostS P E g σ ρ H0 H D o) (n : ∀ ρ', o ≠ .next ρ') (e1 : D'.rt = D.rt) (e2 : D'.bk = D.bk) (e3 : D'.ct = D.ct) : PostS P E g σ ρ H0 H D' o := by
  cases o with
  | next ρ' => exact (n ρ' rfl).elim
  | ret s ρ' => exact fun v σ' H' r f' q => by rw [e1]; exact h v σ' H' r f' q
  | brk ρ' => exact fun σ' H' r f' => by rw [e2]; exact h σ' H' r f'
  | cont ρ' => exact fun σ' H' r f' => by rw [e3]; exact h σ' H' r f'
  | raise c x ρ' => exact h
  | stuck => exact h
/-- the frame of an expression's part is that of the statement's -/
theorem frS_of (s : SameC ρ ρ1) (f : FrE H (Own σ ρ) H1) : FrS H (Own σ ρ) H1 (Own σ ρ1) := ⟨f.keep, f.stay, fun _ h => .inl (s.symm.own h)⟩
theorem RX.ofS {c : Str} {x : MP.D} {ρ' : En} (h : PostS P E g σ ρ H0 H D (.raise c x ρ')) : RX P E g σ ρ H c x ρ' := fun d v H' r s f e q => h d v σ H' r (frS_of s f) e q
/-- an expression within a statement -/
theorem stG {α β : Type} {R : Gh → Hp → Hp → St → En → β → α → Prop} {o : Out α} {f : α → En → SOut} {Q' : β → Hp → Prop} (h : PostS P E g σ ρ H0 H D (o.st f))
    (k : ∀ a ρ1 v H1, o = .ok a ρ1 → Rep P.K g H1 σ ρ1 → SameC ρ ρ1 → FrE H (Own σ ρ) H1 → R g H H1 σ ρ1 v a → PostS P E g σ ρ H0 H D (f a ρ1) → Q' v H1) : PostG R P E g σ ρ H H Q' o := by
  cases o with
  | ok a ρ1 => exact fun v H1 r s fr rv => k a ρ1 v H1 rfl r s fr rv h
  | raise c x ρ1 => exact RX.ofS h
  | stuck => exact h
end

section
variable {X : Cx} {P : Pk} {E : St → XK} {st : Stmt} {sts sts2 : List Stmt} {a b : Expr} {m : ME} {t : MT} {s u : MS} {pos : Pos}
theorem b_next {P : Pk} {E : St → XK} : ∀ D σ H, tS P E sNext D σ H → tNext D σ H := fun D σ H ⟨g, ρ, r, h⟩ => h σ H r (.refl _ _)
theorem b_nil : PSs X [] (tS P E sNext) := ⟨fun pins s σ H D I q => pss_nil.run pins s σ H D I (b_next D σ H q)⟩
theorem b_cons (h1 : PS X st (tS P E s)) (h2 : PSs X sts (tS P E u)) : PSs X (st :: sts) (tS P E (sSeq s u)) := by
  refine ⟨fun pins s' σ H D I ⟨g, ρ, r, h⟩ => (pss_cons h1 h2).run pins s' σ H D I ⟨g, ρ, r, ?_⟩⟩
  have h' : PostS P E g σ ρ H H D ((s ρ).seq u) := h
  cases e : s ρ with
  | next ρ1 =>
    rw [e] at h'
    exact fun σ1 H1 r1 f1 => ⟨g, ρ1, r1, (PostS.step h' f1).based f1.free⟩
  | ret v ρ1 => rw [e] at h'; exact h'
  | brk ρ1 => rw [e] at h'; exact h'
  | cont ρ1 => rw [e] at h'; exact h'
  | raise c x ρ1 => rw [e] at h'; exact h'
  | stuck => rw [e] at h'; exact h'
theorem b_one (h1 : PS X st (tS P E s)) : PSs X [st] (tS P E s) := pss_one h1
theorem z_pass : PS X (.Pass pos) (tS P E sNext) := PS.imp ps_pass b_next
theorem z_break : PS X (.Break pos) (tS P E sBreak) := PS.imp ps_break fun D σ H ⟨g, ρ, r, h⟩ => h σ H r (.refl _ _)
theorem z_cont : PS X (.Continue pos) (tS P E sCont) := PS.imp ps_continue fun D σ H ⟨g, ρ, r, h⟩ => h σ H r (.refl _ _)
theorem z_never : PS X st (tS P E sNever) := ⟨fun _ _ _ _ _ _ ⟨_, _, _, h⟩ => h.elim⟩
theorem z_expr (he : PE X a (tM P E m)) (hs : swapsWith a none pos.line X.env = pure false := by rfl) : PS X (.Expr a pos) (tS P E (sExpr m)) := by
  refine PS.imp (ps_expr he hs) fun D σ H ⟨g, ρ, r, h⟩ => ?_
  exact ⟨g, ρ, r, stG (R := RVP P) h fun v ρ1 x H1 _ r1 s1 f1 q1 h1 => h1 σ H1 r1 (frS_of s1 f1)⟩
theorem z_ret (he : PE X a (tM P E m)) : PS X (.Return (some a) pos) (tS P E (sRet m)) := by
  refine PS.imp (ps_ret he) fun D σ H ⟨g, ρ, r, h⟩ => ?_
  exact ⟨g, ρ, r, stG (R := RVP P) h fun v ρ1 x H1 _ r1 s1 f1 q1 h1 => h1 x σ H1 r1 (frS_of s1 f1) q1⟩
theorem z_retN : PS X (.Return none pos) (tS P E sRetN) := PS.imp ps_retN fun D σ H ⟨g, ρ, r, h⟩ => h .non σ H r (.refl _ _) (.d .non)
theorem z_if {c : Expr} (hc : PT X c (tT P E t)) (ha : PSs X sts (tS P E s)) (hb : PSs X sts2 (tS P E u)) : PS X (.If c sts sts2 pos) (tS P E (sIf t s u)) := by
  refine PS.imp (ps_if hc ha hb) fun D σ H ⟨g, ρ, r, h⟩ => ?_
  refine ⟨g, ρ, r, stG (R := RB) h fun c ρ1 d H1 _ r1 s1 f1 q1 h1 => ?_⟩
  subst q1
  cases d with
  | true => exact ⟨g, ρ1, r1, (h1.step (frS_of s1 f1)).based f1.free⟩
  | false => exact ⟨g, ρ1, r1, (h1.step (frS_of s1 f1)).based f1.free⟩
/-- behind the store of a value that was made since H -/
theorem setS_post {g : Gh} {σ : St} {ρ ρ1 : En} {H0 H H1 : Hp} {D : Ends} {k : Bool} {i : Nat} {v : V} {sv : SV} (r : Rep P.K g H1 σ ρ1) (sc : SameC ρ ρ1) (f : FrE H (Own σ ρ) H1) (q : RV P.K g H H1 σ ρ1 v sv) (h : PostS P E g σ ρ H0 H D (setS k i sv ρ1)) :
    D.nx (σ.set i (some v)) H1 := by
  unfold setS at h
  split at h
  · rename_i hf
    cases e : kept k sv with
    | none =>
      rw [e] at h
      exact h.elim
    | some w =>
      rw [e] at h
      obtain ⟨h1, h2⟩ := r.set hf q e
      exact h _ H1 h1 ⟨f.keep, f.stay, fun a z => (h2 a z).imp sc.symm.own id⟩
  · exact h.elim
theorem z_set (i : Nat) (k : Bool) {x : Str} {pos' : Pos} (he : PE X a (tM P E m)) (hN : X.N.Nodup) (hi : X.N[i]? = some x := by rfl) (hx : Loc X.env.scope x := by first | exact Or.inl rfl | exact Or.inr rfl) (hs : swapsWith a (some (.Name x pos')) pos.line X.env = pure false := by rfl) (hf : X.fn x = true ∨ X.env.scope.names.lookup x = some .local := by first | exact .inl rfl | exact .inr rfl | assumption) :
    PS X (.Assign [.Name x pos'] a pos) (tS P E (sSet k i m)) := by
  refine PS.imp (ps_set hN hi hx he hs hf) fun D σ H ⟨g, ρ, r, h⟩ => ?_
  exact ⟨g, ρ, r, stG (R := RVP P) h fun v ρ1 x H1 _ r1 s1 f1 q1 h1 => setS_post r1 s1 f1 q1 h1⟩
end
end MP
end

section
set_option Elab.async false
set_option linter.all false
set_option maxRecDepth 100000
set_option maxHeartbeats 4000000
set_option autoImplicit false
namespace MP
open PySem PySem.Spec L2

theorem PG.imp {X : Cx} {e : Expr} {t t' : TG} (h : PG X e t) (k : ∀ v σ H Q, t' v σ H Q → t v σ H Q) : PG X e t' := ⟨fun pins s σ H v u Q I r q => h.run pins s σ H v u Q I r (k v σ H Q q)⟩
theorem PGs.imp {X : Cx} {e : List Expr} {t t' : TGs} (h : PGs X e t) (k : ∀ v σ H Q, t' v σ H Q → t v σ H Q) : PGs X e t' := ⟨fun pins s σ H v u Q I r q => h.run pins s σ H v u Q I r (k v σ H Q q)⟩
/-- data into a target -/
def gT (P : Pk) (tg : Tg) : TG := fun v σ H Q => ∃ g ρ x ρ', Rep P.K g H σ ρ ∧ Rp P.K (hid (Out' g σ ρ) H) v x ∧ tgSet tg x ρ = some ρ' ∧ ∀ σ', Rep P.K g H σ' ρ' → (∀ a, Own σ' ρ' a → Own σ ρ a) → (σ'.length = σ.length ∧ ∀ j, j ∉ tg.slots → σ'[j]? = σ[j]?) → Q σ' H
def gTs (P : Pk) (tgs : List Tg) : TGs := fun vs σ H Q => ∃ g ρ xs ρ', Rep P.K g H σ ρ ∧ RpAll P.K (hid (Out' g σ ρ) H) vs xs ∧ tgSets tgs xs ρ = some ρ' ∧ ∀ σ', Rep P.K g H σ' ρ' → (∀ a, Own σ' ρ' a → Own σ ρ a) → (σ'.length = σ.length ∧ ∀ j, j ∉ tgSlots tgs → σ'[j]? = σ[j]?) → Q σ' H
section
variable {X : Cx} {P : Pk} {E : St → XK} {a : Expr} {es : List Expr} {tg : Tg} {tgs : List Tg} {pos : Pos}
theorem g_n (i : Nat) {x : Str} (hN : X.N.Nodup) (hi : X.N[i]? = some x := by rfl) (hx : Loc X.env.scope x := by first | exact Or.inl rfl | exact Or.inr rfl) (hf : X.fn x = true ∨ X.env.scope.names.lookup x = some .local := by first | exact .inl rfl | exact .inr rfl | assumption) : PG X (.Name x pos) (gT P (.n i)) := by
  refine PG.imp (pg_name hN hi hx hf) fun v σ H Q ⟨g, ρ, x, ρ', r, q, e, k⟩ => ?_
  unfold tgSet at e
  split at e
  · rename_i hfr
    cases e
    exact k _ (r.set_d hfr q) (fun a z => own_set_d (free_lt hfr) z) ⟨List.length_set .., fun j hj => List.getElem?_set_ne fun e => hj (by rw [e]; exact List.mem_singleton.mpr rfl)⟩
  · cases e
theorem g_nil : PGs X [] (gTs P []) := by
  refine PGs.imp pgs_nil fun vs σ H Q ⟨g, ρ, xs, ρ', r, q, e, k⟩ => ?_
  cases xs with
  | nil =>
    cases q
    unfold tgSets at e
    cases e
    exact ⟨rfl, k σ r (fun _ z => z) ⟨rfl, fun _ _ => rfl⟩⟩
  | cons x xs =>
    unfold tgSets at e
    cases e
theorem g_cons (h1 : PG X a (gT P tg)) (h2 : PGs X es (gTs P tgs)) (hs : (assignEach (a :: es) X.env).map (·.2) = assign a X.env :: (assignEach es X.env).map (·.2) := by rfl) : PGs X (a :: es) (gTs P (tg :: tgs)) := by
  refine PGs.imp (pgs_cons h1 h2 hs) fun vs σ H Q ⟨g, ρ, xs, ρ', r, q, e, k⟩ => ?_
  cases xs with
  | nil =>
    unfold tgSets at e
    cases e
  | cons x xs =>
    cases q with
    | cons q1 q2 =>
      unfold tgSets at e
      cases e1 : tgSet tg x ρ with
      | none => rw [e1] at e; cases e
      | some ρ1 =>
        rw [e1] at e
        refine ⟨_, _, rfl, g, ρ, x, ρ1, r, q1, e1, fun σ1 r1 o1 l1 => ?_⟩
        exact ⟨g, ρ1, xs, ρ', r1, q2.grow (hid_grow fun a o n e => ⟨fun z => n (z.imp id (o1 a)), e⟩), e, fun σ' r' o' l' => k σ' r' (fun a z => o1 a (o' a z)) ⟨l'.1.trans l1.1, fun j hj => (l'.2 j fun z => hj (List.mem_append_right _ z)).trans (l1.2 j fun z => hj (List.mem_append_left _ z))⟩⟩
theorem tgSets_len : ∀ {tgs : List Tg} {xs : List D} {ρ ρ' : En}, tgSets tgs xs ρ = some ρ' → xs.length = tgs.length
  | [], [], _, _, _ => rfl
  | [], _ :: _, _, _, e => by unfold tgSets at e; cases e
  | _ :: _, [], _, _, e => by unfold tgSets at e; cases e
  | t :: ts, x :: xs, ρ, ρ', e => by
    unfold tgSets at e
    cases e1 : tgSet t x ρ with
    | none => rw [e1] at e; cases e
    | some ρ1 =>
      rw [e1] at e
      exact congrArg (· + 1) (tgSets_len e)
theorem g_t {k : Nat} (hc : X.calm = true) (h : PGs X es (gTs P tgs)) (hK : X.K = P.K := by rfl) (hn : (assignEach es X.env).length = tgs.length := by rfl) (hst : (assignEach es X.env).findIdx? (·.1) = none := by rfl) : PG X (.Tuple es k pos) (gT P (.t tgs)) := by
  obtain ⟨K, CA⟩ := P
  subst hK
  refine PG.imp (pg_tup hc h hn hst) fun v σ H Q ⟨g, ρ, x, ρ', r, q, e, k⟩ => ?_
  cases q with
  | tup q1 q2 =>
    have e' : tgSets tgs _ ρ = some ρ' := e
    exact ⟨_, _, rfl, hid_le.st q1, by rw [q2.length]; exact tgSets_len e', g, ρ, _, ρ', r, q2, e', k⟩
  | _ => cases e
/-! ### a, b = e -/
theorem z_unp {m : ME} {x1 : Nat} {p2 : Pos} (he : PE X a (tM P E m)) (hg : PG X (.Tuple es x1 p2) (gT P tg)) (hs : swapsWithSole [.Tuple es x1 p2] a pos.line X.env = pure false := by rfl) (hw : swappedStores [.Tuple es x1 p2] a X.env = pure none := by rfl)
    (h1 : (assignEach [.Tuple es x1 p2] X.env).map (·.2) = [assign (.Tuple es x1 p2) X.env] := by rfl) : PS X (.Assign [.Tuple es x1 p2] a pos) (tS P E (sUnp tg m)) := by
  refine PS.imp (ps_asg he hg hs hw h1) fun D σ H ⟨g, ρ, r, h⟩ => ?_
  refine ⟨g, ρ, r, stG (R := RVP P) h fun v ρ1 x H1 _ r1 s1 f1 q1 h1 => ?_⟩
  cases e1 : toD v with
  | none =>
    have h1' : PostS P E g σ ρ H H D (match toD v with | some x => (match tgSet tg x ρ1 with | some ρ2 => .next ρ2 | none => .stuck) | none => .stuck) := h1
    rw [e1] at h1'
    exact h1'.elim
  | some y =>
    have h1' : PostS P E g σ ρ H H D (match toD v with | some x => (match tgSet tg x ρ1 with | some ρ2 => .next ρ2 | none => .stuck) | none => .stuck) := h1
    rw [e1] at h1'
    have h1'' : PostS P E g σ ρ H H D (match tgSet tg y ρ1 with | some ρ2 => .next ρ2 | none => .stuck) := h1'
    cases e2 : tgSet tg y ρ1 with
    | none =>
      rw [e2] at h1''
      exact h1''.elim
    | some ρ2 =>
      rw [e2] at h1''
      exact ⟨g, ρ1, y, ρ2, r1, q1.keep e1, e2, fun σ' r' o' _ => h1'' σ' H1 r' ⟨f1.keep, f1.stay, fun a z => .inl (s1.symm.own (o' a z))⟩⟩
end
/-! ### what is walked -/
def Later (Pr : Addr → Prop) (H1 H : Hp) : Prop := ∀ a o, H1 a = some o → ¬ Pr a → H a = some o
open Classical in
noncomputable def joinN (N Pr : Addr → Prop) (H1 H' : Hp) : Hp := fun a => if N a then H' a else hid Pr H1 a
/-- J yields xs, whose parts stood frozen at H1 -/
structure JOk (K : Fg) (J : It) (xs : List D) (Pr : Addr → Prop) (H1 : Hp) : Prop where
  go : ∀ H, Later Pr H1 H → ∀ i, i < xs.length → J.go i H
  stop : ∀ H, Later Pr H1 H → J.stop xs.length H
  yld : ∀ H, Later Pr H1 H → ∀ i x v H', xs[i]? = some x → J.yld i H v H' → Grow H H' ∧ ∃ N : Addr → Prop, (∀ a, N a → H a = none) ∧ Rp K (joinN N Pr H1 H') v x
def RJ (P : Pk) : Gh → Hp → Hp → St → En → It → List D → Prop := fun g H0 H σ ρ J xs => JOk P.K J xs (Out' g σ ρ) H
def iM (P : Pk) (E : St → XK) (it : MI) : TI := fun σ H R => ∃ g ρ, Rep P.K g H σ ρ ∧ PostG (RJ P) P E g σ ρ H H R (it ρ)
theorem PI.imp {X : Cx} {tg e : Expr} {t t' : TI} (h : PI X tg e t) (k : ∀ σ H R, t' σ H R → t σ H R) : PI X tg e t' := ⟨fun pins s σ H R I q => h.run pins s σ H R I (k σ H R q)⟩

theorem joinN_out {N Pr Pr' : Addr → Prop} {H1 H H' : Hp} (hN : ∀ a, N a → H a = none) (tr : Tracked H Pr') (lt : Later Pr H1 H) (g : Grow H H') (hp : ∀ a o, ¬ Pr a → H1 a = some o → ¬ Pr' a) : Grow (joinN N Pr H1 H') (hid Pr' H') := by
  intro a o e
  unfold joinN at e
  by_cases h : N a
  · rw [if_pos h] at e
    have no : ¬ Pr' a := fun z => by
      obtain ⟨o', e'⟩ := tr a z
      rw [hN a h] at e'
      cases e'
    exact hid_some.mpr ⟨no, e⟩
  · rw [if_neg h] at e
    obtain ⟨n, e⟩ := hid_some.mp e
    exact hid_some.mpr ⟨hp a o n e, g a o (lt a o e n)⟩
theorem drop_cons {α : Type} {xs : List α} {i : Nat} (h : i < xs.length) : xs.drop i = xs[i] :: xs.drop (i + 1) := List.drop_eq_getElem_cons h

section
variable {X : Cx} {P : Pk} {E : St → XK} {iter te : Expr} {body : List Stmt} {tg : Tg} {it : MI} {b : MS} {pos : Pos}
theorem z_for (hp : PassesOwn (model X.prog X.w) X.A X.env X.xe) (hc : X.calm = true) (hi : PI X te iter (iM P E it)) (hg : PG X te (gT P tg)) (hb : PSs X body (tS P E b))
    (hs : ∀ x, foldedSetIterable iter X.env x = pure x := by intro _; rfl) : PS X (.For te iter body [] pos) (tS P E (sFor tg it b)) := by
  refine PS.imp (ps_for hp hc hi hg hb hs) fun D σ H ⟨g, ρ, r, h⟩ => ?_
  refine ⟨g, ρ, r, stG (R := RJ P) h fun xs ρ1 J H1 _ r1 s1 f1 q1 h1 => ?_⟩
  have f1' : FrS H (Own σ ρ) H1 (Own σ ρ1) := frS_of s1 f1
  have h1' : PostS P E g σ ρ1 H H1 D (forGo tg b xs ρ1) := h1.step f1'
  refine ⟨fun i m σ2 H2 => ∃ ρ2, m = xs.length - i ∧ i ≤ xs.length ∧ Rep P.K g H2 σ2 ρ2 ∧ FrS H1 (Own σ ρ1) H2 (Own σ2 ρ2) ∧ PostS P E g σ2 ρ2 H H2 D (forGo tg b (xs.drop i) ρ2), ⟨_, ρ1, rfl, Nat.zero_le _, r1, .refl _ _, by rw [List.drop_zero]; exact h1'⟩, ?_⟩
  rintro i m σ2 H2 ⟨ρ2, rfl, hi, r2, f2, h2⟩
  have lt2 : Later (Out' g σ ρ1) H1 H2 := fun a o e n => f2.keep a o e fun z => n (.inr z)
  by_cases hlt : i < xs.length
  · rw [drop_cons hlt] at h2
    refine .inr ⟨q1.go H2 lt2 i hlt, fun σ' H' => ∃ ρ', Rep P.K g H' σ' ρ' ∧ FrS H1 (Own σ ρ1) H' (Own σ' ρ') ∧ PostS P E g σ' ρ' H H' D (forGo tg b (xs.drop (i + 1)) ρ'), fun σ' H' ⟨ρ', a1, a2, a3⟩ => ⟨xs.length - (i + 1), by omega, ρ', rfl, hlt, a1, a2, a3⟩, fun v H3 y => ?_⟩
    obtain ⟨gr, N, hN, rv⟩ := q1.yld H2 lt2 i xs[i] v H3 (List.getElem?_eq_getElem hlt) y
    have r3 := r2.grow gr
    have out2 : ∀ a o, ¬ Out' g σ ρ1 a → H1 a = some o → ¬ Out' g σ2 ρ2 a := fun a o n e z => z.elim (fun z => n (.inl z)) fun z => (f2.new a z).elim (fun z => n (.inr z)) fun z => by rw [e] at z; cases z
    have rv' : Rp P.K (hid (Out' g σ2 ρ2) H3) v xs[i] := rv.grow (joinN_out hN (fun a z => r2.out_some z) lt2 gr out2)
    unfold forGo at h2
    cases e1 : tgSet tg xs[i] ρ2 with
    | none => rw [e1] at h2; exact h2.elim
    | some ρ3 =>
      rw [e1] at h2
      refine ⟨g, ρ2, _, ρ3, r3, rv', e1, fun σ3 r3' o3 _ => ?_⟩
      have f3 : FrS H2 (Own σ2 ρ2) H3 (Own σ3 ρ3) := ⟨fun a o e _ => gr a o e, fun a o e => ⟨o, gr a o e⟩, fun a z => .inl (o3 a z)⟩
      refine ⟨g, ρ3, r3', ?_⟩
      have fr : Free H H3 := (f1.free.trans f2.free).trans f3.free
      have h3 := PostS.step (σ1 := σ3) (ρ1 := ρ3) h2 f3
      have h3' : PostS P E g σ3 ρ3 H H3 D (match b ρ3 with
      | .next ρ2 => forGo tg b (xs.drop (i + 1)) ρ2
      | .cont ρ2 => forGo tg b (xs.drop (i + 1)) ρ2
      | .brk ρ2 => .next ρ2
      | .ret v ρ2 => .ret v ρ2
      | .raise c x ρ2 => .raise c x ρ2
      | .stuck => .stuck) := h3
      cases e2 : b ρ3 with
      | next ρ4 =>
        rw [e2] at h3'
        exact fun σ4 H4 r4 f4 => ⟨ρ4, r4, (f2.trans f3).trans f4, h3'.step f4⟩
      | cont ρ4 =>
        rw [e2] at h3'
        exact fun σ4 H4 r4 f4 => ⟨ρ4, r4, (f2.trans f3).trans f4, h3'.step f4⟩
      | brk ρ4 =>
        rw [e2] at h3'
        exact h3'
      | ret s ρ4 =>
        rw [e2] at h3'
        exact fun v σ4 H4 r4 f4 q4 => h3' v σ4 H4 r4 f4 (q4.older fr)
      | raise c x ρ4 =>
        rw [e2] at h3'
        exact h3'
      | stuck =>
        rw [e2] at h3'
        exact h3'.elim
  · have e : i = xs.length := by omega
    subst e
    rw [List.drop_length] at h2
    exact .inl ⟨q1.stop H2 lt2, h2 σ2 H2 r2 (.refl _ _)⟩
/-! ### while -/
theorem z_while {c : Expr} {t : MT} (fuel : En → Nat) (hp : PassesOwn (model X.prog X.w) X.A X.env X.xe) (hc : PT X c (tT P E t)) (hb : PSs X body (tS P E b)) : PS X (.While c body [] pos) (tS P E (sWhile fuel t b)) := by
  refine PS.imp (ps_while hp hc hb) fun D σ H ⟨g, ρ, r, h⟩ => ?_
  refine ⟨fun n σ2 H2 => ∃ ρ2, Rep P.K g H2 σ2 ρ2 ∧ FrS H (Own σ ρ) H2 (Own σ2 ρ2) ∧ PostS P E g σ2 ρ2 H H2 D (whileGo t b n ρ2), ⟨fuel ρ, ρ, r, .refl _ _, h⟩, ?_⟩
  rintro n σ2 H2 ⟨ρ2, r2, f2, h2⟩
  cases n with
  | zero => exact h2.elim
  | succ n =>
    have h2' : PostS P E g σ2 ρ2 H H2 D ((t ρ2).st fun c ρ1 => if c = true then (match b ρ1 with
      | .next ρ2 => whileGo t b n ρ2
      | .cont ρ2 => whileGo t b n ρ2
      | .brk ρ2 => .next ρ2
      | .ret v ρ2 => .ret v ρ2
      | .raise c x ρ2 => .raise c x ρ2
      | .stuck => .stuck) else .next ρ1) := h2
    refine ⟨g, ρ2, r2, stG (R := RB) h2' fun c ρ3 d H3 _ r3 s3 f3 q3 h3 => ?_⟩
    subst q3
    have f3' := frS_of s3 f3
    cases d with
    | false => exact h3 σ2 H3 r3 f3'
    | true =>
      rw [if_pos rfl] at h3
      rw [if_pos rfl]
      refine ⟨fun σ' H' => ∃ ρ', Rep P.K g H' σ' ρ' ∧ FrS H (Own σ ρ) H' (Own σ' ρ') ∧ PostS P E g σ' ρ' H H' D (whileGo t b n ρ'), fun σ' H' q => ⟨n, Nat.lt_succ_self n, q⟩, g, ρ3, r3, ?_⟩
      have h3' := h3.step f3'
      have fr : Free H H3 := f2.free.trans f3.free
      cases e2 : b ρ3 with
      | next ρ4 =>
        rw [e2] at h3'
        exact fun σ4 H4 r4 f4 => ⟨ρ4, r4, (f2.trans f3').trans f4, h3'.step f4⟩
      | cont ρ4 =>
        rw [e2] at h3'
        exact fun σ4 H4 r4 f4 => ⟨ρ4, r4, (f2.trans f3').trans f4, h3'.step f4⟩
      | brk ρ4 =>
        rw [e2] at h3'
        exact h3'
      | ret s ρ4 =>
        rw [e2] at h3'
        exact fun v σ4 H4 r4 f4 q4 => h3' v σ4 H4 r4 f4 (q4.older fr)
      | raise c x ρ4 =>
        rw [e2] at h3'
        exact h3'
      | stuck =>
        rw [e2] at h3'
        exact h3'.elim
end
end MP
end

section
set_option Elab.async false
set_option linter.all false
set_option maxRecDepth 100000
set_option maxHeartbeats 4000000
set_option autoImplicit false
namespace MP
open PySem PySem.Spec L2

/-! ### what is walked: lists, tuples, ranges -/
section
variable {X : Cx} {P : Pk} {E : St → XK} {te a b : Expr} {ma mb : ME} {pos p : Pos}
theorem later_sl {K : Fg} {Pr : Addr → Prop} {H1 H : Hp} (lt : Later Pr H1 H) {l : Addr} {xs : List V} (h : SqL K (hid Pr H1) l xs) : SqL K H l xs :=
  Grow.sl (fun a o e => let ⟨n, e⟩ := hid_some.mp e; lt a o e n) h
theorem later_st {K : Fg} {Pr : Addr → Prop} {H1 H : Hp} (lt : Later Pr H1 H) {l : Addr} {xs : List V} (h : SqT K (hid Pr H1) l xs) : SqT K H l xs :=
  Grow.st (fun a o e => let ⟨n, e⟩ := hid_some.mp e; lt a o e n) h
theorem join_none {K : Fg} {Pr : Addr → Prop} {H1 H' : Hp} {v : V} {x : D} (h : Rp K (hid Pr H1) v x) : Rp K (joinN (fun _ => False) Pr H1 H') v x :=
  h.grow fun a o e => by
    unfold joinN
    rw [if_neg not_false]
    exact e
theorem jok_items {K : Fg} {J : It} {Pr : Addr → Prop} {H1 : Hp} {vs : List V} {xs : List D} (r : RpAll K (hid Pr H1) vs xs)
    (go : ∀ H, Later Pr H1 H → ∀ i, i < vs.length → J.go i H) (stop : ∀ H, Later Pr H1 H → J.stop vs.length H) (yld : ∀ H, Later Pr H1 H → ∀ i v H', J.yld i H v H' → H' = H ∧ (∀ w, vs[i]? = some w → v = w)) : JOk K J xs Pr H1 := by
  refine ⟨fun H lt i h => go H lt i (by rw [r.length]; exact h), fun H lt => by rw [← r.length]; exact stop H lt, fun H lt i x v H' e y => ?_⟩
  obtain ⟨e1, e2⟩ := yld H lt i v H' y
  subst e1
  obtain ⟨w, q1, q2⟩ := r.get e
  rw [e2 w q1]
  exact ⟨.refl _, fun _ => False, fun _ h => h.elim, join_none q2⟩
/-- the values of a range -/
theorem rp_ints {K : Fg} {Hh : Hp} (lo : Int) (n : Nat) : RpAll K Hh ((List.range n).map fun k => V.int (lo + (k : Nat))) (intsD lo n) := by
  unfold intsD
  induction List.range n with
  | nil => exact .nil
  | cons k ks ih => exact .cons (.int _) ih
theorem jok_range {K : Fg} {Pr : Addr → Prop} {H1 : Hp} (lo : Int) (n : Nat) : JOk K (Itr lo n) (intsD lo n) Pr H1 := by
  have hl : ((List.range n).map fun k => V.int (lo + (k : Nat))).length = n := by rw [List.length_map, List.length_range]
  refine jok_items (rp_ints lo n) (fun H lt i h => ?_) (fun H lt => ?_) fun H lt i v H' y => ?_
  · rw [hl] at h
    exact h
  · rw [hl]
    exact Nat.le_refl n
  · obtain ⟨e1, e2⟩ := y
    refine ⟨e1, fun w hw => ?_⟩
    rw [e2]
    rw [List.getElem?_map] at hw
    cases e3 : (List.range n)[i]? with
    | none => rw [e3] at hw; cases hw
    | some k =>
      rw [e3] at hw
      have e4 : k = i := by
        obtain ⟨h1, h2⟩ := List.getElem?_eq_some_iff.mp e3
        rw [← h2, List.getElem_range]
      subst e4
      exact Option.some.inj hw
theorem piOr {X : Cx} {tg l : Expr} {w w' : TI} (h : PI X tg l w) (h' : PI X tg l w') : PI X tg l (fun σ H R => w σ H R ∨ w' σ H R) := ⟨fun pins s σ H R I q => q.elim (h.run pins s σ H R I) (h'.run pins s σ H R I)⟩
theorem jok_list {K : Fg} {Pr : Addr → Prop} {H1 : Hp} {l : Addr} {vs : List V} {xs : List D} (h : SqL K (hid Pr H1) l vs) (r : RpAll K (hid Pr H1) vs xs) : JOk K (Itl K l) xs Pr H1 :=
  jok_items r (fun H lt i hi => ⟨vs, vs[i], later_sl lt h, List.getElem?_eq_getElem hi⟩) (fun H lt => ⟨vs, later_sl lt h, Nat.le_refl _⟩) fun H lt i v H' y => ⟨y.1, fun w hw => Option.some.inj ((y.2 vs (later_sl lt h)).symm.trans hw)⟩
theorem jok_tup {K : Fg} {Pr : Addr → Prop} {H1 : Hp} {l : Addr} {vs : List V} {xs : List D} (h : SqT K (hid Pr H1) l vs) (r : RpAll K (hid Pr H1) vs xs) : JOk K (Itt K l) xs Pr H1 :=
  jok_items r (fun H lt i hi => ⟨vs, vs[i], later_st lt h, List.getElem?_eq_getElem hi⟩) (fun H lt => ⟨vs, later_st lt h, Nat.le_refl _⟩) fun H lt i v H' y => ⟨y.1, fun w hw => Option.some.inj ((y.2 vs (later_st lt h)).symm.trans hw)⟩
theorem toB_ok {β : Type} {v : SV} {f : D → Out β} {r : β} {ρ : En} (h : toB v f = .ok r ρ) : ∃ x, toD v = some x ∧ f x = .ok r ρ := by
  unfold toB at h
  split at h
  · exact ⟨_, by assumption, h⟩
  · cases h
theorem fr_rd {H : Hp} {a : Addr} {u : HO} {M : Addr → Prop} (h : Rd (hid M H) a u) : Rd H a u := hid_le.rd h
theorem i_seq (ha : PE X a (tM P E ma)) (hK : X.K = P.K := by rfl) : PI X te a (iM P E (i1 seqD ma)) := by
  obtain ⟨K, CA⟩ := P
  subst hK
  refine PI.imp (piOr (pi_list ha) (pi_tup ha)) fun σ H R ⟨g, ρ, r, h⟩ => ?_
  have h' : PostG (RJ ⟨X.K, CA⟩) ⟨X.K, CA⟩ E g σ ρ H H R ((ma ρ).bind fun v ρ1 => toB v fun x => opt (seqD x) ρ1) := h
  cases e : ma ρ with
  | raise c x ρ1 =>
    rw [e] at h'
    exact .inl ⟨g, ρ, r, by rw [e]; exact h'⟩
  | stuck =>
    rw [e] at h'
    exact h'.elim
  | ok sv ρ1 =>
    cases e2 : toD sv with
    | none =>
      rw [e, Out.bind_ok] at h'
      unfold toB at h'
      rw [e2] at h'
      exact h'.elim
    | some x =>
      have h2 : PostG (RJ ⟨X.K, CA⟩) ⟨X.K, CA⟩ E g σ ρ H H R (opt (seqD x) ρ1) := by
        rw [e, Out.bind_ok] at h'
        unfold toB at h'
        rw [e2] at h'
        exact h'
      cases x with
      | list ds =>
        refine .inl ⟨g, ρ, r, ?_⟩
        rw [e]
        intro v H1 r1 s1 f1 q1
        have k := q1.keep e2
        cases k with
        | lst k1 k2 => exact ⟨_, rfl, ⟨_, hid_le.sl k1⟩, h2 _ H1 r1 s1 f1 (jok_list k1 k2)⟩
      | tuple ds =>
        refine .inr ⟨g, ρ, r, ?_⟩
        rw [e]
        intro v H1 r1 s1 f1 q1
        have k := q1.keep e2
        cases k with
        | tup k1 k2 => exact ⟨_, rfl, ⟨_, hid_le.st k1⟩, h2 _ H1 r1 s1 f1 (jok_tup k1 k2)⟩
      | _ => exact h2.elim
/-! ranges -/
theorem small62_of {i : Int} (h : small62 i = true) : -(2 ^ 62) ≤ i ∧ i < 2 ^ 62 := by
  exact small62_iff h
def i1v (f : D → Option (List D)) (a : ME) : MI := fun ρ => (a ρ).bind fun v ρ1 => toB v fun x => opt (f x) ρ1
theorem i_range1 (hm : X.mg "range" = none) (ha : PE X a (tM P E ma)) (hg : Gl X "range" := by rfl) (he : starEach [a] X.env = (false, eval a X.env) :: starEach [] X.env := by rfl) (hs : starEach [a] X.env = [(false, eval a X.env)] := by rfl) : PI X te (.Call (.Name "range" p) [a] [] pos) (iM P E (i1 range1 ma)) := by
  refine PI.imp (pi_range1 hg hm (pa_cons ha pa_nil he) hs) fun σ H R ⟨g, ρ, r, h⟩ => ?_
  refine ⟨g, ρ, r, bindG (R := RVP P) (R' := RJ P) h fun sv ρ1 v H1 r1 s1 f1 q1 h1 => ?_⟩
  obtain ⟨x, ex, h1⟩ := toB_some h1
  obtain ⟨xs, exs, h1⟩ := opt_of h1
  unfold range1 at exs
  split at exs
  · split at exs
    · rename_i n hn
      cases exs
      obtain ⟨n1, n2⟩ := small62_of hn
      cases q1.keep ex
      exact ⟨n, rfl, n1, n2, h1 _ H1 r1 (.refl _) (.refl _ _) (jok_range 0 n.toNat)⟩
    · cases exs
  · cases exs
theorem range2_inv {x y : D} {xs : List D} (h : range2 x y = some xs) : ∃ i j, x = .int i ∧ y = .int j ∧ (small62 i = true ∧ small62 j = true) ∧ xs = intsD i (j - i).toNat := by
  unfold range2 at h
  split at h
  · split at h
    · rename_i hn
      rw [Bool.and_eq_true] at hn
      cases h
      exact ⟨_, _, rfl, rfl, hn, rfl⟩
    · cases h
  · cases h
theorem i_range2 (hm : X.mg "range" = none) (ha : PE X a (tM P E ma)) (hb : PE X b (tM P E mb)) (hg : Gl X "range" := by rfl) (he1 : starEach [a, b] X.env = (false, eval a X.env) :: starEach [b] X.env := by rfl) (he2 : starEach [b] X.env = (false, eval b X.env) :: starEach [] X.env := by rfl)
    (hs : starEach [a, b] X.env = [(false, eval a X.env), (false, eval b X.env)] := by rfl) (hs2 : starEach [b] X.env = [(false, eval b X.env)] := by rfl) : PI X te (.Call (.Name "range" p) [a, b] [] pos) (iM P E (i2 range2 ma mb)) := by
  refine PI.imp (pi_range2 hg hm (pa_cons ha (pa_cons hb pa_nil he2) he1) hs hs2) fun σ H R ⟨g, ρ, r, h⟩ => ?_
  refine ⟨g, ρ, r, bindG (R := RVP P) (R' := RJ P) h fun sv ρ1 v H1 r1 s1 f1 q1 h1 => ?_⟩
  refine ⟨g, ρ1, r1, bindG (R := RVP P) (R' := RJ P) h1 fun sw ρ2 w H2 r2 s2 f2 q2 h2 => ?_⟩
  obtain ⟨x, ex, h2⟩ := toB_some h2
  obtain ⟨y, ey, h2⟩ := toB_some h2
  obtain ⟨xs, exs, h2⟩ := opt_of h2
  obtain ⟨i, j, rfl, rfl, hn, rfl⟩ := range2_inv exs
  obtain ⟨n1, n2⟩ := small62_of hn.1
  obtain ⟨n3, n4⟩ := small62_of hn.2
  cases (q1.later s2 f2).keep ex
  cases q2.keep ey
  exact ⟨i, j, rfl, ⟨n1, n2, n3, n4⟩, h2 _ H2 r2 (.refl _) (.refl _ _) (jok_range i (j - i).toNat)⟩
end
end MP
end

section
set_option Elab.async false
set_option linter.all false
set_option maxRecDepth 100000
set_option maxHeartbeats 4000000
set_option autoImplicit false
namespace MP
open PySem PySem.Spec L2

/-! ### slots forgotten and put back -/
theorem set_get {α : Type} {l : List α} {i j : Nat} {x : α} : (l.set i x)[j]? = if i = j ∧ j < l.length then some x else l[j]? := by
  by_cases h : i = j
  · subst h
    by_cases h2 : i < l.length
    · rw [if_pos ⟨rfl, h2⟩, List.getElem?_set_self h2]
    · rw [if_neg (fun z => h2 z.2), List.getElem?_eq_none (by rw [List.length_set]; omega), List.getElem?_eq_none (by omega)]
  · rw [if_neg (fun z => h z.1), List.getElem?_set_ne h]
theorem wipe_get {σ : St} : ∀ {vs : List Nat} {j : Nat}, (wipe σ vs)[j]? = if j ∈ vs ∧ j < σ.length then some none else σ[j]?
  | [], j => by rw [if_neg (by simp)]; rfl
  | v :: vs, j => by
    show ((wipe σ vs).set v none)[j]? = _
    rw [set_get, wipe_length, wipe_get (vs := vs)]
    by_cases h : v = j
    · subst h
      by_cases h2 : v < σ.length
      · rw [if_pos ⟨rfl, h2⟩, if_pos ⟨List.mem_cons_self, h2⟩]
      · rw [if_neg (fun z => h2 z.2), if_neg (fun z => h2 z.2), if_neg (fun z => h2 z.2)]
    · rw [if_neg (fun z => h z.1)]
      by_cases h3 : j ∈ vs ∧ j < σ.length
      · rw [if_pos h3, if_pos ⟨List.mem_cons_of_mem _ h3.1, h3.2⟩]
      · rw [if_neg h3, if_neg (fun z => h3 ⟨(List.mem_cons.mp z.1).elim (fun e => (h e.symm).elim) id, z.2⟩)]
theorem wipeE_length {ρ : En} : ∀ {vs : List Nat}, (wipeE ρ vs).length = ρ.length
  | [] => rfl
  | v :: vs => by
    show ((wipeE ρ vs).set v none).length = _
    rw [List.length_set, wipeE_length]
theorem wipeE_get {ρ : En} : ∀ {vs : List Nat} {j : Nat}, (wipeE ρ vs)[j]? = if j ∈ vs ∧ j < ρ.length then some none else ρ[j]?
  | [], j => by rw [if_neg (by simp)]; rfl
  | v :: vs, j => by
    show ((wipeE ρ vs).set v none)[j]? = _
    rw [set_get, wipeE_length, wipeE_get (vs := vs)]
    by_cases h : v = j
    · subst h
      by_cases h2 : v < ρ.length
      · rw [if_pos ⟨rfl, h2⟩, if_pos ⟨List.mem_cons_self, h2⟩]
      · rw [if_neg (fun z => h2 z.2), if_neg (fun z => h2 z.2), if_neg (fun z => h2 z.2)]
    · rw [if_neg (fun z => h z.1)]
      by_cases h3 : j ∈ vs ∧ j < ρ.length
      · rw [if_pos h3, if_pos ⟨List.mem_cons_of_mem _ h3.1, h3.2⟩]
      · rw [if_neg h3, if_neg (fun z => h3 ⟨(List.mem_cons.mp z.1).elim (fun e => (h e.symm).elim) id, z.2⟩)]
theorem back_length {ρ ρ' : En} : ∀ {vs : List Nat}, (back ρ ρ' vs).length = ρ'.length
  | [] => rfl
  | v :: vs => by
    show ((back ρ ρ' vs).set v _).length = _
    rw [List.length_set, back_length]
theorem back_get {ρ ρ' : En} (hl : ρ'.length = ρ.length) : ∀ {vs : List Nat} {j : Nat}, (back ρ ρ' vs)[j]? = if j ∈ vs then ρ[j]? else ρ'[j]?
  | [], j => by rw [if_neg (by simp)]; rfl
  | v :: vs, j => by
    show ((back ρ ρ' vs).set v (ρ[v]?.getD none))[j]? = _
    rw [set_get, back_length, back_get hl (vs := vs), hl]
    by_cases h : v = j
    · subst h
      rw [if_pos List.mem_cons_self]
      by_cases h2 : v < ρ.length
      · rw [if_pos ⟨rfl, h2⟩, List.getElem?_eq_getElem h2]
        rfl
      · rw [if_neg (fun z => h2 z.2)]
        have e1 : ρ[v]? = none := List.getElem?_eq_none (by omega)
        have e2 : ρ'[v]? = none := List.getElem?_eq_none (by omega)
        rw [e1, e2]
        split <;> rfl
    · rw [if_neg (fun z => h z.1)]
      by_cases h3 : j ∈ vs
      · rw [if_pos h3, if_pos (List.mem_cons_of_mem _ h3)]
      · rw [if_neg h3, if_neg (fun z => (List.mem_cons.mp z).elim (fun e => h e.symm) h3)]
theorem plainAt_of {ρ : En} {vs : List Nat} (h : plainAt ρ vs = true) {j : Nat} (hj : j ∈ vs) : cellAt ρ j = none ∧ j < ρ.length := by
  unfold plainAt at h
  rw [List.all_eq_true] at h
  have q := h j hj
  rw [Bool.and_eq_true, decide_eq_true_eq, Option.isNone_iff_eq_none] at q
  exact q
theorem cellAt_eq {ρ ρ' : En} {j : Nat} (h : ρ[j]? = ρ'[j]?) : cellAt ρ j = cellAt ρ' j := by
  unfold cellAt
  rw [h]
section
variable {K : Fg} {g : Gh} {H0 H H1 H' H4 : Hp} {σ σ' σ2 : St} {ρ ρ' ρ2 ρc : En} {vs : List Nat}
theorem cellAt_wipe (hp : plainAt ρ vs = true) (j : Nat) : cellAt (wipeE ρ vs) j = cellAt ρ j := by
  by_cases h : j ∈ vs
  · obtain ⟨h1, h2⟩ := plainAt_of hp h
    rw [h1]
    unfold cellAt
    rw [wipeE_get, if_pos ⟨h, h2⟩]
  · exact cellAt_eq (by rw [wipeE_get, if_neg (fun z => h z.1)])
theorem cell_notIn (hp : plainAt ρ vs = true) {j : Nat} {c : Cell} (e : cellAt ρ j = some c) : j ∉ vs := fun h => by
  rw [(plainAt_of hp h).1] at e
  cases e
theorem own_wipe (hp : plainAt ρ vs = true) {a : Addr} (h : Own (wipe σ vs) (wipeE ρ vs) a) : Own σ ρ a := by
  obtain ⟨j, c, h1, h2⟩ := h
  rw [cellAt_wipe hp] at h1
  rw [wipe_get, if_neg (fun z => cell_notIn hp h1 z.1)] at h2
  exact ⟨j, c, h1, h2⟩
theorem Rep.wipe (r : Rep K g H σ ρ) (hp : plainAt ρ vs = true) : Rep K g H (L2.wipe σ vs) (wipeE ρ vs) := by
  have gr : Grow (hid (Out' g σ ρ) H) (hid (Out' g (L2.wipe σ vs) (wipeE ρ vs)) H) := hid_grow fun a o n e => ⟨fun z => n (z.imp id (own_wipe hp)), e⟩
  have keepρ : ∀ {j : Nat} {s : SV}, (wipeE ρ vs)[j]? = some (some s) → ρ[j]? = some (some s) ∧ j ∉ vs := fun {j s} e => by
    rw [wipeE_get] at e
    split at e
    · cases e
    · rename_i hn
      refine ⟨e, fun z => hn ⟨z, ?_⟩⟩
      exact (List.getElem?_eq_some_iff.mp e).1
  have keepσ : ∀ {j : Nat}, j ∉ vs → (L2.wipe σ vs)[j]? = σ[j]? := fun {j} h => by rw [wipe_get, if_neg (fun z => h z.1)]
  refine ⟨by rw [wipe_length, wipeE_length]; exact r.len, fun j y e => ?_, fun j c e => ?_, fun j k c1 c2 a e1 e2 e3 e4 => ?_, r.pm, fun j c e => ?_, fun j a e => ?_, fun j c y e => ?_, fun j n e => ?_⟩
  · obtain ⟨e', hj⟩ := keepρ e
    obtain ⟨v, h1, h2⟩ := r.d j y e'
    exact ⟨v, by rw [keepσ hj]; exact h1, h2.grow gr⟩
  · rw [cellAt_wipe hp] at e
    obtain ⟨a, h1, h2, h3⟩ := r.cell j c e
    exact ⟨a, by rw [keepσ (cell_notIn hp e)]; exact h1, h2, h3.mono gr rfl⟩
  · rw [cellAt_wipe hp] at e1 e2
    rw [keepσ (cell_notIn hp e1)] at e3
    rw [keepσ (cell_notIn hp e2)] at e4
    exact r.inj j k c1 c2 a e1 e2 e3 e4
  · obtain ⟨e', hj⟩ := keepρ e
    obtain ⟨a, h1, h2⟩ := r.rf j c e'
    exact ⟨a, h1, by rw [keepσ hj]; exact h2⟩
  · obtain ⟨c, h1⟩ := r.rfs j a e
    exact ⟨c, by rw [wipeE_get, if_neg (fun z => cell_notIn hp (cellAt_ref h1) z.1)]; exact h1⟩
  · exact r.noexc j c y (keepρ e).1
  · exact r.nofn j n (keepρ e).1
/-- the block's slots are put back -/
theorem Rep.backed (r : Rep K g H σ ρ) (r4 : Rep K g H4 σ2 ρc) (hp : plainAt ρ vs = true) (ha : ∀ j, j ∉ vs → σ2[j]? = σ[j]?) (sc : SameC (wipeE ρ vs) ρc) (hl : ρc.length = ρ.length) (f : FrE H (Own σ ρ) H4) : Rep K g H4 σ (back ρ ρc vs) ∧ SameC ρ (back ρ ρc vs) ∧ ∀ a, Own σ (back ρ ρc vs) a → Own σ2 ρc a := by
  have cb : ∀ j, cellAt (back ρ ρc vs) j = cellAt ρc j := fun j => by
    by_cases h : j ∈ vs
    · have h1 : cellAt ρc j = none := by
        have q := sc j
        rw [cellAt_wipe hp, (plainAt_of hp h).1] at q
        exact Option.not_isSome_iff_eq_none.mp (by rw [q]; decide)
      rw [h1, ← (plainAt_of hp h).1]
      exact cellAt_eq (by rw [back_get hl, if_pos h])
    · exact cellAt_eq (by rw [back_get hl, if_neg h])
  have cn : ∀ {j : Nat} {c : Cell}, cellAt ρc j = some c → j ∉ vs := fun {j c} e h => by
    have q := sc j
    rw [cellAt_wipe hp, (plainAt_of hp h).1, e] at q
    cases q
  have sameOwn : ∀ a, Own σ (back ρ ρc vs) a → Own σ2 ρc a := fun a ⟨j, c, h1, h2⟩ => by
    rw [cb] at h1
    exact ⟨j, c, h1, by rw [ha j (cn h1)]; exact h2⟩
  have sc' : SameC ρ (back ρ ρc vs) := fun j => by
    rw [cb, sc j, cellAt_wipe hp]
  have gr : Grow (hid (Out' g σ2 ρc) H4) (hid (Out' g σ (back ρ ρc vs)) H4) := hid_grow fun a o n e => ⟨fun z => n (z.imp id (sameOwn a)), e⟩
  have gr2 : Grow (hid (Out' g σ ρ) H) (hid (Out' g σ (back ρ ρc vs)) H4) := hid_later sc' f
  refine ⟨⟨by rw [back_length, hl]; exact r.len, fun j y e => ?_, fun j c e => ?_, fun j k c1 c2 a e1 e2 e3 e4 => ?_, r4.pm, fun j c e => ?_, fun j a e => ?_, fun j c y e => ?_, fun j n e => ?_⟩, sc', sameOwn⟩
  · rw [back_get hl] at e
    split at e
    · obtain ⟨v, h1, h2⟩ := r.d j y e
      exact ⟨v, h1, h2.grow gr2⟩
    · rename_i hj
      obtain ⟨v, h1, h2⟩ := r4.d j y e
      exact ⟨v, by rw [← ha j hj]; exact h1, h2.grow gr⟩
  · rw [cb] at e
    obtain ⟨a, h1, h2, h3⟩ := r4.cell j c e
    exact ⟨a, by rw [← ha j (cn e)]; exact h1, h2, h3.mono gr rfl⟩
  · rw [cb] at e1 e2
    exact r4.inj j k c1 c2 a e1 e2 (by rw [ha j (cn e1)]; exact e3) (by rw [ha k (cn e2)]; exact e4)
  · rw [back_get hl] at e
    split at e
    · rename_i hj
      exact (cell_notIn hp (cellAt_ref e) hj).elim
    · rename_i hj
      obtain ⟨a, h1, h2⟩ := r4.rf j c e
      exact ⟨a, h1, by rw [← ha j hj]; exact h2⟩
  · obtain ⟨c, h1⟩ := r4.rfs j a e
    exact ⟨c, by rw [back_get hl, if_neg (cn (cellAt_ref h1))]; exact h1⟩
  · rw [back_get hl] at e
    split at e
    · exact r.noexc j c y e
    · exact r4.noexc j c y e
  · rw [back_get hl] at e
    split at e
    · exact r.nofn j n e
    · exact r4.nofn j n e
/-- a protected object is written -/
theorem Rep.upd_pm {p : Addr} {o : HO} (r : Rep K g H σ ρ) (hp : g.Pm p) : Rep K g (upd H p o) σ ρ := by
  have gr : Grow (hid (Out' g σ ρ) H) (hid (Out' g σ ρ) (upd H p o)) := hid_grow fun a u n e => ⟨n, by rw [upd_ne fun z => n (.inl (by rw [z]; exact hp))]; exact e⟩
  refine ⟨r.len, fun i x h => ?_, fun i c h => ?_, r.inj, fun a h => ?_, r.rf, r.rfs, r.noexc, r.nofn⟩
  · obtain ⟨v, h1, h2⟩ := r.d i x h
    exact ⟨v, h1, h2.grow gr⟩
  · obtain ⟨a, h1, h2, h3⟩ := r.cell i c h
    exact ⟨a, h1, h2, h3.mono gr (upd_ne fun z => h2 (by rw [z]; exact hp))⟩
  · by_cases e : a = p
    · exact ⟨o, by rw [e]; exact upd_same⟩
    · obtain ⟨u, q⟩ := r.pm a h
      exact ⟨u, by rw [upd_ne e]; exact q⟩
end

mutual
theorem tgSet_cell : ∀ {tg : Tg} {x : D} {ρ ρ' : En}, tgSet tg x ρ = some ρ' → (∀ j ∈ tg.slots, cellAt ρ j = none) → ∀ j, cellAt ρ' j = cellAt ρ j
  | .n i, x, ρ, ρ', e, h, j => by
    unfold tgSet at e
    split at e
    · rename_i hf
      cases e
      by_cases hj : i = j
      · subst hj
        rw [cellAt_set_d (free_lt hf), h i (List.mem_singleton.mpr rfl)]
      · rw [cellAt_set_ne hj]
    · cases e
  | .t ts, x, ρ, ρ', e, h, j => by
    cases x with
    | tuple xs => exact tgSets_cell (tgs := ts) (xs := xs) (show tgSets ts xs ρ = some ρ' from e) h j
    | _ => cases e
theorem tgSets_cell : ∀ {tgs : List Tg} {xs : List D} {ρ ρ' : En}, tgSets tgs xs ρ = some ρ' → (∀ j ∈ tgSlots tgs, cellAt ρ j = none) → ∀ j, cellAt ρ' j = cellAt ρ j
  | [], [], ρ, ρ', e, h, j => by
    unfold tgSets at e
    cases e
    rfl
  | [], _ :: _, ρ, ρ', e, h, j => by unfold tgSets at e; cases e
  | _ :: _, [], ρ, ρ', e, h, j => by unfold tgSets at e; cases e
  | t :: ts, x :: xs, ρ, ρ', e, h, j => by
    unfold tgSets at e
    cases e1 : tgSet t x ρ with
    | none => rw [e1] at e; cases e
    | some ρ1 =>
      rw [e1] at e
      have q := tgSet_cell e1 fun j hj => h j (List.mem_append_left _ hj)
      exact (tgSets_cell e (fun j hj => (q j).trans (h j (List.mem_append_right _ hj))) j).trans (q j)
end
theorem plainAt_same {ρ ρ' : En} {vs : List Nat} (h : plainAt ρ vs = true) (s : SameC ρ ρ') (l : ρ'.length = ρ.length) : plainAt ρ' vs = true := by
  unfold plainAt
  rw [List.all_eq_true]
  intro j hj
  obtain ⟨h1, h2⟩ := plainAt_of h hj
  have q := s j
  rw [h1] at q
  rw [Bool.and_eq_true, decide_eq_true_eq, Option.isNone_iff_eq_none]
  exact ⟨Option.not_isSome_iff_eq_none.mp (by rw [q]; decide), by omega⟩
/-- nothing is raised -/
abbrev E00 : St → XK := fun _ _ _ _ => False
theorem noRaise_ok' {α β : Type} {R : Gh → Hp → Hp → St → En → β → SV → Prop} {P : Pk} {E : St → XK} {g : Gh} {σ : St} {ρ : En} {H0 H : Hp} {Q : β → Hp → Prop} {o : Out α} {f : α → En → Out SV} (h : PostG R P E g σ ρ H0 H Q (noRaise o f)) : ∃ a ρ', o = .ok a ρ' ∧ PostG R P E g σ ρ H0 H Q (f a ρ') := by
  unfold noRaise at h
  split at h
  · exact ⟨_, _, rfl, h⟩
  · exact h.elim
section
variable {X : Cx} {P : Pk} {E : St → XK} {elt te iter : Expr} {ifs : List Expr} {scope : Scope} {own : List (Str × Nat)} {tg : Tg} {it : MI} {t : MT} {e : ME} {pos : Pos}
theorem PTs.imp {X : Cx} {es : List Expr} {t t' : TT} (h : PTs X es t) (k : ∀ σ H Q, t' σ H Q → t σ H Q) : PTs X es t' := ⟨fun pins s σ H Q I q => h.run pins s σ H Q I (k σ H Q q)⟩
theorem f_nil : PTs X [] (tT P E mYes) := PTs.imp pts_nil fun σ H Q ⟨g, ρ, r, h⟩ => h true H r (.refl _) (.refl _ _) rfl
theorem f_one {c : Expr} (h : PT X c (tT P E t)) : PTs X [c] (tT P E t) := pts_one h
theorem comp_of (vs : List Nat) : ∀ σ H Q, tM P E (mComp vs tg it t e) σ H Q → tLc (iM P E it) (gT P tg) (tT P E00 t) (tM P E00 e) vs σ H Q := fun σ H Q ⟨g, ρ, rp, h⟩ => by
  refine ⟨g, ρ, rp, bindG' (R := RJ P) (R' := RVP P) h fun xs ρ1 J H1 _ r1 s1 f1 q1 h1 => ?_⟩
  have h1' : PostE P E g σ ρ1 H H1 Q (if (plainAt ρ1 vs && tgIn tg vs && decide (xs.length ≤ 16777216)) = true then compGo vs tg t e xs [] ρ1 else .stuck) := h1
  by_cases hc : (plainAt ρ1 vs && tgIn tg vs && decide (xs.length ≤ 16777216)) = true
  case neg =>
    rw [if_neg hc] at h1'
    exact h1'.elim
  rw [if_pos hc] at h1'
  rw [Bool.and_eq_true, Bool.and_eq_true, decide_eq_true_eq] at hc
  obtain ⟨⟨hpl, htg⟩, hlen⟩ := hc
  have htg' : ∀ j, j ∈ tg.slots → j ∈ vs := fun j hj => by
    unfold tgIn at htg
    rw [List.all_eq_true] at htg
    exact List.contains_iff_mem.mp (htg j hj)
  intro Dn hD
  have hD0 : H Dn = none := f1.free Dn hD
  have r1' : Rep P.K (g.add Dn) (upd H1 Dn (.lst [])) σ ρ1 := r1.add_new hD (.new hD) ⟨_, upd_same⟩
  refine ⟨fun i m H2 => ∃ ρ2 av ad, m = xs.length - i ∧ i ≤ xs.length ∧ Rep P.K (g.add Dn) H2 σ ρ2 ∧ SameC ρ1 ρ2 ∧ FrE H1 (Own σ ρ1) H2 ∧ H2 Dn = some (.lst av) ∧ RpAll P.K (hid (Out' (g.add Dn) σ ρ2) H2) av ad ∧ av.length ≤ i ∧ plainAt ρ2 vs = true ∧ PostE P E g σ ρ1 H H1 Q (compGo vs tg t e (xs.drop i) ad ρ2),
    ⟨_, ρ1, [], [], rfl, Nat.zero_le _, r1', .refl _, .of_grow (.new hD), upd_same, .nil, Nat.le_refl _, hpl, h1'⟩, ?_⟩
  rintro i m H2 ⟨ρ2, av, ad, rfl, hi, r2, s2, f2, hDn, ra, hal, hp2, h2⟩
  have lt2 : Later (Out' g σ ρ1) H1 H2 := fun a o e n => f2.keep a o e fun z => n (.inr z)
  have hnD : ¬ g.Pm Dn := fun z => by
    obtain ⟨o, eo⟩ := r1.pm Dn z
    rw [hD] at eo
    cases eo
  have nOwn : ∀ {σ' : St} {ρ' : En} {H' : Hp}, Rep P.K (g.add Dn) H' σ' ρ' → ¬ Own σ' ρ' Dn := fun r' ⟨j, c, z1, z2⟩ => by
    obtain ⟨a, w1, w2, _⟩ := r'.cell j c z1
    rw [z2] at w1
    cases w1
    exact w2 (.inr rfl)
  by_cases hlt : i < xs.length
  · rw [drop_cons hlt] at h2
    refine .inr ⟨q1.go H2 lt2 i hlt, fun H3 => ∃ ρ2 av ad, i + 1 ≤ xs.length ∧ Rep P.K (g.add Dn) H3 σ ρ2 ∧ SameC ρ1 ρ2 ∧ FrE H1 (Own σ ρ1) H3 ∧ H3 Dn = some (.lst av) ∧ RpAll P.K (hid (Out' (g.add Dn) σ ρ2) H3) av ad ∧ av.length ≤ i + 1 ∧ plainAt ρ2 vs = true ∧ PostE P E g σ ρ1 H H1 Q (compGo vs tg t e (xs.drop (i + 1)) ad ρ2),
      fun H3 ⟨ρ2, av, ad, z⟩ => ⟨xs.length - (i + 1), by omega, ρ2, av, ad, rfl, z⟩, fun v H3 y => ?_⟩
    obtain ⟨gr, N, hN, rv⟩ := q1.yld H2 lt2 i xs[i] v H3 (List.getElem?_eq_getElem hlt) y
    have r3 := r2.grow gr
    have r3w := r3.wipe hp2
    have out2 : ∀ a o, ¬ Out' g σ ρ1 a → H1 a = some o → ¬ Out' (g.add Dn) (wipe σ vs) (wipeE ρ2 vs) a := fun a o n e z => z.elim (fun z => z.elim (fun z => n (.inl z)) fun z => by rw [z, hD] at e; cases e) fun z => n (.inr (s2.symm.own (own_wipe hp2 z)))
    have rv' : Rp P.K (hid (Out' (g.add Dn) (wipe σ vs) (wipeE ρ2 vs)) H3) v xs[i] := rv.grow (joinN_out hN (fun a z => (r2.wipe hp2).out_some z) lt2 gr out2)
    unfold compGo at h2
    cases e1 : tgSet tg xs[i] (wipeE ρ2 vs) with
    | none => rw [e1] at h2; exact h2.elim
    | some ρa =>
      rw [e1] at h2
      obtain ⟨b, ρb, eb, h3⟩ := noRaise_ok' h2
      refine ⟨g.add Dn, wipeE ρ2 vs, _, ρa, r3w, rv', e1, fun σ3 r3' o3 ⟨l3, a3⟩ => ?_⟩
      have hlρ : ρ2.length = σ.length := r2.len.symm
      have a3' : ∀ j, j ∉ vs → σ3[j]? = σ[j]? := fun j hj => by rw [a3 j fun z => hj (htg' j z), wipe_get, if_neg (fun z => hj z.1)]
      refine ⟨?_, g.add Dn, ρa, r3', ?_⟩
      · apply List.ext_getElem?
        intro j
        rw [wipe_get, wipe_get]
        rw [wipe_length] at l3
        by_cases hj : j ∈ vs
        · by_cases hjl : j < σ.length
          · rw [if_pos ⟨hj, by omega⟩, if_pos ⟨hj, hjl⟩]
          · rw [if_neg (fun z => by omega), if_neg (fun z => hjl z.2), List.getElem?_eq_none (by omega), List.getElem?_eq_none (by omega)]
        · rw [if_neg (fun z => hj z.1), if_neg (fun z => hj z.1), a3' j hj]
      · rw [eb]
        intro b' H4 r4 s4 f4 q4
        subst q4
        -- the target sets no cell
        have scA : SameC (wipeE ρ2 vs) ρa := fun j => by rw [tgSet_cell e1 (fun j hj => by rw [cellAt_wipe hp2]; exact (plainAt_of hp2 (htg' j hj)).1) j]
        have lnA : ρa.length = ρ2.length := by have := r3'.len; rw [wipe_length] at l3; omega
        have lnB : ρb.length = ρ2.length := by have := r4.len; rw [wipe_length] at l3; omega
        have ownA : ∀ a, Own σ3 ρa a → Own σ ρ2 a := fun a z => own_wipe hp2 (o3 a z)
        have fA : FrE H2 (Own σ ρ2) H4 := (FrE.of_grow (M := Own σ ρ2) gr).trans f4 ownA
        have f14 : FrE H1 (Own σ ρ1) H4 := f2.trans fA fun a z => s2.symm.own z
        have hDn4 : H4 Dn = some (.lst av) := fA.keep Dn _ hDn (nOwn r2)
        cases b' with
        | false =>
          rw [if_neg Bool.false_ne_true]
          rw [if_neg Bool.false_ne_true] at h3
          obtain ⟨rb, sb, _⟩ := r2.backed r4 hp2 a3' (scA.trans s4) lnB fA
          exact ⟨back ρ2 ρb vs, av, ad, hlt, rb, s2.trans sb, f14, hDn4, ra.grow (hid_later sb fA), by omega, plainAt_same hp2 sb (by rw [back_length]; exact lnB), h3⟩
        | true =>
          rw [if_pos rfl]
          rw [if_pos rfl] at h3
          obtain ⟨sv, ρc, ec, h3⟩ := noRaise_ok' h3
          obtain ⟨z, ez, h3⟩ := toB_some h3
          refine ⟨g.add Dn, ρb, r4, ?_⟩
          rw [ec]
          intro w H5 r5 s5 f5 q5
          have lnC : ρc.length = ρ2.length := by have := r5.len; rw [wipe_length] at l3; omega
          have ownB : ∀ a, Own σ3 ρb a → Own σ ρ2 a := fun a z => ownA a (s4.symm.own z)
          have fB : FrE H2 (Own σ ρ2) H5 := fA.trans f5 ownB
          have f15 : FrE H1 (Own σ ρ1) H5 := f2.trans fB fun a z => s2.symm.own z
          have hDn5 : H5 Dn = some (.lst av) := fB.keep Dn _ hDn (nOwn r2)
          obtain ⟨rb, sb, ob⟩ := r2.backed r5 hp2 a3' ((scA.trans s4).trans s5) lnC fB
          have hPD : (g.add Dn).Pm Dn := .inr rfl
          have grD : Grow (hid (Out' (g.add Dn) σ (back ρ2 ρc vs)) H5) (hid (Out' (g.add Dn) σ (back ρ2 ρc vs)) (upd H5 Dn (.lst (av ++ [w])))) := hid_grow fun a o n e => ⟨n, (upd_ne fun z => n (.inl (by rw [z]; exact hPD))).trans e⟩
          have rz : Rp P.K (hid (Out' (g.add Dn) σ (back ρ2 ρc vs)) H5) w z := (q5.keep ez).grow (hid_grow fun a o n e => ⟨fun z => n (z.imp id (ob a)), e⟩)
          have fU : FrE H1 (Own σ ρ1) (upd H5 Dn (.lst (av ++ [w]))) := ⟨fun a o e n => (upd_ne (ne_of_none e hD)).trans (f15.keep a o e n), fun a o e => by
            obtain ⟨o', e'⟩ := f15.stay a o e
            exact ⟨o', (upd_ne (ne_of_none e hD)).trans e'⟩⟩
          refine ⟨av, hDn5, ?_, back ρ2 ρc vs, av ++ [w], ad ++ [z], hlt, rb.upd_pm hPD, s2.trans sb, fU, upd_same, ((ra.grow (hid_later sb fB)).grow grD).append (.cons (rz.grow grD) .nil), by rw [List.length_append]; exact Nat.succ_le_succ hal, plainAt_same hp2 sb (by rw [back_length]; exact lnC), h3⟩
          rw [← line_eq]
          exact Nat.lt_of_lt_of_le (Nat.lt_of_le_of_lt hal hlt) hlen
  · have ei : i = xs.length := by omega
    subst ei
    rw [List.drop_length] at h2
    refine .inl ⟨q1.stop H2 lt2, h2 (.ref Dn) H2 (r2.less (g.le_add Dn)) s2 f2 ⟨⟨Dn, rfl, hD0, fun z => z.elim hnD (nOwn r2), av, hDn, ra.grow (hid_grow fun a o n e => ⟨fun z => n (z.elim (fun z => z.elim (fun z => .inl (.inl z)) .inr) fun z => .inl (.inr z)), e⟩)⟩, fun p ep => ?_⟩⟩
    cases ep
    exact r2
theorem s_lc (hc : X.calm = true) (hN : X.N.Nodup) (hi : PI X te iter (iM P E it)) (ok : BlkOk X.N X.env.scope scope own)
    (hg : ∀ (s : Shared) (H : Hp) (C : Addr) (cl : List (Str × Addr)) (fp : List Addr), PG (X.blk s H scope (compEnvC scope cl C X.env) fp) te (gT P tg))
    (ht : ∀ (s : Shared) (H : Hp) (C : Addr) (cl : List (Str × Addr)) (fp : List Addr), PTs (X.blk s H scope (compEnvC scope cl C X.env) fp) ifs (tT P E00 t))
    (he : ∀ (s : Shared) (H : Hp) (C : Addr) (cl : List (Str × Addr)) (fp : List Addr), PE (X.blk s H scope (compEnvC scope cl C X.env) fp) elt (tM P E00 e)) (hs : ∀ x, foldedSetIterable iter X.env x = pure x := by intro _; rfl) :
    PE X (.ListComp elt [⟨te, iter, ifs, 0⟩] scope pos) (tM P E (mComp (own.map (·.2)) tg it t e)) := PE.imp (pe_lc hc hN hi ok hg ht he hs) (comp_of _)
theorem z_lc (i : Nat) (k : Bool) {y : Str} {py spos : Pos} (hc : X.calm = true) (hN : X.N.Nodup) (hi : PI X te iter (iM P E it)) (ok : BlkOk X.N X.env.scope scope own)
    (hg : ∀ (s : Shared) (H : Hp) (C : Addr) (cl : List (Str × Addr)) (fp : List Addr), PG (X.blk s H scope (compEnvC scope cl C X.env) fp) te (gT P tg))
    (ht : ∀ (s : Shared) (H : Hp) (C : Addr) (cl : List (Str × Addr)) (fp : List Addr), PTs (X.blk s H scope (compEnvC scope cl C X.env) fp) ifs (tT P E00 t))
    (he : ∀ (s : Shared) (H : Hp) (C : Addr) (cl : List (Str × Addr)) (fp : List Addr), PE (X.blk s H scope (compEnvC scope cl C X.env) fp) elt (tM P E00 e))
    (hsw : swapsWith (.ListComp elt [⟨te, iter, ifs, 0⟩] scope pos) (some (.Name y py)) spos.line X.env = pure true) (hy : X.N[i]? = some y := by rfl) (hyl : X.env.scope.names.lookup y = some .local := by rfl) (hs : ∀ x, foldedSetIterable iter X.env x = pure x := by intro _; rfl) :
    PS X (.Assign [.Name y py] (.ListComp elt [⟨te, iter, ifs, 0⟩] scope pos) spos) (tS P E (sSet k i (mComp (own.map (·.2)) tg it t e))) := by
  refine PS.imp (ps_setLc hc hN hy hyl hsw hi ok hg ht he hs) fun D σ H ⟨g, ρ, r, h⟩ => ?_
  exact comp_of _ σ H _ ⟨g, ρ, r, stG (R := RVP P) h fun v ρ1 x H1 _ r1 s1 f1 q1 h1 => setS_post r1 s1 f1 q1 h1⟩
end
end MP
end

section
set_option Elab.async false
set_option linter.all false
set_option maxRecDepth 100000
set_option maxHeartbeats 4000000
set_option autoImplicit false
namespace MP
open PySem PySem.Spec L2

/-! ### a slot's own object is written -/
section
variable {K : Fg} {g : Gh} {H H' : Hp} {σ : St} {ρ : En} {i : Nat} {c c' : Cell} {a : Addr} {o : HO}
def HasCell (K : Fg) (Hh : Hp) (o : HO) : Cell → Prop
  | .lst ds => ∃ xs, o = .lst xs ∧ RpAll K Hh xs ds
  | .dct ds => ∃ xs, o = .dK xs ∧ RpKv K Hh xs ds
theorem cellAt_put (e : cellAt ρ i = some c) : cellAt (putCell ρ i c') i = some c' ∧ ∀ j, i ≠ j → (putCell ρ i c')[j]? = ρ[j]? := by
  unfold cellAt at e
  unfold putCell
  split at e
  · rename_i h
    have hl := (List.getElem?_eq_some_iff.mp h).1
    refine ⟨?_, fun j hj => List.getElem?_set_ne hj⟩
    unfold cellAt
    rw [List.getElem?_set_self hl]
  · rename_i h
    have hl := (List.getElem?_eq_some_iff.mp h).1
    refine ⟨?_, fun j hj => List.getElem?_set_ne hj⟩
    unfold cellAt
    rw [List.getElem?_set_self hl]
  · cases e
theorem put_length : (putCell ρ i c').length = ρ.length := by
  unfold putCell
  split <;> first | rw [List.length_set] | rfl
theorem put_same (e : cellAt ρ i = some c) : SameC ρ (putCell ρ i c') := fun j => by
  obtain ⟨h1, h2⟩ := cellAt_put (c' := c') e
  by_cases h : i = j
  · subst h
    rw [h1, e]
    rfl
  · rw [cellAt_eq (h2 j h)]
theorem put_noncell (e : cellAt ρ i = some c) {s : SV} (hs : (∀ c, s ≠ .own c) ∧ ∀ c, s ≠ .ref c) {j : Nat} : (putCell ρ i c')[j]? = some (some s) → ρ[j]? = some (some s) := fun h => by
  obtain ⟨h1, h2⟩ := cellAt_put (c' := c') e
  by_cases hj : i = j
  · subst hj
    unfold cellAt at h1
    rw [h] at h1
    cases s with
    | own c => exact (hs.1 c rfl).elim
    | ref c => exact (hs.2 c rfl).elim
    | _ => cases h1
  · rw [h2 j hj] at h
    exact h
theorem put_ref (e : cellAt ρ i = some c) {j : Nat} : (∃ c1, (putCell ρ i c')[j]? = some (some (SV.ref c1))) ↔ ∃ c1, ρ[j]? = some (some (SV.ref c1)) := by
  by_cases hj : i = j
  · subst hj
    unfold cellAt at e
    unfold putCell
    split at e
    · rename_i h
      rw [h]
      have hl := (List.getElem?_eq_some_iff.mp h).1
      rw [List.getElem?_set_self hl]
      exact ⟨fun ⟨_, z⟩ => (nomatch z), fun ⟨_, z⟩ => (nomatch z)⟩
    · rename_i h
      rw [h]
      have hl := (List.getElem?_eq_some_iff.mp h).1
      rw [List.getElem?_set_self hl]
      exact ⟨fun _ => ⟨_, rfl⟩, fun _ => ⟨_, rfl⟩⟩
    · cases e
  · rw [(cellAt_put (c' := c') e).2 j hj]
theorem Rep.put (r : Rep K g H σ ρ) (e : cellAt ρ i = some c) (ea : σ[i]? = some (some (.ref a))) (ho : HasCell K (hid (Out' g σ ρ) H) o c') : Rep K g (upd H a o) σ (putCell ρ i c') ∧ SameC ρ (putCell ρ i c') ∧ FrE H (Own σ ρ) (upd H a o) := by
  obtain ⟨h1, h2⟩ := cellAt_put (c' := c') e
  have sc := put_same (c' := c') e
  have oa : Own σ ρ a := ⟨i, c, e, ea⟩
  have fr : FrE H (Own σ ρ) (upd H a o) := ⟨fun b u q n => (upd_ne fun z => n (by rw [z]; exact oa)).trans q, fun b u q => by
    by_cases hb : b = a
    · exact ⟨o, by rw [hb]; exact upd_same⟩
    · exact ⟨u, (upd_ne hb).trans q⟩⟩
  have gr : Grow (hid (Out' g σ ρ) H) (hid (Out' g σ (putCell ρ i c')) (upd H a o)) := hid_later sc fr
  refine ⟨⟨by rw [put_length]; exact r.len, fun j y q => ?_, fun j d q => ?_, fun j k c1 c2 b e1 e2 e3 e4 => ?_, fun b h => ?_, fun j c1 q => ?_, fun j b q => ?_, fun j c1 y q => r.noexc j c1 y (put_noncell e (by refine ⟨fun _ z => ?_, fun _ z => ?_⟩ <;> cases z) q), fun j n q => r.nofn j n (put_noncell e (by refine ⟨fun _ z => ?_, fun _ z => ?_⟩ <;> cases z) q)⟩, sc, fr⟩
  · obtain ⟨v, q1, q2⟩ := r.d j y (put_noncell e (by refine ⟨fun _ z => ?_, fun _ z => ?_⟩ <;> cases z) q)
    exact ⟨v, q1, q2.grow gr⟩
  · by_cases h : i = j
    · subst h
      rw [h1] at q
      cases q
      obtain ⟨b, q1, q2, _⟩ := r.cell i c e
      rw [ea] at q1
      cases q1
      refine ⟨a, ea, q2, ?_⟩
      cases c' with
      | lst ds => obtain ⟨xs, z1, z2⟩ := ho; exact ⟨xs, by rw [z1]; exact upd_same, z2.grow gr⟩
      | dct ds => obtain ⟨xs, z1, z2⟩ := ho; exact ⟨xs, by rw [z1]; exact upd_same, z2.grow gr⟩
    · rw [cellAt_eq (h2 j h)] at q
      obtain ⟨b, q1, q2, q3⟩ := r.cell j d q
      exact ⟨b, q1, q2, q3.mono gr (upd_ne fun z => h (r.inj i j c d a e q ea (by rw [← z]; exact q1)))⟩
  · obtain ⟨d1, z1⟩ := sc.symm.get e1
    obtain ⟨d2, z2⟩ := sc.symm.get e2
    exact r.inj j k d1 d2 b z1 z2 e3 e4
  · obtain ⟨u, q⟩ := r.pm b h
    exact fr.stay b u q
  · obtain ⟨c2, q'⟩ := (put_ref e).mp ⟨c1, q⟩
    exact r.rf j c2 q'
  · obtain ⟨c1, q'⟩ := r.rfs j b q
    exact (put_ref e).mpr ⟨c1, q'⟩
end

section
variable {X : Cx} {P : Pk} {E : St → XK} {a b : Expr} {ma mb : ME} {pos apos p2 : Pos}
theorem isL_of {ρ : En} {i : Nat} (h : isL ρ i = true) : ∃ xs, cellAt ρ i = some (.lst xs) := by
  unfold isL at h
  split at h
  · exact ⟨_, by assumption⟩
  · cases h
theorem mV_cell {ρ : En} {i : Nat} {c : Cell} (h : cellAt ρ i = some c) : mV i ρ = .ok (.pk i) ρ := by
  unfold cellAt at h
  unfold mV
  split at h
  · rename_i e; rw [e]
  · rename_i e; rw [e]
  · cases h
theorem cellB_some {β α : Type} {R : Gh → Hp → Hp → St → En → β → α → Prop} {g : Gh} {σ : St} {ρ ρ1 : En} {H0 H : Hp} {Q : β → Hp → Prop} {i : Nat} {f : Cell → Out α} (h : PostG R P E g σ ρ H0 H Q (cellB ρ1 i f)) : ∃ c, cellAt ρ1 i = some c ∧ PostG R P E g σ ρ H0 H Q (f c) := by
  unfold cellB at h
  split at h
  · exact ⟨_, by assumption, h⟩
  · exact h.elim
/-- a method with one argument that changes the list of a slot -/
theorem s_m1 (i : Nat) {id : String} {name x : Str} {f : Cell → D → Option (Cell × D)} {r : V → List V → Hp → VK → Prop} (hm : MtR X id r) (slot : Slot "list" name id) (hty : typeOf (.builtin id) = pure (.type "method_descriptor"))
    (hr : ∀ (Hh H : Hp) (l : Addr) (c : Cell) (v : V) (y : D) (c' : Cell) (z : D) (Q : VK), CellR P.K Hh H l c → Rp P.K Hh v y → f c y = some (c', z) → (∀ w o, HasCell P.K Hh o c' → Rp P.K Hh w z → Q w (upd H l o)) → r (.ref l) [v] H Q)
    (ho : PE X (.Name x p2) (tM P E (mV i))) (ha : PE X a (tM P E ma)) (hK : X.K = P.K := by rfl)
    (hbase : attributeBase (.Name x p2) name X.env (eval (.Name x p2) X.env) = eval (.Name x p2) X.env := by rfl)
    (hfew : ((backTo pos (starEach [a] X.env)).all (fun x => !x.1) && (backToKw pos (keywordEach [] X.env)).all (fun x => x.1.isSome)
      && decide ([a].length + ([] : List Keyword).length + (if ([] : List Keyword).isEmpty then 0 else 1) < 30)) = true := by rfl)
    (hline : (apos.endLine == pos.line) = true := by rfl) (hs : starEach [a] X.env = (false, eval a X.env) :: starEach [] X.env := by rfl) (hplain : (backTo pos (starEach [] X.env)).any (·.1) = false := by rfl) :
    PE X (.Call (.Attribute (.Name x p2) name apos) [a] [] pos) (tM P E (mCell1 i f ma)) := by
  obtain ⟨K, CA⟩ := P
  subst hK
  refine PE.imp (pe_bm F.plainAttrs_list slot hty hm ho (pa_cons ha pa_nil hs) hbase hfew hline hs hplain) fun σ H Q ⟨g, ρ, rp, h⟩ => ?_
  have h' : PostE ⟨X.K, CA⟩ E g σ ρ H H Q (if isL ρ i = true then (ma ρ).bind fun v ρ1 => toB v fun x => cellB ρ1 i fun c => match f c x with
    | some (c', r) => .ok (.d r) (putCell ρ1 i c')
    | none => .stuck
    else .stuck) := h
  by_cases hl : isL ρ i = true
  case neg =>
    rw [if_neg hl] at h'
    exact h'.elim
  rw [if_pos hl] at h'
  obtain ⟨xs0, e0⟩ := isL_of hl
  refine ⟨g, ρ, rp, ?_⟩
  rw [mV_cell e0]
  intro v H1 r1 s1 f1 q1
  obtain ⟨c0, z1, z2⟩ := q1.b
  obtain ⟨l, y1, y2, y3⟩ := r1.cell i _ e0
  rw [z2] at y1
  cases y1
  obtain ⟨vs0, w1, _⟩ := y3
  refine ⟨.inl ⟨rfl, vs0, .of w1⟩, g, ρ, r1, bindG (R := RVP _) (R' := RVP _) (h'.step s1 f1) fun sv ρ2 u H2 r2 s2 f2 q2 h2 => ?_⟩
  obtain ⟨x, ex, h2⟩ := toB_some h2
  obtain ⟨c, ec, h2⟩ := cellB_some h2
  obtain ⟨l', y1', y2', y3'⟩ := r2.cell i c ec
  rw [z2] at y1'
  cases y1'
  cases e5 : f c x with
  | none => rw [e5] at h2; exact h2.elim
  | some p =>
    obtain ⟨c', z⟩ := p
    rw [e5] at h2
    refine hr _ H2 l c u x c' z Q y3' (q2.keep ex) e5 fun w o ho rz => ?_
    obtain ⟨r3, s3, f3⟩ := r2.put ec z2 ho
    exact h2 w _ r3 s3 f3 (.d (rz.grow (hid_later s3 f3)))
theorem s_m0 (i : Nat) {id : String} {name x : Str} {f : Cell → Option (Cell × D)} {r : V → List V → Hp → VK → Prop} (hm : MtR X id r) (slot : Slot "list" name id) (hty : typeOf (.builtin id) = pure (.type "method_descriptor"))
    (hr : ∀ (Hh H : Hp) (l : Addr) (c : Cell) (c' : Cell) (z : D) (Q : VK), CellR P.K Hh H l c → f c = some (c', z) → (∀ w o, HasCell P.K Hh o c' → Rp P.K Hh w z → Q w (upd H l o)) → r (.ref l) [] H Q)
    (ho : PE X (.Name x p2) (tM P E (mV i))) (hK : X.K = P.K := by rfl)
    (hbase : attributeBase (.Name x p2) name X.env (eval (.Name x p2) X.env) = eval (.Name x p2) X.env := by rfl) (hline : (apos.endLine == pos.line) = true := by rfl) :
    PE X (.Call (.Attribute (.Name x p2) name apos) [] [] pos) (tM P E (mCell0 i f)) := by
  obtain ⟨K, CA⟩ := P
  subst hK
  refine PE.imp (pe_bm0 F.plainAttrs_list slot hty hm ho hbase hline) fun σ H Q ⟨g, ρ, rp, h⟩ => ?_
  have h' : PostE ⟨X.K, CA⟩ E g σ ρ H H Q (if isL ρ i = true then cellB ρ i fun c => match f c with
    | some (c', r) => .ok (.d r) (putCell ρ i c')
    | none => .stuck
    else .stuck) := h
  by_cases hl : isL ρ i = true
  case neg =>
    rw [if_neg hl] at h'
    exact h'.elim
  rw [if_pos hl] at h'
  obtain ⟨xs0, e0⟩ := isL_of hl
  refine ⟨g, ρ, rp, ?_⟩
  rw [mV_cell e0]
  intro v H1 r1 s1 f1 q1
  obtain ⟨c0, z1, z2⟩ := q1.b
  obtain ⟨l, y1, y2, y3⟩ := r1.cell i _ e0
  rw [z2] at y1
  cases y1
  have y3' := y3
  obtain ⟨vs0, w1, _⟩ := y3'
  refine ⟨.inl ⟨rfl, vs0, .of w1⟩, ?_⟩
  have h2 := h'.step s1 f1
  obtain ⟨c, ec, h2⟩ := cellB_some h2
  rw [e0] at ec
  cases ec
  cases e5 : f (.lst xs0) with
  | none => rw [e5] at h2; exact h2.elim
  | some p =>
    obtain ⟨c', z⟩ := p
    rw [e5] at h2
    refine hr _ H1 l _ c' z Q y3 e5 fun w o ho rz => ?_
    obtain ⟨r3, s3, f3⟩ := r1.put e0 z2 ho
    exact h2 w _ r3 s3 f3 (.d (rz.grow (hid_later s3 f3)))
theorem s_app (i : Nat) {x : Str} (ho : PE X (.Name x p2) (tM P E (mV i))) (ha : PE X a (tM P E ma)) (hK : X.K = P.K := by rfl)
    (hbase : attributeBase (.Name x p2) "append" X.env (eval (.Name x p2) X.env) = eval (.Name x p2) X.env := by rfl)
    (hfew : ((backTo pos (starEach [a] X.env)).all (fun x => !x.1) && (backToKw pos (keywordEach [] X.env)).all (fun x => x.1.isSome)
      && decide ([a].length + ([] : List Keyword).length + (if ([] : List Keyword).isEmpty then 0 else 1) < 30)) = true := by rfl)
    (hline : (apos.endLine == pos.line) = true := by rfl) (hs : starEach [a] X.env = (false, eval a X.env) :: starEach [] X.env := by rfl) (hplain : (backTo pos (starEach [] X.env)).any (·.1) = false := by rfl) :
    PE X (.Call (.Attribute (.Name x p2) "append" apos) [a] [] pos) (tM P E (mCell1 i gApp ma)) := by
  refine s_m1 i mt_append F.slot_list_append F.type_list_append (fun Hh H l c v y c' z Q hc hv e k => ?_) ho ha hK hbase hfew hline hs hplain
  unfold gApp at e
  split at e
  · split at e
    · cases e
      obtain ⟨xs, e1, e2⟩ := hc
      exact ⟨l, xs, v, rfl, rfl, e1, by rw [e2.length, ← line_eq]; assumption, k _ _ ⟨_, rfl, e2.append (.cons hv .nil)⟩ .non⟩
    · cases e
  · cases e
theorem s_pop (i : Nat) {x : Str} (ho : PE X (.Name x p2) (tM P E (mV i))) (hK : X.K = P.K := by rfl)
    (hbase : attributeBase (.Name x p2) "pop" X.env (eval (.Name x p2) X.env) = eval (.Name x p2) X.env := by rfl) (hline : (apos.endLine == pos.line) = true := by rfl) :
    PE X (.Call (.Attribute (.Name x p2) "pop" apos) [] [] pos) (tM P E (mCell0 i gPop)) := by
  refine s_m0 i mt_pop F.slot_list_pop F.type_list_pop (fun Hh H l c c' z Q hc e k => ?_) ho hK hbase hline
  unfold gPop at e
  split at e
  · rename_i ds
    obtain ⟨xs, e1, e2⟩ := hc
    cases e3 : ds[ds.length - 1]? with
    | none => rw [e3] at e; cases e
    | some y =>
      rw [e3] at e
      cases e
      obtain ⟨v, q1, q2⟩ := e2.get e3
      exact ⟨l, xs, v, rfl, rfl, e1, by rw [e2.length]; exact q1, k _ _ ⟨_, rfl, e2.dropLast⟩ q2⟩
  · cases e
end
end MP
end

section
set_option Elab.async false
set_option linter.all false
set_option maxRecDepth 100000
set_option maxHeartbeats 4000000
set_option autoImplicit false
namespace MP
open PySem PySem.Spec L2

section
variable {X : Cx} {P : Pk} {E : St → XK} {a b : Expr} {es : List Expr} {ma mb : ME} {ms : List ME} {st : Stmt} {s : MS} {pos apos p2 p3 : Pos}
/-! ### x.extend(..) -/
theorem s_ext (i : Nat) {x : Str} (ho : PE X (.Name x p2) (tM P E (mV i))) (ha : PE X a (tM P E ma)) (hK : X.K = P.K := by rfl)
    (hbase : attributeBase (.Name x p2) "extend" X.env (eval (.Name x p2) X.env) = eval (.Name x p2) X.env := by rfl)
    (hfew : ((backTo pos (starEach [a] X.env)).all (fun x => !x.1) && (backToKw pos (keywordEach [] X.env)).all (fun x => x.1.isSome)
      && decide ([a].length + ([] : List Keyword).length + (if ([] : List Keyword).isEmpty then 0 else 1) < 30)) = true := by rfl)
    (hline : (apos.endLine == pos.line) = true := by rfl) (hs : starEach [a] X.env = (false, eval a X.env) :: starEach [] X.env := by rfl) (hplain : (backTo pos (starEach [] X.env)).any (·.1) = false := by rfl) :
    PE X (.Call (.Attribute (.Name x p2) "extend" apos) [a] [] pos) (tM P E (mExt i ma)) := by
  obtain ⟨K, CA⟩ := P
  subst hK
  refine PE.imp (pe_bm F.plainAttrs_list F.slot_list_extend F.type_list_extend mt_extend ho (pa_cons ha pa_nil hs) hbase hfew hline hs hplain) fun σ H Q ⟨g, ρ, rp, h⟩ => ?_
  unfold mExt at h
  by_cases hl : isL ρ i = true
  case neg =>
    rw [if_neg hl] at h
    exact h.elim
  rw [if_pos hl] at h
  obtain ⟨xs0, e0⟩ := isL_of hl
  refine ⟨g, ρ, rp, ?_⟩
  rw [mV_cell e0]
  intro v H1 r1 s1 f1 q1
  obtain ⟨c0, z1, z2⟩ := q1.b
  obtain ⟨l, y1, y2, y3⟩ := r1.cell i _ e0
  rw [z2] at y1
  cases y1
  obtain ⟨vs0, w1, _⟩ := y3
  refine ⟨.inl ⟨rfl, vs0, .of w1⟩, g, ρ, r1, bindG (R := RVP _) (R' := RVP _) (h.step s1 f1) fun sv ρ2 u H2 r2 s2 f2 q2 h2 => ?_⟩
  split at h2
  · rename_i ys
    have h3 : PostE ⟨X.K, CA⟩ E g σ ρ2 H H2 Q (extGo i ys ρ2) := h2
    obtain ⟨c, ec, h3⟩ := cellB_some h3
    obtain ⟨l', y1', y2', y3'⟩ := r2.cell i _ ec
    rw [z2] at y1'
    cases y1'
    cases c with
    | lst xs =>
      obtain ⟨vs1, e1, e2⟩ := y3'
      have h4 : PostE ⟨X.K, CA⟩ E g σ ρ2 H H2 Q (if xs.length + ys.length ≤ line then .ok (.d .none) (putCell ρ2 i (.lst (xs ++ ys))) else .stuck) := h3
      split at h4
      · rename_i hlen
        obtain ⟨p, rfl, n, no, ws, e3, e4⟩ := q2.b
        have e4' : RpAll X.K (hid (Out' g σ ρ2) H2) ws ys := e4.grow (hid_grow fun a o n e => ⟨fun z => n (.inl z), e⟩)
        refine ⟨l, p, vs1, ws, rfl, rfl, e1, e3, by rw [e2.length, e4.length, ← line_eq]; exact hlen, ?_⟩
        obtain ⟨r3, s3, f3⟩ := r2.put (o := .lst (vs1 ++ ws)) (c' := .lst (xs ++ ys)) ec z2 ⟨_, rfl, e2.append e4'⟩
        exact h4 .non _ r3 s3 f3 (.d .non)
      · exact h4.elim
    | dct ds => exact h3.elim
  · exact h2.elim
/-! ### x[k] = v -/
theorem ix_ixN {n : Nat} {i : Int} : ix n i = ixN n i := rfl
theorem z_item (i : Nat) {x : Str} (ho : PE X (.Name x p2) (tM P E (mV i))) (ha : PE X a (tM P E ma)) (hv : PE X b (tM P E mb))
    (hs : swapsWithSole [.Subscript (.Name x p2) a p3] b pos.line X.env = pure false := by rfl) (hw : swappedStores [.Subscript (.Name x p2) a p3] b X.env = pure none := by rfl)
    (h1 : (assignEach [.Subscript (.Name x p2) a p3] X.env).map (·.2) = [assign (.Subscript (.Name x p2) a p3) X.env] := by rfl)
    (hsub : ∀ v, assign (.Subscript (.Name x p2) a p3) X.env v = (do
      let ov ← holding [v] (eval (.Name x p2) X.env)
      let iv ← holding [v, ov] (eval a X.env)
      standAt p3
      holding [v, ov, iv] (setItem ov iv v)
      release [v, ov, iv] []) := by intro _; rfl) : PS X (.Assign [.Subscript (.Name x p2) a p3] b pos) (tS P E (sItem i ma mb)) := by
  refine PS.imp (ps_asg hv (pg_sub ho ha set_list hsub) hs hw h1) fun D σ H ⟨g, ρ, rp, h⟩ => ?_
  refine ⟨g, ρ, rp, stG (R := RVP P) h fun sw ρ1 w H1 _ r1 s1 f1 q1 h1 => ?_⟩
  have f1' := frS_of s1 f1
  have h1' : PostS P E g σ ρ H H D (if isL ρ1 i = true then (ma ρ1).st fun k ρ2 => itemGo i sw k ρ2 else .stuck) := h1
  by_cases hl : isL ρ1 i = true
  case neg =>
    rw [if_neg hl] at h1'
    exact h1'.elim
  rw [if_pos hl] at h1'
  obtain ⟨xs0, e0⟩ := isL_of hl
  refine ⟨g, ρ1, r1, ?_⟩
  rw [mV_cell e0]
  intro v H2 r2 s2 f2 q2
  obtain ⟨c1, z1, z2⟩ := q2.b
  have f2' := f1'.trans (frS_of s2 f2)
  refine ⟨g, ρ1, r2, stG (R := RVP P) (h1'.step f2') fun sk ρ2 k H3 _ r3 s3 f3 q3 h3 => ?_⟩
  rcases itemGo_inv (i := i) (w := sw) (k := sk) (ρ := ρ2) with e | ⟨y, n, xs, j, ey, rfl, ec, ej, e⟩
  · rw [e] at h3
    exact h3.elim
  · rw [e] at h3
    obtain ⟨l, y1, y2, vs, e1, e2⟩ := r3.cell i _ ec
    rw [z2] at y1
    cases y1
    have ekv : k = .int n := q3.is_int
    subst ekv
    have rw' := ((q1.later s2 f2).later s3 f3).keep ey
    obtain ⟨r4, s4, f4⟩ := r3.put (o := .lst (vs.set j w)) (c' := .lst (xs.set j y)) ec z2 ⟨_, rfl, e2.set rw' j⟩
    exact ⟨l, vs, n, j, rfl, rfl, e1, by rw [e2.length]; exact ej, h3 σ _ r4 ((frS_of s3 f3).trans (frS_of s4 f4))⟩
/-! ### x[k] op= v -/
theorem get_list : PGet X (rIxL X.K) := by
  intro pins s σ H x y v u Q I rx ry h
  obtain ⟨p, xs, i, z, rfl, rfl, hq, he, q⟩ := h
  cases rx
  obtain ⟨t, rfl⟩ := ry
  obtain ⟨its, rr, pl, hz⟩ := I.list hq
  obtain ⟨j, h1, h2, h3, h4, h5⟩ := atI_get he
  obtain ⟨w, ew, rw'⟩ := rr.get h2
  have hl := rr.length
  have hn := line63
  have done : EP X pins σ Q w s := ⟨z, H, I, rw', q⟩
  by_cases h0 : 0 ≤ i
  · have hj : i.toNat = j := by
      rw [seqIndex_of h0 h5] at h1
      exact Option.some.inj h1
    exact wpAny_getItem_list pl.isList h0 (by omega) (by rw [hj]; simpa using ew) done
  · have hj : (i + (its.toArray.size : Int)).toNat = j := by
      rw [seqIndex_neg (by omega) h4] at h1
      rw [List.size_toArray, ← hl]
      exact Option.some.inj h1
    exact wpAny_getItem_list_neg pl.isList (by omega) (by rw [List.size_toArray] <;> omega) (by omega) (by rw [hj]; simpa using ew) done
theorem z_augi (i : Nat) {op : Operator} {x : Str} {r : R2} {f : D → D → Option SV} (hop : PIp X op r) (hg : OpG r P.K f) (ho : PE X (.Name x p2) (tM P E (mV i))) (ha : PE X a (tM P E ma)) (hv : PE X b (tM P E mb)) (hK : X.K = P.K := by rfl)
    (hst : ∀ ov iv new, augStore a ov iv new = (do holding [new, ov, iv] (setItem ov iv new); release [new, ov, iv] []; pure .next) := by intros; rfl) : PS X (.AugAssign (.Subscript (.Name x p2) a p3) op b pos) (tS P E (sAugI i f ma mb)) := by
  obtain ⟨K, CA⟩ := P
  subst hK
  refine PS.imp (ps_augS ho ha get_list hv hop set_list hst) fun D σ H ⟨g, ρ, rp, h⟩ => ?_
  have h' : PostS ⟨X.K, CA⟩ E g σ ρ H H D (if isL ρ i = true then (ma ρ).st fun k ρ1 => match augGet i k ρ1 with
  | some x => (mb ρ1).st fun w ρ2 => augGo i f x k w ρ2
  | none => .stuck
  else .stuck) := h
  by_cases hl : isL ρ i = true
  case neg =>
    rw [if_neg hl] at h'
    exact h'.elim
  rw [if_pos hl] at h'
  obtain ⟨xs0, e0⟩ := isL_of hl
  refine ⟨g, ρ, rp, ?_⟩
  rw [mV_cell e0]
  intro v H1 r1 s1 f1 q1
  obtain ⟨c1, z1, z2⟩ := q1.b
  have f1' := frS_of s1 f1
  refine ⟨g, ρ, r1, stG (R := RVP _) (h'.step f1') fun sk ρ2 k H2 _ r2 s2 f2 q2 h2 => ?_⟩
  have f2' := frS_of s2 f2
  have h2' : PostS ⟨X.K, CA⟩ E g σ ρ H H1 D (match augGet i sk ρ2 with
  | some x => (mb ρ2).st fun w ρ2 => augGo i f x sk w ρ2
  | none => .stuck) := h2
  cases eg : augGet i sk ρ2 with
  | none => rw [eg] at h2'; exact h2'.elim
  | some x =>
    rw [eg] at h2'
    obtain ⟨n, xs, rfl, ec, ex⟩ := augGet_inv eg
    have ekv : k = .int n := q2.is_int
    subst ekv
    obtain ⟨l, y1, y2, vs, e1, e2⟩ := r2.cell i _ ec
    rw [z2] at y1
    cases y1
    obtain ⟨u, qu, ru⟩ := atD_of e2 ex
    refine ⟨l, vs, n, u, rfl, rfl, .of e1, qu, g, ρ2, r2, stG (R := RVP _) (h2'.step f2') fun sw ρ3 w H3 _ r3 s3 f3 q3 h3 => ?_⟩
    have f3' := frS_of s3 f3
    have h3' : PostS ⟨X.K, CA⟩ E g σ ρ2 H H2 D (augGo i f x (.d (.int n)) sw ρ3) := h3
    unfold augGo at h3'
    cases ev : view ρ3 sw with
    | none => rw [ev] at h3'; exact h3'.elim
    | some y =>
      rw [ev] at h3'
      have h4 : PostS ⟨X.K, CA⟩ E g σ ρ2 H H2 D (match (f x y).bind toD with
        | some z => itemGo i (.d z) (.d (.int n)) ρ3
        | none => .stuck) := h3'
      cases ef : f x y with
      | none => rw [ef] at h4; exact h4.elim
      | some sv =>
        cases et : toD sv with
        | none =>
          have et2 : ((f x y).bind toD) = none := by rw [ef]; exact et
          rw [et2] at h4
          exact h4.elim
        | some z =>
          have et2 : ((f x y).bind toD) = some z := by rw [ef]; exact et
          rw [et2] at h4
          have ru3 : Rp X.K (hid (Out' g σ ρ3) H3) u x := ru.grow (hid_later s3 f3)
          refine hg (Out' g σ ρ3) H3 u w x y sv _ (fun _ z => r3.out_some z) (ru3.top hid_le) (q3.top r3 ev) ef fun v' H4 gr rs => ?_
          have r4 := r3.grow gr
          have rv4 : RV X.K g H3 H4 σ ρ3 v' sv := r3.res gr rs
          have f4 : FrS H3 (Own σ ρ3) H4 (Own σ ρ3) := frS_of (.refl _) (.of_grow gr)
          have h5 : PostS ⟨X.K, CA⟩ E g σ ρ2 H H2 D (itemGo i (.d z) (.d (.int n)) ρ3) := h4
          rcases itemGo_inv (i := i) (w := .d z) (k := .d (.int n)) (ρ := ρ3) with e | ⟨y', n', xs', j, ey, en, ec', ej, e⟩
          · rw [e] at h5
            exact h5.elim
          · rw [e] at h5
            cases ey
            cases en
            obtain ⟨l', y1', y2', vs', e1', e2'⟩ := r4.cell i _ ec'
            rw [z2] at y1'
            cases y1'
            obtain ⟨r5, s5, f5⟩ := r4.put (o := .lst (vs'.set j v')) (c' := .lst (xs'.set j z)) ec' z2 ⟨_, rfl, e2'.set (rv4.keep et) j⟩
            exact ⟨l, vs', n, j, rfl, rfl, e1', by rw [e2'.length]; exact ej, h5 σ _ r5 ((f3'.trans f4).trans (frS_of s5 f5))⟩
end
end MP
end

section
set_option Elab.async false
set_option linter.all false
set_option maxRecDepth 100000
set_option maxHeartbeats 4000000
set_option autoImplicit false
namespace MP
open PySem PySem.Spec L2

section
variable {K : Fg} {g : Gh} {H0 H H1 H2 H' : Hp} {σ σ' : St} {ρ ρ' ρ1 : En} {v : V} {sv : SV} {x : D} {i j : Nat}
/-- kept over stores that came later -/
theorem RV.moved (q : RV K g H0 H1 σ ρ v sv) (f : FrS H1 (Own σ ρ) H2 (Own σ' ρ')) (r : Rep K (MP.gadd g v sv) H2 σ' ρ') {k : Bool} {w : SV} (hk : kept k sv = some w) : RV K g H0 H2 σ' ρ' v sv := by
  have hb := q.b
  have hx := q.x
  have out : ∀ a o, H1 a = some o → Out' g σ' ρ' a → Out' g σ ρ a := fun a o e z => z.elim .inl fun z => (f.new a z).elim .inr fun n => by rw [n] at e; cases e
  cases sv with
  | d x => exact .d (Rp.grow (hid_grow fun a o n e => ⟨fun z => n (out a o e z), f.keep a o e fun z => n (.inr z)⟩) hb)
  | own c =>
    obtain ⟨p, rfl, n, no, cr⟩ := hb
    obtain ⟨o, eo⟩ := cr.some
    refine ⟨⟨p, rfl, n, fun z => no (out p o eo z), cr.mono (hid_grow fun a o n e => ⟨fun z => n (z.imp (out a o e) id), f.keep a o e fun z => n (.inl (.inr z))⟩) ?_⟩, fun p' e => ?_⟩
    · rw [f.keep p o eo fun z => no (.inr z), eo]
    · cases e
      exact r
  | pk i => cases hk
  | ref _ => cases hk
  | exc _ _ => exact hb.elim
  | fn _ => exact hb.elim
/-- the slot's own object never changes from here on -/
theorem Rep.frz1 (r : Rep K g H σ ρ) (i : Nat) : Rep K g H σ (frz1 ρ i) ∧ ∀ a, Own σ (MP.frz1 ρ i) a → Own σ ρ a := by
  unfold MP.frz1
  split
  case h_2 => exact ⟨r, fun _ h => h⟩
  rename_i c e
  have hi : i < ρ.length := (List.getElem?_eq_some_iff.mp e).1
  have own : ∀ a, Own σ (ρ.set i (some (.d c.py))) a → Own σ ρ a := fun a ⟨k, c', h1, h2⟩ => by
    by_cases z : i = k
    · subst z
      rw [cellAt_set_d hi] at h1
      cases h1
    · rw [cellAt_set_ne z] at h1
      exact ⟨k, c', h1, h2⟩
  obtain ⟨p, e1, e2, e3⟩ := r.cell i c (cellAt_own e)
  have nown : ∀ z : Own σ (ρ.set i (some (.d c.py))) p, False := fun ⟨k, c', h1, h2⟩ => by
    by_cases z : i = k
    · subst z
      rw [cellAt_set_d hi] at h1
      cases h1
    · rw [cellAt_set_ne z] at h1
      exact z (r.inj i k c c' p (cellAt_own e) h1 e1 h2)
  have gr : Grow (hid (Out' g σ ρ) H) (hid (Out' g σ (ρ.set i (some (.d c.py)))) H) := hid_grow fun a o n q => ⟨fun z => n (z.imp id (own a)), q⟩
  refine ⟨⟨by rw [List.length_set]; exact r.len, fun j y q => ?_, fun j c' q => ?_, fun j k c1 c2 a q1 q2 q3 q4 => ?_, r.pm, fun j c' q => ?_, fun j a q => ?_, fun j c' y q => ?_, fun j n q => ?_⟩, own⟩
  · by_cases z : i = j
    · subst z
      rw [List.getElem?_set_self hi] at q
      cases q
      refine ⟨.ref p, e1, ?_⟩
      have hp : ∀ {o}, H p = some o → hid (Out' g σ (ρ.set i (some (.d c.py)))) H p = some o := fun q => hid_some.mpr ⟨fun z => z.elim e2 nown, q⟩
      cases c with
      | lst ds =>
        obtain ⟨xs, q1, q2⟩ := e3
        exact .lst (.of (hp q1)) (q2.grow gr)
      | dct ds =>
        obtain ⟨xs, q1, q2⟩ := e3
        exact .dic (hp q1) (q2.grow gr)
    · rw [List.getElem?_set_ne z] at q
      obtain ⟨w, h1, h2⟩ := r.d j y q
      exact ⟨w, h1, h2.grow gr⟩
  · by_cases z : i = j
    · subst z
      rw [cellAt_set_d hi] at q
      cases q
    · rw [cellAt_set_ne z] at q
      obtain ⟨a, h1, h2, h3⟩ := r.cell j c' q
      exact ⟨a, h1, h2, h3.mono gr rfl⟩
  · by_cases z : i = j
    · subst z
      rw [cellAt_set_d hi] at q1
      cases q1
    · by_cases z' : i = k
      · subst z'
        rw [cellAt_set_d hi] at q2
        cases q2
      · rw [cellAt_set_ne z] at q1
        rw [cellAt_set_ne z'] at q2
        exact r.inj j k c1 c2 a q1 q2 q3 q4
  · by_cases z : i = j
    · subst z
      rw [List.getElem?_set_self hi] at q
      cases q
    · rw [List.getElem?_set_ne z] at q
      exact r.rf j c' q
  · obtain ⟨c', q'⟩ := r.rfs j a q
    by_cases z : i = j
    · subst z
      rw [e] at q'
      cases q'
    · exact ⟨c', by rw [List.getElem?_set_ne z]; exact q'⟩
  · by_cases z : i = j
    · subst z
      rw [List.getElem?_set_self hi] at q
      cases q
    · rw [List.getElem?_set_ne z] at q
      exact r.noexc j c' y q
  · by_cases z : i = j
    · subst z
      rw [List.getElem?_set_self hi] at q
      cases q
    · rw [List.getElem?_set_ne z] at q
      exact r.nofn j n q
theorem Rep.frz (r : Rep K g H σ ρ) : ∀ (is : List Nat), Rep K g H σ (MP.frz ρ is) ∧ ∀ a, Own σ (MP.frz ρ is) a → Own σ ρ a := fun is => by
  induction is generalizing ρ with
  | nil => exact ⟨r, fun _ h => h⟩
  | cons i is ih =>
    obtain ⟨h1, h2⟩ := r.frz1 i
    obtain ⟨h3, h4⟩ := ih h1
    exact ⟨h3, fun a z => h2 a (h4 a z)⟩
end

section
variable {X : Cx} {P : Pk} {E : St → XK} {st : Stmt} {a b c : Expr} {m ma mb mc : ME} {s : MS} {pos p2 p3 : Pos}
theorem z_frz (is : List Nat) (h : PS X st (tS P E s)) : PS X st (tS P E (sFrz is s)) := PS.imp h fun D σ H ⟨g, ρ, r, q⟩ => by
  obtain ⟨h1, h2⟩ := r.frz is
  exact ⟨g, frz ρ is, h1, PostS.step (σ1 := σ) (ρ1 := frz ρ is) q ⟨fun _ _ e _ => e, fun _ o e => ⟨o, e⟩, fun a z => .inl (h2 a z)⟩⟩
/-- name op= e -/
theorem z_aug (i : Nat) {x : Str} {op : Operator} {r : R2} {f : D → D → Option SV} (hop : PIp X op r) (hg : OpG r P.K f) (ha : PE X a (tM P E m)) (hN : X.N.Nodup) (hK : X.K = P.K := by rfl) (hi : X.N[i]? = some x := by rfl) (hx : Loc X.env.scope x := by first | exact Or.inl rfl | exact Or.inr rfl)
    (hf : X.fn x = true ∨ X.env.scope.names.lookup x = some .local := by first | exact .inl rfl | exact .inr rfl | assumption) : PS X (.AugAssign (.Name x p2) op a pos) (tS P E (sAug i f m)) := by
  refine PS.imp (ps_aug hN hi hx ha hop hf) fun D σ H ⟨g, ρ, rp, h⟩ => ?_
  have h' : PostS P E g σ ρ H H D (sAug i f m ρ) := h
  unfold sAug at h'
  cases e0 : ρ[i]? with
  | none => rw [e0] at h'; exact h'.elim
  | some o =>
    cases o with
    | none => rw [e0] at h'; exact h'.elim
    | some sx =>
      cases sx with
      | d x =>
        rw [e0] at h'
        obtain ⟨v, e1, e2⟩ := rp.d i x e0
        refine ⟨v, e1, g, ρ, rp, stG (R := RVP P) h' fun sw ρ1 w H1 _ r1 s1 f1 q1 h1 => ?_⟩
        have e2' : Rp P.K (hid (Out' g σ ρ1) H1) v x := e2.grow (hid_later s1 f1)
        cases ev : view ρ1 sw with
        | none => rw [ev] at h1; exact h1.elim
        | some y =>
          rw [ev] at h1
          cases ef : f x y with
          | none =>
            have h2 : PostS P E g σ ρ H H D (match (f x y).bind toD with | some z => .next (ρ1.set i (some (.d z))) | none => .stuck) := h1
            rw [ef] at h2
            exact h2.elim
          | some sz =>
            have h2 : PostS P E g σ ρ H H D (match (f x y).bind toD with | some z => .next (ρ1.set i (some (.d z))) | none => .stuck) := h1
            rw [ef] at h2
            cases ez : toD sz with
            | none =>
              have h3 : PostS P E g σ ρ H H D (match toD sz with | some z => .next (ρ1.set i (some (.d z))) | none => .stuck) := h2
              rw [ez] at h3
              exact h3.elim
            | some z =>
              have h3 : PostS P E g σ ρ H H D (match toD sz with | some z => .next (ρ1.set i (some (.d z))) | none => .stuck) := h2
              rw [ez] at h3
              refine hg (Out' g σ ρ1) H1 v w x y sz _ (fun _ z => r1.out_some z) (e2'.top hid_le) (q1.top r1 ev) ef fun v' H2 gr rs => ?_
              have r2 := r1.grow gr
              have q2 : RV P.K g H1 H2 σ ρ1 v' sz := r1.res gr rs
              have hc : cellAt ρ1 i = none := by
                have := s1 i
                rw [show cellAt ρ i = none by unfold cellAt; rw [e0]] at this
                exact Option.not_isSome_iff_eq_none.mp (by rw [this]; decide)
              have hl : i < ρ1.length := by
                have := (List.getElem?_eq_some_iff.mp e0).1
                have := rp.len
                have := r1.len
                omega
              have hf : free ρ1 i = true := by
                unfold free
                unfold cellAt at hc
                rw [List.getElem?_eq_getElem hl] at hc ⊢
                cases e : ρ1[i] with
                | none => rfl
                | some y =>
                  cases y with
                  | ref c => rw [e] at hc; cases hc
                  | _ => rfl
              have hw : kept false sz = some (.d z) := by
                cases sz with
                | d y => cases ez; rfl
                | own c => cases ez; rfl
                | _ => cases ez
              obtain ⟨h4, h5⟩ := r2.set (k := false) hf q2 hw
              refine h3 _ H2 h4 ⟨fun a o e n => gr a o (f1.keep a o e n), fun a o e => let ⟨o', q⟩ := f1.stay a o e; ⟨o', gr a o' q⟩, fun a z => ?_⟩
              exact (h5 a z).imp s1.symm.own (f1.free a)
      | _ => rw [e0] at h'; exact h'.elim
/-- the last store of some -/
theorem seq_set {g : Gh} {σ : St} {ρ ρ1 : En} {H0 H : Hp} {D : Ends} {k : Bool} {i : Nat} {sv : SV} {f : En → SOut} (h : PostS P E g σ ρ H0 H D ((setS k i sv ρ1).seq f)) :
    ∃ w, free ρ1 i = true ∧ kept k sv = some w ∧ PostS P E g σ ρ H0 H D (f (ρ1.set i (some w))) := by
  unfold setS at h
  split at h
  · rename_i hf
    cases e : kept k sv with
    | none =>
      rw [e] at h
      exact h.elim
    | some w =>
      rw [e] at h
      exact ⟨w, hf, rfl, h⟩
  · exact h.elim
theorem set_end {g : Gh} {σ : St} {ρ ρ1 : En} {H0 H : Hp} {D : Ends} {k : Bool} {i : Nat} {sv : SV} (h : PostS P E g σ ρ H0 H D (setS k i sv ρ1)) :
    ∃ w, free ρ1 i = true ∧ kept k sv = some w ∧ PostS P E g σ ρ H0 H D (.next (ρ1.set i (some w))) := by
  unfold setS at h
  split at h
  · rename_i hf
    cases e : kept k sv with
    | none =>
      rw [e] at h
      exact h.elim
    | some w =>
      rw [e] at h
      exact ⟨w, hf, rfl, h⟩
  · exact h.elim
/-- one store of several, from the right: what was made at H1 is stored at H2 -/
theorem store_moved {K : Fg} {g : Gh} {H0 H1 H2 : Hp} {σ σ' : St} {ρ ρ' : En} {v : V} {sv w : SV} {k : Bool} {i : Nat} (q : RV K g H0 H1 σ ρ v sv) (f : FrS H1 (Own σ ρ) H2 (Own σ' ρ')) (r : Rep K (gadd g v sv) H2 σ' ρ') (hf : free ρ' i = true) (hk : kept k sv = some w) :
    Rep K g H2 (σ'.set i (some v)) (ρ'.set i (some w)) ∧ ∀ a, Own (σ'.set i (some v)) (ρ'.set i (some w)) a → Own σ' ρ' a ∨ H0 a = none :=
  (r.less (le_gadd g v sv)).set hf (q.moved f r hk) hk
theorem own_step {σ σ' : St} {ρ1 ρ2 ρ' : En} {H1 H2 : Hp} (s : SameC ρ1 ρ2) (f : FrE H1 (Own σ ρ1) H2) (h : ∀ a, Own σ' ρ' a → Own σ ρ2 a ∨ H1 a = none) : FrS H1 (Own σ ρ1) H2 (Own σ' ρ') :=
  ⟨f.keep, f.stay, fun a z => (h a z).imp s.symm.own id⟩
theorem after2 {g : Gh} {σ : St} {ρ ρ1 ρ2 : En} {H H1 H2 : Hp} {D : Ends} {k l : Bool} {i j : Nat} {v w : V} {s1 s2 : SV} (sc1 : SameC ρ ρ1) (f1 : FrE H (Own σ ρ) H1) (q1 : RV P.K g H H1 σ ρ1 v s1) (sc2 : SameC ρ1 ρ2) (f2 : FrE H1 (Own σ ρ1) H2)
    (r2 : Rep P.K (gadd g v s1) H2 σ ρ2) (q2 : RV P.K (gadd g v s1) H1 H2 σ ρ2 w s2) (hij : i ≠ j) (h : PostS P E g σ ρ H H D ((setS l j s2 ρ2).seq fun ρ3 => setS k i s1 ρ3)) : D.nx ((σ.set i (some v)).set j (some w)) H2 := by
  obtain ⟨w2, fr2, k2, h2⟩ := seq_set h
  obtain ⟨r3, o3⟩ := r2.set fr2 q2 k2
  obtain ⟨w1, fr1, k1, h3⟩ := set_end h2
  obtain ⟨r4, o4⟩ := store_moved q1 (own_step sc2 f2 o3) r3 fr1 k1
  rw [List.set_comm _ _ hij]
  have f12 : FrE H (Own σ ρ) H2 := f1.trans f2 fun _ z => sc1.symm.own z
  exact h3 _ H2 r4 ⟨f12.keep, f12.stay, fun a z => (o4 a z).elim (fun z => (o3 a z).imp (fun z => (sc1.trans sc2).symm.own z) (f1.free a)) .inr⟩
theorem z_par2 (i j k l : Nat) {x y : Str} {px py pt : Pos} {kt k2 pt2} (ha : PE X a (tM P E ma)) (hb : PE X b (tM P E mb)) (hc : X.calm = true) (hN : X.N.Nodup) (hw : swappedStores [.Tuple [.Name x px, .Name y py] kt pt] (.Tuple [a, b] k2 pt2) X.env = pure (some [x, y]))
    (hi : X.N[i]? = some x := by rfl) (hj : X.N[j]? = some y := by rfl) (hij : i ≠ j := by decide)
    (hx : X.env.scope.names.lookup x = some .local := by rfl) (hy : X.env.scope.names.lookup y = some .local := by rfl)
    (h1 : starEach (a :: [b]) X.env = (false, eval a X.env) :: starEach [b] X.env := by rfl) (h2 : starEach (b :: []) X.env = (false, eval b X.env) :: starEach [] X.env := by rfl)
    (hs : swapsWithSole [.Tuple [.Name x px, .Name y py] kt pt] (.Tuple [a, b] k2 pt2) pos.line X.env = pure false := by rfl) :
    PS X (.Assign [.Tuple [.Name x px, .Name y py] kt pt] (.Tuple [a, b] k2 pt2) pos) (tS P E (sPar2 k i l j ma mb)) := by
  refine PS.imp (ps_par hc hN hi hj hij hx hy (pa_cons ha (pa_cons hb pa_nil h2) h1) hw hs) fun D σ H ⟨g, ρ, rp, h⟩ => ?_
  have h' : PostS P E g σ ρ H H D ((ma ρ).st fun v ρ1 => (mb ρ1).st fun w ρ2 => (setS (l == 1) j w ρ2).seq fun ρ3 => setS (k == 1) i v ρ3) := h
  refine ⟨g, ρ, rp, stG (R := RVP P) h' fun s1 ρ1 v H1 _ r1 sc1 f1 q1 h1 => ?_⟩
  refine ⟨gadd g v s1, ρ1, q1.gadd r1, ?_⟩
  cases e : mb ρ1 with
  | ok s2 ρ2 =>
    rw [e] at h1
    exact fun w H2 r2 sc2 f2 q2 => ⟨v, w, rfl, after2 sc1 f1 q1 sc2 f2 r2 q2 hij h1⟩
  | raise c x ρ2 =>
    rw [e] at h1
    exact PostG.more (R := RVP P) (H0 := H1) less_V (o := .raise c x ρ2) (RX.step (RX.ofS h1) sc1 f1) (le_gadd g v s1)
  | stuck =>
    rw [e] at h1
    exact h1
theorem z_par3 (i j h k l m : Nat) {x y z : Str} {px py pz pt : Pos} {kt k2 pt2} (ha : PE X a (tM P E ma)) (hb : PE X b (tM P E mb)) (hcc : PE X c (tM P E mc)) (hc : X.calm = true) (hN : X.N.Nodup) (hw : swappedStores [.Tuple [.Name x px, .Name y py, .Name z pz] kt pt] (.Tuple [a, b, c] k2 pt2) X.env = pure (some [x, y, z]))
    (hi : X.N[i]? = some x := by rfl) (hj : X.N[j]? = some y := by rfl) (hh : X.N[h]? = some z := by rfl) (hij : i ≠ j := by decide) (hil : i ≠ h := by decide) (hjl : j ≠ h := by decide)
    (hx : X.env.scope.names.lookup x = some .local := by rfl) (hy : X.env.scope.names.lookup y = some .local := by rfl) (hz : X.env.scope.names.lookup z = some .local := by rfl)
    (h1 : starEach (a :: [b, c]) X.env = (false, eval a X.env) :: starEach [b, c] X.env := by rfl) (h2 : starEach (b :: [c]) X.env = (false, eval b X.env) :: starEach [c] X.env := by rfl) (h3 : starEach (c :: []) X.env = (false, eval c X.env) :: starEach [] X.env := by rfl)
    (hs : swapsWithSole [.Tuple [.Name x px, .Name y py, .Name z pz] kt pt] (.Tuple [a, b, c] k2 pt2) pos.line X.env = pure false := by rfl) :
    PS X (.Assign [.Tuple [.Name x px, .Name y py, .Name z pz] kt pt] (.Tuple [a, b, c] k2 pt2) pos) (tS P E (sPar3 k i l j m h ma mb mc)) := by
  refine PS.imp (ps_par3 hc hN hi hj hh hij hil hjl hx hy hz (pa_cons ha (pa_cons hb (pa_cons hcc pa_nil h3) h2) h1) hw hs) fun D σ H ⟨g, ρ, rp, h0⟩ => ?_
  have h' : PostS P E g σ ρ H H D ((ma ρ).st fun u ρ1 => (mb ρ1).st fun v ρ2 => (mc ρ2).st fun w ρ3 => (setS (m == 1) h w ρ3).seq fun ρ4 => (setS (l == 1) j v ρ4).seq fun ρ5 => setS (k == 1) i u ρ5) := h0
  refine ⟨g, ρ, rp, stG (R := RVP P) h' fun s1 ρ1 u H1 _ r1 sc1 f1 q1 h1 => ?_⟩
  refine ⟨gadd g u s1, ρ1, q1.gadd r1, ?_⟩
  have le1 := le_gadd g u s1
  cases e : mb ρ1 with
  | ok s2 ρ2 =>
    rw [e] at h1
    have h1' : PostS P E g σ ρ H H D ((mc ρ2).st fun w ρ3 => (setS (m == 1) h w ρ3).seq fun ρ4 => (setS (l == 1) j s2 ρ4).seq fun ρ5 => setS (k == 1) i s1 ρ5) := h1
    intro v H2 r2 sc2 f2 q2
    have f12 : FrE H (Own σ ρ) H2 := f1.trans f2 fun _ z => sc1.symm.own z
    refine ⟨gadd (gadd g u s1) v s2, ρ2, q2.gadd r2, ?_⟩
    have le2 := le_gadd (gadd g u s1) v s2
    cases e3 : mc ρ2 with
    | ok s3 ρ3 =>
      rw [e3] at h1'
      refine fun w H3 r3 sc3 f3 q3 => ⟨u, v, w, rfl, ?_⟩
      obtain ⟨w3, fr3, k3, hh3⟩ := seq_set h1'
      obtain ⟨r4, o4⟩ := r3.set fr3 q3 k3
      obtain ⟨w2, fr2, k2, hh2⟩ := seq_set hh3
      obtain ⟨r5, o5⟩ := store_moved q2 (own_step sc3 f3 o4) r4 fr2 k2
      obtain ⟨w1, fr1, k1, hh1⟩ := set_end hh2
      have f23 : FrE H1 (Own σ ρ1) H3 := f2.trans f3 fun _ z => sc2.symm.own z
      have o5' : ∀ a, Own ((σ.set h (some w)).set j (some v)) ((ρ3.set h (some w3)).set j (some w2)) a → Own σ ρ3 a ∨ H1 a = none := fun a z => (o5 a z).elim (fun z => (o4 a z).imp id (f2.free a)) .inr
      obtain ⟨r6, o6⟩ := store_moved q1 (own_step (sc2.trans sc3) f23 o5') r5 fr1 k1
      have f13 : FrE H (Own σ ρ) H3 := f12.trans f3 fun _ z => (sc1.trans sc2).symm.own z
      have es : ((σ.set i (some u)).set j (some v)).set h (some w) = ((σ.set h (some w)).set j (some v)).set i (some u) := by
        rw [List.set_comm (some u) (some v) hij, List.set_comm (some u) (some w) hil, List.set_comm (some v) (some w) hjl]
      rw [es]
      exact hh1 _ H3 r6 ⟨f13.keep, f13.stay, fun a z => (o6 a z).elim (fun z => (o5' a z).imp (fun z => (sc1.trans (sc2.trans sc3)).symm.own z) (f1.free a)) .inr⟩
    | raise c x ρ3 =>
      rw [e3] at h1'
      exact PostG.more (R := RVP P) (H0 := H2) less_V (o := .raise c x ρ3) (RX.step (RX.ofS h1') (sc1.trans sc2) f12) ⟨fun a z => le2.pm a (le1.pm a z), by rw [le2.rf, le1.rf]⟩
    | stuck =>
      rw [e3] at h1'
      exact h1'
  | raise c x ρ2 =>
    rw [e] at h1
    exact PostG.more (R := RVP P) (H0 := H1) less_V (o := .raise c x ρ2) (RX.step (RX.ofS h1) sc1 f1) le1
  | stuck =>
    rw [e] at h1
    exact h1
end
end MP
end

section
set_option Elab.async false
set_option linter.all false
set_option maxRecDepth 100000
set_option maxHeartbeats 4000000
set_option autoImplicit false
namespace MP
open PySem PySem.Spec L2

/-! ### the arguments behind a def's body -/
theorem outs_match : ∀ {as : List SV} {ρ : En} {outs : List Cell}, outsOf as ρ = some outs → ∃ ρ2, putRefs as outs = some ρ2 ∧ ρ2.length = as.length ∧
    (∀ (i : Nat) (c : Cell), as[i]? = some (SV.ref c) → ∃ c', ρ[i]? = some (some (SV.ref c')) ∧ ρ2[i]? = some (some (SV.ref c'))) ∧ (∀ (i : Nat) (s : SV), as[i]? = some s → (∀ c, s ≠ SV.ref c) → ρ2[i]? = some (some s)) := by
  intro as
  induction as with
  | nil =>
    intro ρ outs h
    cases h
    exact ⟨[], rfl, rfl, fun i c e => by simp at e, fun i s e => by simp at e⟩
  | cons a as ih =>
    intro ρ outs h
    have plain : (∀ c, a ≠ SV.ref c) → outsOf as ρ.tail = some outs → (putRefs as outs).map (fun r => some a :: r) = putRefs (a :: as) outs → ∃ ρ2, putRefs (a :: as) outs = some ρ2 ∧ ρ2.length = (a :: as).length ∧
        (∀ (i : Nat) (c : Cell), (a :: as)[i]? = some (SV.ref c) → ∃ c', ρ[i]? = some (some (SV.ref c')) ∧ ρ2[i]? = some (some (SV.ref c'))) ∧ (∀ (i : Nat) (s : SV), (a :: as)[i]? = some s → (∀ c, s ≠ SV.ref c) → ρ2[i]? = some (some s)) := fun na h e => by
      obtain ⟨ρ2, h1, h2, h3, h4⟩ := ih h
      rw [h1] at e
      refine ⟨some a :: ρ2, e.symm, by simp [h2], fun i c e => ?_, fun i s e n => ?_⟩
      · cases i with
        | zero =>
          simp at e
          exact (na c e).elim
        | succ i =>
          obtain ⟨c', w1, w2⟩ := h3 i c (by simpa using e)
          refine ⟨c', ?_, by simpa using w2⟩
          rw [List.getElem?_tail] at w1
          exact w1
      · cases i with
        | zero => simpa using e
        | succ i => simpa using h4 i s (by simpa using e) n
    cases a with
    | ref c0 =>
      clear plain
      have h' : (match (generalizing := false) ρ with
        | some (SV.ref c) :: r => (outsOf as r).map fun cs => c :: cs
        | _ => none) = some outs := h
      clear h
      split at h'
      · rename_i c1 r
        obtain ⟨cs, e1, e2⟩ := Option.map_eq_some_iff.mp h'
        subst e2
        obtain ⟨ρ2, h1, h2, h3, h4⟩ := ih e1
        refine ⟨some (SV.ref c1) :: ρ2, ?_, by simp [h2], fun i c e => ?_, fun i s e n => ?_⟩
        · show (putRefs as cs).map _ = _
          rw [h1] <;> rfl
        · cases i with
          | zero => exact ⟨c1, rfl, rfl⟩
          | succ i => simpa using h3 i c (by simpa using e)
        · cases i with
          | zero =>
            simp at e
            exact (n _ e.symm).elim
          | succ i => simpa using h4 i s (by simpa using e) n
      · cases h'
    | d x => exact plain (fun _ e => by cases e) h rfl
    | own x => exact plain (fun _ e => by cases e) h rfl
    | pk x => exact plain (fun _ e => by cases e) h rfl
    | exc c x => exact plain (fun _ e => by cases e) h rfl
    | fn x => exact plain (fun _ e => by cases e) h rfl
section
variable {K : Fg} {g g1 g2 : Gh} {H H' : Hp} {σ σ' : St} {ρ ρ' ρ2 : En} {as : List SV} {vs : List V} {outs : List Cell}
theorem map_get {α : Type} {l : List α} {i : Nat} : (l.map some)[i]? = (l[i]?).map some := List.getElem?_map
theorem noown {as : List SV} (hn : ∀ s ∈ as, ∀ c, s ≠ SV.own c) {i : Nat} {c : Cell} (h : cellAt (as.map some) i = some c) : as[i]? = some (SV.ref c) := by
  unfold cellAt at h
  rw [map_get] at h
  cases e : as[i]? with
  | none => rw [e] at h; cases h
  | some s =>
    rw [e] at h
    cases s with
    | ref c' => cases h; rfl
    | own c' => exact (hn _ (List.mem_of_getElem? e) c' rfl).elim
    | d _ => cases h
    | pk _ => cases h
    | exc _ _ => cases h
    | fn _ => cases h
structure Back (as : List SV) (ρ' ρ2 : En) : Prop where
  len : ρ2.length = as.length
  rf : ∀ (i : Nat) (c : Cell), as[i]? = some (SV.ref c) → ∃ c', ρ'[i]? = some (some (SV.ref c')) ∧ ρ2[i]? = some (some (SV.ref c'))
  other : ∀ (i : Nat) (s : SV), as[i]? = some s → (∀ c, s ≠ SV.ref c) → ρ2[i]? = some (some s)
theorem Back.get (b : Back as ρ' ρ2) {i : Nat} {s : SV} (h : ρ2[i]? = some (some s)) : (as[i]? = some s ∧ ∀ c, s ≠ SV.ref c) ∨ ∃ c c', as[i]? = some (SV.ref c) ∧ s = SV.ref c' ∧ ρ'[i]? = some (some (SV.ref c')) := by
  have hi : i < as.length := by
    rw [← b.len]
    exact (List.getElem?_eq_some_iff.mp h).1
  have e : as[i]? = some as[i] := List.getElem?_eq_getElem hi
  by_cases q : ∃ c, as[i] = SV.ref c
  · obtain ⟨c, q⟩ := q
    rw [q] at e
    obtain ⟨c', w1, w2⟩ := b.rf i c e
    rw [h] at w2
    cases w2
    exact .inr ⟨c, c', e, rfl, w1⟩
  · have w := b.other i _ e fun c z => q ⟨c, z⟩
    rw [h] at w
    cases w
    exact .inl ⟨e, fun c z => q ⟨c, z⟩⟩
theorem Back.cell (hn : ∀ s ∈ as, ∀ c, s ≠ SV.own c) (b : Back as ρ' ρ2) {i : Nat} {c : Cell} (h : cellAt ρ2 i = some c) : ∃ c0, as[i]? = some (SV.ref c0) ∧ ρ2[i]? = some (some (SV.ref c)) ∧ ρ'[i]? = some (some (SV.ref c)) := by
  unfold cellAt at h
  cases e : ρ2[i]? with
  | none => rw [e] at h; cases h
  | some o =>
    cases o with
    | none => rw [e] at h; cases h
    | some s =>
      rcases b.get e with ⟨q, _⟩ | ⟨c0, c', q, rfl, w⟩
      · rw [e] at h
        cases s with
        | own c' => exact (hn _ (List.mem_of_getElem? q) c' rfl).elim
        | ref c' => rename_i n; exact (n c' rfl).elim
        | d _ => cases h
        | pk _ => cases h
        | exc _ _ => cases h
        | fn _ => cases h
      · rw [e] at h
        cases h
        exact ⟨c0, q, rfl, w⟩
theorem args_back (hn : ∀ s ∈ as, ∀ c, s ≠ SV.own c) (b : Back as ρ' ρ2) (r0 : Rep K g H (vs.map some) (as.map some)) (r1 : Rep K g1 H' σ' ρ') (f : FrS H (Own (vs.map some) (as.map some)) H' (Own σ' ρ')) (e1 : g1.rf = g.rf) (e2 : g2.rf = g.rf) (h1 : ∀ a, g1.Pm a → g.Pm a ∨ H a = none)
    (h2 : ∀ a, g2.Pm a → g.Pm a ∨ H a = none) (h3 : ∀ a, g2.Pm a → ∃ o, H' a = some o) (h4 : ∀ a, g2.Pm a → Out' g1 σ' ρ' a) (h5 : ∀ (i : Nat) (c : Cell) (a : Addr), ρ'[i]? = some (some (SV.ref c)) → σ'[i]? = some (some (V.ref a)) → ¬ g2.Pm a) :
    Rep K g2 H' (vs.map some) ρ2 ∧ FrE H (Own (vs.map some) (as.map some)) H' ∧ (∀ a, Out' g2 (vs.map some) ρ2 a → Out' g1 σ' ρ' a) ∧ ∀ a, Own (vs.map some) ρ2 a → ∃ (i : Nat) (c : Cell), ρ'[i]? = some (some (SV.ref c)) ∧ σ'[i]? = some (some (V.ref a)) := by
  have addr : ∀ (i : Nat) (c c0 : Cell), as[i]? = some (SV.ref c0) → ρ'[i]? = some (some (SV.ref c)) → ∃ a, g.rf i = some a ∧ (vs.map some)[i]? = some (some (V.ref a)) ∧ σ'[i]? = some (some (V.ref a)) := fun i c c0 q w => by
    obtain ⟨a, z1, z2⟩ := r0.rf i c0 (by rw [map_get, q] <;> rfl)
    obtain ⟨a', z3, z4⟩ := r1.rf i c w
    rw [e1, z1] at z3
    cases z3
    exact ⟨a, z1, z2, z4⟩
  have own1 : ∀ a, Own (vs.map some) ρ2 a → ∃ (i : Nat) (c : Cell), ρ'[i]? = some (some (SV.ref c)) ∧ σ'[i]? = some (some (V.ref a)) := fun a ⟨i, c, z1, z2⟩ => by
    obtain ⟨c0, q1, q2, q3⟩ := b.cell hn z1
    obtain ⟨a', w1, w2, w3⟩ := addr i c c0 q1 q3
    rw [z2] at w2
    cases w2
    exact ⟨i, c, q3, w3⟩
  have own2 : ∀ a, Own (vs.map some) ρ2 a → Own (vs.map some) (as.map some) a := fun a ⟨i, c, z1, z2⟩ => by
    obtain ⟨c0, q1, q2, q3⟩ := b.cell hn z1
    exact ⟨i, c0, cellAt_ref (by rw [map_get, q1] <;> rfl), z2⟩
  have out : ∀ a, Out' g2 (vs.map some) ρ2 a → Out' g1 σ' ρ' a := fun a z => z.elim (h4 a) fun z => by
    obtain ⟨i, c, z1, z2⟩ := own1 a z
    exact .inr ⟨i, c, cellAt_ref z1, z2⟩
  have gr0 : Grow (hid (Out' g (vs.map some) (as.map some)) H) (hid (Out' g2 (vs.map some) ρ2) H') := hid_grow fun a o n e => ⟨fun z => n (z.elim (fun z => (h2 a z).elim .inl fun z => by rw [z] at e; cases e) fun z => .inr (own2 a z)), f.keep a o e fun z => n (.inr z)⟩
  have gr1 : Grow (hid (Out' g1 σ' ρ') H') (hid (Out' g2 (vs.map some) ρ2) H') := hid_grow fun a o n e => ⟨fun z => n (out a z), e⟩
  refine ⟨⟨?_, fun i x e => ?_, fun i c e => ?_, fun i j c c' a q1 q2 q3 q4 => ?_, h3, fun i c e => ?_, fun i a e => ?_, fun i c x e => ?_, fun i n e => ?_⟩, ⟨f.keep, f.stay⟩, out, own1⟩
  · have := r0.len
    rw [List.length_map, List.length_map] at this
    rw [List.length_map, b.len, this]
  · rcases b.get e with ⟨q, _⟩ | ⟨c, c', _, q, _⟩
    · obtain ⟨v, w1, w2⟩ := r0.d i x (by rw [map_get, q] <;> rfl)
      exact ⟨v, w1, w2.grow gr0⟩
    · cases q
  · obtain ⟨c0, q1, q2, q3⟩ := b.cell hn e
    obtain ⟨a, w1, w2, w3⟩ := addr i c c0 q1 q3
    obtain ⟨a', x1, x2, x3⟩ := r1.cell i c (cellAt_ref q3)
    rw [w3] at x1
    cases x1
    exact ⟨a, w2, h5 i c a q3 w3, x3.mono gr1 rfl⟩
  · obtain ⟨c0, w1, w2, w3⟩ := b.cell hn q1
    obtain ⟨c1, x1, x2, x3⟩ := b.cell hn q2
    exact r0.inj i j c0 c1 a (cellAt_ref (by rw [map_get, w1] <;> rfl)) (cellAt_ref (by rw [map_get, x1] <;> rfl)) q3 q4
  · obtain ⟨c0, q1, q2, q3⟩ := b.cell hn (cellAt_ref e)
    obtain ⟨a, w1, w2, w3⟩ := addr i c c0 q1 q3
    exact ⟨a, by rw [e2]; exact w1, w2⟩
  · rw [e2] at e
    obtain ⟨c, q⟩ := r0.rfs i a e
    have q' : as[i]? = some (SV.ref c) := by
      rw [map_get] at q
      cases z : as[i]? with
      | none => rw [z] at q; cases q
      | some s => rw [z] at q; cases q; rfl
    obtain ⟨c', w1, w2⟩ := b.rf i c q'
    exact ⟨c', w2⟩
  · rcases b.get e with ⟨q, _⟩ | ⟨c0, c', _, q, _⟩
    · exact r0.noexc i c x (by rw [map_get, q] <;> rfl)
    · cases q
  · rcases b.get e with ⟨q, _⟩ | ⟨c0, c', _, q, _⟩
    · exact r0.nofn i n (by rw [map_get, q] <;> rfl)
    · cases q
end

/-! ### a def's promise -/
def PostF (P : Pk) (g : Gh) (vs : List V) (as : List SV) (H : Hp) (Q : VK) (E : XK) : FRes → Prop
  | .ok s outs => ∀ ρ2 u H', putRefs as outs = some ρ2 → Rep P.K g H' (vs.map some) ρ2 → FrE H (Own (vs.map some) (as.map some)) H' → RV P.K g H H' (vs.map some) ρ2 u s → Q u H'
  | .raise c x outs => ∀ ρ2 d v H', putRefs as outs = some ρ2 → Rep P.K g H' (vs.map some) ρ2 → FrE H (Own (vs.map some) (as.map some)) H' → H' d = some (.xd [("value", v)]) → Rp P.K (hid (Out' g (vs.map some) ρ2) H') v x → E (.ref (P.CA c)) (some d) H'
  | .stuck => False
def spOf (P : Pk) (f : F) (n : Nat) : Sp := fun vs H Q E => ∃ g as, as.length = n ∧ (∀ s ∈ as, ∀ c, s ≠ SV.own c) ∧ Rep P.K g H (vs.map some) (as.map some) ∧ PostF P g vs as H Q E (f as)
theorem spOf_len {P : Pk} {f : F} {n : Nat} {vs : List V} {H : Hp} {Q : VK} {E : XK} (h : spOf P f n vs H Q E) : vs.length = n := by
  obtain ⟨g, as, h1, _, r, _⟩ := h
  have := r.len
  rw [List.length_map, List.length_map] at this
  omega
section
variable {P : Pk} {g : Gh} {H : Hp} {σ : St} {ρ : En} {K : Fg}
theorem pad_get {α : Type} {l : List (Option α)} {n i : Nat} {x : α} : (l ++ List.replicate n none)[i]? = some (some x) ↔ l[i]? = some (some x) := by
  by_cases h : i < l.length
  · rw [List.getElem?_append_left h]
  · rw [List.getElem?_append_right (by omega), List.getElem?_replicate, List.getElem?_eq_none (by omega)]
    constructor
    · intro e
      split at e <;> cases e
    · intro e
      cases e
theorem pad_cell {n i : Nat} : cellAt (ρ ++ List.replicate n none) i = cellAt ρ i := by
  by_cases h : i < ρ.length
  · exact cellAt_eq (List.getElem?_append_left h)
  · unfold cellAt
    rw [List.getElem?_append_right (by omega), List.getElem?_replicate, List.getElem?_eq_none (l := ρ) (by omega)]
    by_cases z : i - ρ.length < n
    · rw [if_pos z]
    · rw [if_neg z]
theorem pad_own {n : Nat} {a : Addr} : Own (σ ++ List.replicate n none) (ρ ++ List.replicate n none) a ↔ Own σ ρ a := by
  constructor
  · rintro ⟨i, c, h1, h2⟩
    exact ⟨i, c, by rw [← h1, pad_cell], pad_get.mp h2⟩
  · rintro ⟨i, c, h1, h2⟩
    exact ⟨i, c, by rw [← h1, pad_cell], pad_get.mpr h2⟩
theorem Rep.pad (r : Rep K g H σ ρ) (n : Nat) : Rep K g H (σ ++ List.replicate n none) (ρ ++ List.replicate n none) := by
  have gr : Grow (hid (Out' g σ ρ) H) (hid (Out' g (σ ++ List.replicate n none) (ρ ++ List.replicate n none)) H) := hid_grow fun a o m e => ⟨fun z => m (z.imp id pad_own.mp), e⟩
  refine ⟨by rw [List.length_append, List.length_append, r.len, List.length_replicate, List.length_replicate], fun i x e => ?_, fun i c e => ?_, fun i j c c' a q1 q2 q3 q4 => ?_, r.pm, fun i c e => ?_, fun i a e => ?_, fun i c x e => r.noexc i c x (pad_get.mp e), fun i m e => r.nofn i m (pad_get.mp e)⟩
  · obtain ⟨v, h1, h2⟩ := r.d i x (pad_get.mp e)
    exact ⟨v, pad_get.mpr h1, h2.grow gr⟩
  · rw [pad_cell] at e
    obtain ⟨a, h1, h2, h3⟩ := r.cell i c e
    exact ⟨a, pad_get.mpr h1, h2, h3.mono gr rfl⟩
  · rw [pad_cell] at q1 q2
    exact r.inj i j c c' a q1 q2 (pad_get.mp q3) (pad_get.mp q4)
  · obtain ⟨a, h1, h2⟩ := r.rf i c (pad_get.mp e)
    exact ⟨a, h1, pad_get.mpr h2⟩
  · obtain ⟨c, q⟩ := r.rfs i a e
    exact ⟨c, pad_get.mpr q⟩
/-- what the body gives is what is promised -/
theorem body_of {n : Nat} {b : MS} {f : F} {vs : List V} {Q : VK} {E : XK} {m : Nat} (hf : f = semDef n b) (h : spOf P f m vs H Q E) :
    tS P (fun _ => E) b { nx := fun _ H' => Q .non H', rt := Q } (vs.map some ++ List.replicate (n - vs.length) none) H := by
  obtain ⟨g, as, hl, hn, r, h⟩ := h
  have el : vs.length = as.length := by
    have := r.len
    rwa [List.length_map, List.length_map] at this
  subst hf
  refine ⟨g, as.map some ++ List.replicate (n - as.length) none, by rw [el]; exact r.pad _, ?_⟩
  rw [el]
  have fin : ∀ {σ' : St} {ρ' : En} {H' : Hp} {u : V} {s : SV}, Rep P.K g H' σ' ρ' → FrS H (Own (vs.map some ++ List.replicate (n - as.length) none) (as.map some ++ List.replicate (n - as.length) none)) H' (Own σ' ρ') → RV P.K g H H' σ' ρ' u s → PostF P g vs as H Q E (finish as s ρ') → Q u H' := fun {σ' ρ' H' u s} r1 f1 q h => by
    unfold finish at h
    cases e1 : resOf ρ' s with
    | none => rw [e1] at h; exact h.elim
    | some w =>
      cases e2 : outsOf as ρ' with
      | none => rw [e1, e2] at h; exact h.elim
      | some outs =>
        rw [e1, e2] at h
        obtain ⟨ρ2, w1, w2, w3, w4⟩ := outs_match e2
        have b : Back as ρ' ρ2 := ⟨w2, w3, w4⟩
        have f2 : FrS H (Own (vs.map some) (as.map some)) H' (Own σ' ρ') := ⟨fun a o e z => f1.keep a o e fun y => z (pad_own.mp y), f1.stay, fun a z => (f1.new a z).imp pad_own.mp id⟩
        have h5 : ∀ (i : Nat) (c : Cell) (a : Addr), ρ'[i]? = some (some (SV.ref c)) → σ'[i]? = some (some (V.ref a)) → ¬ g.Pm a := fun i c a z1 z2 z3 => by
          obtain ⟨a', y1, y2, _⟩ := r1.cell i c (cellAt_ref z1)
          rw [z2] at y1
          cases y1
          exact y2 z3
        obtain ⟨r2, fe, out, own1⟩ := args_back (g2 := g) hn b r r1 f2 rfl rfl (fun a z => .inl z) (fun a z => .inl z) r1.pm (fun a z => .inl z) h5
        refine h ρ2 u H' w1 r2 fe ?_
        have hb := q.b
        have hx := q.x
        cases s with
        | d x =>
          cases e1
          exact .d (Rp.grow (hid_grow fun a o n e => ⟨fun z => n (out a z), e⟩) hb)
        | own c =>
          cases e1
          obtain ⟨p, rfl, n1, no, cr⟩ := hb
          refine ⟨⟨p, rfl, n1, fun z => no (out p z), cr.mono (hid_grow fun a o n e => ⟨fun z => n (z.imp (out a) id), e⟩) rfl⟩, fun p' ep => ?_⟩
          cases ep
          have rx := hx p rfl
          refine (args_back (g2 := g.add p) hn b r rx f2 rfl rfl (fun a z => z.imp id fun z => by rw [z]; exact n1) (fun a z => z.imp id fun z => by rw [z]; exact n1) rx.pm (fun a z => .inl z) fun i c a z1 z2 z3 => ?_).1
          obtain ⟨a', y1, y2, _⟩ := rx.cell i c (cellAt_ref z1)
          rw [z2] at y1
          cases y1
          exact y2 z3
        | pk i =>
          have e1' : (match ρ'[i]? with | some (some (.own c)) => some (SV.own c) | _ => none) = some w := e1
          split at e1'
          · rename_i c ec
            cases e1'
            obtain ⟨c1, z1, z2⟩ := hb
            obtain ⟨a, y1, y2, y3⟩ := r1.cell i c (cellAt_own ec)
            rw [z2] at y1
            cases y1
            have oi : Own σ' ρ' a := ⟨i, c, cellAt_own ec, z2⟩
            have nref : ∀ (j : Nat) (c' : Cell), ρ'[j]? = some (some (SV.ref c')) → σ'[j]? = some (some (V.ref a)) → False := fun j c' x1 x2 => by
              have := r1.inj i j c c' a (cellAt_own ec) (cellAt_ref x1) z2 x2
              subst this
              rw [ec] at x1
              cases x1
            have new : H a = none := by
              rcases f2.new a oi with z | z
              · obtain ⟨j, c', x1, x2⟩ := z
                have q1 := noown hn x1
                obtain ⟨c2, q2, q3⟩ := b.rf j c' q1
                obtain ⟨a1, q4, q5⟩ := r.rf j c' (by rw [map_get, q1] <;> rfl)
                obtain ⟨a2, q6, q7⟩ := r1.rf j c2 q2
                rw [x2] at q5
                cases q5
                rw [q4] at q6
                cases q6
                exact (nref j c2 q2 q7).elim
              · exact z
            have notR : ¬ Out' g (vs.map some) ρ2 a := fun z => z.elim y2 fun z => by
              obtain ⟨j, c', x1, x2⟩ := own1 a z
              exact nref j c' x1 x2
            obtain ⟨o, eo⟩ := y3.some
            refine ⟨⟨a, rfl, new, notR, y3.mono (hid_grow fun b o n e => ⟨fun z => n (z.elim (out b) fun z => .inr (by rw [z]; exact oi)), e⟩) rfl⟩, fun p' ep => ?_⟩
            cases ep
            refine (args_back (g1 := g) (g2 := g.add a) hn b r r1 f2 rfl rfl (fun b z => .inl z) (fun b z => z.imp id fun z => by rw [z]; exact new) (fun b z => z.elim (r1.pm b) fun z => ⟨o, by rw [z]; exact eo⟩) (fun b z => z.imp id fun z => by rw [z]; exact oi) fun j c' b z1 z2 z3 => z3.elim (h5 j c' b z1 z2) fun z => ?_).1
            rw [z] at z2
            exact nref j c' z1 z2
          · cases e1'
        | ref _ => exact hb.elim
        | exc _ _ => exact hb.elim
        | fn _ => exact hb.elim
  have h' : PostF P g vs as H Q E (match b (as.map some ++ List.replicate (n - as.length) none) with
  | .ret v ρ => finish as v ρ
  | .next ρ => finish as (.d .none) ρ
  | .raise c x ρ => (match outsOf as ρ with | some outs => .raise c x outs | none => .stuck)
  | _ => .stuck) := h
  cases e : b (as.map some ++ List.replicate (n - as.length) none) with
  | next ρ' =>
    rw [e] at h'
    exact fun σ' H' r1 f1 => fin r1 f1 (.d .non) h'
  | ret s ρ' =>
    rw [e] at h'
    exact fun v σ' H' r1 f1 q => fin r1 f1 q h'
  | brk ρ' => rw [e] at h'; exact h'.elim
  | cont ρ' => rw [e] at h'; exact h'.elim
  | stuck => rw [e] at h'; exact h'.elim
  | raise c x ρ' =>
    rw [e] at h'
    intro d v σ' H' r1 f1 ed rv
    have h2 : PostF P g vs as H Q E (match outsOf as ρ' with | some outs => .raise c x outs | none => .stuck) := h'
    cases e2 : outsOf as ρ' with
    | none => rw [e2] at h2; exact h2.elim
    | some outs =>
      rw [e2] at h2
      obtain ⟨ρ2, w1, w2, w3, w4⟩ := outs_match e2
      have b : Back as ρ' ρ2 := ⟨w2, w3, w4⟩
      have f2 : FrS H (Own (vs.map some) (as.map some)) H' (Own σ' ρ') := ⟨fun a o e z => f1.keep a o e fun y => z (pad_own.mp y), f1.stay, fun a z => (f1.new a z).imp pad_own.mp id⟩
      obtain ⟨r2, fe, out, _⟩ := args_back (g2 := g) hn b r r1 f2 rfl rfl (fun a z => .inl z) (fun a z => .inl z) r1.pm (fun a z => .inl z) fun i c a z1 z2 z3 => by
        obtain ⟨a', y1, y2, _⟩ := r1.cell i c (cellAt_ref z1)
        rw [z2] at y1
        cases y1
        exact y2 z3
      exact h2 ρ2 d v H' w1 r2 fe ed (rv.grow (hid_grow fun a o n e => ⟨fun z => n (out a z), e⟩))
end
end MP
end

section
set_option Elab.async false
set_option linter.all false
set_option maxRecDepth 100000
set_option maxHeartbeats 4000000
set_option autoImplicit false
namespace MP
open PySem PySem.Spec L2

/-! ### the caller's slots behind a call -/
theorem putCell_len {ρ : En} {i : Nat} {c : Cell} : (putCell ρ i c).length = ρ.length := by
  unfold putCell
  split <;> simp
theorem putCell_ne {ρ : En} {i j : Nat} {c : Cell} (h : i ≠ j) : (putCell ρ i c)[j]? = ρ[j]? := by
  unfold putCell
  split
  · exact List.getElem?_set_ne h
  · exact List.getElem?_set_ne h
  · rfl
theorem putCell_own {ρ : En} {i : Nat} {c c0 : Cell} (h : ρ[i]? = some (some (SV.own c0))) : (putCell ρ i c)[i]? = some (some (SV.own c)) := by
  unfold putCell
  rw [h]
  exact List.getElem?_set_self (List.getElem?_eq_some_iff.mp h).1
theorem putCell_ref {ρ : En} {i : Nat} {c c0 : Cell} (h : ρ[i]? = some (some (SV.ref c0))) : (putCell ρ i c)[i]? = some (some (SV.ref c)) := by
  unfold putCell
  rw [h]
  exact List.getElem?_set_self (List.getElem?_eq_some_iff.mp h).1
theorem mem_refIx : ∀ {ss : List SV} {j k : Nat}, ss[j]? = some (SV.pk k) → k ∈ refIx ss := by
  intro ss
  induction ss with
  | nil => intro j k e; simp at e
  | cons s ss ih =>
    intro j k e
    cases j with
    | zero =>
      simp at e
      subst e
      exact List.mem_cons_self
    | succ j =>
      have := ih (j := j) (k := k) (by simpa using e)
      cases s with
      | pk _ => exact List.mem_cons_of_mem _ this
      | _ => exact this
theorem of_refIx : ∀ {ss : List SV} {k : Nat}, k ∈ refIx ss → ∃ j : Nat, ss[j]? = some (SV.pk k) := by
  intro ss
  induction ss with
  | nil => intro k e; cases e
  | cons s ss ih =>
    intro k e
    cases s with
    | pk i =>
      rcases List.mem_cons.mp (show k ∈ i :: refIx ss from e) with rfl | e
      · exact ⟨0, rfl⟩
      · obtain ⟨j, q⟩ := ih e
        exact ⟨j + 1, by simpa using q⟩
    | _ =>
      obtain ⟨j, q⟩ := ih e
      exact ⟨j + 1, by simpa using q⟩
theorem refIx_inj : ∀ {ss : List SV} {j j' k : Nat}, (refIx ss).Nodup → ss[j]? = some (SV.pk k) → ss[j']? = some (SV.pk k) → j = j' := by
  intro ss
  induction ss with
  | nil => intro j j' k _ e; simp at e
  | cons s ss ih =>
    intro j j' k nd e e'
    have nd2 : (refIx ss).Nodup := by
      cases s with
      | pk i => exact (List.nodup_cons.mp (show (i :: refIx ss).Nodup from nd)).2
      | _ => exact nd
    cases j with
    | zero =>
      cases j' with
      | zero => rfl
      | succ j' =>
        simp at e
        subst e
        exact ((List.nodup_cons.mp (show (k :: refIx ss).Nodup from nd)).1 (mem_refIx (j := j') (by simpa using e'))).elim
    | succ j =>
      cases j' with
      | zero =>
        simp at e'
        subst e'
        exact ((List.nodup_cons.mp (show (k :: refIx ss).Nodup from nd)).1 (mem_refIx (j := j) (by simpa using e))).elim
      | succ j' => exact congrArg (· + 1) (ih nd2 (by simpa using e) (by simpa using e'))
structure PutM (ss : List SV) (ρ' ρ1 ρ2 : En) : Prop where
  len : ρ2.length = ρ1.length
  out : ∀ i, i ∉ refIx ss → ρ2[i]? = ρ1[i]?
  put : ∀ (j i : Nat), ss[j]? = some (SV.pk i) → ∃ c, ρ'[j]? = some (some (SV.ref c)) ∧ (∀ c0, ρ1[i]? = some (some (SV.own c0)) → ρ2[i]? = some (some (SV.own c))) ∧ ∀ c0, ρ1[i]? = some (some (SV.ref c0)) → ρ2[i]? = some (some (SV.ref c))
theorem put_match {ρ0 : En} : ∀ {ss as : List SV} {outs : List Cell} {ρ' ρ1 ρ2 : En}, argsOf ρ0 ss = some as → putRefs as outs = some ρ' → putCells ρ1 (refIx ss) outs = some ρ2 → (refIx ss).Nodup → PutM ss ρ' ρ1 ρ2 := by
  intro ss
  induction ss with
  | nil =>
    intro as outs ρ' ρ1 ρ2 h1 h2 h3 _
    cases h1
    cases outs with
    | nil =>
      cases h2
      cases h3
      exact ⟨rfl, fun _ _ => rfl, fun j i e => by simp at e⟩
    | cons c cs => cases h2
  | cons s ss ih =>
    intro as outs ρ' ρ1 ρ2 h1 h2 h3 nd
    rw [argsOf_cons] at h1
    cases ea : argOf ρ0 s with
    | none => rw [ea] at h1; cases h1
    | some a =>
      cases es : argsOf ρ0 ss with
      | none => rw [ea, es] at h1; cases h1
      | some as' =>
        rw [ea, es] at h1
        cases h1
        have plain : (∀ i, s ≠ .pk i) → (∀ c, a ≠ .ref c) → PutM (s :: ss) ρ' ρ1 ρ2 := fun ns na => by
          have e1 : refIx (s :: ss) = refIx ss := by
            cases s with
            | pk i => exact (ns i rfl).elim
            | _ => rfl
          have e2 : putRefs (a :: as') outs = (putRefs as' outs).map fun r => some a :: r := by
            cases a with
            | ref c => exact (na c rfl).elim
            | _ => rfl
          rw [e2] at h2
          rw [e1] at h3 nd
          obtain ⟨r, q1, q2⟩ := Option.map_eq_some_iff.mp h2
          subst q2
          obtain ⟨p1, p2, p3⟩ := ih es q1 h3 nd
          refine ⟨p1, fun i n => p2 i (by rwa [e1] at n), fun j i e => ?_⟩
          cases j with
          | zero =>
            simp at e
            exact (ns i e).elim
          | succ j => simpa using p3 j i (by simpa using e)
        cases s with
        | pk i =>
          clear plain
          have ea' : (cellAt ρ0 i).map SV.ref = some a := ea
          obtain ⟨c0, _, e0⟩ := Option.map_eq_some_iff.mp ea'
          subst e0
          cases outs with
          | nil => cases h2
          | cons c cs =>
            have h2' : (putRefs as' cs).map (fun r => some (SV.ref c) :: r) = some ρ' := h2
            obtain ⟨r, q1, q2⟩ := Option.map_eq_some_iff.mp h2'
            subst q2
            have nd' : (i :: refIx ss).Nodup := nd
            obtain ⟨nd1, nd2⟩ := List.nodup_cons.mp nd'
            have h3' : putCells (putCell ρ1 i c) (refIx ss) cs = some ρ2 := h3
            obtain ⟨p1, p2, p3⟩ := ih es q1 h3' nd2
            refine ⟨by rw [p1, putCell_len], fun j n => ?_, fun j k e => ?_⟩
            · have n' : j ∉ i :: refIx ss := n
              rw [p2 j fun z => n' (List.mem_cons_of_mem _ z)]
              exact putCell_ne fun z => n' (by rw [z]; exact List.mem_cons_self)
            · cases j with
              | zero =>
                have ek : i = k := by simpa using e
                subst ek
                have e2 := p2 i nd1
                exact ⟨c, rfl, fun c0 z => by rw [e2, putCell_own z], fun c0 z => by rw [e2, putCell_ref z]⟩
              | succ j =>
                have e' : ss[j]? = some (.pk k) := by simpa using e
                obtain ⟨c2, w1, w2, w3⟩ := p3 j k e'
                have hk := mem_refIx e'
                have hik : i ≠ k := fun z => nd1 (by rw [z]; exact hk)
                refine ⟨c2, by simpa using w1, fun c0 z => w2 c0 (by rw [putCell_ne hik]; exact z), fun c0 z => w3 c0 (by rw [putCell_ne hik]; exact z)⟩
        | d x => exact plain (fun i e => by cases e) fun c e => by subst e; cases ea
        | own x => exact plain (fun i e => by cases e) fun c e => by subst e; cases ea
        | ref x => cases ea
        | exc c x => exact plain (fun i e => by cases e) fun c e => by subst e; cases ea
        | fn x => exact plain (fun i e => by cases e) fun c e => by subst e; cases ea

theorem args_get {ρ0 : En} : ∀ {ss as : List SV}, argsOf ρ0 ss = some as → as.length = ss.length ∧ ∀ (j : Nat) (a : SV), as[j]? = some a → ∃ s, ss[j]? = some s ∧ argOf ρ0 s = some a := by
  intro ss
  induction ss with
  | nil =>
    intro as h
    cases h
    exact ⟨rfl, fun j a e => by simp at e⟩
  | cons s ss ih =>
    intro as h
    rw [argsOf_cons] at h
    cases ea : argOf ρ0 s with
    | none => rw [ea] at h; cases h
    | some a =>
      cases es : argsOf ρ0 ss with
      | none => rw [ea, es] at h; cases h
      | some as' =>
        rw [ea, es] at h
        cases h
        obtain ⟨p1, p2⟩ := ih es
        refine ⟨congrArg (· + 1) p1, fun j b e => ?_⟩
        cases j with
        | zero =>
          have e' : a = b := by simpa using e
          subst e'
          exact ⟨s, rfl, ea⟩
        | succ j => simpa using p2 j b (by simpa using e)
section
variable {K : Fg} {g g2 gc : Gh} {H H0 H1 H' : Hp} {σ : St} {ρ ρ1 ρ2 ρ' : En} {ss as : List SV} {vs : List V} {outs : List Cell}
/-- the arguments' values, one by one -/
structure RVl (K : Fg) (g : Gh) (H0 H : Hp) (σ : St) (ρ : En) (vs : List V) (ss : List SV) : Prop where
  len : vs.length = ss.length
  at' : ∀ (j : Nat) (s : SV), ss[j]? = some s → ∃ v, vs[j]? = some v ∧ RV K g H0 H σ ρ v s
theorem RVs.list (r : RVs K g H0 H σ ρ vs ss) : RVl K g H0 H σ ρ vs ss := by
  induction r with
  | nil => exact ⟨rfl, fun j s e => by simp at e⟩
  | @cons g H0 H σ ρ v vs s ss q r ih =>
    refine ⟨congrArg (· + 1) ih.len, fun j t e => ?_⟩
    cases j with
    | zero =>
      have e' : s = t := by simpa using e
      subst e'
      exact ⟨v, rfl, q⟩
    | succ j =>
      obtain ⟨w, h1, h2⟩ := ih.at' j t (by simpa using e)
      exact ⟨w, by simpa using h1, h2.less (le_gadd _ _ _)⟩
open Classical in
/-- what the callee may not touch; where its borrowed arguments stand -/
noncomputable def calleeG (g : Gh) (σ : St) (ρ : En) (vs : List V) (ss as : List SV) : Gh :=
  ⟨fun a => Out' g σ ρ a ∧ ¬ ∃ j i : Nat, ss[j]? = some (SV.pk i) ∧ σ[i]? = some (some (V.ref a)), fun j => match as[j]?, vs[j]? with | some (.ref _), some (.ref a) => some a | _, _ => none⟩
structure Bd (K : Fg) (g : Gh) (H1 : Hp) (σ : St) (ρ1 : En) (vs : List V) (ss as : List SV) : Prop where
  rep : Rep K (calleeG g σ ρ1 vs ss as) H1 (vs.map some) (as.map some)
  noown : ∀ s ∈ as, ∀ c, s ≠ SV.own c
  len : as.length = vs.length
  own : ∀ a, Own (vs.map some) (as.map some) a ↔ ∃ j i : Nat, ss[j]? = some (SV.pk i) ∧ σ[i]? = some (some (V.ref a))
  sub : ∀ a, Own (vs.map some) (as.map some) a → Own σ ρ1 a
  ref : ∀ (j i : Nat), ss[j]? = some (SV.pk i) → ∃ c a, cellAt ρ1 i = some c ∧ as[j]? = some (SV.ref c) ∧ vs[j]? = some (V.ref a) ∧ σ[i]? = some (some (V.ref a))
theorem args_rep (rp : Rep K g H1 σ ρ1) (q : RVl K g H0 H1 σ ρ1 vs ss) (ea : argsOf ρ1 ss = some as) (nd : (refIx ss).Nodup) : Bd K g H1 σ ρ1 vs ss as := by
  obtain ⟨la, ga⟩ := args_get ea
  have lv := q.len
  have refOf : ∀ (j : Nat) (c : Cell), as[j]? = some (SV.ref c) → ∃ i a, ss[j]? = some (SV.pk i) ∧ cellAt ρ1 i = some c ∧ vs[j]? = some (V.ref a) ∧ σ[i]? = some (some (V.ref a)) := fun j c e => by
    obtain ⟨s, e1, e2⟩ := ga j _ e
    cases s with
    | pk i =>
      have e2' : (cellAt ρ1 i).map SV.ref = some (SV.ref c) := e2
      obtain ⟨c', e3, e4⟩ := Option.map_eq_some_iff.mp e2'
      cases e4
      obtain ⟨v, w1, w2⟩ := q.at' j _ e1
      obtain ⟨c2, w3, w4⟩ := w2.b
      obtain ⟨a, x1, x2, x3⟩ := rp.cell i _ e3
      rw [w4] at x1
      cases x1
      exact ⟨i, a, e1, e3, w1, w4⟩
    | d x => cases e2
    | own x => cases e2
    | ref x => cases e2
    | exc c x => cases e2
    | fn x => cases e2
  have refTo : ∀ (j i : Nat), ss[j]? = some (SV.pk i) → ∃ c a, cellAt ρ1 i = some c ∧ as[j]? = some (SV.ref c) ∧ vs[j]? = some (V.ref a) ∧ σ[i]? = some (some (V.ref a)) := fun j i e => by
    have hj : j < as.length := by
      rw [la]
      exact (List.getElem?_eq_some_iff.mp e).1
    have e1 : as[j]? = some as[j] := List.getElem?_eq_getElem hj
    obtain ⟨s, e2, e3⟩ := ga j _ e1
    rw [e] at e2
    cases e2
    have e3' : (cellAt ρ1 i).map SV.ref = some as[j] := e3
    obtain ⟨c, e4, e5⟩ := Option.map_eq_some_iff.mp e3'
    rw [← e5] at e1
    obtain ⟨i', a, w1, w2, w3, w4⟩ := refOf j c e1
    rw [e] at w1
    cases w1
    exact ⟨c, a, e4, e1, w3, w4⟩
  have no : ∀ s ∈ as, ∀ c, s ≠ SV.own c := fun s hs c e => by
    subst e
    obtain ⟨j, e⟩ := List.getElem?_of_mem hs
    obtain ⟨s', e1, e2⟩ := ga j _ e
    cases s' with
    | pk i =>
      have e2' : (cellAt ρ1 i).map SV.ref = some (SV.own c) := e2
      obtain ⟨c', e3, e4⟩ := Option.map_eq_some_iff.mp e2'
      cases e4
    | d x => cases e2
    | own x => cases e2
    | ref x => cases e2
    | exc c x => cases e2
    | fn x => cases e2
  have own : ∀ a, Own (vs.map some) (as.map some) a ↔ ∃ j i : Nat, ss[j]? = some (SV.pk i) ∧ σ[i]? = some (some (V.ref a)) := fun a => by
    constructor
    · rintro ⟨j, c, z1, z2⟩
      obtain ⟨i, a', w1, w2, w3, w4⟩ := refOf j c (MP.noown no z1)
      rw [map_get, w3] at z2
      cases z2
      exact ⟨j, i, w1, w4⟩
    · rintro ⟨j, i, z1, z2⟩
      obtain ⟨c, a', w1, w2, w3, w4⟩ := refTo j i z1
      rw [z2] at w4
      cases w4
      exact ⟨j, c, cellAt_ref (by rw [map_get, w2] <;> rfl), by rw [map_get, w3] <;> rfl⟩
  have sub : ∀ a, Own (vs.map some) (as.map some) a → Own σ ρ1 a := fun a z => by
    obtain ⟨j, i, z1, z2⟩ := (own a).mp z
    obtain ⟨c, a', w1, w2, w3, w4⟩ := refTo j i z1
    exact ⟨i, c, w1, z2⟩
  have gr : Grow (hid (Out' g σ ρ1) H1) (hid (Out' (calleeG g σ ρ1 vs ss as) (vs.map some) (as.map some)) H1) := hid_grow fun a o n e => ⟨fun z => n (z.elim (fun z => z.1) fun z => .inr (sub a z)), e⟩
  refine ⟨⟨by rw [List.length_map, List.length_map, la, lv], fun j x e => ?_, fun j c e => ?_, fun j j' c c' a q1 q2 q3 q4 => ?_, fun a z => rp.out_some z.1, fun j c e => ?_, fun j a e => ?_, fun j c x e => ?_, fun j n e => ?_⟩, no, by rw [la, lv], own, sub, refTo⟩
  · have e' : as[j]? = some (.d x) := by
      rw [map_get] at e
      cases z : as[j]? with
      | none => rw [z] at e; cases e
      | some s => rw [z] at e; cases e; rfl
    obtain ⟨s, e1, e2⟩ := ga j _ e'
    obtain ⟨v, w1, w2⟩ := q.at' j s e1
    refine ⟨v, by rw [map_get, w1] <;> rfl, Rp.grow gr (w2.keep ?_)⟩
    cases s with
    | d y => cases e2; rfl
    | own c => cases e2; rfl
    | pk i =>
      have e2' : (cellAt ρ1 i).map SV.ref = some (SV.d x) := e2
      obtain ⟨c', e3, e4⟩ := Option.map_eq_some_iff.mp e2'
      cases e4
    | ref x => cases e2
    | exc c x => cases e2
    | fn x => cases e2
  · have e' := MP.noown no e
    obtain ⟨i, a, w1, w2, w3, w4⟩ := refOf j c e'
    obtain ⟨a', x1, x2, x3⟩ := rp.cell i c w2
    rw [w4] at x1
    cases x1
    exact ⟨a, by rw [map_get, w3] <;> rfl, fun z => z.2 ⟨j, i, w1, w4⟩, x3.mono gr rfl⟩
  · obtain ⟨i, a1, w1, w2, w3, w4⟩ := refOf j c (MP.noown no q1)
    obtain ⟨i', a2, x1, x2, x3, x4⟩ := refOf j' c' (MP.noown no q2)
    rw [map_get, w3] at q3
    cases q3
    rw [map_get, x3] at q4
    cases q4
    have := rp.inj i i' c c' a w2 x2 w4 x4
    subst this
    exact refIx_inj nd w1 x1
  · have e' := MP.noown no (cellAt_ref e)
    obtain ⟨i, a, w1, w2, w3, w4⟩ := refOf j c e'
    refine ⟨a, ?_, by rw [map_get, w3] <;> rfl⟩
    show (match as[j]?, vs[j]? with | some (.ref _), some (.ref a) => some a | _, _ => none) = some a
    rw [e', w3]
  · have e' : (match as[j]?, vs[j]? with | some (SV.ref _), some (V.ref a) => some a | _, _ => none) = some a := e
    split at e'
    · rename_i c b z1 z2
      exact ⟨c, by rw [map_get, z1] <;> rfl⟩
    · cases e'
  · have e' : as[j]? = some (.exc c x) := by
      rw [map_get] at e
      cases z : as[j]? with
      | none => rw [z] at e; cases e
      | some s => rw [z] at e; cases e; rfl
    obtain ⟨s, e1, e2⟩ := ga j _ e'
    obtain ⟨v, w1, w2⟩ := q.at' j s e1
    cases s with
    | exc y z => exact w2.b.elim
    | pk i =>
      have e2' : (cellAt ρ1 i).map SV.ref = some (SV.exc c x) := e2
      obtain ⟨c', e3, e4⟩ := Option.map_eq_some_iff.mp e2'
      cases e4
    | d x => cases e2
    | own x => cases e2
    | ref x => cases e2
    | fn x => cases e2
  · have e' : as[j]? = some (.fn n) := by
      rw [map_get] at e
      cases z : as[j]? with
      | none => rw [z] at e; cases e
      | some s => rw [z] at e; cases e; rfl
    obtain ⟨s, e1, e2⟩ := ga j _ e'
    obtain ⟨v, w1, w2⟩ := q.at' j s e1
    cases s with
    | fn y => exact w2.b.elim
    | pk i =>
      have e2' : (cellAt ρ1 i).map SV.ref = some (SV.fn n) := e2
      obtain ⟨c', e3, e4⟩ := Option.map_eq_some_iff.mp e2'
      cases e4
    | d x => cases e2
    | own x => cases e2
    | ref x => cases e2
    | exc y x => cases e2
/-- kinds stay -/
theorem PutM.kind (m : PutM ss ρ' ρ1 ρ2) (b : Bd K g H1 σ ρ1 vs ss as) (i : Nat) : (∀ c, ρ1[i]? = some (some (SV.own c)) → ∃ c', ρ2[i]? = some (some (SV.own c'))) ∧ (∀ c, ρ1[i]? = some (some (SV.ref c)) → ∃ c', ρ2[i]? = some (some (SV.ref c'))) ∧ (cellAt ρ1 i = none → ρ2[i]? = ρ1[i]?) := by
  by_cases h : i ∈ refIx ss
  · obtain ⟨j, e⟩ := of_refIx h
    obtain ⟨c, w1, w2, w3⟩ := m.put j i e
    obtain ⟨c0, a, x1, _⟩ := b.ref j i e
    exact ⟨fun c1 z => ⟨c, w2 c1 z⟩, fun c1 z => ⟨c, w3 c1 z⟩, fun z => by rw [x1] at z; cases z⟩
  · have e := m.out i h
    exact ⟨fun c z => ⟨c, by rw [e]; exact z⟩, fun c z => ⟨c, by rw [e]; exact z⟩, fun _ => e⟩
theorem PutM.same (m : PutM ss ρ' ρ1 ρ2) (b : Bd K g H1 σ ρ1 vs ss as) : SameC ρ1 ρ2 := fun i => by
  obtain ⟨k1, k2, k3⟩ := m.kind b i
  cases e : cellAt ρ1 i with
  | none =>
    have := k3 e
    rw [cellAt_eq this, e]
  | some c =>
    have e' := e
    unfold cellAt at e'
    split at e'
    · rename_i c1 z
      obtain ⟨c', w⟩ := k1 c1 z
      rw [cellAt_own w] <;> rfl
    · rename_i c1 z
      obtain ⟨c', w⟩ := k2 c1 z
      rw [cellAt_ref w] <;> rfl
    · cases e'
theorem rep_after (rp : Rep K g H1 σ ρ1) (b : Bd K g H1 σ ρ1 vs ss as) (m : PutM ss ρ' ρ1 ρ2) (rc : Rep K gc H' (vs.map some) ρ') (f : FrE H1 (Own (vs.map some) (as.map some)) H') (e2 : g2.rf = g.rf) (h2 : ∀ a, g2.Pm a → g.Pm a ∨ H1 a = none) (h3 : ∀ a, g2.Pm a → ∃ o, H' a = some o)
    (h4 : ∀ a, Out' g2 σ ρ2 a → Out' gc (vs.map some) ρ' a) : Rep K g2 H' σ ρ2 := by
  have sc := m.same b
  have out : ∀ a o, H1 a = some o → Out' g2 σ ρ2 a → Out' g σ ρ1 a := fun a o e z => z.elim (fun z => (h2 a z).elim .inl fun z => by rw [z] at e; cases e) fun z => .inr (sc.symm.own z)
  have gr1 : Grow (hid (Out' g σ ρ1) H1) (hid (Out' g2 σ ρ2) H') := hid_grow fun a o n e => ⟨fun z => n (out a o e z), f.keep a o e fun z => n (.inr (b.sub a z))⟩
  have gr2 : Grow (hid (Out' gc (vs.map some) ρ') H') (hid (Out' g2 σ ρ2) H') := hid_grow fun a o n e => ⟨fun z => n (h4 a z), e⟩
  have back : ∀ {i : Nat} {c : Cell}, cellAt ρ2 i = some c → ∃ c0, cellAt ρ1 i = some c0 := fun {i c} e => sc.symm.get e
  refine ⟨by rw [m.len]; exact rp.len, fun i x e => ?_, fun i c e => ?_, fun i j c c' a q1 q2 q3 q4 => ?_, h3, fun i c e => ?_, fun i a e => ?_, fun i c x e => ?_, fun i n e => ?_⟩
  · obtain ⟨k1, k2, k3⟩ := m.kind b i
    cases z : cellAt ρ1 i with
    | none =>
      rw [k3 z] at e
      obtain ⟨v, w1, w2⟩ := rp.d i x e
      exact ⟨v, w1, w2.grow gr1⟩
    | some c =>
      obtain ⟨c', z'⟩ := sc.get z
      unfold cellAt at z'
      rw [e] at z'
      cases z'
  · obtain ⟨c0, e0⟩ := back e
    obtain ⟨a, w1, w2, w3⟩ := rp.cell i c0 e0
    obtain ⟨o, eo⟩ := w3.some
    have n2 : ¬ g2.Pm a := fun z => (h2 a z).elim w2 fun z => by rw [z] at eo; cases eo
    refine ⟨a, w1, n2, ?_⟩
    by_cases h : i ∈ refIx ss
    · obtain ⟨j, ej⟩ := of_refIx h
      obtain ⟨c1, x1, x2, x3⟩ := m.put j i ej
      have ec : c1 = c := by
        unfold cellAt at e0
        split at e0
        · rename_i c3 z
          have := x2 c3 z
          rw [cellAt_own this] at e
          exact Option.some.inj e
        · rename_i c3 z
          have := x3 c3 z
          rw [cellAt_ref this] at e
          exact Option.some.inj e
        · cases e0
      subst ec
      obtain ⟨c4, a4, y1, y2, y3, y4⟩ := b.ref j i ej
      rw [w1] at y4
      cases y4
      obtain ⟨a5, u1, u2, u3⟩ := rc.cell j c1 (cellAt_ref x1)
      rw [map_get, y3] at u1
      cases u1
      exact u3.mono gr2 rfl
    · have ei := m.out i h
      rw [cellAt_eq ei, e0] at e
      cases e
      refine w3.mono gr1 ?_
      rw [f.keep a o eo fun z => ?_, eo]
      obtain ⟨j, i', z1, z2⟩ := (b.own a).mp z
      obtain ⟨c4, a4, y1, y2, y3, y4⟩ := b.ref j i' z1
      rw [z2] at y4
      cases y4
      have := rp.inj i i' _ c4 a e0 y1 w1 z2
      subst this
      exact h (mem_refIx z1)
  · obtain ⟨c1, e1⟩ := back q1
    obtain ⟨c2, e2⟩ := back q2
    exact rp.inj i j c1 c2 a e1 e2 q3 q4
  · obtain ⟨k1, k2, k3⟩ := m.kind b i
    obtain ⟨c0, e0⟩ := back (cellAt_ref e)
    unfold cellAt at e0
    split at e0
    · rename_i c3 z
      obtain ⟨c', w⟩ := k1 c3 z
      rw [e] at w
      cases w
    · rename_i c3 z
      obtain ⟨a, w1, w2⟩ := rp.rf i c3 z
      exact ⟨a, by rw [e2]; exact w1, w2⟩
    · cases e0
  · rw [e2] at e
    obtain ⟨c, z⟩ := rp.rfs i a e
    exact (m.kind b i).2.1 c z
  · obtain ⟨k1, k2, k3⟩ := m.kind b i
    cases z : cellAt ρ1 i with
    | none =>
      rw [k3 z] at e
      exact rp.noexc i c x e
    | some c =>
      obtain ⟨c', z'⟩ := sc.get z
      unfold cellAt at z'
      rw [e] at z'
      cases z'
  · obtain ⟨k1, k2, k3⟩ := m.kind b i
    cases z : cellAt ρ1 i with
    | none =>
      rw [k3 z] at e
      exact rp.nofn i n e
    | some c =>
      obtain ⟨c', z'⟩ := sc.get z
      unfold cellAt at z'
      rw [e] at z'
      cases z'
/-- what the caller hides the callee hides -/
theorem out_callee (b : Bd K g H1 σ ρ1 vs ss as) (m : PutM ss ρ' ρ1 ρ2) {a : Addr} (h : Out' g σ ρ2 a) : Out' (calleeG g σ ρ1 vs ss as) (vs.map some) ρ' a := by
  by_cases q : ∃ j i : Nat, ss[j]? = some (SV.pk i) ∧ σ[i]? = some (some (V.ref a))
  · obtain ⟨j, i, z1, z2⟩ := q
    obtain ⟨c, w1, _⟩ := m.put j i z1
    obtain ⟨c4, a4, y1, y2, y3, y4⟩ := b.ref j i z1
    rw [z2] at y4
    cases y4
    exact .inr ⟨j, c, cellAt_ref w1, by rw [map_get, y3] <;> rfl⟩
  · exact .inl ⟨(m.same b).symm.out h, q⟩
end
section
variable {P : Pk} {E : St → XK} {g : Gh} {H H0 H1 : Hp} {σ : St} {ρ ρ1 : En} {ss as : List SV} {vs : List V} {f : F} {Q : VK}
/-- the call: what the caller wants is what the callee promises -/
theorem call_post {n : Nat} (rp : Rep P.K g H1 σ ρ1) (sc : SameC ρ ρ1) (fr : FrE H (Own σ ρ) H1) (q : RVl P.K g H H1 σ ρ1 vs ss) (hn : ss.length = n) (h : PostE P E g σ ρ H H Q (mCallGo f ss ρ1)) : spOf P f n vs H1 Q (E σ) := by
  unfold mCallGo at h
  cases ea : argsOf ρ1 ss with
  | none => rw [ea] at h; exact h.elim
  | some as =>
    rw [ea] at h
    have h1 : PostE P E g σ ρ H H Q (if (refIx ss).Nodup then callEnd ρ1 (refIx ss) (f as) else .stuck) := h
    by_cases nd : (refIx ss).Nodup
    case neg => rw [if_neg nd] at h1; exact h1.elim
    rw [if_pos nd] at h1
    have b := args_rep rp q ea nd
    refine ⟨calleeG g σ ρ1 vs ss as, as, ?_, b.noown, b.rep, ?_⟩
    · rw [(args_get ea).1, hn]
    cases ef : f as with
    | stuck => rw [ef] at h1; exact h1.elim
    | raise c x outs =>
      rw [ef] at h1
      have h2 : PostE P E g σ ρ H H Q (match putCells ρ1 (refIx ss) outs with | some ρ2 => .raise c x ρ2 | none => .stuck) := h1
      cases ep : putCells ρ1 (refIx ss) outs with
      | none => rw [ep] at h2; exact h2.elim
      | some ρ2 =>
        rw [ep] at h2
        intro ρ' d v H' e1 rc fc ed rv
        have m := put_match ea e1 ep nd
        have r2 : Rep P.K g H' σ ρ2 := rep_after rp b m rc fc rfl (fun a z => .inl z) (fun a z => let ⟨o, e⟩ := rp.pm a z; fc.stay a o e) fun a z => out_callee b m z
        exact h2 d v H' r2 (sc.trans (m.same b)) (fr.trans fc fun a z => sc.symm.own (b.sub a z)) ed (rv.grow (hid_grow fun a o n e => ⟨fun z => n (out_callee b m z), e⟩))
    | ok s outs =>
      rw [ef] at h1
      have h2 : PostE P E g σ ρ H H Q (if isRes s = true then (match putCells ρ1 (refIx ss) outs with | some ρ2 => .ok s ρ2 | none => .stuck) else .stuck) := h1
      by_cases hs : isRes s = true
      case neg => rw [if_neg hs] at h2; exact h2.elim
      rw [if_pos hs] at h2
      cases ep : putCells ρ1 (refIx ss) outs with
      | none => rw [ep] at h2; exact h2.elim
      | some ρ2 =>
        rw [ep] at h2
        intro ρ' u H' e1 rc fc rv
        have m := put_match ea e1 ep nd
        have r2 : Rep P.K g H' σ ρ2 := rep_after rp b m rc fc rfl (fun a z => .inl z) (fun a z => let ⟨o, e⟩ := rp.pm a z; fc.stay a o e) fun a z => out_callee b m z
        refine h2 u H' r2 (sc.trans (m.same b)) (fr.trans fc fun a z => sc.symm.own (b.sub a z)) ?_
        have hb := rv.b
        have hx := rv.x
        cases s with
        | d x => exact .d (Rp.grow (hid_grow fun a o n e => ⟨fun z => n (out_callee b m z), e⟩) hb)
        | own c =>
          obtain ⟨p, rfl, n, no, cr⟩ := hb
          refine ⟨⟨p, rfl, fr.free p n, fun z => no (out_callee b m z), cr.mono (hid_grow fun a o n e => ⟨fun z => n (z.imp (out_callee b m) id), e⟩) rfl⟩, fun p' ep' => ?_⟩
          cases ep'
          have rx := hx p rfl
          exact rep_after rp b m rx fc rfl (fun a z => z.imp id fun z => by rw [z]; exact n) (fun a z => z.elim (fun z => let ⟨o, e⟩ := rp.pm a z; fc.stay a o e) fun z => rx.pm a (.inr z)) fun a z => z.elim (fun z => z.elim (fun z => (out_callee b m (.inl z)).imp .inl id) fun z => .inl (.inr z)) fun z => (out_callee b m (.inr z)).imp .inl id
        | pk i => cases hs
        | ref _ => cases hs
        | exc _ _ => cases hs
        | fn _ => cases hs
end
end MP
end

section
set_option Elab.async false
set_option linter.all false
set_option maxRecDepth 100000
set_option maxHeartbeats 4000000
set_option autoImplicit false
namespace MP
open PySem PySem.Spec PyProof.Rows L2

/-- a def's promise where no guard of the model's own stands around -/
structure FnG (PP : Program) (w : World) (K : Fg) (mg : Str → Option Value) (base : Heap) (k : Nat) (a : Addr) (fd : FuncData) (ps : List Str) (sp : Sp) : Prop where
  len : ∀ vs H Q E, sp vs H Q E → vs.length = ps.length
  go : ∀ (Ar : Around) (ou : List Env) (s0 : Shared) (H0 : Hp) (ar : Args) (uv : List Value) (vv : List V) (Q : VK) (W : XK), Room k Ar → Ar.guards = some [] → Env0 PP w K mg base Ar ou s0 H0 → BindsTo s0 fd ar (ps.zip uv) → Vals vv uv → sp vv H0 Q W →
    codeAny (model PP w) Ar (.call (.ref a) ar) (CR (L2.CX PP w) ou PP w H0 s0 Q W) s0
def fArgs : Stmt → Arguments
  | .FunctionDef (args := z) .. => z
  | _ => ⟨[], [], none, [], [], none, []⟩
def fBody : Stmt → List Stmt
  | .FunctionDef (body := z) .. => z
  | _ => []
def fScope : Stmt → Scope
  | .FunctionDef (scope := z) .. => z
  | _ => ⟨.function, [], false, false, []⟩
def fPars (st : Stmt) : List Str := (fArgs st).args.map (·.arg)
/-- the def as it stands behind the top -/
structure Here (K : Fg) (mg : Str → Option Value) (x : Str) (st : Stmt) (a : Addr) (fd : FuncData) : Prop where
  ex : ∃ (oc : Value) (od : Option Addr) (kV dc pm : Value) (an : Option Addr) (cd ct : Value) (sl : Array (Option Value)),
    fd = PySem.W.fnOf x x (fArgs st) (fBody st) (fScope st) .none kV dc pm an cd ct ∧ K.lookup a = some ⟨oc, od, .func fd, sl⟩ ∧ PySem.W.codeIn K cd x = true
  named : mg x = some (.ref a)
  kept : PySem.W.keepIn K (.ref a) = true
section
variable {PP : Program} {w : World} {K : Fg} {mg : Str → Option Value} {base : Heap} {CA : Str → Addr} {k n : Nat} {a : Addr} {fd : FuncData} {x : Str} {st : Stmt} {f : F} {N ps : List Str} {b : MS}
theorem fn_G (h : Here K mg x st a fd) (S : FnScope N ps (fScope st)) (ef : f = semDef N.length b) (en : ps.length = n)
    (hb : ∀ (cd : Value) (Ar : Around) (ou : List Env) (s0 : Shared) (H0 : Hp) (W : XK), Room k (Ar.deeper (envOfC x (fScope st) s0.heap.objs.size a cd)) → (Ar.deeper (envOfC x (fScope st) s0.heap.objs.size a cd)).guards = some [] →
      PSs (cxOf (L2.CX PP w) PP w K mg base N x (fScope st) a cd Ar ou s0 H0 W) (fBody st) (tS ⟨K, CA⟩ (fun _ => W) b)) : FnG PP w K mg base (k + 1) a fd ps (spOf ⟨K, CA⟩ f n) := by
  obtain ⟨oc, od, kV, dc, pm, an, cd, ct, sl, rfl, lk, hcd⟩ := h.ex
  subst en
  refine ⟨fun vs H Q E h => spOf_len h, fun Ar ou s0 H0 ar uv vv Q W room gd e0 bd rv hsp => ?_⟩
  have lv : vv.length = ps.length := spOf_len hsp
  have inK : K.In s0.heap := e0.mod.kin.keeps fun y o z => (e0.bs y o z).1
  have nl : s0.heap.NoLimit := e0.mod.nolimit.keeps fun y o z => (e0.bs y o z).1
  have kinds : ∀ y ∈ ps.zip uv, (fScope st).names.lookup y.1 = some .local ∨ ((fScope st).names.lookup y.1 = some .cell ∧ ((cellsFrom (s0.heap.objs.size + 1) (fScope st).names []).lookup y.1).isSome = true) := fun ⟨m, v⟩ hy =>
    (S.par m (List.of_mem_zip hy).1).imp id fun z => ⟨z, PySem.W.cellsFrom_some _ _ _ (.inl z)⟩
  refine codeAny_call_function room.depth (inK _ _ lk) rfl S.co S.gen rfl (PySem.W.codeRec_of inK hcd) (bd _ _ _ _ ?_)
  refine wpAny_newFunctionEnv_cells S.kind kinds fun env he s1 ic => ?_
  subst he
  refine ⟨nl.keeps ic.toInCall.keep, codeAny_func ?_⟩
  have body := hb cd Ar ou s0 H0 W (room.deeper _) gd
  have J : Inv (cxOf (L2.CX PP w) PP w K mg base N x (fScope st) a cd Ar ou s0 H0 W) [] (start N vv) H0 s1 := inv_start S room.hd e0 lv rv ic
  have pre := body_of ef hsp
  refine wpAny_mono (body.run [] s1 (start N vv) H0 _ J pre) (fun fl s2 hs => ?_) fun _ _ z => z
  have fin : ∀ {σ2 : L2.St} {H2 : Hp} {v : V} {u : Value}, Inv (cxOf (L2.CX PP w) PP w K mg base N x (fScope st) a cd Ar ou s0 H0 W) [] σ2 H2 s2 → RelV v u → Q v H2 → CE ou PP w H0 s0 Q u s2 :=
    fun {σ2 H2 v u} J2 z q => ⟨v, H2, J2.os, J2.bare, J2.base, J2.hok, z, q⟩
  cases fl with
  | ret u => obtain ⟨v, σ2, H2, J2, z, q⟩ := hs; exact fin J2 z q
  | next => obtain ⟨σ2, H2, J2, q⟩ := hs; exact fin (v := V.non) (u := Value.none) J2 rfl q
  | brk => obtain ⟨_, _, _, q⟩ := hs; exact q.elim
  | cont => obtain ⟨_, _, _, q⟩ := hs; exact q.elim
end
/-- a def that may be called by its name -/
structure Cal (PP : Program) (w : World) (K : Fg) (mg : Str → Option Value) (base : Heap) (CA : Str → Addr) (k : Nat) (st : Stmt) (x : Str) (f : F) (n : Nat) : Prop where
  ex : ∃ (a : Addr) (fd : FuncData), FnG PP w K mg base k a fd (fPars st) (spOf ⟨K, CA⟩ f n) ∧ Here K mg x st a fd
theorem mArgs_length : ∀ {ms : List ME} {ρ ρ1 : En} {ss : List SV}, mArgs ms ρ = .ok ss ρ1 → ss.length = ms.length := by
  intro ms
  induction ms with
  | nil =>
    intro ρ ρ1 ss h
    cases h
    rfl
  | cons m ms ih =>
    intro ρ ρ1 ss h
    have h' : ((m ρ).bind fun v ρ1 => (mArgs ms ρ1).bind fun vs ρ2 => .ok (v :: vs) ρ2) = .ok ss ρ1 := h
    cases e1 : m ρ with
    | ok v ρ2 =>
      rw [e1] at h'
      have h2 : ((mArgs ms ρ2).bind fun vs ρ2 => .ok (v :: vs) ρ2) = Out.ok ss ρ1 := h'
      cases e2 : mArgs ms ρ2 with
      | ok vs ρ3 =>
        rw [e2] at h2
        cases h2
        exact congrArg (· + 1) (ih e2)
      | raise c x ρ3 => rw [e2] at h2; cases h2
      | stuck => rw [e2] at h2; cases h2
    | raise c x ρ3 => rw [e1] at h'; cases h'
    | stuck => rw [e1] at h'; cases h'
section
variable {X : Cx} {CA : Str → Addr} {k j n : Nat} {a : Addr} {fd : FuncData} {x : Str} {st : Stmt} {f : F} {ps ks : List Str} {sp : Sp} {E : L2.St → XK} {e : Expr} {es : List Expr} {kws : List Keyword} {t tk : TA} {p pos : Pos} {ms : List ME}
theorem pass00 {σ : L2.St} : PassesAt (L2.CX X.prog X.w) X σ (E00 σ) := fun _ _ _ _ _ _ ⟨_, _, _, _, _, _, _, _, _, _, _, _, h⟩ => h.elim
theorem run_G {pins : List (Addr × Obj)} {σ : L2.St} {H : Hp} {s : Shared} {Q : VK} {uv : List Value} {vv : List V} {ar : Args} (F : FnG X.prog X.w X.K X.mg X.base k a fd ps sp) (hr : Room k X.A) (hg : X.A.guards = some []) (hx : PassesAt (L2.CX X.prog X.w) X σ (E σ))
    (I : Inv X pins σ H s) (rv : Vals vv uv) (hb : uv.length = ps.length → BindsTo s fd ar (ps.zip uv)) (h : sp vv H Q (E σ)) : wpAny (model X.prog X.w) X.A (call (.ref a) ar.pos ar.kw) (EP X pins σ Q) X.xe s := by
  have lv : uv.length = ps.length := by rw [← rv.length]; exact F.len _ _ _ _ h
  refine wpAny_call (codeAny_mono (F.go X.A X.stack s H ar uv vv Q (E σ) hr hg I.env0 (hb lv) rv h) fun r s' z => ?_)
  cases r with
  | error e => exact hx pins H s e s' I z
  | ok fl => cases fl with
    | ret u => exact I.after z
    | next => exact z.elim
    | brk => exact z.elim
    | cont => exact z.elim
/-- f(e, ..) -/
theorem s_call (hc : Cal X.prog X.w X.K X.mg X.base CA k st x f n) (hr : Room j X.A) (hg : X.A.guards = some []) (hx : ∀ σ, PassesAt (L2.CX X.prog X.w) X σ (E σ)) (ha : PA X (e :: es) (tAs ⟨X.K, CA⟩ E ms))
    (hb : ∀ (kV dc pm : Value) (an : Option Addr) (cd ct : Value) (us : List Value), us.length = (fPars st).length → bindArgs (PySem.W.fnOf x x (fArgs st) (fBody st) (fScope st) .none kV dc pm an cd ct) ⟨us, []⟩ = pure ((fPars st).zip us))
    (hk : k ≤ j := by first | decide | omega) (hn : ms.length = n := by rfl) (hgl : Gl X x := by rfl) (hdb : (x == ("__debug__" : Str)) = false := by decide) (he : starEach (e :: es) X.env = (false, eval e X.env) :: starEach es X.env := by rfl) (hpl : (backTo pos (starEach es X.env)).any (·.1) = false := by rfl) :
    PE X (.Call (.Name x p) (e :: es) [] pos) (tM ⟨X.K, CA⟩ E (mCall f ms)) := by
  obtain ⟨a, fd, F, hh⟩ := hc.ex
  obtain ⟨oc, od, kV, dc, pm, an, cd, ct, sl, rfl, lk, hcd⟩ := hh.ex
  refine ⟨fun pins s σ H Q I ⟨g, ρ, rp, h⟩ => ?_⟩
  refine wpAny_Call_Name_kw (ld_glob I hgl hh.named ?_ hdb)
  have pre : tAs ⟨X.K, CA⟩ E ms σ H fun vs H1 => spOf ⟨X.K, CA⟩ f n vs H1 Q (E σ) := by
    refine ⟨g, ρ, rp, ?_⟩
    have h' : PostE ⟨X.K, CA⟩ E g σ ρ H H Q ((mArgs ms ρ).bind fun vs ρ1 => mCallGo f vs ρ1) := h
    cases em : mArgs ms ρ with
    | ok ss ρ1 =>
      rw [em] at h'
      exact fun vs H1 r1 s1 f1 q1 => call_post r1 s1 f1 q1.list ((mArgs_length em).trans hn) h'
    | raise c y ρ1 => rw [em] at h'; exact h'
    | stuck => rw [em] at h'; exact h'
  refine PySem.W.callWith_K (h₀ := X.base) I.ok.mod.kin hh.kept (thn (ha.run pos pins s σ H _ I pre) fun us s1 ⟨vs, H1, I1, r1, q1⟩ => ⟨I1.kIn, ?_⟩) he hpl
  exact run_G (ar := ⟨us, []⟩) F (hr.mono hk) hg (hx σ) I1 r1 (fun l => .of_eq (hb kV dc pm an cd ct us l)) q1
/-- f() -/
theorem s_call0 (hc : Cal X.prog X.w X.K X.mg X.base CA k st x f 0) (hr : Room j X.A) (hg : X.A.guards = some []) (hx : ∀ σ, PassesAt (L2.CX X.prog X.w) X σ (E σ))
    (hb : ∀ (kV dc pm : Value) (an : Option Addr) (cd ct : Value), bindArgs (PySem.W.fnOf x x (fArgs st) (fBody st) (fScope st) .none kV dc pm an cd ct) ⟨[], []⟩ = pure ((fPars st).zip []))
    (hk : k ≤ j := by first | decide | omega) (hgl : Gl X x := by rfl) (hdb : (x == ("__debug__" : Str)) = false := by decide) :
    PE X (.Call (.Name x p) [] [] pos) (tM ⟨X.K, CA⟩ E (mCall f [])) := by
  obtain ⟨a, fd, F, hh⟩ := hc.ex
  obtain ⟨oc, od, kV, dc, pm, an, cd, ct, sl, rfl, lk, hcd⟩ := hh.ex
  refine ⟨fun pins s σ H Q I ⟨g, ρ, rp, h⟩ => ?_⟩
  refine wpAny_Call_Name_kw (ld_glob I hgl hh.named ?_ hdb)
  have h' : PostE ⟨X.K, CA⟩ E g σ ρ H H Q (mCallGo f [] ρ) := h
  have q1 := call_post (n := 0) (vs := []) rp (.refl _) (.refl _ _) ⟨rfl, fun j s e => by simp at e⟩ rfl h'
  exact PySem.W.callWith_K0 I.kIn hh.kept (run_G (ar := ⟨[], []⟩) F (hr.mono hk) hg (hx σ) I .nil (fun l => .of_eq (hb kV dc pm an cd ct)) q1)
end
end MP
end

section
set_option linter.all false
set_option autoImplicit true
namespace MP
open PySem
/-! ### built-in functions of data -/
def intsOf : List D → Option (List Int)
  | [] => some []
  | .int i :: xs => (intsOf xs).map fun is => i :: is
  | _ => none
def boolsOf : List D → Option (List Bool)
  | [] => some []
  | .bool i :: xs => (boolsOf xs).map fun is => i :: is
  | _ => none
def maxI : Int → List Int → Int
  | m, [] => m
  | m, i :: is => maxI (if m < i then i else m) is
def minI : Int → List Int → Int
  | m, [] => m
  | m, i :: is => minI (if i < m then i else m) is
def gSum : List D → Option SV
  | [.list xs] => (intsOf xs).map fun is => .d (.int is.sum)
  | _ => none
def gMax : List D → Option SV
  | [.list xs] => (intsOf xs).bind fun is => match is with
    | [] => none
    | i :: is => some (.d (.int (maxI i is)))
  | [.int i, .int j] => some (.d (.int (if j > i then j else i)))
  | _ => none
def gMin : List D → Option SV
  | [.list xs] => (intsOf xs).bind fun is => match is with
    | [] => none
    | i :: is => some (.d (.int (minI i is)))
  | [.int i, .int j] => some (.d (.int (if j < i then j else i)))
  | _ => none
def gAll : List D → Option SV
  | [.list xs] => (boolsOf xs).map fun is => .d (.bool (is.all id))
  | _ => none
def gAny : List D → Option SV
  | [.list xs] => (boolsOf xs).map fun is => .d (.bool (is.any id))
  | _ => none
def gAbs : List D → Option SV
  | [.int i] => some (.d (.int (if i < 0 then -i else i)))
  | _ => none
def gInt : List D → Option SV
  | [.int i] => some (.d (.int i))
  | [.bool b] => some (.d (.int (if b then 1 else 0)))
  | _ => none
def gStr : List D → Option SV
  | [.int i] => if i.natAbs.log2 < 1920 then some (.d (.str (toString i))) else none
  | [.str x] => some (.d (.str x))
  | _ => none
def gLst : List D → Option SV
  | [.list xs] => some (.own (.lst xs))
  | [.tuple xs] => some (.own (.lst xs))
  | _ => none
def gTup : List D → Option SV
  | [.list xs] => some (.d (.tuple xs))
  | [.tuple xs] => some (.d (.tuple xs))
  | _ => none
def sortI (is : List Int) : List Int := is.mergeSort fun a b => decide (a ≤ b)
def gSort : List D → Option SV
  | [.list xs] => (intsOf xs).map fun is => .own (.lst ((sortI is).map PyData.int))
  | _ => none
mutual
def noL : D → Bool
  | .list _ => false
  | .tuple xs => noLs xs
  | .dict kvs => noLk kvs
  | _ => true
def noLs : List D → Bool
  | [] => true
  | x :: xs => noL x && noLs xs
def noLk : List (D × D) → Bool
  | [] => true
  | (_, x) :: xs => noL x && noLk xs
end
def repOk (x : D) : Bool := x.showable && decide (x.shown.length ≤ line) && decide (x.depth ≤ 50) && (!x.hasDict || noL x)
def gRepr : List D → Option SV
  | [x] => if repOk x = true then some (.d (.str x.shown)) else none
  | _ => none
end MP
end

section
set_option Elab.async false
set_option linter.all false
set_option maxRecDepth 100000
set_option maxHeartbeats 4000000
set_option autoImplicit false
namespace MP
open PySem PySem.Spec L2

section
variable {K : Fg} {Pr : Addr → Prop} {H Hh : Hp} {Q : VK} {sv : SV}
theorem rp_intsOf : ∀ {xs : List D} {is : List Int} {vs : List V}, intsOf xs = some is → RpAll K Hh vs xs → vs = is.map V.int := by
  intro xs
  induction xs with
  | nil =>
    intro is vs h r
    cases h
    cases r
    rfl
  | cons x xs ih =>
    intro is vs h r
    unfold intsOf at h
    split at h
    · cases ‹List.cons _ _ = []›
    · rename_i i ys e
      cases e
      obtain ⟨js, e1, e2⟩ := Option.map_eq_some_iff.mp h
      subst e2
      cases r with
      | cons r1 r2 =>
        cases r1
        rw [ih e1 r2] <;> rfl
    · cases h
theorem rp_boolsOf : ∀ {xs : List D} {is : List Bool} {vs : List V}, boolsOf xs = some is → RpAll K Hh vs xs → vs = is.map V.bl := by
  intro xs
  induction xs with
  | nil =>
    intro is vs h r
    cases h
    cases r
    rfl
  | cons x xs ih =>
    intro is vs h r
    unfold boolsOf at h
    split at h
    · cases ‹List.cons _ _ = []›
    · rename_i i ys e
      cases e
      obtain ⟨js, e1, e2⟩ := Option.map_eq_some_iff.mp h
      subst e2
      cases r with
      | cons r1 r2 =>
        cases r1
        rw [ih e1 r2] <;> rfl
    · cases h
theorem one_list {vs : List V} {xs : List D} (h : TopAll K (hid Pr H) H vs [.list xs]) : ∃ a ws, vs = [.ref a] ∧ SqL K H a ws ∧ RpAll K (hid Pr H) ws xs := by
  cases h with
  | cons h1 h2 =>
    cases h2
    obtain ⟨a, ws, rfl, q, r⟩ := h1
    exact ⟨a, ws, rfl, q, r⟩
theorem one_tup {vs : List V} {xs : List D} (h : TopAll K (hid Pr H) H vs [.tuple xs]) : ∃ a ws, vs = [.ref a] ∧ SqT K (hid Pr H) a ws ∧ RpAll K (hid Pr H) ws xs := by
  cases h with
  | cons h1 h2 =>
    cases h2
    obtain ⟨a, ws, rfl, q, r⟩ := h1
    exact ⟨a, ws, rfl, q, r⟩
theorem one_int {vs : List V} {i : Int} (h : TopAll K (hid Pr H) H vs [.int i]) : vs = [.int i] := by
  cases h with
  | cons h1 h2 =>
    cases h2
    cases h1
    rfl
theorem one_bool {vs : List V} {i : Bool} (h : TopAll K (hid Pr H) H vs [.bool i]) : vs = [.bl i] := by
  cases h with
  | cons h1 h2 =>
    cases h2
    cases h1
    rfl
theorem one_str {vs : List V} {i : Str} (h : TopAll K (hid Pr H) H vs [.str i]) : vs = [.str i] := by
  cases h with
  | cons h1 h2 =>
    cases h2
    cases h1
    rfl
theorem two_ints {vs : List V} {i j : Int} (h : TopAll K (hid Pr H) H vs [.int i, .int j]) : vs = [.int i, .int j] := by
  cases h with
  | cons h1 h2 =>
    cases h2 with
    | cons h2 h3 =>
      cases h3
      cases h1
      cases h2
      rfl
theorem og_sum : CallG (rSum K) K gSum := by
  intro Pr H vs xs sv Q tr hv e k
  unfold gSum at e
  split at e
  · obtain ⟨is, e1, e2⟩ := Option.map_eq_some_iff.mp e
    subst e2
    obtain ⟨a, ws, rfl, q, r⟩ := one_list hv
    rw [rp_intsOf e1 r] at q
    exact ⟨a, is, rfl, q, k _ _ (.refl _) res_int⟩
  · cases e
theorem og_all : CallG (rAll K) K gAll := by
  intro Pr H vs xs sv Q tr hv e k
  unfold gAll at e
  split at e
  · obtain ⟨is, e1, e2⟩ := Option.map_eq_some_iff.mp e
    subst e2
    obtain ⟨a, ws, rfl, q, r⟩ := one_list hv
    rw [rp_boolsOf e1 r] at q
    exact ⟨a, is, rfl, q, k _ _ (.refl _) res_bool⟩
  · cases e
theorem og_any : CallG (rAny K) K gAny := by
  intro Pr H vs xs sv Q tr hv e k
  unfold gAny at e
  split at e
  · obtain ⟨is, e1, e2⟩ := Option.map_eq_some_iff.mp e
    subst e2
    obtain ⟨a, ws, rfl, q, r⟩ := one_list hv
    rw [rp_boolsOf e1 r] at q
    exact ⟨a, is, rfl, q, k _ _ (.refl _) res_bool⟩
  · cases e
theorem maxI_ge : ∀ (is : List Int) (m : Int), m ≤ maxI m is ∧ (∀ i ∈ is, i ≤ maxI m is) ∧ (maxI m is = m ∨ maxI m is ∈ is)
  | [], m => ⟨Int.le_refl _, fun _ h => (by cases h), .inl rfl⟩
  | i :: is, m => by
    obtain ⟨h1, h2, h3⟩ := maxI_ge is (if m < i then i else m)
    have e : maxI m (i :: is) = maxI (if m < i then i else m) is := rfl
    rw [e]
    have hm : m ≤ (if m < i then i else m) ∧ i ≤ (if m < i then i else m) ∧ ((if m < i then i else m) = m ∨ (if m < i then i else m) = i) := by split <;> omega
    refine ⟨by omega, fun j hj => ?_, ?_⟩
    · rcases List.mem_cons.mp hj with rfl | hj
      · omega
      · exact h2 j hj
    · rcases h3 with h3 | h3
      · rw [h3]
        exact hm.2.2.imp id fun z => by rw [z]; exact List.mem_cons_self
      · exact .inr (List.mem_cons_of_mem _ h3)
theorem minI_le : ∀ (is : List Int) (m : Int), minI m is ≤ m ∧ (∀ i ∈ is, minI m is ≤ i) ∧ (minI m is = m ∨ minI m is ∈ is)
  | [], m => ⟨Int.le_refl _, fun _ h => (by cases h), .inl rfl⟩
  | i :: is, m => by
    obtain ⟨h1, h2, h3⟩ := minI_le is (if i < m then i else m)
    have e : minI m (i :: is) = minI (if i < m then i else m) is := rfl
    rw [e]
    have hm : (if i < m then i else m) ≤ m ∧ (if i < m then i else m) ≤ i ∧ ((if i < m then i else m) = m ∨ (if i < m then i else m) = i) := by split <;> omega
    refine ⟨by omega, fun j hj => ?_, ?_⟩
    · rcases List.mem_cons.mp hj with rfl | hj
      · omega
      · exact h2 j hj
    · rcases h3 with h3 | h3
      · rw [h3]
        exact hm.2.2.imp id fun z => by rw [z]; exact List.mem_cons_self
      · exact .inr (List.mem_cons_of_mem _ h3)
theorem og_max : CallG (fun xs H Q => rMax K xs H Q ∨ ∃ i j, xs = [.int i, .int j] ∧ Q (.int (if j > i then j else i)) H) K gMax := by
  intro Pr H vs xs sv Q tr hv e k
  unfold gMax at e
  split at e
  · obtain ⟨is, e1, e2⟩ := Option.bind_eq_some_iff.mp e
    obtain ⟨a, ws, rfl, q, r⟩ := one_list hv
    rw [rp_intsOf e1 r] at q
    split at e2
    · cases e2
    · rename_i i is
      cases e2
      obtain ⟨h1, h2, h3⟩ := maxI_ge is i
      refine .inl ⟨a, i :: is, rfl, q, Nat.succ_pos _, fun m hm hle => ?_⟩
      have em : m = maxI i is := by
        have l1 : maxI i is ≤ m := h3.elim (fun z => by rw [z]; exact hle i List.mem_cons_self) fun z => hle _ (List.mem_cons_of_mem _ z)
        have l2 : m ≤ maxI i is := by
          rcases List.mem_cons.mp hm with rfl | hm
          · exact h1
          · exact h2 m hm
        omega
      subst em
      exact k _ _ (.refl _) res_int
  · cases e
    rw [two_ints hv]
    exact .inr ⟨_, _, rfl, k _ _ (.refl _) res_int⟩
  · cases e
theorem og_min : CallG (fun xs H Q => rMin K xs H Q ∨ ∃ i j, xs = [.int i, .int j] ∧ Q (.int (if j < i then j else i)) H) K gMin := by
  intro Pr H vs xs sv Q tr hv e k
  unfold gMin at e
  split at e
  · obtain ⟨is, e1, e2⟩ := Option.bind_eq_some_iff.mp e
    obtain ⟨a, ws, rfl, q, r⟩ := one_list hv
    rw [rp_intsOf e1 r] at q
    split at e2
    · cases e2
    · rename_i i is
      cases e2
      obtain ⟨h1, h2, h3⟩ := minI_le is i
      refine .inl ⟨a, i :: is, rfl, q, Nat.succ_pos _, fun m hm hle => ?_⟩
      have em : m = minI i is := by
        have l1 : m ≤ minI i is := h3.elim (fun z => by rw [z]; exact hle i List.mem_cons_self) fun z => hle _ (List.mem_cons_of_mem _ z)
        have l2 : minI i is ≤ m := by
          rcases List.mem_cons.mp hm with rfl | hm
          · exact h1
          · exact h2 m hm
        omega
      subst em
      exact k _ _ (.refl _) res_int
  · cases e
    rw [two_ints hv]
    exact .inr ⟨_, _, rfl, k _ _ (.refl _) res_int⟩
  · cases e
theorem og_abs : CallG (fun xs H Q => ∃ i, xs = [.int i] ∧ Q (.int (if i < 0 then -i else i)) H) K gAbs := by
  intro Pr H vs xs sv Q tr hv e k
  unfold gAbs at e
  split at e
  · cases e
    rw [one_int hv]
    exact ⟨_, rfl, k _ _ (.refl _) res_int⟩
  · cases e
theorem og_int : CallG (fun xs H Q => (∃ i, xs = [.int i] ∧ Q (.int i) H) ∨ ∃ k, xs = [.bl k] ∧ Q (.int (if k then 1 else 0)) H) K gInt := by
  intro Pr H vs xs sv Q tr hv e k
  unfold gInt at e
  split at e
  · cases e
    rw [one_int hv]
    exact .inl ⟨_, rfl, k _ _ (.refl _) res_int⟩
  · cases e
    rw [one_bool hv]
    exact .inr ⟨_, rfl, k _ _ (.refl _) res_int⟩
  · cases e
theorem og_str : CallG (fun xs H Q => (∃ i, xs = [.int i] ∧ i.natAbs.log2 < 1920 ∧ Q (.str (toString i)) H) ∨ ∃ a, xs = [.str a] ∧ Q (.str a) H) K gStr := by
  intro Pr H vs xs sv Q tr hv e k
  unfold gStr at e
  split at e
  · split at e
    · cases e
      rw [one_int hv]
      exact .inl ⟨_, rfl, by assumption, k _ _ (.refl _) res_str⟩
    · cases e
  · cases e
    rw [one_str hv]
    exact .inr ⟨_, rfl, k _ _ (.refl _) res_str⟩
  · cases e
theorem og_lst : CallG (fun xs H Q => ∃ p ys, xs = [.ref p] ∧ (SqL K H p ys ∨ SqT K H p ys) ∧ ∀ l, H l = none → Q (.ref l) (upd H l (.lst ys))) K gLst := by
  intro Pr H vs xs sv Q tr hv e k
  unfold gLst at e
  split at e
  · cases e
    obtain ⟨a, ws, rfl, q, r⟩ := one_list hv
    exact ⟨a, ws, rfl, .inl q, fun l hl => k _ _ (.new hl) (res_lst hl r)⟩
  · cases e
    obtain ⟨a, ws, rfl, q, r⟩ := one_tup hv
    exact ⟨a, ws, rfl, .inr (hid_le.st q), fun l hl => k _ _ (.new hl) (res_lst hl r)⟩
  · cases e
theorem og_tup : CallG (fun xs H Q => ∃ p ys, xs = [.ref p] ∧ ((SqL K H p ys ∧ ∀ l, H l = none → Q (.ref l) (upd H l (.tup ys))) ∨ (SqT K H p ys ∧ Q (.ref p) H))) K gTup := by
  intro Pr H vs xs sv Q tr hv e k
  unfold gTup at e
  split at e
  · cases e
    obtain ⟨a, ws, rfl, q, r⟩ := one_list hv
    exact ⟨a, ws, rfl, .inl ⟨q, fun l hl => k _ _ (.new hl) (res_tup tr hl r)⟩⟩
  · cases e
    obtain ⟨a, ws, rfl, q, r⟩ := one_tup hv
    exact ⟨a, ws, rfl, .inr ⟨hid_le.st q, k _ _ (.refl _) (show Rp _ _ _ _ from .tup q r)⟩⟩
  · cases e
theorem rp_ints_map : ∀ (is : List Int), RpAll K Hh (is.map V.int) (is.map PyData.int)
  | [] => .nil
  | i :: is => .cons (.int i) (rp_ints_map is)
theorem sortI_of {is js : List Int} (p : js.Perm is) (s : js.Pairwise (· ≤ ·)) : js = sortI is := by
  have s2 : (sortI is).Pairwise (· ≤ ·) := by
    have := List.pairwise_mergeSort (le := fun a b : Int => decide (a ≤ b)) (fun a b c h1 h2 => by simp at *; omega) (fun a b => by simp; omega) is
    exact this.imp fun h => by simpa using h
  have p2 : js.Perm (sortI is) := p.trans (List.mergeSort_perm is _).symm
  exact p2.eq_of_pairwise (fun a b _ _ h1 h2 => Int.le_antisymm h1 h2) s s2
theorem og_sort : CallG (rSortedI K) K gSort := by
  intro Pr H vs xs sv Q tr hv e k
  unfold gSort at e
  split at e
  · obtain ⟨is, e1, e2⟩ := Option.map_eq_some_iff.mp e
    subst e2
    obtain ⟨a, ws, rfl, q, r⟩ := one_list hv
    rw [rp_intsOf e1 r] at q
    refine ⟨a, is, rfl, q, fun js p h1 h2 hp => ?_⟩
    rw [sortI_of h1 h2]
    exact k _ _ (.new hp) (res_lst hp (rp_ints_map _))
  · cases e
end
section
variable {X : Cx} {pins : List (Addr × Obj)} {σ : St} {H : Hp} {s : Shared}
mutual
theorem Rp.reads2 (I : Inv X pins σ H s) : ∀ (d : D) (v : V) (u : Value), Rp X.K H v d → RelV v u → ∃ as, Reads s.heap u d as ∧ (noL d = true → sysModules ∉ as)
  | .none, _, _, h, r => by
    cases h
    cases r
    exact ⟨_, Reads.none, fun _ z => nomatch z⟩
  | .bool b, _, _, h, r => by
    cases h
    cases r
    exact ⟨_, Reads.bool b, fun _ z => nomatch z⟩
  | .int i, _, _, h, r => by
    cases h
    obtain ⟨t, rfl⟩ := r
    exact ⟨_, Reads.int i t, fun _ z => nomatch z⟩
  | .str x, _, _, h, r => by
    cases h
    obtain ⟨t, rfl⟩ := r
    exact ⟨_, Reads.str x t, fun _ z => nomatch z⟩
  | .list ds, v, u, h, r => by
    obtain ⟨as, q⟩ := Rp.reads I (.list ds) v u h r
    exact ⟨as, q, fun z => by simp [noL] at z⟩
  | .tuple ds, _, _, h, r => by
    cases h with
    | tup hs ha =>
      cases r
      obtain ⟨its, rv, ⟨o, ho, hc, n, hd⟩, _⟩ := I.tuple hs
      obtain ⟨as, hr, hn⟩ := RpAll.reads2 I ds _ its ha rv
      exact ⟨_, Reads.tuple ho hc hd hr, fun z => hn (by simpa [noL] using z)⟩
  | .dict kvs, _, _, h, r => by
    cases h with
    | dic hs ha =>
      cases r
      obtain ⟨_, nS, vs, kv, o, es, ep, ho, hx, hd, ks, hp, _⟩ := I.hok _ _ hs
      obtain ⟨as, bs, r1, r2, n1, n2⟩ := RpKv.reads2 I kvs _ vs es.toList ha kv hp
      refine ⟨_, Reads.dict ho hx.1 hd r1 r2, fun z y => ?_⟩
      rcases List.mem_cons.mp (List.cons_append ▸ y) with y | y
      · rw [← y] at nS
        simp at nS
      · rcases List.mem_append.mp y with y | y
        · exact n1 y
        · exact n2 (by simpa [noL] using z) y
theorem RpAll.reads2 (I : Inv X pins σ H s) : ∀ (ds : List D) (vs : List V) (us : List Value), RpAll X.K H vs ds → Vals vs us → ∃ as, ReadsAll s.heap us ds as ∧ (noLs ds = true → sysModules ∉ as)
  | [], _, _, h, r => by
    cases h
    cases r
    exact ⟨_, ReadsAll.nil, fun _ z => nomatch z⟩
  | d :: ds, _, _, h, r => by
    cases h with
    | cons h1 h2 =>
      cases r with
      | cons r1 r2 =>
        obtain ⟨as, q1, n1⟩ := Rp.reads2 I d _ _ h1 r1
        obtain ⟨bs, q2, n2⟩ := RpAll.reads2 I ds _ _ h2 r2
        refine ⟨_, ReadsAll.cons q1 q2, fun z y => ?_⟩
        have z' : noL d = true ∧ noLs ds = true := by simpa [noLs] using z
        rcases List.mem_append.mp y with y | y
        · exact n1 z'.1 y
        · exact n2 z'.2 y
theorem RpKv.reads2 (I : Inv X pins σ H s) : ∀ (ds : List (D × D)) (vs : List (Key × V)) (us : List (Key × Value)) (es : List DictEntry), RpKv X.K H vs ds → KV vs us → Pairs (mixKind X.prog X.w) es us →
    ∃ as bs, ReadsAll s.heap (es.map (·.key)) (ds.map (·.1)) as ∧ ReadsAll s.heap (es.map (·.val)) (ds.map (·.2)) bs ∧ sysModules ∉ as ∧ (noLk ds = true → sysModules ∉ bs)
  | [], _, _, _, h, r, p => by
    cases h
    cases r
    cases p
    exact ⟨_, _, ReadsAll.nil, ReadsAll.nil, (fun z => nomatch z), fun _ z => nomatch z⟩
  | d :: ds, _, _, _, h, r, p => by
    cases h with
    | cons h1 h2 =>
      cases r with
      | cons r1 r2 =>
        cases p with
        | cons k1 e1 p' =>
          obtain ⟨as, bs, q1, q2, n1, n2⟩ := RpKv.reads2 I ds _ _ _ h2 r2 p'
          obtain ⟨r1a, r1b⟩ := r1
          obtain ⟨cs, q3, n3⟩ := Rp.reads2 I _ _ _ h1 r1b
          have r1c := r1a
          simp only at r1c
          rw [← e1] at q3
          have n4 : ∀ {x : D} {k : D}, noLk ((k, x) :: ds) = true → noL x = true ∧ noLk ds = true := fun {x k} z => by simpa [noLk] using z
          rcases keyIs_shape k1 with ⟨i, t, h3, h4⟩ | ⟨x, t, h3, h4⟩
          · rw [r1c, h3]
            refine ⟨_, _, ReadsAll.cons (show Reads s.heap _ (keyD (.inl i)) [] by simp only [h4]; exact Reads.int i t) q1, ReadsAll.cons q3 q2, n1, fun z y => ?_⟩
            rcases List.mem_append.mp y with y | y
            · exact n3 (n4 z).1 y
            · exact n2 (n4 z).2 y
          · rw [r1c, h3]
            refine ⟨_, _, ReadsAll.cons (show Reads s.heap _ (keyD (.inr x)) [] by simp only [h4]; exact Reads.str x t) q1, ReadsAll.cons q3 q2, n1, fun z y => ?_⟩
            rcases List.mem_append.mp y with y | y
            · exact n3 (n4 z).1 y
            · exact n2 (n4 z).2 y
end
def rRepr (K : Fg) : List V → Hp → VK → Prop := fun vs H Q => ∃ v x, vs = [v] ∧ Rp K H v x ∧ repOk x = true ∧ Q (.str x.shown) H
theorem cr_repr (hg : X.A.guards = some []) (hu : X.A.units + 64 < cLine) : CallR X (.builtin "repr") (rRepr X.K) := by
  intro pins s σ H vs us Q I r h
  obtain ⟨v, x, rfl, hx, ok, q⟩ := h
  obtain ⟨u, rfl, rv⟩ := vals1 r
  unfold repOk at ok
  rw [Bool.and_eq_true, Bool.and_eq_true, Bool.and_eq_true, decide_eq_true_eq, decide_eq_true_eq, Bool.or_eq_true, Bool.not_eq_true'] at ok
  obtain ⟨⟨⟨k1, k2⟩, k3⟩, k4⟩ := ok
  have k2' : x.shown.length ≤ sizeLine := by rw [sizeLine_eq]; exact k2
  obtain ⟨as, rd, ns⟩ := Rp.reads2 I x v u hx rv
  have hsm : x.hasDict = true → sysModules ∉ as := fun z => k4.elim (fun w => by rw [z] at w; cases w) ns
  have done : ∀ {h' : Heap} {tk u'}, (∀ b o, s.heap.get? b = some o → h'.get? b = some o) → EP X pins σ Q (.str x.shown u') { s with heap := h', toks := tk } := fun {h' tk u'} kp => ⟨.str x.shown, H, I.kept kp, ⟨_, rfl⟩, q⟩
  have ref : ∀ a, u = .ref a → wpAny (model X.prog X.w) X.A (call (.builtin "repr") [u]) (EP X pins σ Q) X.xe s := fun a e => by
    subst e
    exact repr_of_reads' rd k1 hsm hg (by omega) (fun _ _ z => z) (fun h' u' tk kp => done kp) k2'
  cases x with
  | none =>
    cases hx
    cases rv
    exact PySem.P.repr_of_none (done fun _ _ z => z)
  | bool b =>
    cases hx
    cases rv
    exact PySem.P.repr_of_bool (done fun _ _ z => z)
  | int i =>
    cases hx
    obtain ⟨t, rfl⟩ := rv
    have k1' : decide (i.natAbs.log2 < 1920) = true := by simpa [PyData.showable] using k1
    exact PySem.P.repr_of_int (of_decide_eq_true k1') (done fun _ _ z => z)
  | str y =>
    cases hx
    obtain ⟨t, rfl⟩ := rv
    exact PySem.P.repr_of_str (done fun _ _ z => z) k2'
  | list ds => cases hx with | lst hs ha => exact ref _ rv
  | tuple ds => cases hx with | tup hs ha => exact ref _ rv
  | dict ds => cases hx with | dic hs ha => exact ref _ rv
theorem og_repr {K : Fg} : CallG (rRepr K) K gRepr := by
  intro Pr H vs xs sv Q tr hv e k
  unfold gRepr at e
  split at e
  · split at e
    · cases e
      cases hv with
      | cons h1 h2 =>
        cases h2
        exact ⟨_, _, rfl, h1.rp hid_le, by assumption, k _ _ (.refl _) res_str⟩
    · cases e
  · cases e
end
end MP
end

section
set_option Elab.async false
set_option linter.all false
set_option maxRecDepth 100000
set_option maxHeartbeats 4000000
set_option autoImplicit false
namespace MP
open PySem PySem.Spec L2

section
variable {X : Cx} {P : Pk} {E : St → XK} {te a b : Expr} {ma mb : ME} {p pos p2 p3 p4 p5 : Pos}
/-! ### x[::-1] -/
theorem rev_adjust (n : Nat) : Builtin.Slice.sliceAdjust none none (-1) (n : Int) = ((n : Int) - 1, -1) := rfl
theorem rev_places (n : Nat) : Builtin.Slice.slicePlaces ((n : Int) - 1) (-1) (-1) = n := by
  unfold Builtin.Slice.slicePlaces
  rw [if_neg (by decide)]
  by_cases h : (n : Int) - 1 > -1
  · rw [if_pos h]
    have e : ((n : Int) - 1 - -1 - 1) / (- -1) + 1 = n := by
      rw [show (- -1 : Int) = 1 by decide, Int.ediv_one]
      omega
    rw [e, Int.toNat_natCast]
  · rw [if_neg h]
    have : n = 0 := by omega
    subst this
    rfl
theorem fm_congr {α β : Type} {f g : α → Option β} : ∀ {l : List α}, (∀ x ∈ l, f x = g x) → l.filterMap f = l.filterMap g
  | [], _ => rfl
  | x :: l, h => by
    rw [List.filterMap_cons, List.filterMap_cons, h x List.mem_cons_self, fm_congr fun y hy => h y (List.mem_cons_of_mem _ hy)]
theorem rev_pick (xs : Array Value) : ((List.range xs.size).filterMap fun (k : Nat) => xs[(((xs.size : Int) - 1) + (k : Int) * (-1)).toNat]?).toArray = xs.toList.reverse.toArray := by
  have e : (fun (k : Nat) => xs[(((xs.size : Int) - 1) + (k : Int) * (-1)).toNat]?) = fun (k : Nat) => xs[((xs.size : Int) - 1 - (k : Int)).toNat]? := by
    funext k
    have : ((xs.size : Int) - 1) + (k : Int) * (-1) = (xs.size : Int) - 1 - (k : Int) := by omega
    rw [this]
  rw [e, ← PySem.W.krv_all xs, ← List.filterMap_reverse, ← PySem.W.krv_range, List.filterMap_map]
  congr 1
  apply fm_congr
  intro k hk
  have := List.mem_range.mp hk
  show xs[((xs.size : Int) - 1 - (k : Int)).toNat]? = xs[xs.size - 1 - k]?
  have : ((xs.size : Int) - 1 - (k : Int)).toNat = xs.size - 1 - k := by omega
  rw [this]
theorem turned_tuple {prog : Program} {w : World} {A : Around} {W : Value → Shared → Prop} {s : Shared} {t sl : Addr} {items : Array Value} {vs : Value} {Q : Value → Shared → Prop} (ht : PyProof.Rows.IsTup s.heap t items) (hs : s.heap.IsSliceOf sl .none .none vs) (ps : IsPart vs (some (-1)))
    (h : Q (.ref s.heap.objs.size) { s with heap := s.heap.push { cls := .type "tuple", data := .seq items.toList.reverse.toArray } })
    (hsz : items.size ≤ sizeLine) : wpAny (model prog w) A (getItem (.ref t) (.ref sl)) Q W s := by
  have fits : sizeOk (.seq items.toList.reverse.toArray) := by
    show items.toList.reverse.toArray.size ≤ sizeLine
    rw [List.size_toArray, List.length_reverse, Array.length_toList]
    exact hsz
  obtain ⟨os, o1, o2, o3⟩ := id hs
  have tyS : s.TypeIs (.ref sl) "slice" := ⟨os, o1, o2⟩
  unfold getItem
  try with_reducible refine wpAny_holding ?_
  first | refine wpAny_bind (wpAny_pure ?_) | skip
  refine wpAny_bind (wpAny_sequenceKey ht.typeIs (by decide) ?_)
  refine wpAny_bind (wpAny_callSpecial?_slot (name := Str.ofString "__getitem__") ht.typeIs PyProof.Rows.slot_tuple_getitem
    (wpAny_call_entry PyProof.Rows.slot_tuple_getitem ht.typeIs PyProof.Rows.entry_tuple_getitem ?_ (PyProof.Rows.args_tuple_getitem _ _)))
  show wpAny _ _ (Builtin.Tuple.tupleItemsOf (.ref t) >>= _) _ _ s
  refine wpAny_bind (PyProof.Rows.tupleItemsOf_ ht ?_)
  refine wpAny_bind (wpAny_typeOf tyS ?_)
  rw [if_pos (by decide)]
  have app : ∀ {B : Around} {Z : Value → Shared → Prop} {R : Int × Int × Nat → Shared → Prop}, R ((items.size : Int) - 1, -1, items.size) s → wpAny (model prog w) B (Builtin.Slice.sliceApplied (.ref sl) (pure (items.size : Int))) R Z s := fun {B Z R} hR => by
    unfold Builtin.Slice.sliceApplied Builtin.Slice.sliceFields
    refine wpAny_bind (wpAny_bind (wpAny_field o1 o3 (x := .none) rfl (wpAny_bind (wpAny_field o1 o3 (x := .none) rfl (wpAny_bind (wpAny_field o1 o3 (x := vs) rfl (wpAny_pure ?_)))))))
    refine wpAny_bind (HT.slicePart_ ps ?_)
    show wpAny _ _ (if ((-1 : Int) == 0) = true then _ else _) _ _ s
    rw [if_neg (by decide)]
    refine wpAny_bind (PyProof.Rows.slicePart_none (wpAny_bind (PyProof.Rows.slicePart_none (wpAny_bind (wpAny_pure ?_)))))
    show wpAny _ _ (match Builtin.Slice.sliceAdjust none none (-1) (items.size : Int) with | (lo, hi) => pure (lo, (-1 : Int), Builtin.Slice.slicePlaces lo hi (-1))) _ _ s
    rw [rev_adjust]
    show wpAny _ _ (pure ((items.size : Int) - 1, (-1 : Int), Builtin.Slice.slicePlaces ((items.size : Int) - 1) (-1) (-1))) _ _ s
    rw [rev_places]
    exact wpAny_pure hR
  refine wpAny_bind (app ?_)
  have hno : ¬ ((((items.size : Int) - 1) == 0 && (-1 : Int) == 1 && items.size == items.size) = true) := by
    rw [show ((-1 : Int) == 1) = false from rfl, Bool.and_false, Bool.false_and]
    exact Bool.false_ne_true
  show wpAny _ _ (if (((items.size : Int) - 1) == 0 && (-1 : Int) == 1 && items.size == items.size) = true then _ else _) _ _ s
  rw [if_neg hno, rev_pick]
  first
    | exact wpAny_bind (m := Builtin.Tuple.tupleExact _) (wpAny_newObj_type (wpAny_pure ⟨_, rfl, wpAny_pure h⟩) fits)
    | exact wpAny_bind (m := Builtin.Tuple.tupleExact _) (wpAny_newObj_type (wpAny_bind (wpAny_pure (wpAny_pure ⟨_, rfl, wpAny_pure h⟩))) fits)
    | exact wpAny_bind (wpAny_bind (m := Builtin.Tuple.tupleExact _) (wpAny_newObj_type (wpAny_pure (wpAny_pure ⟨_, rfl, wpAny_pure h⟩)) fits))
    | exact wpAny_bind (wpAny_bind (m := Builtin.Tuple.tupleExact _) (wpAny_newObj_type (wpAny_pure ⟨_, rfl, wpAny_pure h⟩) fits))
def tRevT (K : Fg) (te : TE) : TE := fun σ H Q => te σ H fun x H1 => ∃ a xs, x = .ref a ∧ SqT K H1 a xs ∧ ∀ p, H1 p = none → Q (.ref p) (upd H1 p (.tup xs.reverse))
theorem pe_revT {te : TE} {k : Nat} (he : PE X a te) : PE X (.Subscript a (.Slice none none (some (.UnaryOp .USub (.Constant (.int 1) k p2) p3)) p4) pos) (tRevT X.K te) := by
  refine ⟨fun pins s σ H Q I h => ?_⟩
  refine PyProof.Rows.Subscript_ (thn (he.run pins s σ H _ I h) fun v s1 ⟨x, H1, I1, r1, q1⟩ => ?_)
  obtain ⟨ad, xs, ex, hx, q⟩ := q1
  subst ex
  cases r1
  have part : PO X (some (.UnaryOp .USub (.Constant (.int 1) k p2) p3)) (tPart (tUn (rU fun i => .int (-i)) (tC (.int 1)))) := po_some (pe_un un_neg pe_int)
  refine wpAny_Slice ?_
  rw [evalPart_none]
  refine wpAny_pure (wpAny_pure ?_)
  refine thn (part.run pins s1 σ H1 (fun o H4 => o = some (-1) ∧ H4 = H1) I1 ⟨1, rfl, -1, rfl, rfl, rfl⟩) fun vs s4 ⟨o, H4, I4, ps, eo, e4⟩ => ?_
  subst eo e4
  have J : Inv X pins σ H4 { s4 with heap := s4.heap.push { cls := .type "slice", data := .fields #[.none, .none, vs] } } := I4.kept (t' := s4.toks) fun b ob q => Heap.get?_push_of_some _ q
  obtain ⟨its, r, ht, hz⟩ := J.tuple hx
  have hl := r.length
  show wpAny (model X.prog X.w) X.A (PyProof.Rows.subscriptTail a (.Slice none none (some (.UnaryOp .USub (.Constant (.int 1) k p2) p3)) p4) (.ref ad) (.ref s4.heap.objs.size)) (EP X pins σ Q) X.xe { s4 with heap := s4.heap.push { cls := .type "slice", data := .fields #[.none, .none, vs] } }
  refine PyProof.Rows.tail_any (ops := [.ref ad, .ref s4.heap.objs.size]) ht.typeIs (PyProof.Rows.slot_tuple_getitem.lookup) ?_ (by with_unfolding_all rfl)
  refine turned_tuple ht (Heap.IsSliceOf.new _ .none .none vs) ps ?_ (by rw [List.size_toArray]; omega)
  refine ⟨.ref _, _, J.laid (t' := s4.toks) (o := .tup xs.reverse) (fun b ob q => Heap.get?_push_of_some _ q) (Nat.le_refl _) ?_, rfl, q _ (J.hok.fresh (Nat.le_refl _))⟩
  exact ⟨by rw [List.length_reverse]; exact hz, _, r.reverse, ⟨_, Heap.get?_push_size _ rfl, rfl, _, rfl⟩⟩
theorem peOr {t t' : TE} (h : PE X a t) (h' : PE X a t') : PE X a (fun σ H Q => t σ H Q ∨ t' σ H Q) := ⟨fun pins s σ H Q I q => q.elim (h.run pins s σ H Q I) (h'.run pins s σ H Q I)⟩
theorem s_rev {k : Nat} (ha : PE X a (tM P E ma)) (hK : X.K = P.K := by rfl) : PE X (.Subscript a (.Slice none none (some (.UnaryOp .USub (.Constant (.int 1) k p2) p3)) p4) pos) (tM P E (m1 revD ma)) := by
  obtain ⟨K, CA⟩ := P
  subst hK
  refine PE.imp (peOr (pe_revL ha) (pe_revT ha)) fun σ H Q ⟨g, ρ, rp, h⟩ => ?_
  have h' : PostE ⟨X.K, CA⟩ E g σ ρ H H Q ((ma ρ).bind fun v ρ1 => viewB ρ1 v fun x => opt (revD x) ρ1) := h
  cases e : ma ρ with
  | raise c x ρ1 =>
    rw [e] at h'
    exact .inl ⟨g, ρ, rp, by rw [e]; exact h'⟩
  | stuck =>
    rw [e] at h'
    exact h'.elim
  | ok sv ρ1 =>
    rw [e, Out.bind_ok] at h'
    obtain ⟨x, ex, h1⟩ := viewB_some' h'
    obtain ⟨z, ez, h1⟩ := opt_of h1
    unfold revD at ez
    split at ez
    · cases ez
      refine .inl ⟨g, ρ, rp, ?_⟩
      rw [e]
      intro v H1 r1 s1 f1 q1
      obtain ⟨ad, ws, rfl, w1, w2⟩ := q1.top r1 ex
      exact ⟨ad, ws, rfl, w1, fun p hp => post_res r1 f1.free (PostG.step h1 s1 f1) (.new hp) (res_lst hp w2.reverse)⟩
    · cases ez
      refine .inr ⟨g, ρ, rp, ?_⟩
      rw [e]
      intro v H1 r1 s1 f1 q1
      obtain ⟨ad, ws, rfl, w1, w2⟩ := q1.top r1 ex
      exact ⟨ad, ws, rfl, hid_le.st w1, fun p hp => post_res r1 f1.free (PostG.step h1 s1 f1) (.new hp) (res_tup (fun _ z => r1.out_some z) hp w2.reverse)⟩
    · cases ez
/-! ### constants of the module -/
theorem s_glI {x : Str} {i : Int} {tk : Tok} (hm : X.mg x = some (.int i tk)) (hg : Gl X x := by rfl) (hd : (x == ("__debug__" : Str)) = false := by decide) : PE X (.Name x pos) (tM P E (mC (.int i))) :=
  PE.imp (pe_glob hg hm (show RelV (.int i) _ from ⟨tk, rfl⟩) hd) (tM_c fun _ _ => .int i)
def KeysI : List DictEntry → List Int → Prop
  | [], [] => True
  | e :: r, i :: is => (∃ t, e.key = .int i t) ∧ e.hash = hashInt i ∧ KeysI r is
  | _, _ => False
/-- a written dict, int keys -/
structure KTab (K : Fg) (ad : Addr) (ks : List Int) : Prop where
  ex : ∃ (es : Array DictEntry) (n : Nat), K.lookup ad = some ⟨.type "dict", none, .dict es n, #[]⟩ ∧ KeysI es.toList ks
  low : (ad == sysModules) = false
theorem KeysI.all {PP : Program} {w : World} : ∀ {es : List DictEntry} {ks : List Int}, KeysI es ks → ∀ e ∈ es, ∃ k : Key, (mixKind PP w).is k e.key = true ∧ e.hash = (mixKind PP w).hash k
  | [], [], _, e, h => by cases h
  | [], _ :: _, h, _, _ => h.elim
  | _ :: _, [], h, _, _ => h.elim
  | x :: es, k :: ks, h, e, he => by
    obtain ⟨⟨t, h1⟩, h2, h3⟩ := h
    rcases List.mem_cons.mp he with rfl | he
    · exact ⟨.inl k, by rw [h1]; exact mixKind_int PP w k t, h2⟩
    · exact KeysI.all h3 e he
theorem KeysI.find {i : Int} : ∀ {es : List DictEntry} {ks : List Int}, KeysI es ks → (es.find? fun d => keyIs (.inl i) d.key).isSome = ks.contains i
  | [], [], _ => rfl
  | [], _ :: _, h => h.elim
  | _ :: _, [], h => h.elim
  | x :: es, k :: ks, h => by
    obtain ⟨⟨t, h1⟩, h2, h3⟩ := h
    have e : keyIs (.inl i) x.key = (i == k) := by
      rw [h1]
      unfold keyIs Value.isInt
      by_cases h : i = k
      · subst h; simp
      · have h' : ¬ k = i := fun z => h z.symm
        rw [beq_eq_false_iff_ne.mpr h]
        exact beq_eq_false_iff_ne.mpr h'
    rw [List.find?_cons, e, List.contains_cons]
    cases hk : (i == k) with
    | true => rfl
    | false =>
      rw [Bool.false_or]
      exact KeysI.find h3
theorem KTab.mapOf {ad : Addr} {ks : List Int} {PP : Program} {w : World} {K : Fg} {h : Heap} (t : KTab K ad ks) (X : K.In h) : ∃ f, h.MapOf (mixKind PP w) ad f ∧ ∀ i : Int, (f (.inl i)).isSome = ks.contains i := by
  obtain ⟨es, n, h1, h2⟩ := t.ex
  refine ⟨fun k => findBy (mixKind PP w).is es k, ⟨_, es, n, X _ _ h1, ⟨rfl, rfl, rfl⟩, rfl, fun e he => h2.all e (Array.mem_toList_iff.mpr he), fun _ => rfl⟩, fun i => ?_⟩
  rw [← h2.find]
  show (findBy keyIs es (.inl i)).isSome = _
  unfold findBy
  rw [← Array.find?_toList, Option.isSome_map]
def rInT (ad : Addr) (ks : List Int) : R2 := fun x y H Q => ∃ i, x = .int i ∧ y = .ref ad ∧ Q (.bl (ks.contains i)) H
theorem op_inT {ad : Addr} {ks : List Int} (t : KTab X.K ad ks) : OpR X (compareOp .In) (rInT ad ks) := by
  intro pins s σ H x y v u Q I rx ry h
  obtain ⟨i, rfl, rfl, q⟩ := h
  obtain ⟨tk, rfl⟩ := rx
  cases ry
  obtain ⟨f, hf, hs⟩ := t.mapOf (PP := X.prog) (w := X.w) I.kIn
  refine wpAny_in_of (mixKind_int X.prog X.w i tk) t.low hf ?_
  rw [hs]
  exact ⟨.bl _, H, I.tok _, rfl, q⟩
theorem s_inT {ad : Addr} {ks : List Int} {y : Str} (t : KTab X.K ad ks) (hm : X.mg y = some (.ref ad)) (ha : PE X a (tM P E ma)) (hg : Gl X y := by rfl) (hd : (y == ("__debug__" : Str)) = false := by decide) (hm' : behindInMarks .In (.Name y p2) = false := by with_unfolding_all rfl) :
    PE X (.Compare a [.In] [.Name y p2] pos) (tM P E (m1 (cInT ks) ma)) := by
  refine PE.imp (pe_cmpR (op_inT t) ha (pe_glob (v := .ref ad) hg hm rfl hd) hm') fun σ H Q ⟨g, ρ, rp, h⟩ => ?_
  refine ⟨g, ρ, rp, bindG (R := RVP P) (R' := RVP P) h fun sv ρ1 v H1 r1 s1 f1 q1 h1 => ?_⟩
  obtain ⟨x, ex, h1⟩ := viewB_some' h1
  obtain ⟨z, ez, h1⟩ := opt_of h1
  have tp := q1.top r1 ex
  unfold cInT at ez
  split at ez
  · cases ez
    cases tp
    exact ⟨_, rfl, rfl, post_res r1 f1.free h1 (.refl _) res_bool⟩
  · cases ez
/-! ### new dicts -/
theorem s_d0 : PE X (.Dict [] [] pos) (tM P E mDct0) := PE.imp pe_dnewK fun σ H Q ⟨g, ρ, rp, h⟩ p hp => by
  refine post_res rp (Free.refl _) h (.new hp) ⟨p, rfl, hp, [], upd_same, .nil⟩
theorem s_d1 {i j : Int} {k l : Nat} : PE X (.Dict [some (.Constant (.int i) k p2)] [.Constant (.int j) l p3] pos) (tM P E (mDct1 i j)) := by
  refine PE.imp (pe_disp (pps_cons pe_int pe_int pps_nil) rfl rfl (by intro h; cases h) (by show 1 ≤ 15; decide)) fun σ H Q ⟨g, ρ, rp, h⟩ p hp => ?_
  refine ⟨upd_same, [(.inl i, .int j)], rfl, (by show 1 ≤ 15; decide), ?_⟩
  have e : upd (upd H p (.dK [])) p (.dK (mergeK [] [(.inl i, .int j)])) = upd H p (.dK [(.inl i, .int j)]) := by
    funext a
    by_cases z : a = p
    · subst z
      rw [upd_same, upd_same] <;> rfl
    · rw [upd_ne z, upd_ne z, upd_ne z]
  rw [e]
  exact post_res rp (Free.refl _) h (.new hp) ⟨p, rfl, hp, [(.inl i, .int j)], upd_same, .cons (.int j) .nil⟩
/-! ### enumerate -/
theorem enum_get : ∀ {xs : List D} {k : Int} {i : Nat} {x : D}, (enumFrom k xs)[i]? = some x → ∃ y, xs[i]? = some y ∧ x = .tuple [.int (k + i), y]
  | [], k, i, x, h => by simp [enumFrom] at h
  | y :: ys, k, 0, x, h => by
    simp [enumFrom] at h
    exact ⟨y, rfl, by rw [← h]; simp⟩
  | y :: ys, k, i + 1, x, h => by
    have h' : (enumFrom (k + 1) ys)[i]? = some x := by simpa [enumFrom] using h
    obtain ⟨z, h1, h2⟩ := enum_get h'
    refine ⟨z, by simpa using h1, ?_⟩
    rw [h2]
    have : k + 1 + (i : Int) = k + ((i + 1 : Nat) : Int) := by omega
    rw [this]
theorem enum_len : ∀ {xs : List D} {k : Int}, (enumFrom k xs).length = xs.length
  | [], k => rfl
  | y :: ys, k => congrArg (· + 1) (enum_len (xs := ys) (k := k + 1))
theorem jok_enum {K : Fg} {Pr : Addr → Prop} {H1 : Hp} {l : Addr} {vs : List V} {xs : List D} (h : SqL K (hid Pr H1) l vs) (r : RpAll K (hid Pr H1) vs xs) : JOk K (Ite K l) (enumFrom 0 xs) Pr H1 := by
  refine ⟨fun H lt i hi => ?_, fun H lt => ?_, fun H lt i x v H' e y => ?_⟩
  · rw [enum_len, ← r.length] at hi
    exact ⟨vs, vs[i], later_sl lt h, List.getElem?_eq_getElem hi⟩
  · rw [enum_len, ← r.length]
    exact ⟨vs, later_sl lt h, Nat.le_refl _⟩
  · obtain ⟨T, z, rfl, hT, rfl, hz⟩ := y
    obtain ⟨d, e1, rfl⟩ := enum_get e
    obtain ⟨u, e2, e3⟩ := r.get e1
    have ez : u = z := Option.some.inj (e2.symm.trans (hz vs (later_sl lt h)))
    subst ez
    have nT : ∀ a o, hid Pr H1 a = some o → a ≠ T := fun a o q z => by
      obtain ⟨n, q⟩ := hid_some.mp q
      rw [z] at q
      by_cases hp : Pr T
      · exact n (by rw [z]; exact hp)
      · rw [lt T o q hp] at hT
        cases hT
    refine ⟨.new hT, (· = T), fun a z => by rw [z]; exact hT, ?_⟩
    refine Rp.tup (xs := [.int (i : Nat), u]) (SqT.of ?_) (.cons ?_ (.cons (e3.grow fun a o q => ?_) .nil))
    · unfold joinN
      rw [if_pos rfl]
      exact upd_same
    · rw [Int.zero_add]
      exact .int _
    · unfold joinN
      rw [if_neg (nT a o q)]
      exact q
theorem i_enum {elts : List Expr} {kk : Nat} (hm : X.mg "enumerate" = none) (ha : PE X a (tM P E ma)) (hK : X.K = P.K := by rfl) (hg : Gl X "enumerate" := by rfl) (he : starEach [a] X.env = (false, eval a X.env) :: starEach [] X.env := by rfl) (hs : starEach [a] X.env = [(false, eval a X.env)] := by rfl) :
    PI X (.Tuple elts kk p4) (.Call (.Name "enumerate" p) [a] [] pos) (iM P E (i1 enumD ma)) := by
  obtain ⟨K, CA⟩ := P
  subst hK
  refine PI.imp (pi_enum hg hm (pa_cons ha pa_nil he) hs) fun σ H R ⟨g, ρ, r, h⟩ => ?_
  refine ⟨g, ρ, r, bindG (R := RVP _) (R' := RJ _) h fun sv ρ1 v H1 r1 s1 f1 q1 h1 => ?_⟩
  obtain ⟨x, ex, h1⟩ := toB_some h1
  obtain ⟨z, ez, h1⟩ := opt_of h1
  have k := q1.keep ex
  unfold enumD at ez
  split at ez
  · cases ez
    cases k with
    | lst k1 k2 => exact ⟨_, _, rfl, hid_le.sl k1, h1 _ H1 r1 (.refl _) (.refl _ _) (jok_enum k1 k2)⟩
  · cases ez
end
end MP
end

section
set_option Elab.async false
set_option linter.all false
set_option maxRecDepth 100000
set_option maxHeartbeats 4000000
set_option autoImplicit false
namespace MP
open PySem PySem.Spec L2

section
variable {X : Cx} {P : Pk} {E : St → XK} {a b c : Expr} {es : List Expr} {ma mb mc : ME} {ms : List ME} {pos p p2 p3 : Pos}
/-! ### a < b < c as a test -/
theorem t_ch {op op' : CmpOp} {r r' : R2} {f f' : D → D → Option SV} (ho : OpR X (compareOp op) r) (hg : OpG r P.K f) (ho' : OpR X (compareOp op') r') (hg' : OpG r' P.K f') (bf : BoolF f') (ha : PE X a (tM P E ma)) (hb : PE X b (tM P E mb)) (hc : PE X c (tM P E mc))
    (hm : lastMarks [op, op'] [b, c] = false := by with_unfolding_all rfl) : PT X (.Compare a [op, op'] [b, c] pos) (tT P E (mTr (mCh f f' ma mb mc))) := by
  refine PT.imp (pt_chain ho ho' ha hb hc hm) fun σ H Q ⟨g, ρ, rp, h⟩ => ?_
  refine ch_of hg hg' σ H _ ⟨g, ρ, rp, ?_⟩
  have h' : PostT P E g σ ρ H H Q ((mCh f f' ma mb mc ρ).bind fun v ρ1 => viewB ρ1 v fun x => opt (truth x) ρ1) := h
  have shape : ∀ v ρ1, mCh f f' ma mb mc ρ = .ok v ρ1 → ∃ k, v = .d (.bool k) := fun v ρ1 e => by
    have e' : ((ma ρ).bind fun u ρ1 => (mb ρ1).bind fun v ρ2 => toB u fun x => toB v fun y => (opt ((f x y).bind boolOf) ρ2).bind fun k ρ3 =>
      if k = true then (mc ρ3).bind fun w ρ4 => toB w fun z => opt (((f' y z).bind boolOf).map fun q => SV.d (.bool q)) ρ4 else .ok (.d (.bool false)) ρ3) = .ok v ρ1 := e
    cases e1 : ma ρ with
    | raise c x ρ2 => rw [e1] at e'; cases e'
    | stuck => rw [e1] at e'; cases e'
    | ok u ρ2 =>
      rw [e1, Out.bind_ok] at e'
      cases e2 : mb ρ2 with
      | raise c x ρ2 => rw [e2] at e'; cases e'
      | stuck => rw [e2] at e'; cases e'
      | ok w ρ3 =>
        rw [e2, Out.bind_ok] at e'
        obtain ⟨x, _, e'⟩ := toB_ok e'
        obtain ⟨y, _, e'⟩ := toB_ok e'
        cases e3 : (f x y).bind boolOf with
        | none => rw [e3] at e'; cases e'
        | some k =>
          rw [e3, opt_some, Out.bind_ok] at e'
          cases k with
          | false =>
            rw [if_neg Bool.false_ne_true] at e'
            cases e'
            exact ⟨_, rfl⟩
          | true =>
            rw [if_pos rfl] at e'
            cases e4 : mc ρ3 with
            | raise c x ρ2 => rw [e4] at e'; cases e'
            | stuck => rw [e4] at e'; cases e'
            | ok z ρ4 =>
              rw [e4, Out.bind_ok] at e'
              obtain ⟨z', _, e'⟩ := toB_ok e'
              cases e5 : (f' y z').bind boolOf with
              | none => rw [e5] at e'; cases e'
              | some k2 =>
                rw [e5] at e'
                cases e'
                exact ⟨_, rfl⟩
  cases e : mCh f f' ma mb mc ρ with
  | raise c x ρ1 => rw [e] at h'; exact h'
  | stuck => rw [e] at h'; exact h'.elim
  | ok v ρ1 =>
    obtain ⟨k, rfl⟩ := shape v ρ1 e
    rw [e] at h'
    intro v' H' r1 s1 f1 q1
    have ev : v' = .bl k := q1.is_bl
    exact ⟨k, ev, h' k H' r1 s1 f1 rfl⟩
end
/-! ### keywords -/
section
variable {X : Cx} {CA : Str → Addr} {k j n : Nat} {x : Str} {st : Stmt} {f : F} {ks : List Str} {E : St → XK} {e : Expr} {kws : List Keyword} {p pos kpos : Pos} {m : ME} {ms : List ME} {nm : Option Str} {P : Pk}
theorem k_nil : PK X [] (tAs P E []) := ⟨fun pos pins s σ H Q I ⟨g, ρ, r, h⟩ => pk_nil.run pos pins s σ H Q I (h [] H r (.refl _) (.refl _ _) .nil)⟩
theorem cons_of : ∀ σ H Q, tAs P E (m :: ms) σ H Q → tCons (tM P E m) (tAs P E ms) σ H Q := fun σ H Q ⟨g, ρ, r, h⟩ => by
  refine ⟨g, ρ, r, bindG (R := RVP P) (R' := RAP P) (f := fun v ρ1 => (mArgs ms ρ1).bind fun vs ρ2 => .ok (v :: vs) ρ2) h fun sv ρ1 v H1 r1 s1 f1 q1 h1 => ?_⟩
  have h2 := PostG.more less_A h1 (le_gadd g v sv)
  refine ⟨gadd g v sv, ρ1, q1.gadd r1, ?_⟩
  cases e : mArgs ms ρ1 with
  | ok ss ρ2 => rw [e] at h1; exact fun vs H2 r2 s2 f2 q2 => h1 (v :: vs) H2 (r2.less (le_gadd g v sv)) s2 f2 (.cons (q1.later_own s2 f2 r2) (q2.older f1.free))
  | raise c x ρ2 => rw [e] at h2; exact h2
  | stuck => rw [e] at h2; exact h2
theorem k_cons (ha : PE X e (tM P E m)) (hr : PK X kws (tAs P E ms)) : PK X (⟨nm, e, kpos⟩ :: kws) (tAs P E (m :: ms)) := ⟨fun pos pins s σ H Q I q => (pk_cons ha hr).run pos pins s σ H Q I (cons_of σ H Q q)⟩
def permS (perm : List Nat) (vs : List SV) : List SV := perm.map fun j => vs[j]?.getD (.d .none)
theorem RVl.perm {K : Fg} {g : Gh} {H0 H : Hp} {σ : St} {ρ : En} {vs : List V} {ss : List SV} (r : RVl K g H0 H σ ρ vs ss) {perm : List Nat} (h : ∀ j ∈ perm, j < ss.length) : RVl K g H0 H σ ρ (perm.map fun j => vs[j]?.getD .non) (permS perm ss) := by
  refine ⟨by unfold permS; rw [List.length_map, List.length_map], fun i s e => ?_⟩
  unfold permS at e
  rw [List.getElem?_map] at e
  cases ep : perm[i]? with
  | none => rw [ep] at e; cases e
  | some j =>
    rw [ep] at e
    have hj := h j (List.mem_of_getElem? ep)
    have es : ss[j]? = some ss[j] := List.getElem?_eq_getElem hj
    have e' : some (ss[j]?.getD (.d .none)) = some s := e
    rw [es] at e'
    obtain ⟨v, h1, h2⟩ := r.at' j _ es
    refine ⟨v, ?_, ?_⟩
    · rw [List.getElem?_map, ep]
      show some (vs[j]?.getD .non) = some v
      rw [h1] <;> rfl
    · have e2 : ss[j] = s := Option.some.inj e'
      rw [← e2]
      exact h2
theorem vals_perm {vs : List V} {us : List Value} (r : Vals vs us) : ∀ perm : List Nat, (∀ j ∈ perm, j < us.length) → Vals (perm.map fun j => vs[j]?.getD .non) (perm.map fun j => us[j]?.getD .none)
  | [], _ => .nil
  | j :: perm, h => by
    have hj : j < vs.length := by rw [r.length]; exact h j List.mem_cons_self
    obtain ⟨u, hu, rv⟩ := r.get (List.getElem?_eq_getElem hj)
    refine .cons ?_ (vals_perm r perm fun i hi => h i (List.mem_cons_of_mem _ hi))
    show RelV (vs[j]?.getD .non) (us[j]?.getD .none)
    rw [List.getElem?_eq_getElem hj, hu]
    exact rv
/-- f(k = e, ..) -/
theorem s_callK (perm : List Nat) (hc : Cal X.prog X.w X.K X.mg X.base CA k st x f n) (hr : Room j X.A) (hg : X.A.guards = some []) (hx : ∀ σ, PassesAt (L2.CX X.prog X.w) X σ (E σ)) (ha : PK X kws (tAs ⟨X.K, CA⟩ E ms))
    (hb : ∀ (kV dc pm : Value) (an : Option Addr) (cd ct : Value) (ws : List Value), ws.length = ks.length → bindArgs (PySem.W.fnOf x x (fArgs st) (fBody st) (fScope st) .none kV dc pm an cd ct) ⟨[], ks.zip ws⟩ = pure ((fPars st).zip (perm.map fun j => ws[j]?.getD .none)))
    (hks : (backToKw pos (keywordEach kws X.env)).filterMap (·.1) = ks := by rfl) (hall : (backToKw pos (keywordEach kws X.env)).all (·.1.isSome) = true := by rfl) (hk : k ≤ j := by first | decide | omega) (hn : perm.length = n := by rfl) (hkl : ms.length = ks.length := by rfl) (hp : ∀ j ∈ perm, j < ms.length := by decide) (hgl : Gl X x := by rfl) (hdb : (x == ("__debug__" : Str)) = false := by decide)
    (hpl : ((backTo pos (starEach [] X.env)).any (·.1) || (backToKw pos (keywordEach kws X.env)).any (·.1.isNone)) = false := by rfl) :
    PE X (.Call (.Name x p) [] kws pos) (tM ⟨X.K, CA⟩ E (mCallK f perm ms)) := by
  obtain ⟨a, fd, F, hh⟩ := hc.ex
  obtain ⟨oc, od, kV, dc, pm, an, cd, ct, sl, rfl, lk, hcd⟩ := hh.ex
  refine ⟨fun pins s σ H Q I ⟨g, ρ, rp, h⟩ => ?_⟩
  refine wpAny_Call_Name_kw (ld_glob I hgl hh.named ?_ hdb)
  have h' : PostE ⟨X.K, CA⟩ E g σ ρ H H Q ((mArgs ms ρ).bind fun vs ρ1 => mCallGo f (permS perm vs) ρ1) := h
  have pre : tAs ⟨X.K, CA⟩ E ms σ H fun vs H1 => vs.length = ms.length ∧ spOf ⟨X.K, CA⟩ f n (perm.map fun j => vs[j]?.getD .non) H1 Q (E σ) := by
    refine ⟨g, ρ, rp, ?_⟩
    cases em : mArgs ms ρ with
    | ok ss ρ1 =>
      rw [em] at h'
      have el := mArgs_length em
      exact fun vs H1 r1 s1 f1 q1 => ⟨by rw [mArgs_len q1, el], call_post r1 s1 f1 (q1.list.perm fun j hj => by rw [el]; exact hp j hj) (by unfold permS; rw [List.length_map, hn]) h'⟩
    | raise c y ρ1 => rw [em] at h'; exact h'
    | stuck => rw [em] at h'; exact h'
  refine PySem.W.callWith_KW0 (h₀ := X.base) I.ok.mod.kin hh.kept hall (thn (ha.run pos pins s σ H _ I pre) fun ws s2 ⟨zs, H2, I2, rz, ez, q2⟩ => ⟨I2.kIn, ?_⟩) hpl
  rw [hks]
  have lw : ws.length = ms.length := by rw [← rz.length]; exact ez
  exact run_G (ar := ⟨[], ks.zip ws⟩) F (hr.mono hk) hg (hx σ) I2 (vals_perm rz perm fun j hj => by rw [lw]; exact hp j hj) (fun l => .of_eq (hb kV dc pm an cd ct ws (lw.trans hkl))) q2
end
/-! ### for the printed texts -/
/-- of a def of which nothing is asked -/
theorem cal_stuck {PP : Program} {w : World} {K : Fg} {mg : Str → Option Value} {base : Heap} {CA : Str → Addr} {k n : Nat} {st : Stmt} {x : Str} {a : Addr} {fd : FuncData} (h : Here K mg x st a fd) (hl : (fPars st).length = n) : Cal PP w K mg base CA k st x (fun _ => .stuck) n :=
  ⟨a, fd, ⟨fun vs H Q E z => (spOf_len z).trans hl.symm, fun _ _ _ _ _ _ _ _ _ _ _ _ _ _ ⟨_, _, _, _, _, z⟩ => z.elim⟩, h⟩

section
variable {PP : Program} {w : World} {K : Fg} {mg : Str → Option Value} {base : Heap} {N : List Str} {x : Str} {sc : Scope} {a : Addr} {cd : Value} {Ar : Around} {ou : List Env} {s0 : Shared} {H0 : Hp} {W : XK}
theorem pb : ∀ σ : St, PassesAt (L2.CX PP w) (cxOf (L2.CX PP w) PP w K mg base N x sc a cd Ar ou s0 H0 W) σ W := fun σ => passAt (W := fun cls d _ H => W cls d H) (takes_of rfl rfl rfl rfl) σ
theorem po : PassesOwn (model PP w) (cxOf (L2.CX PP w) PP w K mg base N x sc a cd Ar ou s0 H0 W).A (cxOf (L2.CX PP w) PP w K mg base N x sc a cd Ar ou s0 H0 W).env (cxOf (L2.CX PP w) PP w K mg base N x sc a cd Ar ou s0 H0 W).xe := passes_of (X := cxOf (L2.CX PP w) PP w K mg base N x sc a cd Ar ou s0 H0 W) rfl
theorem u64 {k : Nat} (r : Room k Ar) : Ar.units + 64 < cLine := r.units
theorem u65 {k : Nat} (r : Room k Ar) : Ar.units + 65 < cLine := by have := r.un; omega
end
end MP
end

section
set_option Elab.async false
set_option linter.all false
set_option maxRecDepth 100000
set_option maxHeartbeats 4000000
set_option autoImplicit false
namespace MP
open PySem PySem.Spec PyProof.Rows L2

/-- the law's def called by the claim's caller: its promise, read at the heap that the top left -/
theorem law_G {PP : Program} {w : World} {K : Fg} {mg mb : Str → Option Value} {k : Nat} {fa a : Addr} {fd : FuncData} {x : Str} {sp : Sp} {z1 : Shared} {vs : List Value} {ns : List Int}
    (inK : K.In z1.heap) (gl : z1.heap.Ns mainGlobals mg) (bl : z1.heap.Ns builtinsNs mb) (boot : ∀ y : Str, y ≠ "__name__" → mb y = bootBuiltins y) (nl : z1.heap.NoLimit) (gn : z1.gens = #[])
    (ha : z1.heap.get? a = some { cls := .type "list", data := .seq vs.toArray }) (hi : IntsAre vs ns) (hz : ns.length ≤ sizeLine) (room : Room k callerA)
    (F : ∀ base : Heap, K.In base → base.Ns mainGlobals mg → FnG PP w K mg base k fa fd [x] sp) (bd : ∀ (s : Shared) (u : Value), BindsTo s fd ⟨[u], []⟩ [(x, u)])
    (hsp : ∀ H : Hp, SqL K H a (ns.map V.int) → sp [.ref a] H (fun v _ => v = .bl true) fun _ _ _ => False) :
    codeAny (model PP w) callerA (.call (.ref fa) ⟨[.ref a], []⟩) (fun r s' => r = .ok (.ret (.bool true)) ∧ OldK z1.heap s'.heap ∧ s'.os = z1.os ∧ AllBare s'.gens) z1 := by
  have vi := vals_ints hi
  have li := hi.length
  have main : ∀ H : Hp, (∀ b, H b = none ∨ ∃ o xs, H b = some (.frz o (.lst xs))) → SqL K H a (ns.map V.int) → HOk PP w H z1.heap → (∀ b, H b ≠ none → b = a) → (H a ≠ none → K.lookup a = none) →
      codeAny (model PP w) callerA (.call (.ref fa) ⟨[.ref a], []⟩) (fun r s' => r = .ok (.ret (.bool true)) ∧ OldK z1.heap s'.heap ∧ s'.os = z1.os ∧ AllBare s'.gens) z1 := by
    intro H only sq ok one free
    have noA : ∀ {b : Addr} {o : Obj} {es : Array DictEntry} {ep : Nat}, z1.heap.get? b = some o → o.data = .dict es ep → H b = none := fun {b o es ep} e d => by
      cases q : H b with
      | none => rfl
      | some u =>
        obtain rfl : b = a := one b (by rw [q]; simp)
        rw [ha] at e
        cases e
        have d' : Data.seq vs.toArray _ = Data.dict es ep := d
        cases d'
    have nsB : ∀ {b : Addr} {m : Str → Option Value}, z1.heap.Ns b m → (hidT z1.heap H).Ns b m := fun {b m} ⟨o, es, ep, e, d, r⟩ => ⟨o, es, ep, hidT_get e (noA e d), d, r⟩
    have inB : K.In (hidT z1.heap H) := fun b o e => hidT_get (inK b o e) (by
      cases q : H b with
      | none => rfl
      | some u =>
        obtain rfl : b = a := one b (by rw [q]; simp)
        rw [free (by rw [q]; simp)] at e
        cases e)
    have mod : Mod K mg (hidT z1.heap H) := ⟨inB, nsB gl, ⟨mb, nsB bl, boot⟩, let ⟨mc, h1, h2⟩ := nl; ⟨mc, nsB h1, h2⟩⟩
    have e0 : Env0 PP w K mg (hidT z1.heap H) callerA [] z1 H := ⟨rfl, mod, fun b o e => of_hidT e, Nat.le_of_eq (hidT_size _ _), trivial, fun b hb => absurd (show b ∈ ([] : List Addr) from hb) (by simp), ok, .of_eq gn⟩
    refine codeAny_mono ((F _ inB (nsB gl)).go callerA [] z1 H ⟨[.ref a], []⟩ [.ref a] [.ref a] _ _ room rfl e0 (bd z1 (.ref a)) (.cons rfl .nil) (hsp H sq)) fun r s' h => ?_
    cases r with
    | error e =>
      obtain ⟨_, _, _, _, _, _, _, _, _, _, _, _, z⟩ := h
      exact z.elim
    | ok fl => cases fl with
      | next => exact False.elim h
      | brk => exact False.elim h
      | cont => exact False.elim h
      | ret u =>
        obtain ⟨v, H', os, bare, un, ok', r', rfl⟩ := h
        obtain rfl : u = Value.bool true := r'
        refine ⟨rfl, OldK.of_keep fun b o e => ?_, os, bare⟩
        cases q : H b with
        | none => exact un.keep b o e q (by intro z; exact absurd (show b ∈ ([] : List Addr) from z) (by simp)) (by simp)
        | some u =>
          rcases only b with z | ⟨ob, xs, z⟩
          · rw [q] at z
            cases z
          · obtain ⟨e1, _⟩ := ok b _ z
            obtain ⟨e2, _⟩ := ok' b _ (un.frzs b ob _ z)
            rw [e] at e1
            cases e1
            exact e2
  cases hk : K.lookup a with
  | some o =>
    have e := inK a o hk
    rw [ha] at e
    cases e
    exact main (fun _ => none) (fun _ => .inl rfl) (.inr ⟨_, vs.toArray, _, hk, rfl, rfl, rfl, by rw [List.size_toArray, li]; exact hz, by simpa using vi⟩) (fun b u z => nomatch (show (none : Option HO) = some u from z)) (fun b z => absurd rfl z) fun z => absurd rfl z
  | none =>
    refine main (fun b => if b = a then some (.frz { cls := .type "list", data := .seq vs.toArray } (.lst (ns.map V.int))) else none) (fun b => ?_) (.inl (.inr ⟨{ cls := .type "list", data := .seq vs.toArray }, if_pos rfl⟩)) (fun b u z => ?_) (fun b z => ?_) fun _ => hk
    · by_cases hb : b = a
      · exact .inr ⟨_, _, if_pos hb⟩
      · exact .inl (if_neg hb)
    · by_cases hb : b = a
      · have y := (if_pos hb).symm.trans z
        cases y
        subst hb
        exact ⟨ha, by rw [List.length_map]; exact hz, vs, _, vi, ha⟩
      · cases (if_neg hb).symm.trans z
    · by_cases hb : b = a
      · exact hb
      · exact absurd (if_neg hb) z
/-- a def that answers True of the script -/
theorem sp_law {P : Pk} {f : F} {H : Hp} {a : Addr} {ns : List Int} (hf : f [.d (.list (ns.map PyData.int))] = .ok (.d (.bool true)) []) (h : SqL P.K H a (ns.map V.int)) : spOf P f 1 [.ref a] H (fun v _ => v = .bl true) fun _ _ _ => False := by
  have hc : ∀ i, cellAt ([.d (.list (ns.map PyData.int))].map some) i = none := fun i => by
    unfold cellAt
    cases i with
    | zero => rfl
    | succ i => rfl
  have no : ∀ {b}, ¬ Out' ⟨fun _ => False, fun _ => none⟩ ([V.ref a].map some) ([.d (.list (ns.map PyData.int))].map some) b := fun {b} z => z.elim id fun ⟨i, c, h1, _⟩ => by
    rw [hc i] at h1
    cases h1
  have at0 : ∀ {i : Nat} {s : SV}, ([SV.d (.list (ns.map PyData.int))].map some)[i]? = some (some s) → i = 0 ∧ s = .d (.list (ns.map PyData.int)) := fun {i s} e => by
    cases i with
    | zero => cases e; exact ⟨rfl, rfl⟩
    | succ i => cases e
  refine ⟨⟨fun _ => False, fun _ => none⟩, [.d (.list (ns.map PyData.int))], rfl, fun s hs c e => ?_, ⟨rfl, fun i x e => ?_, fun i c e => ?_, fun i j c c' b e => ?_, fun b z => z.elim, fun i c e => ?_, fun i b e => (by cases e), fun i c x e => ?_, fun i n e => ?_⟩, ?_⟩
  · rw [List.mem_singleton.mp hs] at e
    cases e
  · obtain ⟨rfl, e⟩ := at0 e
    cases e
    refine ⟨.ref a, rfl, .lst (Grow.sl (fun b o e => hid_some.mpr ⟨no, e⟩) h) (rp_ints_map ns)⟩
  · rw [hc i] at e
    cases e
  · rw [hc i] at e
    cases e
  · cases (at0 e).2
  · cases (at0 e).2
  · cases (at0 e).2
  · rw [hf]
    exact fun ρ2 u H' _ _ _ r => r.is_bl
/-- the goal that k_head leaves, from the law's promise -/
theorem walk_G {l : PySem.W.OpenLaw} {n k : Nat} {q : Program} {loose : List Str} {XP : (Str → Option Value) → Heap → Prop} {YP : World → Heap → Prop} {d : DefRec} {K : Params → Fg} {sp : Fg → Sp} {x : Str}
    (hn : l.most = some n) (hn2 : n ≤ sizeLine) (hdf : d.params.defaults = []) (room : Room k callerA)
    (hY : ∀ (w : World) (h : Heap), YP w h → (K w.params).In h)
    (F : ∀ (w : World) (mg : Str → Option Value) (fa : Addr) (h : Heap), (K w.params).In h → h.Ns mainGlobals mg → mg d.name = some (.ref fa) →
      ∃ fd : FuncData, (∀ (s : Shared) (u : Value), BindsTo s fd ⟨[u], []⟩ [(x, u)]) ∧
        ∀ base : Heap, (K w.params).In base → base.Ns mainGlobals mg → FnG l.prog w (K w.params) mg base k fa fd [x] (sp (K w.params)))
    (hsp : ∀ (K : Fg) (H : Hp) (a : Addr) (ns : List Int), ns.length ≤ n → SqL K H a (ns.map V.int) → sp K [.ref a] H (fun v _ => v = .bl true) fun _ _ _ => False) :
    PySem.W.WalkO q loose XP YP l.row.toRowW d [] (fun f vs => PySem.call f vs) := by
  refine Att.attach_call hn hdf fun w z0 z1 mg mb fa o pm cd doc a vs ns G Y ho hd hcd hmg hobj hints hlen hg => ?_
  have inK := hY w _ Y
  obtain ⟨fd, bd, hF⟩ := F w mg fa _ inK G.T.g hmg
  exact law_G inK G.T.g G.T.b G.T.builtins G.T.nolimit hg hobj hints (Nat.le_trans hlen hn2) room hF bd fun H hS => hsp (K w.params) H a ns hlen hS
theorem here_mk {K : Fg} {mg : Str → Option Value} {h : Heap} {x : Str} {st : Stmt} {a : Addr} {oc : Value} {od an : Option Addr} {sl : Array (Option Value)} {kV dc pm cd ct : Value} (X : K.In h) (G : h.Ns mainGlobals mg)
    (hm : PySem.W.nsIn K mainGlobals x = some (some (.ref a))) (l : K.lookup a = some ⟨oc, od, .func (PySem.W.fnOf x x (fArgs st) (fBody st) (fScope st) .none kV dc pm an cd ct), sl⟩) (c : PySem.W.codeIn K cd x = true) (k : PySem.W.keepIn K (.ref a) = true) :
    Here K mg x st a (PySem.W.fnOf x x (fArgs st) (fBody st) (fScope st) .none kV dc pm an cd ct) := ⟨⟨oc, od, kV, dc, pm, an, cd, ct, sl, rfl, l, c⟩, PySem.W.mg_of X G hm, k⟩
end MP
namespace MP
open PySem PySem.Spec L2
theorem Cal.fn {PP : Program} {w : World} {K : Fg} {mg : Str → Option Value} {base : Heap} {CA : Str → Addr} {k n : Nat} {st : Stmt} {x : Str} {f : F} {a0 : Addr} {fd0 : FuncData} (c : Cal PP w K mg base CA k st x f n) (h : Here K mg x st a0 fd0) :
    FnG PP w K mg base k a0 fd0 (fPars st) (spOf ⟨K, CA⟩ f n) := by
  obtain ⟨a, fd, F, h'⟩ := c.ex
  have e := h.named.symm.trans h'.named
  cases e
  obtain ⟨_, _, _, _, _, _, _, _, _, _, l1, _⟩ := h.ex
  obtain ⟨_, _, _, _, _, _, _, _, _, _, l2, _⟩ := h'.ex
  have e := l1.symm.trans l2
  cases e
  exact F
end MP
end

section
set_option Elab.async false
set_option linter.all false
set_option maxRecDepth 100000
set_option maxHeartbeats 4000000
set_option autoImplicit false
namespace MP
open PySem PySem.Spec L2
/-! ### a written dict of the module: int keys, each value a tuple of ints -/
def TupI (K : Fg) (a : Addr) (is : List Int) : Prop := ∃ (o : Obj) (its : Array Value) (n : Nat), K.lookup a = some o ∧ o.cls = .type "tuple" ∧ o.data = .seq its n ∧ its.size ≤ sizeLine ∧ Vals (is.map V.int) its.toList
def EntsT (K : Fg) : List DictEntry → List (Int × List Int) → Prop
  | [], [] => True
  | e :: r, k :: ks => (∃ t, e.key = .int k.1 t) ∧ e.hash = hashInt k.1 ∧ (∃ a, e.val = .ref a ∧ TupI K a k.2) ∧ EntsT K r ks
  | _, _ => False
structure KTabT (K : Fg) (ad : Addr) (ks : List (Int × List Int)) : Prop where
  ex : ∃ (es : Array DictEntry) (n : Nat), K.lookup ad = some ⟨.type "dict", none, .dict es n, #[]⟩ ∧ EntsT K es.toList ks
  low : (ad == sysModules) = false
theorem EntsT.keys {K : Fg} : ∀ {es : List DictEntry} {ks : List (Int × List Int)}, EntsT K es ks → KeysI es (ks.map (·.1))
  | [], [], _ => trivial
  | [], _ :: _, h => h.elim
  | _ :: _, [], h => h.elim
  | x :: es, k :: ks, ⟨h1, h2, _, h3⟩ => ⟨h1, h2, EntsT.keys h3⟩
theorem KTabT.tab {K : Fg} {ad : Addr} {ks : List (Int × List Int)} {l : List Int} (t : KTabT K ad ks) (e : ks.map (·.1) = l := by rfl) : KTab K ad l := by
  subst e
  obtain ⟨es, n, h1, h2⟩ := t.ex
  exact ⟨⟨es, n, h1, h2.keys⟩, t.low⟩
def tabAt (ks : List (Int × List Int)) (i : Int) : Option (List Int) := (ks.find? fun k => i == k.1).map (·.2)
theorem EntsT.at_ {K : Fg} {i : Int} {is : List Int} : ∀ {es : List DictEntry} {ks : List (Int × List Int)}, EntsT K es ks → tabAt ks i = some is → ∃ d, es.find? (fun d => keyIs (.inl i) d.key) = some d ∧ ∃ a, d.val = .ref a ∧ TupI K a is
  | [], [], _, h => by cases h
  | [], _ :: _, h, _ => h.elim
  | _ :: _, [], h, _ => h.elim
  | x :: es, k :: ks, ⟨⟨t, h1⟩, h2, h4, h3⟩, h => by
    have e : keyIs (.inl i) x.key = (i == k.1) := by
      rw [h1]
      unfold keyIs Value.isInt
      by_cases h : i = k.1
      · subst h; simp
      · have h' : ¬ k.1 = i := fun z => h z.symm
        rw [beq_eq_false_iff_ne.mpr h]
        exact beq_eq_false_iff_ne.mpr h'
    unfold tabAt at h
    rw [List.find?_cons] at h
    rw [List.find?_cons, e]
    cases hk : (i == k.1) with
    | true =>
      rw [hk] at h
      cases h
      exact ⟨x, rfl, h4⟩
    | false =>
      rw [hk] at h
      exact EntsT.at_ h3 h
theorem KTabT.mapOf {ad : Addr} {ks : List (Int × List Int)} {PP : Program} {w : World} {K : Fg} {h : Heap} (t : KTabT K ad ks) (X : K.In h) : ∃ f, h.MapOf (mixKind PP w) ad f ∧ ∀ (i : Int) (is : List Int), tabAt ks i = some is → ∃ a, f (.inl i) = some (.ref a) ∧ TupI K a is := by
  obtain ⟨es, n, h1, h2⟩ := t.ex
  refine ⟨fun k => findBy (mixKind PP w).is es k, ⟨_, es, n, X _ _ h1, ⟨rfl, rfl, rfl⟩, rfl, fun e he => h2.keys.all e (Array.mem_toList_iff.mpr he), fun _ => rfl⟩, fun i is hi => ?_⟩
  obtain ⟨d, e1, a, e2, e3⟩ := h2.at_ hi
  refine ⟨a, ?_, e3⟩
  show findBy keyIs es (.inl i) = _
  unfold findBy
  rw [← Array.find?_toList, e1, ← e2] <;> rfl
def gTab (ks : List (Int × List Int)) : D → Option SV
  | .int i => (tabAt ks i).map fun is => .d (.tuple (is.map PyData.int))
  | _ => none
def rIxTab (K : Fg) (ad : Addr) (ks : List (Int × List Int)) : R2 := fun x y H Q => ∃ i is, x = .ref ad ∧ y = .int i ∧ tabAt ks i = some is ∧ ∀ a, TupI K a is → Q (.ref a) H
section
variable {X : Cx} {P : Pk} {E : St → XK} {te a b : Expr} {ma mb : ME} {p pos p2 p3 p4 p5 : Pos}
theorem ix_tab {ad : Addr} {ks : List (Int × List Int)} (t : KTabT X.K ad ks) : IxR X (rIxTab X.K ad ks) := by
  intro value slice pins s σ H x y v u Q I rx ry h hs
  obtain ⟨i, is, rfl, rfl, e, q⟩ := h
  obtain rfl : v = Value.ref ad := rx
  obtain ⟨tk, rfl⟩ := ry
  obtain ⟨f, hm, hf⟩ := t.mapOf (PP := X.prog) (w := X.w) I.kIn
  obtain ⟨a, h1, h2⟩ := hf i is e
  exact PyProof.Rows.tail_any hm.typeIs PySem.F.slot_dict_getitem.lookup (wpAny_getItem_of (mixKind_int X.prog X.w i tk) hm h1 ⟨.ref a, H, I.tok _, rfl, q a h2⟩) hs
theorem s_tab {ad : Addr} {ks : List (Int × List Int)} {y : Str} (t : KTabT X.K ad ks) (hm : X.mg y = some (.ref ad)) (hb : PE X b (tM P E mb)) (hK : X.K = P.K := by rfl) (hg : Gl X y := by rfl) (hd : (y == ("__debug__" : Str)) = false := by decide) (hs : PlainIx b := by exact fun _ _ => rfl) :
    PE X (.Subscript (.Name y p2) b pos) (tM P E (m1 (gTab ks) mb)) := by
  obtain ⟨K, CA⟩ := P
  subst hK
  refine PE.imp (pe_ix (ix_tab t) (pe_glob (v := .ref ad) hg hm rfl hd) hb hs) fun σ H Q ⟨g, ρ, rp, h⟩ => ?_
  refine ⟨g, ρ, rp, bindG (R := RVP _) (R' := RVP _) h fun sv ρ1 v H1 r1 s1 f1 q1 h1 => ?_⟩
  obtain ⟨x, ex, h1⟩ := viewB_some' h1
  obtain ⟨z, ez, h1⟩ := opt_of h1
  have tp := q1.top r1 ex
  unfold gTab at ez
  split at ez
  · obtain ⟨is, e1, e2⟩ := Option.map_eq_some_iff.mp ez
    cases e2
    cases tp
    refine ⟨_, is, rfl, rfl, e1, fun a ha => ?_⟩
    refine post_res r1 f1.free h1 (.refl _) ?_
    exact Rp.tup (xs := is.map V.int) (.inr ha) (rp_ints_map is)
  · cases ez
end
/-! ### any of ints -/
def gAnyW : List D → Option SV
  | [.tuple xs] => (intsOf xs).map fun is => .d (.bool (is.any fun i => i != 0))
  | xs => gAny xs
theorem truth_ints {prog : Program} {w : World} {A : Around} {is : List Int} {its : List Value} (e : PyProof.Rows.IntsAre its is) :
    TruthOf prog w A (fun i v => its.toArray[i]? = some v) (fun i => (is.map fun j => j != 0).getD i false) := fun i v s Q E hv hq => by
  have hv' : its[i]? = some v := by simpa using hv
  have key : ∀ {its : List Value} {is : List Int} {i : Nat} {v : Value}, PyProof.Rows.IntsAre its is → its[i]? = some v → ∃ j t, v = .int j t ∧ (is.map fun j => j != 0).getD i false = (j != 0) := by
    intro its is i v h
    induction h generalizing i with
    | nil => intro z; simp at z
    | cons n t h ih =>
      intro z
      cases i with
      | zero =>
        simp at z
        exact ⟨n, t, z.symm, rfl⟩
      | succ i => exact ih (by simpa using z)
  obtain ⟨j, t, rfl, e2⟩ := key e hv'
  have hq' : Q ((is.map fun j => j != 0).getD i false) s := hq
  rw [e2] at hq'
  exact PySem.P.truthy_int hq'
def rAnyT (K : Fg) : List V → Hp → VK → Prop := fun vs H Q => ∃ (a : Addr) (is : List Int), vs = [V.ref a] ∧ SqT K H a (is.map V.int) ∧ Q (.bl (is.any fun i => i != 0)) H
section
variable {X : Cx}
theorem cr_anyT (hc : X.calm = true) : CallR X (.builtin "any") (rAnyT X.K) := by
  intro pins s σ H vs us Q I r h
  obtain ⟨a, is, rfl, hs, q⟩ := h
  obtain ⟨its, rv, hl, _⟩ := I.tuple hs
  rw [Vals.ref1 r]
  have hlt : a < s.heap.objs.size := by obtain ⟨_, e, _⟩ := hl; exact Heap.lt_size e
  have hl2 : s.heap.IsTuple a its.toArray := hl
  refine call_any_walk (wpAny_pyIter_tuple hl2 ?_)
  refine ⟨_, _, _, _, _, _, _, rfl, Walks.tuple (A := X.A.in1) (I.ok.hd hc) _ a (Nat.ne_of_lt hlt) its.toArray, ⟨⟨_, Heap.get?_push_size _ rfl, rfl, rfl⟩, hl2.push _⟩, truth_ints rv.ints, fun h' tk hk => ?_⟩
  refine ⟨.bl _, H, I.kept fun b o eo => hk b o (fun hmem => ?_) (Heap.get?_push_of_some _ eo), ?_, q⟩
  · rcases List.mem_cons.mp hmem with e1 | hmem
    · exact absurd (e1 ▸ Heap.lt_size eo) (Nat.lt_irrefl _)
    · cases hmem
  · show Value.bool _ = Value.bool _
    have hn : its.length = is.length := by rw [← rv.length, List.length_map]
    have := any_range (is.map fun j => j != 0)
    rw [List.length_map, List.any_map] at this
    rw [List.size_toArray, hn, this]
    rfl
theorem og_anyW {K : Fg} : CallG (fun xs H Q => rAny K xs H Q ∨ rAnyT K xs H Q) K gAnyW := by
  intro Pr H vs xs sv Q tr hv e k
  unfold gAnyW at e
  split at e
  · obtain ⟨is, e1, e2⟩ := Option.map_eq_some_iff.mp e
    subst e2
    obtain ⟨a, ws, rfl, q, r⟩ := one_tup hv
    rw [rp_intsOf e1 r] at q
    exact .inr ⟨a, is, rfl, hid_le.st q, k _ _ (.refl _) res_bool⟩
  · exact .inl (og_any Pr H vs xs sv Q tr hv e k)
end
end MP
/-! ### tuple * int -/
namespace MP
open PySem PySem.Spec L2
theorem tuple_mul1 (l : Addr) (items : Array Value) (n : Nat) (dd : Option Addr) (sl : Array (Option Value)) (x : Int) (u : Tok) (c0 : (decide (x < -(2 ^ 63)) || decide (x ≥ 2 ^ 63)) = false) (c1 : (items.isEmpty || x == 1) = true) :
    Meets (Builtin.«tuple.__mul__» ⟨[.ref l, .int x u], []⟩) (fun _ R s => s.heap.get? l = some { cls := .type "tuple", dict := dd, data := .seq items n, slots := sl } ∧
      R (.ok (.ret (Value.ref l))) s) :=
  .of_wp fun prog w A R s h => by
    obtain ⟨hp, g, d, tk, os⟩ := s
    obtain ⟨hl, h⟩ := h
    have f1 := AutoSeq1.idx_int
    wp_walk using wpAny_loadPart' hl
    repeat (first
      | (refine wpAny_ite_false (decide_eq_false (by rw [c0]; exact Bool.false_ne_true)) ?_; wp_walk using wpAny_loadPart' hl)
      | (refine wpAny_ite_true (decide_eq_true c1) ?_; wp_walk using wpAny_loadPart' hl))
    exact ⟨_, rfl, h⟩
def rRepT1 (K : Fg) : R2 := fun x y H Q => ∃ l xs, x = .ref l ∧ y = .int 1 ∧ SqT K H l xs ∧ Q (.ref l) H
theorem op_repT1 {X : Cx} : OpR X (binaryOp .Mult) (rRepT1 X.K) := by
  intro pins s σ H x y v u Q I rx ry h
  obtain ⟨l, xs, rfl, rfl, hT, q⟩ := h
  cases rx
  obtain ⟨t, rfl⟩ := ry
  obtain ⟨its, r, ⟨⟨cls, dd, data, sl⟩, ho, hc, n, hd⟩, hs⟩ := I.tuple hT
  simp only at hc hd
  subst hc hd
  have c1 : (its.toArray.isEmpty || (1 : Int) == 1) = true := by simp
  refine wpAny_binaryOp_repeat_ref (T := "tuple") (U := "int") (by decide) ⟨_, ho, rfl⟩ (fun s' => typeIs_int s' 1 t) noFill_tuple_mul PySem.F.fills_int_mul PySem.F.slot_int_rmul repeat_tuple PySem.F.slot_int_index.lookup
    (call_meets PySem.F.slot_int_rmul (typeIs_int s 1 t) PySem.F.entry_int_rmul (PySem.F.args_int_rmul_2 _ _) (int_rmul_tuple 1 t l its.toArray n dd sl)
      ⟨ho, rfl, ⟨_, ho, rfl⟩, call_meets PySem.F.slot_tuple_mul ⟨_, ho, rfl⟩ PySem.F.entry_tuple_mul (PySem.F.args_tuple_mul_2 _ _) (tuple_mul1 l its.toArray n dd sl 1 t (by decide) c1) ⟨ho, ?_⟩⟩)
  exact ⟨.ref l, H, I, rfl, q⟩
def bRepT : D → D → Option SV
  | .tuple xs, .int k => if (decide (1 ≤ k) && decide (k ≤ 1000) && decide (xs.length ≤ 1000) && !xs.isEmpty) = true then some (.d (.tuple (List.replicate k.toNat xs).flatten)) else none
  | _, _ => none
theorem RpAll.rep {K : Fg} {H : Hp} {vs : List V} {xs : List D} (h : RpAll K H vs xs) : ∀ m : Nat, RpAll K H (List.replicate m vs).flatten (List.replicate m xs).flatten
  | 0 => .nil
  | m + 1 => by
    have := h.append (RpAll.rep h m)
    simpa only [List.replicate_succ, List.flatten_cons] using this
theorem og_repT {K : Fg} : OpG (fun x y H Q => rRepT K x y H Q ∨ rRepT1 K x y H Q) K bRepT := by
  intro Pr H v w x y sv Q tr hv hw e k
  unfold bRepT at e
  split at e
  · rename_i xs n
    split at e
    · rename_i hc
      cases e
      rw [Bool.and_eq_true, Bool.and_eq_true, Bool.and_eq_true, decide_eq_true_eq, decide_eq_true_eq, decide_eq_true_eq, Bool.not_eq_true'] at hc
      obtain ⟨⟨⟨h1, h2⟩, h3⟩, h4⟩ := hc
      obtain ⟨a, ws, rfl, q, r⟩ := hv
      have hw' : w = .int n := hw
      subst hw'
      by_cases z : n = 1
      · subst z
        refine .inr ⟨a, ws, rfl, rfl, hid_le.st q, k _ _ (.refl _) (Rp.tup q ?_)⟩
        simpa using r
      · have hl := r.length
        refine .inl ⟨a, n, ws, rfl, rfl, hid_le.st q, fun z => ?_, by omega, h2, by omega, fun p hp => k _ _ (.new hp) (res_tup tr hp (r.rep _))⟩
        rw [z] at hl
        have : xs = [] := List.eq_nil_of_length_eq_zero hl.symm
        rw [this] at h4
        cases h4
    · cases e
  · cases e
theorem op_repTW {X : Cx} : OpR X (binaryOp .Mult) (fun x y H Q => rRepT X.K x y H Q ∨ rRepT1 X.K x y H Q) := fun pins s σ H x y v u Q I rx ry h => h.elim (op_repT pins s σ H x y v u Q I rx ry) (op_repT1 pins s σ H x y v u Q I rx ry)
end MP
/-! ### a table, from what the top has left -/
namespace MP
open PySem PySem.Spec L2
def EntsR : List DictEntry → List (Int × Addr) → Prop
  | [], [] => True
  | e :: r, k :: ks => (∃ t, e.key = .int k.1 t) ∧ e.hash = hashInt k.1 ∧ e.val = .ref k.2 ∧ EntsR r ks
  | _, _ => False
def AllT (K : Fg) : List (Int × Addr) → List (Int × List Int) → Prop
  | [], [] => True
  | a :: r, k :: ks => a.1 = k.1 ∧ TupI K a.2 k.2 ∧ AllT K r ks
  | _, _ => False
theorem ents_mk {K : Fg} : ∀ {es : List DictEntry} {qs : List (Int × Addr)} {ks : List (Int × List Int)}, EntsR es qs → AllT K qs ks → EntsT K es ks
  | [], [], [], _, _ => trivial
  | [], [], _ :: _, _, h => h.elim
  | [], _ :: _, _, h, _ => h.elim
  | _ :: _, [], _, h, _ => h.elim
  | _ :: _, _ :: _, [], _, h => h.elim
  | e :: es, q :: qs, k :: ks, ⟨h1, h2, h3, h4⟩, ⟨g1, g2, g3⟩ => by
    rw [g1] at h1 h2
    exact ⟨h1, h2, ⟨_, h3, g2⟩, ents_mk h4 g3⟩
theorem tupI_mk {K : Fg} {a : Addr} {d : Option Addr} {its : Array Value} {n : Nat} {sl : Array (Option Value)} {is : List Int} (h : K.lookup a = some ⟨.type "tuple", d, .seq its n, sl⟩) (hi : PyProof.Rows.IntsAre its.toList is) (hl : decide (is.length ≤ 16777216) = true) : TupI K a is := by
  have key : ∀ {us : List Value} {is : List Int}, PyProof.Rows.IntsAre us is → Vals (is.map V.int) us ∧ us.length = is.length := by
    intro us is q
    induction q with
    | nil => exact ⟨.nil, rfl⟩
    | cons n t q ih => exact ⟨.cons ⟨t, rfl⟩ ih.1, congrArg (· + 1) ih.2⟩
  obtain ⟨k1, k2⟩ := key hi
  refine ⟨_, its, n, h, rfl, rfl, ?_, k1⟩
  rw [sizeLine_eq, ← Array.length_toList, k2]
  exact of_decide_eq_true hl
end MP
/-! ### a, b = a list -/
namespace MP
open PySem PySem.Spec L2
def sUnpL (tgs : List Tg) (m : ME) : MS := fun ρ => (m ρ).st fun v ρ1 => match toD v with
  | some (.list xs) => (match tgSets tgs xs ρ1 with | some ρ2 => .next ρ2 | none => .stuck)
  | _ => .stuck
def gTL (P : Pk) (tgs : List Tg) : TG := fun v σ H Q => ∃ g ρ xs ρ', Rep P.K g H σ ρ ∧ Rp P.K (hid (Out' g σ ρ) H) v (.list xs) ∧ tgSets tgs xs ρ = some ρ' ∧ ∀ σ', Rep P.K g H σ' ρ' → (∀ a, Own σ' ρ' a → Own σ ρ a) → (σ'.length = σ.length ∧ ∀ j, j ∉ tgSlots tgs → σ'[j]? = σ[j]?) → Q σ' H
section
variable {X : Cx} {P : Pk} {E : St → XK} {a : Expr} {es : List Expr} {tgs : List Tg} {pos : Pos}
theorem g_tl {k : Nat} (hc : X.calm = true) (h : PGs X es (gTs P tgs)) (hK : X.K = P.K := by rfl) (hn : (assignEach es X.env).length = tgs.length := by rfl) (hst : (assignEach es X.env).findIdx? (·.1) = none := by rfl) : PG X (.Tuple es k pos) (gTL P tgs) := by
  obtain ⟨K, CA⟩ := P
  subst hK
  refine PG.imp (pg_lst hc h hn hst) fun v σ H Q ⟨g, ρ, x, ρ', r, q, e, k⟩ => ?_
  cases q with
  | lst q1 q2 => exact ⟨_, _, rfl, hid_le.sl q1, by rw [q2.length]; exact tgSets_len e, g, ρ, _, ρ', r, q2, e, k⟩
theorem z_unpL {m : ME} {x1 : Nat} {p2 : Pos} (he : PE X a (tM P E m)) (hg : PG X (.Tuple es x1 p2) (gTL P tgs)) (hs : swapsWithSole [.Tuple es x1 p2] a pos.line X.env = pure false := by rfl) (hw : swappedStores [.Tuple es x1 p2] a X.env = pure none := by rfl)
    (h1 : (assignEach [.Tuple es x1 p2] X.env).map (·.2) = [assign (.Tuple es x1 p2) X.env] := by rfl) : PS X (.Assign [.Tuple es x1 p2] a pos) (tS P E (sUnpL tgs m)) := by
  refine PS.imp (ps_asg he hg hs hw h1) fun D σ H ⟨g, ρ, r, h⟩ => ?_
  refine ⟨g, ρ, r, stG (R := RVP P) h fun v ρ1 x H1 _ r1 s1 f1 q1 h1 => ?_⟩
  have h1' : PostS P E g σ ρ H H D (match toD v with | some (.list xs) => (match tgSets tgs xs ρ1 with | some ρ2 => .next ρ2 | none => .stuck) | _ => .stuck) := h1
  split at h1'
  · rename_i xs e1
    cases e2 : tgSets tgs xs ρ1 with
    | none =>
      rw [e2] at h1'
      exact h1'.elim
    | some ρ2 =>
      rw [e2] at h1'
      exact ⟨g, ρ1, xs, ρ2, r1, q1.keep e1, e2, fun σ' r' o' _ => h1' σ' H1 r' ⟨f1.keep, f1.stay, fun a z => .inl (s1.symm.own (o' a z))⟩⟩
  · exact h1'.elim
end
end MP
end

section
set_option Elab.async false
set_option linter.all false
set_option maxRecDepth 100000
set_option maxHeartbeats 4000000
set_option autoImplicit false
namespace MP
open PySem PySem.Spec L2
/-! ### a call with one new object that nobody else knows: the callee may change it -/
def callTGo (f : F) (v : SV) (ρ1 : En) : Out SV := match v with
  | .own c => (match f [.ref c] with
    | .ok s [_] => if isRes s = true then .ok s ρ1 else .stuck
    | .raise k x [_] => .raise k x ρ1
    | _ => .stuck)
  | _ => .stuck
def mCallT (f : F) (m : ME) : ME := fun ρ => (m ρ).bind fun v ρ1 => callTGo f v ρ1
section
variable {K : Fg} {g : Gh} {H H0 H1 H' : Hp} {σ : St} {ρ ρ1 ρ2 : En} {v : V} {c c' : Cell} {p : Addr}
/-- what is protected may change -/
theorem Rep.keep {M : Addr → Prop} (r : Rep K g H σ ρ) (f : FrE H M H') (h : ∀ a, M a → g.Pm a) : Rep K g H' σ ρ := by
  have gr : Grow (hid (Out' g σ ρ) H) (hid (Out' g σ ρ) H') := hid_grow fun a o n e => ⟨n, f.keep a o e fun z => n (.inl (h a z))⟩
  refine ⟨r.len, fun i x e => ?_, fun i c e => ?_, r.inj, fun a z => ?_, r.rf, r.rfs, r.noexc, r.nofn⟩
  · obtain ⟨v, h1, h2⟩ := r.d i x e
    exact ⟨v, h1, h2.grow gr⟩
  · obtain ⟨a, h1, h2, h3⟩ := r.cell i c e
    obtain ⟨o, eo⟩ := h3.some
    exact ⟨a, h1, h2, h3.mono gr (by rw [f.keep a o eo fun z => h2 (h a z), eo])⟩
  · obtain ⟨o, e⟩ := r.pm a z
    exact f.stay a o e
def tempG (g : Gh) (σ : St) (ρ : En) (p : Addr) : Gh := ⟨Out' g σ ρ, fun j => if j = 0 then some p else none⟩
theorem one_get {α : Type} {x y : α} {i : Nat} (h : ([some x] : List (Option α))[i]? = some (some y)) : i = 0 ∧ x = y := by
  cases i with
  | zero => simp at h; exact ⟨rfl, h⟩
  | succ i => simp at h
theorem cell_one {c c' : Cell} {i : Nat} (h : cellAt [some (.ref c)] i = some c') : i = 0 ∧ c = c' := by
  cases i with
  | zero => cases h; exact ⟨rfl, rfl⟩
  | succ i => cases h
theorem own_one {c : Cell} {a : Addr} : Own [some (.ref p)] [some (.ref c)] a ↔ a = p := by
  constructor
  · rintro ⟨i, c', h1, h2⟩
    obtain ⟨rfl, _⟩ := cell_one h1
    cases h2
    rfl
  · rintro rfl
    exact ⟨0, c, rfl, rfl⟩
theorem temp_rep (rp : Rep K g H1 σ ρ1) (hc : CellR K (hid (fun a => Out' g σ ρ1 a ∨ a = p) H1) H1 p c) (no : ¬ Out' g σ ρ1 p) : Rep K (tempG g σ ρ1 p) H1 ([V.ref p].map some) ([SV.ref c].map some) := by
  have gr : Grow (hid (fun a => Out' g σ ρ1 a ∨ a = p) H1) (hid (Out' (tempG g σ ρ1 p) [some (V.ref p)] [some (.ref c)]) H1) := hid_grow fun a o n e => ⟨fun z => n (z.imp id fun z => own_one.mp z), e⟩
  refine ⟨rfl, fun i x e => ?_, fun i c' e => ?_, fun i j c1 c2 a q1 q2 _ _ => ?_, fun a z => rp.out_some z, fun i c' e => ?_, fun i a e => ?_, fun i k x e => ?_, fun i n e => ?_⟩
  · obtain ⟨_, e⟩ := one_get e
    cases e
  · obtain ⟨rfl, rfl⟩ := cell_one e
    exact ⟨p, rfl, no, hc.mono gr rfl⟩
  · rw [(cell_one q1).1, (cell_one q2).1]
  · obtain ⟨rfl, _⟩ := one_get e
    exact ⟨p, rfl, rfl⟩
  · have e' : (if i = 0 then some p else none) = some a := e
    split at e'
    · rename_i h0
      subst h0
      exact ⟨c, rfl⟩
    · cases e'
  · obtain ⟨_, e⟩ := one_get e
    cases e
  · obtain ⟨_, e⟩ := one_get e
    cases e
end
section
variable {P : Pk} {E : St → XK} {g : Gh} {H H0 H1 : Hp} {σ : St} {ρ ρ1 : En} {f : F} {Q : VK} {v : V} {sv : SV}
theorem callT_post (rp : Rep P.K g H1 σ ρ1) (sc : SameC ρ ρ1) (fr : FrE H (Own σ ρ) H1) (q : RV P.K g H H1 σ ρ1 v sv) (h : PostE P E g σ ρ H H Q (callTGo f sv ρ1)) : spOf P f 1 [v] H1 Q (E σ) := by
  cases sv with
  | own c =>
    obtain ⟨p, rfl, n0, no, cr⟩ := q.b
    have rx := q.x p rfl
    have h' : PostE P E g σ ρ H H Q (match f [.ref c] with
      | .ok s [_] => if isRes s = true then .ok s ρ1 else .stuck
      | .raise k x [_] => .raise k x ρ1
      | _ => .stuck) := h
    refine ⟨tempG g σ ρ1 p, [.ref c], rfl, fun s hs c' e => ?_, temp_rep rp cr no, ?_⟩
    · rw [List.mem_singleton.mp hs] at e
      cases e
    have mine : ∀ a, Own ([V.ref p].map some) ([SV.ref c].map some) a → (g.add p).Pm a := fun a z => .inr (own_one.mp z)
    have fr2 : ∀ {H' : Hp}, FrE H1 (Own ([V.ref p].map some) ([SV.ref c].map some)) H' → FrE H (Own σ ρ) H' := fun {H'} fc =>
      ⟨fun a o e n => fc.keep a o (fr.keep a o e n) (fun z => by
        rw [own_one.mp z, n0] at e
        cases e), fun a o e => (fr.stay a o e).elim fun o1 e1 => fc.stay a o1 e1⟩
    have outs : ∀ {c' : Cell} {a : Addr}, Out' g σ ρ1 a → Out' (tempG g σ ρ1 p) [some (V.ref p)] [some (.ref c')] a := fun z => .inl z
    split at h'
    · rename_i s c1 ef
      rw [ef]
      by_cases hs : isRes s = true
      case neg => rw [if_neg hs] at h'; exact h'.elim
      rw [if_pos hs] at h'
      intro ρ2 u H' e1 rc fc rv
      cases e1
      have r3 : Rep P.K (g.add p) H' σ ρ1 := rx.keep fc mine
      refine h' u H' (r3.less (Gh.le_add g p)) sc (fr2 fc) ?_
      have hb := rv.b
      have hx := rv.x
      cases s with
      | d x => exact .d (Rp.grow (hid_grow fun a o n e => ⟨fun z => n (outs z), e⟩) hb)
      | own c2 =>
        obtain ⟨p2, rfl, m0, mo, cr2⟩ := hb
        have f0 : ∀ a, H1 a = none → H a = none := fun a e => fr.back e
        refine ⟨⟨p2, rfl, f0 p2 m0, fun z => mo (outs z), cr2.mono (hid_grow fun a o n e => ⟨fun z => n (z.imp outs id), e⟩) rfl⟩, fun p' ep' => ?_⟩
        cases ep'
        -- the slots know nothing of the new object
        have m1 : ∃ o, H' p2 = some o := cr2.some
        have fc2 : FrE H1 (fun a => a = p ∨ a = p2) H' := ⟨fun a o e n => fc.keep a o e fun z => n (.inl (own_one.mp z)), fc.stay⟩
        have hp2 : H1 p2 = none := m0
        have gr : Grow (hid (Out' (g.add p) σ ρ1) H1) (hid (Out' (g.add p2) σ ρ1) H') := hid_grow fun a o n e => ⟨fun z => by
            rcases z with (z | z) | z
            · exact n (.inl (.inl z))
            · rw [z, hp2] at e
              cases e
            · exact n (.inr z), fc.keep a o e fun z => n (.inl (.inr (own_one.mp z)))⟩
        refine ⟨rx.len, fun i x e => ?_, fun i c3 e => ?_, rx.inj, fun a z => ?_, rx.rf, rx.rfs, rx.noexc, rx.nofn⟩
        · obtain ⟨v, w1, w2⟩ := rx.d i x e
          exact ⟨v, w1, w2.grow gr⟩
        · obtain ⟨a, w1, w2, w3⟩ := rx.cell i c3 e
          obtain ⟨o, eo⟩ := w3.some
          refine ⟨a, w1, fun z => ?_, w3.mono gr (by rw [fc.keep a o eo fun z => w2 (.inr (own_one.mp z)), eo])⟩
          rcases z with z | z
          · exact w2 (.inl z)
          · rw [z, hp2] at eo
            cases eo
        · rcases z with z | z
          · obtain ⟨o, e⟩ := rp.pm a z
            exact fc.stay a o e
          · rw [z]
            exact m1
      | pk i => cases hs
      | ref _ => cases hs
      | exc _ _ => cases hs
      | fn _ => cases hs
    · rename_i k x c1 ef
      rw [ef]
      intro ρ2 d u H' e1 rc fc ed rv
      cases e1
      have r3 : Rep P.K (g.add p) H' σ ρ1 := rx.keep fc mine
      exact h' d u H' (r3.less (Gh.le_add g p)) sc (fr2 fc) ed (rv.grow (hid_grow fun a o n e => ⟨fun z => n (outs z), e⟩))
    · exact h'.elim
  | _ => exact h.elim
end
section
variable {X : Cx} {CA : Str → Addr} {k j : Nat} {x : Str} {st : Stmt} {f : F} {E : L2.St → XK} {e : Expr} {p pos : Pos} {m : ME}
theorem one_of {P : Pk} {R : List V → Hp → Prop} : ∀ σ H, (tM P E m σ H fun v H1 => R [v] H1) → tCons (tM P E m) tNil σ H R := fun σ H h => h
/-- f(e): e a new object -/
theorem s_callT (hc : Cal X.prog X.w X.K X.mg X.base CA k st x f 1) (hr : Room j X.A) (hg : X.A.guards = some []) (hx : ∀ σ, PassesAt (L2.CX X.prog X.w) X σ (E σ)) (ha : PE X e (tM ⟨X.K, CA⟩ E m))
    (hb : ∀ (kV dc pm : Value) (an : Option Addr) (cd ct : Value) (us : List Value), us.length = (fPars st).length → bindArgs (PySem.W.fnOf x x (fArgs st) (fBody st) (fScope st) .none kV dc pm an cd ct) ⟨us, []⟩ = pure ((fPars st).zip us))
    (hk : k ≤ j := by first | decide | omega) (hgl : Gl X x := by rfl) (hdb : (x == ("__debug__" : Str)) = false := by decide) (he : starEach [e] X.env = (false, eval e X.env) :: starEach [] X.env := by rfl) (hpl : (backTo pos (starEach [] X.env)).any (·.1) = false := by rfl) :
    PE X (.Call (.Name x p) [e] [] pos) (tM ⟨X.K, CA⟩ E (mCallT f m)) := by
  obtain ⟨a, fd, F, hh⟩ := hc.ex
  obtain ⟨oc, od, kV, dc, pm, an, cd, ct, sl, rfl, lk, hcd⟩ := hh.ex
  refine ⟨fun pins s σ H Q I ⟨g, ρ, rp, h⟩ => ?_⟩
  refine wpAny_Call_Name_kw (ld_glob I hgl hh.named ?_ hdb)
  have pre : tM ⟨X.K, CA⟩ E m σ H fun v H1 => spOf ⟨X.K, CA⟩ f 1 [v] H1 Q (E σ) := by
    refine ⟨g, ρ, rp, ?_⟩
    have h' : PostE ⟨X.K, CA⟩ E g σ ρ H H Q ((m ρ).bind fun v ρ1 => callTGo f v ρ1) := h
    cases em : m ρ with
    | ok sv ρ1 =>
      rw [em] at h'
      exact fun v H1 r1 s1 f1 q1 => callT_post r1 s1 f1 q1 h'
    | raise c y ρ1 => rw [em] at h'; exact h'
    | stuck => rw [em] at h'; exact h'
  refine PySem.W.callWith_K (h₀ := X.base) I.ok.mod.kin hh.kept (thn ((pa_cons ha pa_nil he).run pos pins s σ H _ I (one_of (R := fun vs H1 => spOf ⟨X.K, CA⟩ f 1 vs H1 Q (E σ)) σ H pre)) fun us s1 ⟨vs, H1, I1, r1, q1⟩ => ⟨I1.kIn, ?_⟩) he hpl
  exact run_G (ar := ⟨us, []⟩) F (hr.mono hk) hg (hx σ) I1 r1 (fun l => .of_eq (hb kV dc pm an cd ct us l)) q1
end
end MP
end

section
set_option Elab.async false
set_option linter.all false
set_option maxRecDepth 100000
set_option maxHeartbeats 4000000
set_option autoImplicit false
namespace MP
open PySem PySem.Spec L2
/-! ### zip of two lists, of two tuples -/
def zipL (xs ys : List D) : List D := List.zipWith (fun x y => PyData.tuple [x, y]) xs ys
def zipD : D → D → Option (List D)
  | .list xs, .list ys => some (zipL xs ys)
  | .tuple xs, .tuple ys => some (zipL xs ys)
  | _, _ => none
theorem zipL_len (xs ys : List D) : (zipL xs ys).length = min xs.length ys.length := List.length_zipWith
theorem zipL_get {xs ys : List D} {i : Nat} {x : D} (h : (zipL xs ys)[i]? = some x) : ∃ a b, xs[i]? = some a ∧ ys[i]? = some b ∧ x = .tuple [a, b] := by
  unfold zipL at h
  rw [List.getElem?_zipWith] at h
  cases ha : xs[i]? with
  | none => rw [ha] at h; simp at h
  | some a =>
    cases hb : ys[i]? with
    | none => rw [ha, hb] at h; simp at h
    | some b =>
      rw [ha, hb] at h
      exact ⟨a, b, rfl, rfl, (Option.some.inj h).symm⟩
theorem pair_yld {K : Fg} {Pr : Addr → Prop} {H1 H : Hp} {u w : V} {a b : D} {T : Addr} (lt : Later Pr H1 H) (hT : H T = none) (ra : Rp K (hid Pr H1) u a) (rb : Rp K (hid Pr H1) w b) :
    Grow H (upd H T (.tup [u, w])) ∧ ∃ N : Addr → Prop, (∀ a, N a → H a = none) ∧ Rp K (joinN N Pr H1 (upd H T (.tup [u, w]))) (.ref T) (.tuple [a, b]) := by
  have nT : ∀ a o, hid Pr H1 a = some o → a ≠ T := fun a o q z => by
    obtain ⟨n, q⟩ := hid_some.mp q
    rw [z] at q
    by_cases hp : Pr T
    · exact n (by rw [z]; exact hp)
    · rw [lt T o q hp] at hT
      cases hT
  have gr : Grow (hid Pr H1) (joinN (· = T) Pr H1 (upd H T (.tup [u, w]))) := fun a o q => by
    unfold joinN
    rw [if_neg (nT a o q)]
    exact q
  refine ⟨.new hT, (· = T), fun a z => by rw [z]; exact hT, ?_⟩
  refine Rp.tup (xs := [u, w]) (SqT.of ?_) (.cons (ra.grow gr) (.cons (rb.grow gr) .nil))
  unfold joinN
  rw [if_pos rfl]
  exact upd_same
theorem jok_zip {K : Fg} {Pr : Addr → Prop} {H1 : Hp} {l m : Addr} {vs ws : List V} {xs ys : List D} (h : SqL K (hid Pr H1) l vs) (r : RpAll K (hid Pr H1) vs xs) (h2 : SqL K (hid Pr H1) m ws) (r2 : RpAll K (hid Pr H1) ws ys) : JOk K (Itz K l m) (zipL xs ys) Pr H1 := by
  refine ⟨fun H lt i hi => ?_, fun H lt => ?_, fun H lt i x v H' e y => ?_⟩
  · rw [zipL_len, ← r.length, ← r2.length] at hi
    exact ⟨vs, ws, vs[i], ws[i], later_sl lt h, later_sl lt h2, List.getElem?_eq_getElem (by omega), List.getElem?_eq_getElem (by omega)⟩
  · rw [zipL_len, ← r.length, ← r2.length]
    exact ⟨vs, ws, later_sl lt h, later_sl lt h2, by omega⟩
  · obtain ⟨T, z, z2, rfl, hT, rfl, hz, hz2⟩ := y
    obtain ⟨a, b, e1, e2, rfl⟩ := zipL_get e
    obtain ⟨u, u1, u2⟩ := r.get e1
    obtain ⟨w, w1, w2⟩ := r2.get e2
    have ez : u = z := Option.some.inj (u1.symm.trans (hz vs (later_sl lt h)))
    have ez2 : w = z2 := Option.some.inj (w1.symm.trans (hz2 ws (later_sl lt h2)))
    subst ez ez2
    exact pair_yld lt hT u2 w2
theorem jok_zipT {K : Fg} {Pr : Addr → Prop} {H1 : Hp} {l m : Addr} {vs ws : List V} {xs ys : List D} (h : SqT K (hid Pr H1) l vs) (r : RpAll K (hid Pr H1) vs xs) (h2 : SqT K (hid Pr H1) m ws) (r2 : RpAll K (hid Pr H1) ws ys) : JOk K (RZ.ItzT K l m) (zipL xs ys) Pr H1 := by
  refine ⟨fun H lt i hi => ?_, fun H lt => ?_, fun H lt i x v H' e y => ?_⟩
  · rw [zipL_len, ← r.length, ← r2.length] at hi
    exact ⟨vs, ws, vs[i], ws[i], later_st lt h, later_st lt h2, List.getElem?_eq_getElem (by omega), List.getElem?_eq_getElem (by omega)⟩
  · rw [zipL_len, ← r.length, ← r2.length]
    exact ⟨vs, ws, later_st lt h, later_st lt h2, by omega⟩
  · obtain ⟨T, z, z2, rfl, hT, rfl, hz, hz2⟩ := y
    obtain ⟨a, b, e1, e2, rfl⟩ := zipL_get e
    obtain ⟨u, u1, u2⟩ := r.get e1
    obtain ⟨w, w1, w2⟩ := r2.get e2
    have ez : u = z := Option.some.inj (u1.symm.trans (hz vs (later_st lt h)))
    have ez2 : w = z2 := Option.some.inj (w1.symm.trans (hz2 ws (later_st lt h2)))
    subst ez ez2
    exact pair_yld lt hT u2 w2
/-- range(i, j, -1) -/
def downD (i : Int) (n : Nat) : List D := (List.range n).map fun (k : Nat) => PyData.int (i + (k : Int) * (-1))
def range3 : List D → Option (List D)
  | [.int i, .int j, .int c] => if (small62 i && small62 j && decide (c = -1)) = true then some (downD i (i - j).toNat) else none
  | _ => none
def zipA : List D → Option (List D)
  | [x, y] => zipD x y
  | _ => none
def iA (f : List D → Option (List D)) (ms : List ME) : MI := fun ρ => (mArgs ms ρ).bind fun vs ρ1 => opt ((allD vs).bind f) ρ1
theorem jok_down {K : Fg} {Pr : Addr → Prop} {H1 : Hp} (lo : Int) (n : Nat) : JOk K (Itc lo (-1) n) (downD lo n) Pr H1 := by
  have hl : ((List.range n).map fun (k : Nat) => V.int (lo + (k : Int) * (-1))).length = n := by rw [List.length_map, List.length_range]
  have rp : RpAll K (hid Pr H1) ((List.range n).map fun (k : Nat) => V.int (lo + (k : Int) * (-1))) (downD lo n) := by
    unfold downD
    generalize List.range n = ks
    induction ks with
    | nil => exact .nil
    | cons k ks ih => exact .cons (.int _) ih
  refine jok_items rp (fun H lt i h => ?_) (fun H lt => ?_) fun H lt i v H' y => ?_
  · rw [hl] at h
    exact h
  · rw [hl]
    exact Nat.le_refl n
  · obtain ⟨e1, e2⟩ := y
    refine ⟨e1, fun w hw => ?_⟩
    rw [e2]
    rw [List.getElem?_map] at hw
    cases e3 : (List.range n)[i]? with
    | none => rw [e3] at hw; cases hw
    | some k =>
      rw [e3] at hw
      have hk : k = i := by
        have := (List.getElem?_eq_some_iff.mp e3).2
        rw [List.getElem_range] at this
        exact this.symm
      subst hk
      exact Option.some.inj hw
section
variable {X : Cx} {P : Pk} {E : St → XK} {te a b c : Expr} {ma mb mc : ME} {p pos p2 p3 p4 : Pos}
theorem i_zip {elts : List Expr} {kk : Nat} (hm : X.mg "zip" = none) (ha : PA X [a, b] (tAs P E [ma, mb])) (hK : X.K = P.K := by rfl) (hg : Gl X "zip" := by rfl) (hs : starEach [a, b] X.env = (false, eval a X.env) :: starEach [b] X.env := by rfl)
    (hpl : (backTo pos (starEach [b] X.env)).any (·.1) = false := by rfl) : PI X (.Tuple elts kk p4) (.Call (.Name "zip" p) [a, b] [] pos) (iM P E (iA zipA [ma, mb])) := by
  obtain ⟨K, CA⟩ := P
  subst hK
  refine PI.imp (RZ.pi_zipA hg hm ha hs hpl) fun σ H R ⟨g, ρ, r, h⟩ => ?_
  refine ⟨g, ρ, r, bindG (R := RAP _) (R' := RJ _) h fun ss ρ1 vs H1 r1 s1 f1 q1 h1 => ?_⟩
  obtain ⟨xs, ez, h1⟩ := opt_of h1
  obtain ⟨ds, e1, e2⟩ := Option.bind_eq_some_iff.mp ez
  have rr := q1.allD e1
  unfold zipA at e2
  split at e2
  · rename_i x y
    cases rr with
    | cons k1 rr =>
      cases rr with
      | cons k2 rr =>
        cases rr
        unfold zipD at e2
        split at e2
        · cases e2
          cases k1 with
          | lst a1 a2 =>
            cases k2 with
            | lst b1 b2 => exact ⟨_, _, _, _, rfl, .inl ⟨hid_le.sl a1, hid_le.sl b1, h1 _ H1 r1 (.refl _) (.refl _ _) (jok_zip a1 a2 b1 b2)⟩⟩
        · cases e2
          cases k1 with
          | tup a1 a2 =>
            cases k2 with
            | tup b1 b2 => exact ⟨_, _, _, _, rfl, .inr ⟨hid_le.st a1, hid_le.st b1, h1 _ H1 r1 (.refl _) (.refl _ _) (jok_zipT a1 a2 b1 b2)⟩⟩
        · cases e2
  · cases e2
theorem i_range3 (hm : X.mg "range" = none) (ha : PA X [a, b, c] (tAs P E [ma, mb, mc])) (hK : X.K = P.K := by rfl) (hg : Gl X "range" := by rfl)
    (hs : starEach [a, b, c] X.env = (false, eval a X.env) :: starEach [b, c] X.env := by rfl) (hpl : (backTo pos (starEach [b, c] X.env)).any (·.1) = false := by rfl) : PI X te (.Call (.Name "range" p) [a, b, c] [] pos) (iM P E (iA range3 [ma, mb, mc])) := by
  obtain ⟨K, CA⟩ := P
  subst hK
  refine PI.imp (pi_range3 hg hm ha hs hpl) fun σ H R ⟨g, ρ, r, h⟩ => ?_
  refine ⟨g, ρ, r, bindG (R := RAP _) (R' := RJ _) h fun ss ρ1 vs H1 r1 s1 f1 q1 h1 => ?_⟩
  obtain ⟨xs, ez, h1⟩ := opt_of h1
  obtain ⟨ds, e1, e2⟩ := Option.bind_eq_some_iff.mp ez
  have rr := q1.allD e1
  unfold range3 at e2
  split at e2
  · rename_i i j k
    split at e2
    · rename_i hc
      cases e2
      rw [Bool.and_eq_true, Bool.and_eq_true, decide_eq_true_eq] at hc
      obtain ⟨⟨n1, n2⟩, rfl⟩ := hc
      obtain ⟨m1, m2⟩ := small62_of n1
      obtain ⟨m3, m4⟩ := small62_of n2
      cases rr with
      | cons k1 rr =>
        cases rr with
        | cons k2 rr =>
          cases rr with
          | cons k3 rr =>
            cases rr
            cases k1
            cases k2
            cases k3
            exact ⟨i, j, -1, (i - j).toNat, rfl, RgC.neg m1 m2 m3 m4, h1 _ H1 r1 (.refl _) (.refl _ _) (jok_down i _)⟩
    · cases e2
  · cases e2
end
end MP
end

section
set_option Elab.async false
set_option linter.all false
set_option maxRecDepth 100000
set_option maxHeartbeats 4000000
set_option autoImplicit false
namespace MP
open PySem PySem.Spec L2
/-! ### repr of data with dicts and lists in one another -/
/-- sys.modules stands in the base -/
structure Sys (base : Heap) : Prop where
  ns : ∃ m, base.Ns sysModules m
section
variable {X : Cx} {pins : List (Addr × Obj)} {σ : St} {H : Hp} {s : Shared}
theorem lst_notSys (I : Inv X pins σ H s) (hK : Sys X.base) {a : Addr} {xs : List V} (h : SqL X.K H a xs) : sysModules ≠ a := fun z => by
  subst z
  obtain ⟨m, o, es, ep, e, d, _⟩ := hK.ns
  have n := (I.bs _ _ e).2
  rcases h with (h | ⟨_, h⟩) | ⟨o', its, k, h, _, _, d', _⟩
  · rw [n] at h; cases h
  · rw [n] at h; cases h
  · have e' := I.mod.kin _ _ h
    rw [e] at e'
    cases e'
    rw [d] at d'
    cases d'
mutual
theorem Rp.reads3 (I : Inv X pins σ H s) (hK : Sys X.base) : ∀ (d : D) (v : V) (u : Value), Rp X.K H v d → RelV v u → ∃ as, Reads s.heap u d as ∧ sysModules ∉ as
  | .none, _, _, h, r => by
    cases h
    cases r
    exact ⟨_, Reads.none, fun z => nomatch z⟩
  | .bool b, _, _, h, r => by
    cases h
    cases r
    exact ⟨_, Reads.bool b, fun z => nomatch z⟩
  | .int i, _, _, h, r => by
    cases h
    obtain ⟨t, rfl⟩ := r
    exact ⟨_, Reads.int i t, fun z => nomatch z⟩
  | .str x, _, _, h, r => by
    cases h
    obtain ⟨t, rfl⟩ := r
    exact ⟨_, Reads.str x t, fun z => nomatch z⟩
  | .list ds, _, _, h, r => by
    cases h with
    | lst hs ha =>
      cases r
      obtain ⟨its, rv, ⟨o, n, ho, hc, _, hd⟩, _⟩ := I.list hs
      obtain ⟨as, hr, hn⟩ := RpAll.reads3 I hK ds _ its ha rv
      refine ⟨_, Reads.list ho hc hd hr, fun z => ?_⟩
      rcases List.mem_cons.mp z with z | z
      · exact lst_notSys I hK hs z
      · exact hn z
  | .tuple ds, _, _, h, r => by
    cases h with
    | tup hs ha =>
      cases r
      obtain ⟨its, rv, ⟨o, ho, hc, n, hd⟩, _⟩ := I.tuple hs
      obtain ⟨as, hr, hn⟩ := RpAll.reads3 I hK ds _ its ha rv
      exact ⟨_, Reads.tuple ho hc hd hr, hn⟩
  | .dict kvs, _, _, h, r => by
    cases h with
    | dic hs ha =>
      cases r
      obtain ⟨_, nS, vs, kv, o, es, ep, ho, hx, hd, ks, hp, _⟩ := I.hok _ _ hs
      obtain ⟨as, bs, r1, r2, n1, n2⟩ := RpKv.reads3 I hK kvs _ vs es.toList ha kv hp
      refine ⟨_, Reads.dict ho hx.1 hd r1 r2, fun y => ?_⟩
      rcases List.mem_cons.mp (List.cons_append ▸ y) with y | y
      · rw [← y] at nS
        simp at nS
      · rcases List.mem_append.mp y with y | y
        · exact n1 y
        · exact n2 y
theorem RpAll.reads3 (I : Inv X pins σ H s) (hK : Sys X.base) : ∀ (ds : List D) (vs : List V) (us : List Value), RpAll X.K H vs ds → Vals vs us → ∃ as, ReadsAll s.heap us ds as ∧ sysModules ∉ as
  | [], _, _, h, r => by
    cases h
    cases r
    exact ⟨_, ReadsAll.nil, fun z => nomatch z⟩
  | d :: ds, _, _, h, r => by
    cases h with
    | cons h1 h2 =>
      cases r with
      | cons r1 r2 =>
        obtain ⟨as, q1, n1⟩ := Rp.reads3 I hK d _ _ h1 r1
        obtain ⟨bs, q2, n2⟩ := RpAll.reads3 I hK ds _ _ h2 r2
        refine ⟨_, ReadsAll.cons q1 q2, fun y => ?_⟩
        rcases List.mem_append.mp y with y | y
        · exact n1 y
        · exact n2 y
theorem RpKv.reads3 (I : Inv X pins σ H s) (hK : Sys X.base) : ∀ (ds : List (D × D)) (vs : List (Key × V)) (us : List (Key × Value)) (es : List DictEntry), RpKv X.K H vs ds → KV vs us → Pairs (mixKind X.prog X.w) es us →
    ∃ as bs, ReadsAll s.heap (es.map (·.key)) (ds.map (·.1)) as ∧ ReadsAll s.heap (es.map (·.val)) (ds.map (·.2)) bs ∧ sysModules ∉ as ∧ sysModules ∉ bs
  | [], _, _, _, h, r, p => by
    cases h
    cases r
    cases p
    exact ⟨_, _, ReadsAll.nil, ReadsAll.nil, (fun z => nomatch z), fun z => nomatch z⟩
  | d :: ds, _, _, _, h, r, p => by
    cases h with
    | cons h1 h2 =>
      cases r with
      | cons r1 r2 =>
        cases p with
        | cons k1 e1 p' =>
          obtain ⟨as, bs, q1, q2, n1, n2⟩ := RpKv.reads3 I hK ds _ _ _ h2 r2 p'
          obtain ⟨r1a, r1b⟩ := r1
          obtain ⟨cs, q3, n3⟩ := Rp.reads3 I hK _ _ _ h1 r1b
          have r1c := r1a
          simp only at r1c
          rw [← e1] at q3
          rcases keyIs_shape k1 with ⟨i, t, h3, h4⟩ | ⟨x, t, h3, h4⟩
          · rw [r1c, h3]
            refine ⟨_, _, ReadsAll.cons (show Reads s.heap _ (keyD (.inl i)) [] by simp only [h4]; exact Reads.int i t) q1, ReadsAll.cons q3 q2, n1, fun y => ?_⟩
            rcases List.mem_append.mp y with y | y
            · exact n3 y
            · exact n2 y
          · rw [r1c, h3]
            refine ⟨_, _, ReadsAll.cons (show Reads s.heap _ (keyD (.inr x)) [] by simp only [h4]; exact Reads.str x t) q1, ReadsAll.cons q3 q2, n1, fun y => ?_⟩
            rcases List.mem_append.mp y with y | y
            · exact n3 y
            · exact n2 y
end
end
def repOkW (x : D) : Bool := x.showable && decide (x.shown.length ≤ line) && decide (x.depth ≤ 50)
def gReprW : List D → Option SV
  | [x] => if repOkW x = true then some (.d (.str x.shown)) else none
  | _ => none
def rReprW (K : Fg) : List V → Hp → VK → Prop := fun vs H Q => ∃ v x, vs = [v] ∧ Rp K H v x ∧ repOkW x = true ∧ Q (.str x.shown) H
theorem cr_reprW {X : Cx} (hK : Sys X.base) (hg : X.A.guards = some []) (hu : X.A.units + 64 < cLine) : CallR X (.builtin "repr") (rReprW X.K) := by
  intro pins s σ H vs us Q I r h
  obtain ⟨v, x, rfl, hx, ok, q⟩ := h
  obtain ⟨u, rfl, rv⟩ := vals1 r
  unfold repOkW at ok
  rw [Bool.and_eq_true, Bool.and_eq_true, decide_eq_true_eq, decide_eq_true_eq] at ok
  obtain ⟨⟨k1, k2⟩, k3⟩ := ok
  have k2' : x.shown.length ≤ sizeLine := by rw [sizeLine_eq]; exact k2
  obtain ⟨as, rd, ns⟩ := Rp.reads3 I hK x v u hx rv
  have hsm : x.hasDict = true → sysModules ∉ as := fun _ => ns
  have done : ∀ {h' : Heap} {tk u'}, (∀ b o, s.heap.get? b = some o → h'.get? b = some o) → EP X pins σ Q (.str x.shown u') { s with heap := h', toks := tk } := fun {h' tk u'} kp => ⟨.str x.shown, H, I.kept kp, ⟨_, rfl⟩, q⟩
  have ref : ∀ a, u = .ref a → wpAny (model X.prog X.w) X.A (call (.builtin "repr") [u]) (EP X pins σ Q) X.xe s := fun a e => by
    subst e
    exact repr_of_reads' rd k1 hsm hg (by omega) (fun _ _ z => z) (fun h' u' tk kp => done kp) k2'
  cases x with
  | none =>
    cases hx
    cases rv
    exact PySem.P.repr_of_none (done fun _ _ z => z)
  | bool b =>
    cases hx
    cases rv
    exact PySem.P.repr_of_bool (done fun _ _ z => z)
  | int i =>
    cases hx
    obtain ⟨t, rfl⟩ := rv
    have k1' : decide (i.natAbs.log2 < 1920) = true := by simpa [PyData.showable] using k1
    exact PySem.P.repr_of_int (of_decide_eq_true k1') (done fun _ _ z => z)
  | str y =>
    cases hx
    obtain ⟨t, rfl⟩ := rv
    exact PySem.P.repr_of_str (done fun _ _ z => z) k2'
  | list ds => cases hx with | lst hs ha => exact ref _ rv
  | tuple ds => cases hx with | tup hs ha => exact ref _ rv
  | dict ds => cases hx with | dic hs ha => exact ref _ rv
theorem og_reprW {K : Fg} : CallG (rReprW K) K gReprW := by
  intro Pr H vs xs sv Q tr hv e k
  unfold gReprW at e
  split at e
  · split at e
    · cases e
      cases hv with
      | cons h1 h2 =>
        cases h2
        exact ⟨_, _, rfl, h1.rp hid_le, by assumption, k _ _ (.refl _) res_str⟩
    · cases e
  · cases e
/-! ### any of a list of ints -/
def gAnyL : List D → Option SV
  | [.list xs] => match boolsOf xs with
    | some bs => some (.d (.bool (bs.any id)))
    | none => (intsOf xs).map fun is => .d (.bool (is.any fun i => i != 0))
  | xs => gAnyW xs
def rAnyL (K : Fg) : List V → Hp → VK → Prop := fun vs H Q => ∃ (a : Addr) (is : List Int), vs = [V.ref a] ∧ SqL K H a (is.map V.int) ∧ Q (.bl (is.any fun i => i != 0)) H
section
variable {X : Cx}
theorem cr_anyL (hc : X.calm = true) : CallR X (.builtin "any") (rAnyL X.K) := by
  intro pins s σ H vs us Q I r h
  obtain ⟨a, is, rfl, hs, q⟩ := h
  obtain ⟨its, rv, hl, _⟩ := I.list hs
  rw [Vals.ref1 r]
  refine call_any_walk (iter_any hl.isList fun s₂ e2 st hne => ?_)
  subst e2
  refine ⟨_, _, _, _, _, _, _, rfl, Walks.list (A := X.A.in1) (I.ok.hd hc) _ a hne its.toArray, st, truth_ints rv.ints, fun h' tk hk => ?_⟩
  refine ⟨.bl _, H, I.kept fun b o eo => hk b o (fun hmem => ?_) (Heap.get?_push_of_some _ eo), ?_, q⟩
  · rcases List.mem_cons.mp hmem with e1 | hmem
    · exact absurd (e1 ▸ Heap.lt_size eo) (Nat.lt_irrefl _)
    · cases hmem
  · show Value.bool _ = Value.bool _
    have hn : its.length = is.length := by rw [← rv.length, List.length_map]
    have := any_range (is.map fun j => j != 0)
    rw [List.length_map, List.any_map] at this
    rw [List.size_toArray, hn, this]
    rfl
theorem og_anyL {K : Fg} : CallG (fun xs H Q => (rAny K xs H Q ∨ rAnyT K xs H Q) ∨ rAnyL K xs H Q) K gAnyL := by
  intro Pr H vs xs sv Q tr hv e k
  unfold gAnyL at e
  split at e
  · rename_i ys
    split at e
    · rename_i bs hb
      exact .inl (og_anyW Pr H vs [.list ys] sv Q tr hv (by unfold gAnyW gAny; simp only [hb, Option.map_some]; exact e) k)
    · obtain ⟨is, e1, e2⟩ := Option.map_eq_some_iff.mp e
      subst e2
      cases hv with
      | cons h1 h2 =>
        cases h2
        obtain ⟨a, ws, rfl, q, r⟩ := h1
        rw [rp_intsOf e1 r] at q
        exact .inr ⟨a, is, rfl, q, k _ _ (.refl _) res_bool⟩
  · exact .inl (og_anyW Pr H vs xs sv Q tr hv e k)
/-! ### either product -/
def bMulX : D → D → Option SV
  | .tuple xs, y => bRepT (.tuple xs) y
  | x, y => bMulI x y
theorem og_mulX {K : Fg} : OpG (fun x y H Q => rI IntMulOk (fun i j => .int (i * j)) x y H Q ∨ (rRepT K x y H Q ∨ rRepT1 K x y H Q)) K bMulX := by
  intro Pr H v w x y sv Q tr hv hw e k
  unfold bMulX at e
  split at e
  · exact .inr (og_repT Pr H v w _ y sv Q tr hv hw e k)
  · exact .inl (og_mul (K := K) Pr H v w _ y sv Q tr hv hw e k)
theorem op_mulX : OpR X (binaryOp .Mult) (fun x y H Q => rI IntMulOk (fun i j => .int (i * j)) x y H Q ∨ (rRepT X.K x y H Q ∨ rRepT1 X.K x y H Q)) := opOr op_mulA op_repTW
end
/-! ### {'a': x} -/
section
variable {K : Fg} {g : Gh} {H : Hp} {σ : St} {ρ : En} {p : Addr} {o : HO}
theorem hid_poke (hp : g.Pm p) : MP.hid (Out' g σ ρ) (upd H p o) = MP.hid (Out' g σ ρ) H := by
  funext a
  unfold MP.hid
  by_cases h : Out' g σ ρ a
  · rw [if_pos h, if_pos h]
  · rw [if_neg h, if_neg h, upd_ne fun z => h (.inl (by rw [z]; exact hp))]
theorem Rep.poke (r : Rep K g H σ ρ) (hp : g.Pm p) : Rep K g (upd H p o) σ ρ := by
  refine ⟨r.len, fun i x h => ?_, fun i c h => ?_, r.inj, fun a h => ?_, r.rf, r.rfs, r.noexc, r.nofn⟩
  · rw [hid_poke hp]
    exact r.d i x h
  · obtain ⟨a, h1, h2, h3⟩ := r.cell i c h
    refine ⟨a, h1, h2, ?_⟩
    rw [hid_poke hp]
    exact h3.mono (.refl _) (upd_ne fun z => h2 (by rw [z]; exact hp))
  · by_cases z : a = p
    · subst z
      exact ⟨o, upd_same⟩
    · obtain ⟨u, e⟩ := r.pm a h
      exact ⟨u, (upd_ne z).trans e⟩
end
def mDctS (k : Str) (m : ME) : ME := fun ρ => (m ρ).bind fun v ρ1 => toB v fun x => .ok (.own (.dct [(.str k, x)])) ρ1
section
variable {X : Cx} {P : Pk} {E : St → XK} {b : Expr} {mb : ME} {pos p2 : Pos}
theorem s_dS {k : Str} {j : Nat} (hb : PE X b (tM P E mb)) : PE X (.Dict [some (.Constant (.str k) j p2)] [b] pos) (tM P E (mDctS k mb)) := by
  refine PE.imp (pe_disp (pps_cons pe_str hb pps_nil) rfl rfl (by intro h; cases h) (by show 1 ≤ 15; decide)) fun σ H Q ⟨g, ρ, rp, h⟩ p hp => ?_
  have h' : PostE P E g σ ρ H H Q ((mb ρ).bind fun v ρ1 => toB v fun x => .ok (.own (.dct [(.str k, x)])) ρ1) := h
  have rp' := rp.add_new hp (.new hp) ⟨(.dK [] : HO), upd_same⟩
  refine ⟨g.add p, ρ, rp', ?_⟩
  cases e : mb ρ with
  | stuck => rw [e] at h'; exact h'.elim
  | raise c x ρ1 =>
    rw [e] at h'
    have h2 : RX P E g σ ρ H c x ρ1 := h'
    have h3 := h2.step (.refl _) (.of_grow (.new (o := .dK []) hp))
    exact fun d v H' r s f ee q => h3 d v H' (r.less (g.le_add p)) s f ee (q.grow (g.le_add p).hid)
  | ok sv ρ1 =>
    rw [e] at h'
    intro y H2 r2 s2 f2 q2
    have h3 : PostE P E g σ ρ H H Q (toB sv fun x => .ok (.own (.dct [(.str k, x)])) ρ1) := h'
    obtain ⟨x, ex, h3⟩ := toB_some h3
    have no : ¬ Own σ ρ p := fun ⟨i, c, z1, z2⟩ => by
      obtain ⟨a, y1, y2, _⟩ := rp'.cell i c z1
      rw [z2] at y1
      cases y1
      exact y2 (.inr rfl)
    have hp2 : H2 p = some (.dK []) := f2.keep p _ upd_same no
    refine ⟨hp2, [(.inr k, y)], rfl, (by show 1 ≤ 15; decide), ?_⟩
    show Q (.ref p) (upd H2 p (.dK [(.inr k, y)]))
    have rr := r2.poke (o := .dK [(.inr k, y)]) (p := p) (.inr rfl)
    have rx := q2.keep ex
    have no1 : ¬ Out' g σ ρ1 p := fun z => z.elim (fun z => by
      obtain ⟨u, eu⟩ := rp.pm p z
      rw [hp] at eu
      cases eu) fun z => no (s2.symm.own z)
    refine h3 (.ref p) _ (rr.less (g.le_add p)) s2 ⟨fun a u eu n => ?_, fun a u eu => ?_⟩ ⟨⟨p, rfl, hp, no1, [(.inr k, y)], upd_same, .cons (rx.grow (hid_grow fun a u n eu => ?_)) .nil⟩, fun p' ee => ?_⟩
    · have z : a ≠ p := ne_of_none eu hp
      rw [upd_ne z]
      exact f2.keep a u ((upd_ne z).trans eu) n
    · have z : a ≠ p := ne_of_none eu hp
      obtain ⟨u', eu'⟩ := f2.stay a u ((upd_ne z).trans eu)
      exact ⟨u', (upd_ne z).trans eu'⟩
    · have z : a ≠ p := fun z => n (.inl (.inr z))
      exact ⟨fun w => w.elim (fun w => n (w.imp .inl id)) z, (upd_ne z).trans eu⟩
    · cases ee
      exact rr
/-! ### [..].index(i) -/
def idxI (xs : List D) : D → Option SV
  | .int i => (intsOf xs).bind fun is => if is.contains i = true then some (.d (.int (is.findIdx (· == i) : Nat))) else none
  | _ => none
def mIdxL (a b : ME) : ME := fun ρ => (a ρ).bind fun v ρ1 => toB v fun x => match x with
  | .list xs => (b ρ1).bind fun w ρ2 => viewB ρ2 w fun y => opt (idxI xs y) ρ2
  | _ => .stuck
theorem s_index {o a : Expr} {apos : Pos} {mo ma : ME} (ho : PE X o (tM P E mo)) (ha : PE X a (tM P E ma)) (hK : X.K = P.K := by rfl)
    (hbase : attributeBase o "index" X.env (eval o X.env) = eval o X.env := by rfl)
    (hfew : ((backTo pos (starEach [a] X.env)).all (fun x => !x.1) && (backToKw pos (keywordEach [] X.env)).all (fun x => x.1.isSome)
      && decide ([a].length + ([] : List Keyword).length + (if ([] : List Keyword).isEmpty then 0 else 1) < 30)) = true := by rfl)
    (hline : (apos.endLine == pos.line) = true := by rfl) (hs : starEach [a] X.env = (false, eval a X.env) :: starEach [] X.env := by rfl) (hplain : (backTo pos (starEach [] X.env)).any (·.1) = false := by rfl) :
    PE X (.Call (.Attribute o "index" apos) [a] [] pos) (tM P E (mIdxL mo ma)) := by
  obtain ⟨K, CA⟩ := P
  subst hK
  refine PE.imp (pe_bm F.plainAttrs_list F.slot_list_index F.type_list_index mt_index ho (pa_cons ha pa_nil hs) hbase hfew hline hs hplain) fun σ H Q ⟨g, ρ, rp, h⟩ => ?_
  have h' : PostE ⟨X.K, CA⟩ E g σ ρ H H Q ((mo ρ).bind fun v ρ1 => toB v fun x => match x with
  | .list xs => (ma ρ1).bind fun w ρ2 => viewB ρ2 w fun y => opt (idxI xs y) ρ2
  | _ => .stuck) := h
  refine ⟨g, ρ, rp, bindG (R := RVP _) (R' := RVP _) h' fun sv ρ1 v H1 r1 s1 f1 q1 h1 => ?_⟩
  obtain ⟨x, ex, h1⟩ := toB_some h1
  cases x with
  | list xs =>
    have k1 := (q1.keep ex)
    cases k1 with
    | @lst l vs _ k2 k3 =>
    refine ⟨.inl ⟨rfl, vs, hid_le.sl k2⟩, g, ρ1, r1, bindG (R := RVP _) (R' := RVP _) h1 fun sw ρ2 w H2 r2 s2 f2 q2 h2 => ?_⟩
    obtain ⟨y, ey, h2⟩ := viewB_some' h2
    obtain ⟨z, ez, h2⟩ := opt_of h2
    have gr := hid_later (g := g) s2 f2
    have k2' := hid_le.sl (gr.sl k2)
    have k3' := k3.grow gr
    have ty := q2.top r2 ey
    unfold idxI at ez
    split at ez
    · rename_i i
      have ty' : w = .int i := ty
      subst ty'
      obtain ⟨is, e1, e2⟩ := Option.bind_eq_some_iff.mp ez
      split at e2
      · rename_i hc
        cases e2
        rw [rp_intsOf e1 k3'] at k2'
        have hm : i ∈ is := by simpa using hc
        have hlt : is.findIdx (· == i) < is.length := List.findIdx_lt_length_of_exists ⟨i, hm, by simp⟩
        have hat := List.findIdx_getElem (w := hlt)
        have hat' : is[is.findIdx (· == i)] = i := by simpa using hat
        refine ⟨l, is.map V.int, .int i, is.findIdx (· == i), .int i, rfl, rfl, k2', rfl, ?_, ?_, ?_, fun m z' hm' hz' => ?_, ?_⟩
        · rw [List.all_eq_true]
          intro x hx
          obtain ⟨j, _, rfl⟩ := List.mem_map.mp hx
          rfl
        · rw [List.getElem?_map, List.getElem?_eq_getElem hlt, hat']; rfl
        · show decide (i = i) = true
          exact decide_eq_true rfl
        · have hm2 : m < is.length := Nat.lt_trans hm' hlt
          rw [List.getElem?_map, List.getElem?_eq_getElem hm2] at hz'
          cases hz'
          have := List.not_of_lt_findIdx hm'
          have hne : ¬ is[m] = i := by simpa using this
          show decide (is[m] = i) = false
          exact decide_eq_false hne
        · exact post_res r2 (f1.free.trans f2.free) h2 (.refl _) res_int
      · cases e2
    · cases ez
  | _ => exact h1.elim
end
end MP
namespace MP
open PySem PySem.Spec PyProof.Rows L2
/-- the law's def called by the claim's caller: its promise, read at the heap that the top left -/
theorem law_G2 {PP : Program} {w : World} {K : Fg} {mg mb : Str → Option Value} {k : Nat} {fa a : Addr} {fd : FuncData} {x : Str} {sp : Sp} {z1 : Shared} {vs : List Value} {ns : List Int}
    (inK : K.In z1.heap) (gl : z1.heap.Ns mainGlobals mg) (bl : z1.heap.Ns builtinsNs mb) (boot : ∀ y : Str, y ≠ "__name__" → mb y = bootBuiltins y) (nl : z1.heap.NoLimit) (gn : z1.gens = #[])
    (ha : z1.heap.get? a = some { cls := .type "list", data := .seq vs.toArray }) (hi : IntsAre vs ns) (hz : ns.length ≤ sizeLine) (room : Room k callerA)
    (ms : ∃ mm, z1.heap.Ns sysModules mm) (F : ∀ base : Heap, K.In base → base.Ns mainGlobals mg → Sys base → FnG PP w K mg base k fa fd [x] sp) (bd : ∀ (s : Shared) (u : Value), BindsTo s fd ⟨[u], []⟩ [(x, u)])
    (hsp : ∀ H : Hp, SqL K H a (ns.map V.int) → sp [.ref a] H (fun v _ => v = .bl true) fun _ _ _ => False) :
    codeAny (model PP w) callerA (.call (.ref fa) ⟨[.ref a], []⟩) (fun r s' => r = .ok (.ret (.bool true)) ∧ OldK z1.heap s'.heap ∧ s'.os = z1.os ∧ AllBare s'.gens) z1 := by
  have vi := vals_ints hi
  have li := hi.length
  have main : ∀ H : Hp, (∀ b, H b = none ∨ ∃ o xs, H b = some (.frz o (.lst xs))) → SqL K H a (ns.map V.int) → HOk PP w H z1.heap → (∀ b, H b ≠ none → b = a) → (H a ≠ none → K.lookup a = none) →
      codeAny (model PP w) callerA (.call (.ref fa) ⟨[.ref a], []⟩) (fun r s' => r = .ok (.ret (.bool true)) ∧ OldK z1.heap s'.heap ∧ s'.os = z1.os ∧ AllBare s'.gens) z1 := by
    intro H only sq ok one free
    have noA : ∀ {b : Addr} {o : Obj} {es : Array DictEntry} {ep : Nat}, z1.heap.get? b = some o → o.data = .dict es ep → H b = none := fun {b o es ep} e d => by
      cases q : H b with
      | none => rfl
      | some u =>
        obtain rfl : b = a := one b (by rw [q]; simp)
        rw [ha] at e
        cases e
        have d' : Data.seq vs.toArray _ = Data.dict es ep := d
        cases d'
    have nsB : ∀ {b : Addr} {m : Str → Option Value}, z1.heap.Ns b m → (hidT z1.heap H).Ns b m := fun {b m} ⟨o, es, ep, e, d, r⟩ => ⟨o, es, ep, hidT_get e (noA e d), d, r⟩
    have inB : K.In (hidT z1.heap H) := fun b o e => hidT_get (inK b o e) (by
      cases q : H b with
      | none => rfl
      | some u =>
        obtain rfl : b = a := one b (by rw [q]; simp)
        rw [free (by rw [q]; simp)] at e
        cases e)
    have mod : Mod K mg (hidT z1.heap H) := ⟨inB, nsB gl, ⟨mb, nsB bl, boot⟩, let ⟨mc, h1, h2⟩ := nl; ⟨mc, nsB h1, h2⟩⟩
    have e0 : Env0 PP w K mg (hidT z1.heap H) callerA [] z1 H := ⟨rfl, mod, fun b o e => of_hidT e, Nat.le_of_eq (hidT_size _ _), trivial, fun b hb => absurd (show b ∈ ([] : List Addr) from hb) (by simp), ok, .of_eq gn⟩
    refine codeAny_mono ((F _ inB (nsB gl) (let ⟨_, z⟩ := ms; ⟨⟨_, nsB z⟩⟩)).go callerA [] z1 H ⟨[.ref a], []⟩ [.ref a] [.ref a] _ _ room rfl e0 (bd z1 (.ref a)) (.cons rfl .nil) (hsp H sq)) fun r s' h => ?_
    cases r with
    | error e =>
      obtain ⟨_, _, _, _, _, _, _, _, _, _, _, _, z⟩ := h
      exact z.elim
    | ok fl => cases fl with
      | next => exact False.elim h
      | brk => exact False.elim h
      | cont => exact False.elim h
      | ret u =>
        obtain ⟨v, H', os, bare, un, ok', r', rfl⟩ := h
        obtain rfl : u = Value.bool true := r'
        refine ⟨rfl, OldK.of_keep fun b o e => ?_, os, bare⟩
        cases q : H b with
        | none => exact un.keep b o e q (by intro z; exact absurd (show b ∈ ([] : List Addr) from z) (by simp)) (by simp)
        | some u =>
          rcases only b with z | ⟨ob, xs, z⟩
          · rw [q] at z
            cases z
          · obtain ⟨e1, _⟩ := ok b _ z
            obtain ⟨e2, _⟩ := ok' b _ (un.frzs b ob _ z)
            rw [e] at e1
            cases e1
            exact e2
  cases hk : K.lookup a with
  | some o =>
    have e := inK a o hk
    rw [ha] at e
    cases e
    exact main (fun _ => none) (fun _ => .inl rfl) (.inr ⟨_, vs.toArray, _, hk, rfl, rfl, rfl, by rw [List.size_toArray, li]; exact hz, by simpa using vi⟩) (fun b u z => nomatch (show (none : Option HO) = some u from z)) (fun b z => absurd rfl z) fun z => absurd rfl z
  | none =>
    refine main (fun b => if b = a then some (.frz { cls := .type "list", data := .seq vs.toArray } (.lst (ns.map V.int))) else none) (fun b => ?_) (.inl (.inr ⟨{ cls := .type "list", data := .seq vs.toArray }, if_pos rfl⟩)) (fun b u z => ?_) (fun b z => ?_) fun _ => hk
    · by_cases hb : b = a
      · exact .inr ⟨_, _, if_pos hb⟩
      · exact .inl (if_neg hb)
    · by_cases hb : b = a
      · have y := (if_pos hb).symm.trans z
        cases y
        subst hb
        exact ⟨ha, by rw [List.length_map]; exact hz, vs, _, vi, ha⟩
      · cases (if_neg hb).symm.trans z
    · by_cases hb : b = a
      · exact hb
      · exact absurd (if_neg hb) z
/-- the goal that k_head leaves, from the law's promise -/
theorem walk_G2 {l : PySem.W.OpenLaw} {n k : Nat} {q : Program} {loose : List Str} {XP : (Str → Option Value) → Heap → Prop} {YP : World → Heap → Prop} {d : DefRec} {K : Params → Fg} {sp : Fg → Sp} {x : Str}
    (hn : l.most = some n) (hn2 : n ≤ sizeLine) (hdf : d.params.defaults = []) (room : Room k callerA)
    (hq : importsNone q = true) (hY : ∀ (w : World) (h : Heap), YP w h → (K w.params).In h)
    (F : ∀ (w : World) (mg : Str → Option Value) (fa : Addr) (h : Heap), (K w.params).In h → h.Ns mainGlobals mg → mg d.name = some (.ref fa) →
      ∃ fd : FuncData, (∀ (s : Shared) (u : Value), BindsTo s fd ⟨[u], []⟩ [(x, u)]) ∧
        ∀ base : Heap, (K w.params).In base → base.Ns mainGlobals mg → Sys base → FnG l.prog w (K w.params) mg base k fa fd [x] (sp (K w.params)))
    (hsp : ∀ (K : Fg) (H : Hp) (a : Addr) (ns : List Int), ns.length ≤ n → SqL K H a (ns.map V.int) → sp K [.ref a] H (fun v _ => v = .bl true) fun _ _ _ => False) :
    PySem.W.WalkO q loose XP YP l.row.toRowW d [] (fun f vs => PySem.call f vs) := by
  refine Att.attach_call hn hdf fun w z0 z1 mg mb fa o pm cd doc a vs ns G Y ho hd hcd hmg hobj hints hlen hg => ?_
  have inK := hY w _ Y
  obtain ⟨fd, bd, hF⟩ := F w mg fa _ inK G.T.g hmg
  exact law_G2 inK G.T.g G.T.b G.T.builtins G.T.nolimit hg hobj hints (Nat.le_trans hlen hn2) room (let ⟨mm, z, _⟩ := (G.T.seer hq).mods; ⟨mm, z⟩) hF bd fun H hS => hsp (K w.params) H a ns hlen hS
end MP
end

section
set_option Elab.async false
set_option linter.all false
set_option maxRecDepth 100000
set_option maxHeartbeats 4000000
set_option autoImplicit false
namespace MP
open PySem PySem.Spec L2
/-! ### a, b = x, y where a pair is made (a name is used in a comprehension) -/
section
variable {X : Cx} {P : Pk} {E : St → XK} {a b : Expr} {ma mb : ME} {pos : Pos}
theorem z_par2c (i j k l : Nat) {x y : Str} {px py pt : Pos} {kt k2 pt2} (ha : PE X a (tM P E ma)) (hb : PE X b (tM P E mb)) (hc : X.calm = true) (hN : X.N.Nodup) (hw : swappedStores [.Tuple [.Name x px, .Name y py] kt pt] (.Tuple [a, b] k2 pt2) X.env = pure none)
    (hi : X.N[i]? = some x := by rfl) (hj : X.N[j]? = some y := by rfl) (hij : i ≠ j := by decide)
    (hx : Loc X.env.scope x := by first | exact Or.inl rfl | exact Or.inr rfl) (hfx : X.fn x = true ∨ X.env.scope.names.lookup x = some .local := by first | exact .inl rfl | exact .inr rfl | assumption)
    (hy : Loc X.env.scope y := by first | exact Or.inl rfl | exact Or.inr rfl) (hfy : X.fn y = true ∨ X.env.scope.names.lookup y = some .local := by first | exact .inl rfl | exact .inr rfl | assumption)
    (h1 : starEach (a :: [b]) X.env = (false, eval a X.env) :: starEach [b] X.env := by rfl) (h2 : starEach (b :: []) X.env = (false, eval b X.env) :: starEach [] X.env := by rfl)
    (hs : swapsWithSole [.Tuple [.Name x px, .Name y py] kt pt] (.Tuple [a, b] k2 pt2) pos.line X.env = pure false := by rfl)
    (hg1 : (assignEach [.Name x px, .Name y py] X.env).map (·.2) = assign (.Name x px) X.env :: (assignEach [.Name y py] X.env).map (·.2) := by rfl) (hg2 : (assignEach [.Name y py] X.env).map (·.2) = assign (.Name y py) X.env :: (assignEach [] X.env).map (·.2) := by rfl)
    (hn : (assignEach [.Name x px, .Name y py] X.env).length = 2 := by rfl) (hst : (assignEach [.Name x px, .Name y py] X.env).findIdx? (·.1) = none := by rfl)
    (ht : (assignEach [.Tuple [.Name x px, .Name y py] kt pt] X.env).map (·.2) = [assign (.Tuple [.Name x px, .Name y py] kt pt) X.env] := by rfl) :
    PS X (.Assign [.Tuple [.Name x px, .Name y py] kt pt] (.Tuple [a, b] k2 pt2) pos) (tS P E (sPar2 k i l j ma mb)) := by
  refine PS.imp (ps_asg (pe_tup (pa_cons ha (pa_cons hb pa_nil h2) h1)) (pg_tup hc (pgs_cons (pg_name hN hi hx hfx) (pgs_cons (pg_name hN hj hy hfy) pgs_nil hg2) hg1) hn hst) hs hw ht) fun D σ H ⟨g, ρ, rp, h⟩ => ?_
  have h' : PostS P E g σ ρ H H D ((ma ρ).st fun v ρ1 => (mb ρ1).st fun w ρ2 => (setS (l == 1) j w ρ2).seq fun ρ3 => setS (k == 1) i v ρ3) := h
  refine ⟨g, ρ, rp, stG (R := RVP P) h' fun s1 ρ1 v H1 _ r1 sc1 f1 q1 h1 => ?_⟩
  refine ⟨gadd g v s1, ρ1, q1.gadd r1, ?_⟩
  cases e : mb ρ1 with
  | ok s2 ρ2 =>
    rw [e] at h1
    refine fun w H2 r2 sc2 f2 q2 => ⟨(by show 2 ≤ sizeLine; decide), fun T hT => ?_⟩
    have gr : Grow H2 (upd H2 T (.tup [v, w])) := .new hT
    have f2' : FrE H1 (Own σ ρ1) (upd H2 T (.tup [v, w])) := f2.trans (.of_grow (M := fun _ => False) gr) fun _ z => z.elim
    have q2' : RV P.K (gadd g v s1) H1 (upd H2 T (.tup [v, w])) σ ρ2 w s2 := q2.later_own (.refl _) (.of_grow gr) ((q2.gadd r2).grow gr)
    have fin := after2 sc1 f1 q1 sc2 f2' (r2.grow gr) q2' hij h1
    exact ⟨T, [v, w], rfl, .of upd_same, rfl, v, [w], rfl, w, [], rfl, rfl, fin⟩
  | raise c x ρ2 =>
    rw [e] at h1
    exact PostG.more (R := RVP P) (H0 := H1) less_V (o := .raise c x ρ2) (RX.step (RX.ofS h1) sc1 f1) (le_gadd g v s1)
  | stuck =>
    rw [e] at h1
    exact h1
end
end MP
end

section
set_option linter.all false
set_option autoImplicit true
namespace MP
open PySem
/-! ### what the combinators do, for simp -/
@[simp] theorem p_C : mC x ρ = .ok (.d x) ρ := rfl
@[simp] theorem p_V : mV i ρ = (match ρ[i]? with
  | some (some (.d x)) => .ok (.d x) ρ
  | some (some (.own _)) => .ok (.pk i) ρ
  | some (some (.ref _)) => .ok (.pk i) ρ
  | some (some (.exc c x)) => .ok (.exc c x) ρ
  | some (some (.fn n)) => .ok (.fn n) ρ
  | _ => .stuck) := rfl
@[simp] theorem p_1 : m1 f a ρ = (a ρ).bind fun v ρ1 => viewB ρ1 v fun x => opt (f x) ρ1 := rfl
@[simp] theorem p_2 : m2 f a b ρ = (a ρ).bind fun v ρ1 => (b ρ1).bind fun w ρ2 => viewB ρ2 v fun x => viewB ρ2 w fun y => opt (f x y) ρ2 := rfl
@[simp] theorem p_tup : mTup ms ρ = (mArgs ms ρ).bind fun vs ρ1 => opt ((allD vs).map fun xs => SV.d (.tuple xs)) ρ1 := rfl
@[simp] theorem p_lst : mLst ms ρ = (mArgs ms ρ).bind fun vs ρ1 => opt ((allD vs).map fun xs => SV.own (.lst xs)) ρ1 := rfl
@[simp] theorem p_B : mB f ms ρ = (mArgs ms ρ).bind fun vs ρ1 => opt ((allV ρ1 vs).bind f) ρ1 := rfl
@[simp] theorem p_tr : mTr a ρ = (a ρ).bind fun v ρ1 => viewB ρ1 v fun x => opt (truth x) ρ1 := rfl
@[simp] theorem p_kand : kAnd a b ρ = (a ρ).bind fun c ρ1 => if c = true then b ρ1 else .ok false ρ1 := rfl
@[simp] theorem p_kor : kOr a b ρ = (a ρ).bind fun c ρ1 => if c = true then .ok true ρ1 else b ρ1 := rfl
@[simp] theorem p_knot : kNot a ρ = (a ρ).bind fun c ρ1 => .ok (!c) ρ1 := rfl
@[simp] theorem p_and : mAnd a b ρ = (a ρ).bind fun v ρ1 => toB v fun x => (opt (truth x) ρ1).bind fun c ρ2 => if c = true then b ρ2 else .ok (.d x) ρ2 := rfl
@[simp] theorem p_or : mOr a b ρ = (a ρ).bind fun v ρ1 => toB v fun x => (opt (truth x) ρ1).bind fun c ρ2 => if c = true then .ok (.d x) ρ2 else b ρ2 := rfl
@[simp] theorem p_not : mNot a ρ = (mTr a ρ).bind fun c ρ1 => .ok (.d (.bool (!c))) ρ1 := rfl
@[simp] theorem p_if : mIf t a b ρ = (t ρ).bind fun c ρ1 => if c = true then a ρ1 else b ρ1 := rfl
@[simp] theorem p_ch : mCh f g a b c ρ = (a ρ).bind fun u ρ1 => (b ρ1).bind fun v ρ2 => toB u fun x => toB v fun y => (opt ((f x y).bind boolOf) ρ2).bind fun k ρ3 =>
  if k = true then (c ρ3).bind fun w ρ4 => toB w fun z => opt (((g y z).bind boolOf).map fun q => SV.d (.bool q)) ρ4 else .ok (.d (.bool false)) ρ3 := rfl
@[simp] theorem p_i1 : i1 f a ρ = (a ρ).bind fun v ρ1 => toB v fun x => opt (f x) ρ1 := rfl
@[simp] theorem p_i2 : i2 f a b ρ = (a ρ).bind fun v ρ1 => (b ρ1).bind fun w ρ2 => toB v fun x => toB w fun y => opt (f x y) ρ2 := rfl
@[simp] theorem p_comp : mComp vs tg it t e ρ = (it ρ).bind fun xs ρ1 => if (plainAt ρ1 vs && tgIn tg vs && decide (xs.length ≤ 16777216)) = true then compGo vs tg t e xs [] ρ1 else .stuck := rfl
@[simp] theorem p_call : mCall f ms ρ = (mArgs ms ρ).bind fun vs ρ1 => mCallGo f vs ρ1 := rfl
@[simp] theorem p_callK : mCallK f perm ms ρ = (mArgs ms ρ).bind fun vs ρ1 => mCallGo f (perm.map fun j => vs[j]?.getD (.d .none)) ρ1 := rfl
@[simp] theorem p_callGo : mCallGo f vs ρ = (match argsOf ρ vs with
  | none => .stuck
  | some as => if (refIx vs).Nodup then MP.callEnd ρ (refIx vs) (f as) else .stuck) := rfl
@[simp] theorem p_end : MP.callEnd ρ is (.ok v outs) = if isRes v = true then (match putCells ρ is outs with | some ρ2 => .ok v ρ2 | none => .stuck) else .stuck := rfl
@[simp] theorem p_putN : putCells ρ [] [] = some ρ := rfl
@[simp] theorem p_putC : putCells ρ (i :: is) (c :: cs) = putCells (putCell ρ i c) is cs := rfl
@[simp] theorem p_refN : refIx [] = [] := rfl
@[simp] theorem p_refD : refIx (.d x :: vs) = refIx vs := rfl
@[simp] theorem p_refO : refIx (.own x :: vs) = refIx vs := rfl
@[simp] theorem p_refP : refIx (.pk i :: vs) = i :: refIx vs := rfl
@[simp] theorem p_next : sNext ρ = .next ρ := rfl
@[simp] theorem p_seq : sSeq a b ρ = (a ρ).seq b := rfl
@[simp] theorem p_expr : sExpr m ρ = (m ρ).st fun _ ρ1 => .next ρ1 := rfl
@[simp] theorem p_ret : sRet m ρ = (m ρ).st fun v ρ1 => .ret v ρ1 := rfl
@[simp] theorem p_retN : sRetN ρ = .ret (.d .none) ρ := rfl
@[simp] theorem p_sif : sIf t a b ρ = (t ρ).st fun c ρ1 => if c = true then a ρ1 else b ρ1 := rfl
@[simp] theorem p_set : sSet k i m ρ = (m ρ).st fun v ρ1 => setS k i v ρ1 := rfl
@[simp] theorem p_setS : setS k i v ρ = if free ρ i = true then (match kept k v with | some w => .next (ρ.set i (some w)) | none => .stuck) else .stuck := rfl
@[simp] theorem p_unp : sUnp tg m ρ = (m ρ).st fun v ρ1 => match toD v with
  | some x => (match tgSet tg x ρ1 with | some ρ2 => .next ρ2 | none => .stuck)
  | none => .stuck := rfl
@[simp] theorem p_par2 : sPar2 k i l j a b ρ = (a ρ).st fun v ρ1 => (b ρ1).st fun w ρ2 => (setS (l == 1) j w ρ2).seq fun ρ3 => setS (k == 1) i v ρ3 := rfl
@[simp] theorem p_for : sFor tg it b ρ = (it ρ).st fun xs ρ1 => forGo tg b xs ρ1 := rfl
@[simp] theorem p_free : free ρ i = (match ρ[i]? with
  | some (some (.ref _)) => false
  | some _ => true
  | none => false) := rfl
@[simp] theorem p_sl : mSl a lo hi ρ = (a ρ).bind fun v ρ1 => (mPart lo ρ1).bind fun l ρ2 => (mPart hi ρ2).bind fun h ρ3 => viewB ρ3 v fun x => opt (slD x l h) ρ3 := rfl
@[simp] theorem p_item : sItem i a v ρ = (v ρ).st fun w ρ1 => if isL ρ1 i = true then (a ρ1).st fun k ρ2 => itemGo i w k ρ2 else .stuck := rfl
@[simp] theorem p_semDef : semDef n b as = (match b (as.map some ++ List.replicate (n - as.length) none) with
  | .ret v ρ => finish as v ρ
  | .next ρ => finish as (.d .none) ρ
  | .raise c x ρ => (match outsOf as ρ with | some outs => .raise c x outs | none => .stuck)
  | _ => .stuck) := rfl
@[simp] theorem p_fin : finish as v ρ = (match resOf ρ v, outsOf as ρ with
  | some w, some outs => .ok w outs
  | _, _ => .stuck) := rfl
@[simp] theorem p_resD : resOf ρ (.d x) = some (.d x) := rfl
@[simp] theorem p_resO : resOf ρ (.own x) = some (.own x) := rfl
@[simp] theorem p_resP : resOf ρ (.pk i) = (match ρ[i]? with | some (some (.own c)) => some (.own c) | _ => none) := rfl
@[simp] theorem p_outN : outsOf [] ρ = some [] := rfl
@[simp] theorem p_outR : outsOf (.ref c :: as) (some (.ref c') :: r) = (outsOf as r).map fun cs => c' :: cs := rfl
@[simp] theorem p_outD : outsOf (.d x :: as) ρ = outsOf as ρ.tail := rfl
@[simp] theorem p_tgN : tgSet (.n i) x ρ = if free ρ i = true then some (ρ.set i (some (.d x))) else none := by unfold tgSet; rfl
@[simp] theorem p_tgT : tgSet (.t ts) (.tuple xs) ρ = tgSets ts xs ρ := by rw [tgSet]
@[simp] theorem p_tgsN : tgSets [] [] ρ = some ρ := by rw [tgSets]
@[simp] theorem p_tgsC : tgSets (t :: ts) (x :: xs) ρ = (tgSet t x ρ).bind fun ρ1 => tgSets ts xs ρ1 := by rw [tgSets]
@[simp] theorem p_wipeN : wipeE ρ [] = ρ := rfl
@[simp] theorem p_wipeC : wipeE ρ (v :: vs) = (wipeE ρ vs).set v none := rfl
@[simp] theorem p_backN : back ρ ρ' [] = ρ' := rfl
@[simp] theorem p_backC : back ρ ρ' (v :: vs) = (back ρ ρ' vs).set v (ρ[v]?.getD none) := rfl
@[simp] theorem p_plain : plainAt ρ vs = vs.all fun i => (cellAt ρ i).isNone && decide (i < ρ.length) := rfl
@[simp] theorem p_tgIn : tgIn tg vs = tg.slots.all fun i => vs.contains i := rfl
@[simp] theorem p_slN : Tg.slots (.n i) = [i] := by rw [Tg.slots]
@[simp] theorem p_slT : Tg.slots (.t ts) = tgSlots ts := by rw [Tg.slots]
@[simp] theorem p_slsN : tgSlots [] = [] := by rw [tgSlots]
@[simp] theorem p_slsC : tgSlots (t :: ts) = t.slots ++ tgSlots ts := by rw [tgSlots]
@[simp] theorem p_cell : cellAt ρ i = (match ρ[i]? with
  | some (some (.own c)) => some c
  | some (some (.ref c)) => some c
  | _ => none) := rfl
@[simp] theorem p_putCell : putCell ρ i c = (match ρ[i]? with
  | some (some (.own _)) => ρ.set i (some (.own c))
  | some (some (.ref _)) => ρ.set i (some (.ref c))
  | _ => ρ) := rfl
@[simp] theorem p_isL : isL ρ i = (match cellAt ρ i with
  | some (.lst _) => true
  | _ => false) := rfl
/-! a comprehension whose parts leave all as it was -/
theorem comp_map {vs : List Nat} {tg : Tg} {t : MT} {e : ME} {ρ : En} {c : D → Bool} {y : D → D} : ∀ {xs acc : List D},
    (∀ x ∈ xs, ∃ ρa ρb ρc, tgSet tg x (wipeE ρ vs) = some ρa ∧ t ρa = .ok (c x) ρb ∧ (c x = false → back ρ ρb vs = ρ) ∧ (c x = true → ∃ v, e ρb = .ok v ρc ∧ toD v = some (y x) ∧ back ρ ρc vs = ρ)) →
    compGo vs tg t e xs acc ρ = .ok (.own (.lst (acc ++ (xs.filter c).map y))) ρ
  | [], acc, h => by unfold compGo; simp
  | x :: xs, acc, h => by
    obtain ⟨ρa, ρb, ρc, h1, h2, h3, h4⟩ := h x List.mem_cons_self
    have hr : ∀ x ∈ xs, _ := fun z hz => h z (List.mem_cons_of_mem _ hz)
    unfold compGo
    rw [h1]
    simp only [h2, noRaise_ok]
    cases ec : c x with
    | false =>
      simp only [h3 ec, if_neg Bool.false_ne_true]
      rw [comp_map (c := c) (y := y) hr, List.filter_cons_of_neg (by simp [ec])]
    | true =>
      obtain ⟨v, h5, h6, h7⟩ := h4 ec
      simp only [if_pos, h5, noRaise_ok]
      unfold toB
      rw [h6]
      simp only [h7]
      rw [comp_map (c := c) (y := y) hr, List.filter_cons_of_pos ec]
      simp
/-- the same where nothing is left out -/
theorem comp_all {vs : List Nat} {tg : Tg} {e : ME} {ρ : En} {y : D → D} {xs acc : List D}
    (h : ∀ x ∈ xs, ∃ ρa ρc v, tgSet tg x (wipeE ρ vs) = some ρa ∧ e ρa = .ok v ρc ∧ toD v = some (y x) ∧ back ρ ρc vs = ρ) :
    compGo vs tg mYes e xs acc ρ = .ok (.own (.lst (acc ++ xs.map y))) ρ := by
  have := comp_map (vs := vs) (tg := tg) (t := mYes) (e := e) (ρ := ρ) (c := fun _ => true) (y := y) (xs := xs) (acc := acc) fun x hx => by
    obtain ⟨ρa, ρc, v, h1, h2, h3, h4⟩ := h x hx
    exact ⟨ρa, ρa, ρc, h1, rfl, (fun z => nomatch z), fun _ => ⟨v, h2, h3, h4⟩⟩
  have e : xs.filter (fun _ => true) = xs := List.filter_eq_self.mpr fun _ _ => rfl
  rw [e] at this
  exact this
theorem bools_map {α : Type} (f : α → Bool) : ∀ xs : List α, boolsOf (xs.map fun x => PyData.bool (f x)) = some (xs.map f)
  | [] => rfl
  | x :: xs => by
    show (boolsOf (xs.map fun x => PyData.bool (f x))).map _ = _
    rw [bools_map f xs] <;> rfl
theorem ints_map {α : Type} (f : α → Int) : ∀ xs : List α, intsOf (xs.map fun x => PyData.int (f x)) = some (xs.map f)
  | [] => rfl
  | x :: xs => by
    show (intsOf (xs.map fun x => PyData.int (f x))).map _ = _
    rw [ints_map f xs] <;> rfl
end MP
namespace MP
open PySem
/-! more for simp -/
@[simp] theorem cEq_int {a b : Int} : cEq (.int a) (.int b) = some (.d (.bool (a == b))) := by
  simp [cEq, eqOk, noItem, PyData.plain, PyData.depth, PyData.eqv]
@[simp] theorem cNe_int {a b : Int} : cNe (.int a) (.int b) = some (.d (.bool (!(a == b)))) := by
  simp [cNe, eqOk, noItem, PyData.plain, PyData.depth, PyData.eqv]
@[simp] theorem cEq_str {a b : Str} : cEq (.str a) (.str b) = some (.d (.bool (PyData.eqv (.str a) (.str b)))) := by
  simp [cEq, eqOk, noItem, PyData.plain, PyData.depth]
@[simp] theorem cLt_int {a b : Int} : cLt (.int a) (.int b) = some (.d (.bool (decide (a < b)))) := rfl
@[simp] theorem cLe_int {a b : Int} : cLe (.int a) (.int b) = some (.d (.bool (decide (a ≤ b)))) := rfl
@[simp] theorem cGt_int {a b : Int} : cGt (.int a) (.int b) = some (.d (.bool (decide (b < a)))) := rfl
@[simp] theorem cGe_int {a b : Int} : cGe (.int a) (.int b) = some (.d (.bool (decide (b ≤ a)))) := rfl
@[simp] theorem cIsN_s {x : D} : cIsN x = some (.d (.bool (isN x))) := rfl
@[simp] theorem cNotN_s {x : D} : cNotN x = some (.d (.bool (!isN x))) := rfl
@[simp] theorem bAdd_int {a b : Int} : bAdd (.int a) (.int b) = some (.d (.int (a + b))) := rfl
@[simp] theorem bSub_int {a b : Int} : bSub (.int a) (.int b) = some (.d (.int (a - b))) := rfl
@[simp] theorem uNeg_int {a : Int} : uNeg (.int a) = some (.d (.int (-a))) := rfl
@[simp] theorem lenD_list {xs : List D} : lenD [.list xs] = some (.d (.int (xs.length : Nat))) := rfl
@[simp] theorem lenD_tup {xs : List D} : lenD [.tuple xs] = some (.d (.int (xs.length : Nat))) := rfl
@[simp] theorem gAll_list {xs : List D} : gAll [.list xs] = (boolsOf xs).map fun is => .d (.bool (is.all id)) := rfl
@[simp] theorem gSum_list {xs : List D} : gSum [.list xs] = (intsOf xs).map fun is => .d (.int is.sum) := rfl
@[simp] theorem gTup_list {xs : List D} : gTup [.list xs] = some (.d (.tuple xs)) := rfl
@[simp] theorem gTup_tup {xs : List D} : gTup [.tuple xs] = some (.d (.tuple xs)) := rfl
@[simp] theorem gLst_list {xs : List D} : gLst [.list xs] = some (.own (.lst xs)) := rfl
@[simp] theorem gLst_tup {xs : List D} : gLst [.tuple xs] = some (.own (.lst xs)) := rfl
@[simp] theorem gInt_int {i : Int} : gInt [.int i] = some (.d (.int i)) := rfl
@[simp] theorem gInt_bool {b : Bool} : gInt [.bool b] = some (.d (.int (if b then 1 else 0))) := rfl
@[simp] theorem gAbs_int {i : Int} : gAbs [.int i] = some (.d (.int (if i < 0 then -i else i))) := rfl
@[simp] theorem gMax_int {i j : Int} : gMax [.int i, .int j] = some (.d (.int (if j > i then j else i))) := rfl
@[simp] theorem gMin_int {i j : Int} : gMin [.int i, .int j] = some (.d (.int (if j < i then j else i))) := rfl
@[simp] theorem bIdx_tup {xs : List D} {i : Int} : bIdx (.tuple xs) (.int i) = (atD xs i).map SV.d := rfl
@[simp] theorem bIdx_list {xs : List D} {i : Int} : bIdx (.list xs) (.int i) = (atD xs i).map SV.d := rfl
@[simp] theorem isinst_s {T : String} {x : D} : isinst T x = some (.d (.bool (subTy (tyD x) T))) := rfl
@[simp] theorem boolOf_s {b : Bool} : boolOf (.d (.bool b)) = some b := rfl
@[simp] theorem ty_none : tyD .none = "NoneType" := rfl
@[simp] theorem ty_bool {b : Bool} : tyD (.bool b) = "bool" := rfl
@[simp] theorem ty_int {i : Int} : tyD (.int i) = "int" := rfl
@[simp] theorem ty_str {x : Str} : tyD (.str x) = "str" := rfl
@[simp] theorem ty_list {x : List D} : tyD (.list x) = "list" := rfl
@[simp] theorem ty_tup {x : List D} : tyD (.tuple x) = "tuple" := rfl
@[simp] theorem ty_dict {x : List (D × D)} : tyD (.dict x) = "dict" := rfl
theorem atD_nat {xs : List D} {i : Nat} : atD xs (i : Int) = xs[i]? := by
  unfold atD ix
  rw [if_pos (by omega)]
  by_cases h : i < xs.length
  · rw [if_pos (by omega)]
    simp
  · rw [if_neg (by omega), List.getElem?_eq_none (by omega)] <;> rfl
@[simp] theorem atD_0 {x : D} {xs : List D} : atD (x :: xs) 0 = some x := by
  have := atD_nat (xs := x :: xs) (i := 0)
  simpa using this
@[simp] theorem atD_1 {x y : D} {xs : List D} : atD (x :: y :: xs) 1 = some y := by
  have := atD_nat (xs := x :: y :: xs) (i := 1)
  simpa using this
@[simp] theorem atD_2 {x y z : D} {xs : List D} : atD (x :: y :: z :: xs) 2 = some z := by
  have := atD_nat (xs := x :: y :: z :: xs) (i := 2)
  simpa using this
/-! a loop that goes on or returns -/
def scan {S : Type} (step : S → D → Option S) : S → List D → Option S
  | s, [] => some s
  | s, x :: xs => (step s x).bind fun s' => scan step s' xs
def Goes {S : Type} (o : Option S) (f : S → Prop) (g : Prop) : Prop := match o with
  | some s => f s
  | none => g
@[simp] theorem goes_some {S : Type} {s : S} {f : S → Prop} {g : Prop} : Goes (some s) f g = f s := rfl
@[simp] theorem goes_none {S : Type} {f : S → Prop} {g : Prop} : Goes none f g = g := rfl
theorem for_scan {S : Type} {tg : Tg} {b : MS} {r : SV} {Env : Option SV → S → En} {step : S → D → Option S} : ∀ (xs : List D) (p : Option SV) (s : S),
    (∀ x ∈ xs, ∀ p s, (∀ c, p ≠ some (.ref c)) → tgSet tg x (Env p s) = some (Env (some (.d x)) s)) → (∀ c, p ≠ some (.ref c)) →
    (∀ x ∈ xs, ∀ s, Goes (step s x) (fun s' => b (Env (some (.d x)) s) = .next (Env (some (.d x)) s')) (∃ ρ', b (Env (some (.d x)) s) = .ret r ρ')) →
    Goes (scan step s xs) (fun s' => ∃ p', forGo tg b xs (Env p s) = .next (Env p' s')) (∃ ρ', forGo tg b xs (Env p s) = .ret r ρ')
  | [], p, s, _, _, _ => ⟨p, rfl⟩
  | x :: xs, p, s, h1, hp, h2 => by
    have h := h2 x List.mem_cons_self s
    unfold scan
    cases e : step s x with
    | none =>
      rw [e] at h
      obtain ⟨ρ', h⟩ := h
      refine ⟨ρ', ?_⟩
      unfold forGo
      rw [h1 x List.mem_cons_self p s hp]
      simp only [h]
    | some s' =>
      rw [e] at h
      have ih := for_scan (tg := tg) (b := b) (r := r) (Env := Env) (step := step) xs (some (.d x)) s' (fun y hy => h1 y (List.mem_cons_of_mem _ hy)) (fun c z => by cases z) fun y hy => h2 y (List.mem_cons_of_mem _ hy)
      have e2 : forGo tg b (x :: xs) (Env p s) = forGo tg b xs (Env (some (.d x)) s') := by
        conv => lhs; unfold forGo
        rw [h1 x List.mem_cons_self p s hp]
        have h' : b (Env (some (.d x)) s) = .next (Env (some (.d x)) s') := h
        simp only [h']
      rw [e2]
      exact ih
theorem scan_unit {ok : D → Bool} : ∀ xs : List D, scan (fun (_ : Unit) x => if ok x = true then some () else none) () xs = if xs.all ok = true then some () else none
  | [] => rfl
  | x :: xs => by
    unfold scan
    rw [List.all_cons]
    cases h : ok x with
    | false => rfl
    | true => exact scan_unit xs
theorem free_at {ρ : En} {i : Nat} {p : Option SV} (h : ρ[i]? = some p) (n : ∀ c, p ≠ some (.ref c)) : free ρ i = true := by
  unfold free
  rw [h]
  cases p with
  | none => rfl
  | some s =>
    cases s with
    | ref c => exact (n c rfl).elim
    | _ => rfl
theorem tg_n {ρ : En} {i : Nat} {p : Option SV} {x : D} (h : ρ[i]? = some p) (n : ∀ c, p ≠ some (.ref c)) : tgSet (.n i) x ρ = some (ρ.set i (some (.d x))) := by
  rw [p_tgN, if_pos (free_at h n)]
end MP
namespace MP
open PySem
theorem comp_pure {vs : List Nat} {tg : Tg} {e : ME} {ρ : En} {y : D → D} {xs acc : List D}
    (h : ∀ x ∈ xs, ∃ ρa v, tgSet tg x (wipeE ρ vs) = some ρa ∧ e ρa = .ok v ρa ∧ toD v = some (y x) ∧ back ρ ρa vs = ρ) :
    compGo vs tg mYes e xs acc ρ = .ok (.own (.lst (acc ++ xs.map y))) ρ :=
  comp_all fun x hx => let ⟨ρa, v, h1, h2, h3, h4⟩ := h x hx; ⟨ρa, ρa, v, h1, h2, h3, h4⟩
end MP
namespace MP
open PySem
theorem mem_intsD {n : Nat} {x : D} (h : x ∈ intsD 0 n) : ∃ k, k < n ∧ x = .int (k : Nat) := by
  unfold intsD at h
  obtain ⟨k, hk, e⟩ := List.mem_map.mp h
  exact ⟨k, List.mem_range.mp hk, by rw [← e, Int.zero_add]⟩
theorem intsD_len {lo : Int} {n : Nat} : (intsD lo n).length = n := by
  unfold intsD
  rw [List.length_map, List.length_range]
end MP
namespace MP
open PySem
/-- a comprehension that changes a state as it goes -/
theorem comp_st {S : Type} {vs : List Nat} {tg : Tg} {e : ME} {Env : S → En} {J : Nat → S → Prop} {P : D → D → Prop} : ∀ (xs acc : List D) (i : Nat) (s : S), J i s →
    (∀ x ∈ xs, ∀ k s, k < i + xs.length → J k s → ∃ ρa ρc v y s', tgSet tg x (wipeE (Env s) vs) = some ρa ∧ e ρa = .ok v ρc ∧ toD v = some y ∧ back (Env s) ρc vs = Env s' ∧ J (k + 1) s' ∧ P x y) →
    ∃ ys s', compGo vs tg mYes e xs acc (Env s) = .ok (.own (.lst (acc ++ ys))) (Env s') ∧ J (i + xs.length) s' ∧ ys.length = xs.length ∧ ∀ (j : Nat) (x y : D), xs[j]? = some x → ys[j]? = some y → P x y
  | [], acc, i, s, hJ, _ => ⟨[], s, by unfold compGo; simp, hJ, rfl, fun j x y h => by simp at h⟩
  | x :: xs, acc, i, s, hJ, h => by
    obtain ⟨ρa, ρc, v, y, s', h1, h2, h3, h4, h5, h6⟩ := h x List.mem_cons_self i s (by rw [List.length_cons]; omega) hJ
    obtain ⟨ys, s2, k1, k2, k3, k4⟩ := comp_st xs (acc ++ [y]) (i + 1) s' h5 fun z hz k t hk => h z (List.mem_cons_of_mem _ hz) k t (by rw [List.length_cons]; omega)
    refine ⟨y :: ys, s2, ?_, ?_, by rw [List.length_cons, List.length_cons, k3], fun j a b ha hb => ?_⟩
    · unfold compGo
      rw [h1]
      simp only [mYes, noRaise_ok, if_pos, h2]
      unfold toB
      rw [h3]
      simp only [h4]
      rw [k1]
      simp
    · have e : i + 1 + xs.length = i + (x :: xs).length := by rw [List.length_cons]; omega
      rw [← e]
      exact k2
    · cases j with
      | zero =>
        simp at ha hb
        subst ha hb
        exact h6
      | succ j => exact k4 j a b (by simpa using ha) (by simpa using hb)
end MP
namespace MP
open PySem
theorem mul_ok {i j : Int} (h : mulOk i j = true) : bMulI (.int i) (.int j) = some (.d (.int (i * j))) := if_pos h
theorem mul_l {i j : Int} (h : i.natAbs < 2 ^ 64) : bMulI (.int i) (.int j) = some (.d (.int (i * j))) := mul_ok (by
  unfold mulOk
  rw [decide_eq_true h] <;> rfl)
theorem mul_r {i j : Int} (h : j.natAbs < 2 ^ 64) : bMulI (.int i) (.int j) = some (.d (.int (i * j))) := mul_ok (by
  unfold mulOk
  rw [decide_eq_true h, Bool.or_true] <;> rfl)
theorem mul_b {i j : Int} (h : i.natAbs.log2 + j.natAbs.log2 < 60000000) : bMulI (.int i) (.int j) = some (.d (.int (i * j))) := mul_ok (by
  unfold mulOk
  rw [decide_eq_true h, Bool.or_true])
theorem mod_p {i j : Int} (h : 0 < j) : bMod (.int i) (.int j) = some (.d (.int (i % j))) := if_pos h
theorem div_p {i j : Int} (h : 0 < j) (h2 : j.natAbs.log2 < 9000) : bDiv (.int i) (.int j) = some (.d (.int (i / j))) := if_pos ⟨h, h2⟩
theorem log_lt {n k : Nat} (h : n < 2 ^ k) (hk : 0 < k) : n.log2 < k := by
  by_cases h0 : n = 0
  · subst h0
    simpa using hk
  · exact (Nat.log2_lt h0).mpr h
theorem pow_p {i j : Int} (h0 : 0 ≤ j) (h : (i.natAbs.log2 + 1) * j.toNat ≤ 134217728) : bPow (.int i) (.int j) = some (.d (.int (i ^ j.toNat))) := if_pos ⟨h0, h⟩
end MP
namespace MP
open PySem
@[simp] theorem p_itemGo {i : Nat} {w : D} {k : Int} {ρ : En} : itemGo i (.d w) (.d (.int k)) ρ = (match cellAt ρ i with
  | some (.lst xs) => (match ix xs.length k with | some j => .next (putCell ρ i (.lst (xs.set j w))) | none => .stuck)
  | _ => .stuck) := by
  unfold itemGo
  cases cellAt ρ i with
  | none => rfl
  | some c => cases c <;> rfl
@[simp] theorem ix_0 {n : Nat} : ix (n + 1) 0 = some 0 := by
  unfold ix
  rw [if_pos (by omega), if_pos (by omega)] <;> rfl
@[simp] theorem ix_1 {n : Nat} : ix (n + 1 + 1) 1 = some 1 := by
  unfold ix
  rw [if_pos (by omega), if_pos (by omega)] <;> rfl
@[simp] theorem ix_2 {n : Nat} : ix (n + 1 + 1 + 1) 2 = some 2 := by
  unfold ix
  rw [if_pos (by omega), if_pos (by omega)] <;> rfl
@[simp] theorem ix3_0 : ix 3 0 = some 0 := rfl
@[simp] theorem ix3_1 : ix 3 1 = some 1 := rfl
@[simp] theorem ix3_2 : ix 3 2 = some 2 := rfl
end MP
namespace MP
open PySem
@[simp] theorem p_viewPk {β : Type} {ρ : En} {i : Nat} {f : D → Out β} : viewB ρ (.pk i) f = (match cellAt ρ i with
  | some c => f c.py
  | none => .stuck) := by
  show (match (cellAt ρ i).map Cell.py with | some x => f x | none => .stuck) = _
  cases cellAt ρ i <;> rfl
end MP
end

section
set_option linter.all false
set_option autoImplicit true
namespace MP
open PySem
/-! data that can be shown -/
structure Fine (b d : Nat) (x : D) : Prop where
  short : x.leavesShort 700 = true
  shw : x.showable = true
  bulk : x.bulk ≤ b
  dep : x.depth ≤ d
theorem Fine.mono {b d b' d' : Nat} {x : D} (h : Fine b d x) (hb : b ≤ b') (hd : d ≤ d') : Fine b' d' x := ⟨h.short, h.shw, Nat.le_trans h.bulk hb, Nat.le_trans h.dep hd⟩
theorem fine_int {i : Int} (h : i.natAbs.log2 < 600) : Fine 0 0 (.int i) := by
  refine ⟨?_, ?_, ?_, ?_⟩
  · have := int_text_length_le (k := 600) (by decide) h
    have e : (PyData.shown (.int i)).length = (toString i).length := by
      unfold PyData.shown
      exact ofString_length _
    simp only [PyData.leavesShort, decide_eq_true_eq]
    omega
  · simp only [PyData.showable, decide_eq_true_eq]
    omega
  · simp [PyData.bulk]
  · simp [PyData.depth]
theorem fine_small {i : Int} (h : i.natAbs < 2 ^ 500) : Fine 0 0 (.int i) := fine_int (Nat.lt_trans (log_lt h (by decide)) (by decide))
theorem fine_none : Fine 0 0 .none := ⟨by simp [PyData.leavesShort], by simp [PyData.showable], by simp [PyData.bulk], by simp [PyData.depth]⟩
theorem fine_bool {b : Bool} : Fine 0 0 (.bool b) := ⟨by simp [PyData.leavesShort], by simp [PyData.showable], by simp [PyData.bulk], by simp [PyData.depth]⟩
theorem short_all {xs : List D} (h : ∀ x ∈ xs, x.leavesShort 700 = true) : PyData.leavesShortAll 700 xs = true := by
  induction xs with
  | nil => rfl
  | cons x xs ih =>
    show (x.leavesShort 700 && PyData.leavesShortAll 700 xs) = true
    rw [h x List.mem_cons_self, ih fun y hy => h y (List.mem_cons_of_mem _ hy)] <;> rfl
theorem shw_all {xs : List D} (h : ∀ x ∈ xs, x.showable = true) : PyData.showableAll xs = true := by
  induction xs with
  | nil => rfl
  | cons x xs ih =>
    show (x.showable && PyData.showableAll xs) = true
    rw [h x List.mem_cons_self, ih fun y hy => h y (List.mem_cons_of_mem _ hy)] <;> rfl
theorem bulk_all {xs : List D} {b : Nat} (h : ∀ x ∈ xs, x.bulk ≤ b) : PyData.bulkAll xs ≤ xs.length * (b + 1) := by
  induction xs with
  | nil => simp [PyData.bulkAll]
  | cons x xs ih =>
    have h1 := h x List.mem_cons_self
    have h2 := ih fun y hy => h y (List.mem_cons_of_mem _ hy)
    simp only [PyData.bulkAll, List.length_cons, Nat.add_mul]
    omega
theorem dep_all {xs : List D} {d : Nat} (h : ∀ x ∈ xs, x.depth ≤ d) : PyData.depthAll xs ≤ d := by
  induction xs with
  | nil => simp [PyData.depthAll]
  | cons x xs ih =>
    have h1 := h x List.mem_cons_self
    have h2 := ih fun y hy => h y (List.mem_cons_of_mem _ hy)
    simp only [PyData.depthAll]
    omega
theorem fine_tuple {xs : List D} {b d n : Nat} (h : ∀ x ∈ xs, Fine b d x) (hn : xs.length ≤ n) : Fine (n * (b + 1)) (d + 1) (.tuple xs) := by
  refine ⟨?_, ?_, ?_, ?_⟩
  · simpa only [PyData.leavesShort] using short_all fun x hx => (h x hx).short
  · simpa only [PyData.showable] using shw_all fun x hx => (h x hx).shw
  · have := bulk_all fun x hx => (h x hx).bulk
    simp only [PyData.bulk]
    exact Nat.le_trans this (Nat.mul_le_mul_right _ hn)
  · have := dep_all fun x hx => (h x hx).dep
    simp only [PyData.depth]
    omega
theorem fine_list {xs : List D} {b d n : Nat} (h : ∀ x ∈ xs, Fine b d x) (hn : xs.length ≤ n) : Fine (n * (b + 1)) (d + 1) (.list xs) := by
  have := fine_tuple h hn
  exact ⟨by simpa only [PyData.leavesShort] using this.short, by simpa only [PyData.showable] using this.shw, by simpa only [PyData.bulk] using this.bulk, by simpa only [PyData.depth] using this.dep⟩
theorem Fine.rep {b d : Nat} {x : D} (h : Fine b d x) (hb : b ≤ 20000) (hd : d ≤ 50) (k : x.hasDict = false ∨ noL x = true) : repOk x = true := by
  unfold repOk
  have h1 := PyData.shown_le_bulk 700 (by decide) x h.short
  have h2 := h.bulk
  have h3 := h.dep
  have h4 : x.shown.length ≤ line := by
    unfold line
    have : (700 + 2) * x.bulk ≤ (700 + 2) * 20000 := Nat.mul_le_mul_left _ (by omega)
    omega
  rw [h.shw, decide_eq_true h4, decide_eq_true (show x.depth ≤ 50 by omega)]
  rcases k with k | k
  · rw [k] <;> rfl
  · rw [k] <;> simp
end MP
end

section
set_option linter.all false
set_option autoImplicit true
namespace MP
open PySem
@[simp] theorem p_unpL : sUnpL tgs m ρ = (m ρ).st fun v ρ1 => match toD v with
  | some (.list xs) => (match tgSets tgs xs ρ1 with | some ρ2 => .next ρ2 | none => .stuck)
  | _ => .stuck := rfl
@[simp] theorem p_callT : mCallT f m ρ = (m ρ).bind fun v ρ1 => callTGo f v ρ1 := rfl
theorem callT_ok {f : F} {c c' : Cell} {s : SV} (h : f [.ref c] = .ok s [c']) (hs : isRes s = true) : callTGo f (.own c) ρ = .ok s ρ := by
  unfold callTGo
  simp only [h, if_pos hs]
@[simp] theorem p_rep : mRep a b ρ = (a ρ).bind fun v ρ1 => (b ρ1).bind fun w ρ2 => match v with
  | .own (.lst xs) => (match w with
    | .d (.int k) => if (small62 k && decide (xs.length * k.toNat ≤ line)) = true then .ok (.own (.lst ((List.replicate k.toNat xs).flatten))) ρ2 else .stuck
    | _ => .stuck)
  | _ => .stuck := rfl
@[simp] theorem p_cell1 : mCell1 i g a ρ = if isL ρ i = true then (a ρ).bind fun v ρ1 => toB v fun x => cellB ρ1 i fun c => match g c x with
  | some (c', r) => .ok (.d r) (putCell ρ1 i c')
  | none => .stuck
  else .stuck := rfl
@[simp] theorem p_cellB {β : Type} {f : Cell → Out β} : cellB ρ i f = match cellAt ρ i with
  | some c => f c
  | none => .stuck := rfl
@[simp] theorem p_cell0 : mCell0 i g ρ = if isL ρ i = true then cellB ρ i fun c => match g c with
  | some (c', r) => .ok (.d r) (putCell ρ i c')
  | none => .stuck
  else .stuck := rfl
@[simp] theorem p_while : sWhile fu t b ρ = whileGo t b (fu ρ) ρ := rfl
@[simp] theorem p_iA : iA f ms ρ = (mArgs ms ρ).bind fun vs ρ1 => opt ((allD vs).bind f) ρ1 := rfl
@[simp] theorem p_frz : sFrz is a ρ = a (frz ρ is) := rfl
@[simp] theorem p_brk : sBreak ρ = .brk ρ := rfl
theorem gApp_l {xs : List D} {x : D} (h : xs.length < 16777216) : gApp (.lst xs) x = some (.lst (xs ++ [x]), .none) := if_pos h
@[simp] theorem gAnyW_tup {xs : List D} : gAnyW [.tuple xs] = (intsOf xs).map fun is => .d (.bool (is.any fun i => i != 0)) := rfl
@[simp] theorem gAnyL_lst {xs : List D} : gAnyL [.list xs] = (match boolsOf xs with
    | some bs => some (.d (.bool (bs.any id)))
    | none => (intsOf xs).map fun is => .d (.bool (is.any fun i => i != 0))) := rfl
@[simp] theorem gAnyL_tup {xs : List D} : gAnyL [.tuple xs] = gAnyW [.tuple xs] := rfl
@[simp] theorem p_idxL : mIdxL a b ρ = (a ρ).bind fun v ρ1 => toB v fun x => match x with
  | .list xs => (b ρ1).bind fun w ρ2 => viewB ρ2 w fun y => opt (idxI xs y) ρ2
  | _ => .stuck := rfl
@[simp] theorem p_dctS {k : Str} : mDctS k m ρ = (m ρ).bind fun v ρ1 => toB v fun x => .ok (.own (.dct [(.str k, x)])) ρ1 := rfl
@[simp] theorem p_dct0 : mDct0 ρ = .ok (.own (.dct [])) ρ := rfl
theorem bools_ints : ∀ {xs : List Int}, xs ≠ [] → boolsOf (xs.map PyData.int) = none
  | [], h => absurd rfl h
  | x :: xs, _ => rfl
/-- any of a list of ints -/
theorem anyL_ints (xs : List Int) : gAnyL [.list (xs.map PyData.int)] = some (.d (.bool (xs.any fun i => i != 0))) := by
  cases xs with
  | nil => rfl
  | cons x xs =>
    rw [gAnyL_lst, bools_ints (by simp)]
    have := ints_map (fun x : Int => x) (x :: xs)
    simp only [List.map_id'] at this
    show Option.map _ (intsOf ((x :: xs).map fun x => PyData.int x)) = _
    rw [this] <;> rfl
theorem Fine.repW {b d : Nat} {x : D} (h : Fine b d x) (hb : b ≤ 20000) (hd : d ≤ 50) : repOkW x = true := by
  unfold repOkW
  have h1 := PyData.shown_le_bulk 700 (by decide) x h.short
  have h2 := h.bulk
  have h3 := h.dep
  have h4 : x.shown.length ≤ line := by
    unfold line
    have : (700 + 2) * x.bulk ≤ (700 + 2) * 20000 := Nat.mul_le_mul_left _ (by omega)
    omega
  rw [h.shw, decide_eq_true h4, decide_eq_true (show x.depth ≤ 50 by omega)] <;> rfl
@[simp] theorem cNe_str {a b : Str} : cNe (.str a) (.str b) = some (.d (.bool (!PyData.eqv (.str a) (.str b)))) := by
  simp [cNe, eqOk, noItem, PyData.plain, PyData.depth]
theorem eqv_str_refl (a : Str) : PyData.eqv (.str a) (.str a) = true := by
  simp [PyData.eqv]
theorem reprW_ok {x : D} (h : repOkW x = true) : gReprW [x] = some (.d (.str x.shown)) := if_pos h
theorem Fine.raise {b d : Nat} {x : D} (b' d' : Nat) (h : Fine b d x) (hb : b ≤ b') (hd : d ≤ d') : Fine b' d' x := h.mono hb hd
theorem bRepT_ok {xs : List D} {k : Int} (h1 : 1 ≤ k) (h2 : k ≤ 1000) (h3 : xs.length ≤ 1000) (h4 : xs ≠ []) : bRepT (.tuple xs) (.int k) = some (.d (.tuple (List.replicate k.toNat xs).flatten)) := by
  refine if_pos ?_
  rw [decide_eq_true h1, decide_eq_true h2, decide_eq_true h3]
  cases xs with
  | nil => exact absurd rfl h4
  | cons x xs => rfl
theorem ints_id (xs : List Int) : intsOf (xs.map PyData.int) = some xs := by
  have := ints_map (fun x : Int => x) xs
  simpa using this
set_option autoImplicit false
/-- a loop that goes on to its end, with what holds each time -/
theorem for_inv {tg : Tg} {b : MS} {J : Nat → En → Prop} : ∀ (xs : List D) (i : Nat) (ρ : En), J i ρ →
    (∀ k x ρ, x ∈ xs → k < i + xs.length → J k ρ → ∃ ρ1 ρ2, tgSet tg x ρ = some ρ1 ∧ b ρ1 = .next ρ2 ∧ J (k + 1) ρ2) → ∃ ρ', forGo tg b xs ρ = .next ρ' ∧ J (i + xs.length) ρ'
  | [], i, ρ, hJ, _ => ⟨ρ, rfl, hJ⟩
  | x :: xs, i, ρ, hJ, h => by
    obtain ⟨ρ1, ρ2, h1, h2, h3⟩ := h i x ρ List.mem_cons_self (by rw [List.length_cons]; omega) hJ
    obtain ⟨ρ', k1, k2⟩ := for_inv xs (i + 1) ρ2 h3 fun k y ρ hy hk => h k y ρ (List.mem_cons_of_mem _ hy) (by rw [List.length_cons]; omega)
    refine ⟨ρ', ?_, ?_⟩
    · unfold forGo
      rw [h1]
      simp only [h2]
      exact k1
    · have e : i + 1 + xs.length = i + (x :: xs).length := by rw [List.length_cons]; omega
      rw [← e]
      exact k2
/-- of each part of what a comprehension makes -/
theorem each_of {P : D → Prop} {xs ys : List D} (hl : ys.length = xs.length) (h : ∀ (j : Nat) (x y : D), xs[j]? = some x → ys[j]? = some y → P y) : ∀ y ∈ ys, P y := fun y hy => by
  obtain ⟨j, hj⟩ := List.getElem?_of_mem hy
  have hlt : j < xs.length := by
    rw [← hl]
    exact (List.getElem?_eq_some_iff.mp hj).1
  exact h j _ y (List.getElem?_eq_getElem hlt) hj
theorem range1_nat {q : Nat} (h : q < 4611686018427387904) : range1 (.int q) = some (intsD 0 q) := by
  simp only [range1, small62_mk (i := (q : Int)) (by omega), if_pos, Int.toNat_natCast]
/-! slices -/
theorem slD_tup {xs : List D} {lo hi : Option Int} : slD (.tuple xs) lo hi = some (.d (.tuple (cutD xs lo hi))) := rfl
theorem cut_to {xs : List D} {i : Nat} : cutD xs none (some (i : Int)) = xs.take i := by
  unfold cutD cutLo cutHi clampI
  simp only [Option.elim_none, Option.elim_some, List.drop_zero, Nat.sub_zero, if_pos (Int.natCast_nonneg i), Int.toNat_natCast]
  by_cases h : i ≤ xs.length
  · rw [Nat.min_eq_left h]
  · rw [Nat.min_eq_right (by omega), List.take_length, List.take_of_length_le (by omega)]
theorem cut_from {xs : List D} {i : Int} (hi : 0 ≤ i) : cutD xs (some i) none = xs.drop i.toNat := by
  unfold cutD cutLo cutHi clampI
  simp only [Option.elim_none, Option.elim_some, if_pos hi]
  by_cases h : i.toNat ≤ xs.length
  · rw [Nat.min_eq_left h, List.take_of_length_le (by rw [List.length_drop]; omega)]
  · rw [Nat.min_eq_right (by omega), List.drop_length, List.drop_eq_nil_of_le (by omega)]
    simp
theorem cut_to1 {xs : List D} : cutD xs none (some (-1)) = xs.take (xs.length - 1) := by
  unfold cutD cutLo cutHi clampI
  simp only [Option.elim_none, Option.elim_some, List.drop_zero, Nat.sub_zero, if_neg (show ¬ (0 : Int) ≤ -1 by decide)]
  congr 1
  omega
theorem cut_from1 {xs : List D} : cutD xs (some (-1)) none = xs.drop (xs.length - 1) := by
  unfold cutD cutLo cutHi clampI
  simp only [Option.elim_none, Option.elim_some, if_neg (show ¬ (0 : Int) ≤ -1 by decide)]
  rw [show (-1 + (xs.length : Int)).toNat = xs.length - 1 by omega, List.take_of_length_le (by rw [List.length_drop]; omega)]
theorem mem_ints {lo : Int} {n : Nat} {x : D} (h : x ∈ intsD lo n) : ∃ k : Nat, k < n ∧ x = .int (lo + k) := by
  unfold intsD at h
  obtain ⟨k, hk, e⟩ := List.mem_map.mp h
  exact ⟨k, List.mem_range.mp hk, e.symm⟩
end MP
namespace MP
open PySem
/-- the same with what stands at each place -/
theorem for_at {tg : Tg} {b : MS} {J : Nat → En → Prop} : ∀ (xs : List D) (i : Nat) (ρ : En), J i ρ →
    (∀ k x ρ, xs[k]? = some x → J (i + k) ρ → ∃ ρ1 ρ2, tgSet tg x ρ = some ρ1 ∧ b ρ1 = .next ρ2 ∧ J (i + k + 1) ρ2) → ∃ ρ', forGo tg b xs ρ = .next ρ' ∧ J (i + xs.length) ρ'
  | [], i, ρ, hJ, _ => ⟨ρ, rfl, hJ⟩
  | x :: xs, i, ρ, hJ, h => by
    obtain ⟨ρ1, ρ2, h1, h2, h3⟩ := h 0 x ρ rfl hJ
    obtain ⟨ρ', k1, k2⟩ := for_at (J := J) xs (i + 1) ρ2 h3 fun k y ρ hy hJ => by
      have e : i + 1 + k = i + (k + 1) := by omega
      rw [e] at hJ ⊢
      exact h (k + 1) y ρ (by simpa using hy) hJ
    refine ⟨ρ', ?_, ?_⟩
    · unfold forGo
      rw [h1]
      simp only [h2]
      exact k1
    · have e : i + 1 + xs.length = i + (x :: xs).length := by rw [List.length_cons]; omega
      rw [← e]
      exact k2
theorem ints_ex {Q : Int → Prop} : ∀ {ys : List D}, (∀ y ∈ ys, ∃ z : Int, y = .int z ∧ Q z) → ∃ zs : List Int, ys = zs.map PyData.int ∧ ∀ z ∈ zs, Q z
  | [], _ => ⟨[], rfl, fun _ h => nomatch h⟩
  | y :: ys, h => by
    obtain ⟨z, rfl, hz⟩ := h y List.mem_cons_self
    obtain ⟨zs, rfl, hs⟩ := ints_ex fun w hw => h w (List.mem_cons_of_mem _ hw)
    exact ⟨z :: zs, rfl, fun w hw => by
      rcases List.mem_cons.mp hw with rfl | hw
      · exact hz
      · exact hs w hw⟩
theorem ix_nat {n k : Nat} (h : k < n) : ix n (k : Int) = some k := by
  unfold ix
  rw [if_pos (by omega), if_pos (by omega), Int.toNat_natCast]
theorem at_ints {xs : List Int} {k : Nat} (h : k < xs.length) : atD (xs.map PyData.int) (k : Int) = some (.int xs[k]) := by
  rw [atD_nat, List.getElem?_map, List.getElem?_eq_getElem h] <;> rfl
def OptD (t : Option SV) : Prop := t = none ∨ ∃ y : D, t = some (.d y)
theorem mul_small {i j : Int} (h0 : 0 ≤ i) (h : i < 1000000) : bMulI (.int i) (.int j) = some (.d (.int (i * j))) := mul_l (by omega)
theorem at_last {xs : List Int} (h : xs ≠ []) : atD (xs.map PyData.int) (-1) = some (.int (xs.getD (xs.length - 1) 0)) := by
  have hl := List.length_pos_iff.mpr h
  unfold atD ix
  rw [if_neg (by decide), if_pos (by rw [List.length_map]; omega)]
  show (xs.map PyData.int)[((-1 : Int) + ((xs.map PyData.int).length : Int)).toNat]? = _
  rw [List.length_map, show ((-1 : Int) + (xs.length : Int)).toNat = xs.length - 1 by omega, List.getElem?_map, List.getD_eq_getElem?_getD, List.getElem?_eq_getElem (by omega)] <;> rfl
theorem comp_ints {vs : List Nat} {tg : Tg} {e : ME} {ρ : En} {f : Int → Int} {xs : List Int} (h : ∀ x ∈ xs, ∃ ρa v, tgSet tg (.int x) (wipeE ρ vs) = some ρa ∧ e ρa = .ok v ρa ∧ toD v = some (.int (f x)) ∧ back ρ ρa vs = ρ) :
    compGo vs tg mYes e (xs.map PyData.int) [] ρ = .ok (.own (.lst ((xs.map f).map PyData.int))) ρ := by
  have e0 : (xs.map f).map PyData.int = [] ++ (xs.map PyData.int).map (fun x => match x with | .int z => .int (f z) | _ => .none) := by
    rw [List.nil_append, List.map_map, List.map_map]
    rfl
  rw [e0]
  refine comp_pure fun x hx => ?_
  obtain ⟨z, hz, rfl⟩ := List.mem_map.mp hx
  exact h z hz
end MP
end

section
set_option Elab.async false
set_option linter.all false
set_option maxRecDepth 100000
set_option maxHeartbeats 4000000
set_option autoImplicit false
/-! printed by gen.py -/
namespace K29
open PySem PySem.Spec L2 MP
abbrev prog : Program := PySem.Challenge.pw_nearadds_k29_bars_of_round_rows_judged
/-- what the top has written that the defs ask for -/
structure Tx (K : Fg) (mg : Str → Option Value) : Prop where
  m_abs : mg "abs" = none
  m_all : mg "all" = none
  m_any : mg "any" = none
  m_bool : mg "bool" = none
  m_enumerate : mg "enumerate" = none
  m_int : mg "int" = none
  m_isinstance : mg "isinstance" = none
  m_len : mg "len" = none
  m_list : mg "list" = none
  m_max : mg "max" = none
  m_min : mg "min" = none
  m_range : mg "range" = none
  m_repr : mg "repr" = none
  m_str : mg "str" = none
  m_sum : mg "sum" = none
  m_tuple : mg "tuple" = none
  m_zip : mg "zip" = none
  e_PRIMES : ∃ ad, KTabT K ad [(2, [2]), (3, [3]), (5, [5]), (6, [2, 3]), (7, [7]), (10, [2, 5]), (11, [11]), (13, [13]), (14, [2, 7]), (15, [3, 5])] ∧ mg "PRIMES" = some (.ref ad)
/-! is_integer -/
def st_is_integer : Stmt := prog.main.body.getD 7 (.Pass ⟨0, 0, 0, 0⟩)
def N_is_integer : List Str := ["value"]
def b_is_integer : MS := (sRet (mAnd (m1 (isinst "int") (mV 0)) (mNot (m1 (isinst "bool") (mV 0)))))
def f_is_integer : F := semDef 1 b_is_integer
/-! is_modulus -/
def st_is_modulus : Stmt := prog.main.body.getD 9 (.Pass ⟨0, 0, 0, 0⟩)
def N_is_modulus : List Str := ["value"]
def b_is_modulus : MS := (sRet (mAnd (mCall f_is_integer [(mV 0)]) (m1 (cInT [2, 3, 5, 6, 7, 10, 11, 13, 14, 15]) (mV 0))))
def f_is_modulus : F := semDef 1 b_is_modulus
/-! primes_in -/
def st_primes_in : Stmt := prog.main.body.getD 10 (.Pass ⟨0, 0, 0, 0⟩)
def N_primes_in : List Str := ["modulus"]
def b_primes_in : MS := (sRet (m1 (gTab [(2, [2]), (3, [3]), (5, [5]), (6, [2, 3]), (7, [7]), (10, [2, 5]), (11, [11]), (13, [13]), (14, [2, 7]), (15, [3, 5])]) (mV 0)))
def f_primes_in : F := semDef 1 b_primes_in
/-! are_pairs -/
def st_are_pairs : Stmt := prog.main.body.getD 11 (.Pass ⟨0, 0, 0, 0⟩)
def N_are_pairs : List Str := ["value", "modulus", "pair", "part", "at"]
def lb_are_pairs_0 : MS := (sSeq (sIf (kOr (kNot (mTr (m1 (isinst "tuple") (mV 2)))) (kOr (mTr (m2 cNe (mB lenD [(mV 2)]) (mC (.int 2)))) (kNot (mTr (mB gAll [(mComp [3] (.n 3) (i1 seqD (mV 2)) mYes (mCall f_is_integer [(mV 3)]))]))))) (sRet (mC (.bool false))) sNext)
    (sIf (kNot (mTr (mCh cLe cLt (mC (.int 1)) (m2 bIdx (mV 2) (mC (.int 1))) (mV 1)))) (sRet (mC (.bool false))) sNext))
def b_are_pairs : MS := (sSeq (sIf (kNot (mTr (m1 (isinst "tuple") (mV 0)))) (sRet (mC (.bool false))) sNext)
    (sSeq (sFor (.n 2) (i1 seqD (mV 0)) lb_are_pairs_0)
    (sRet (mB gAll [(mComp [4] (.n 4) (i1 range1 (m2 bSub (mB lenD [(mV 0)]) (mC (.int 1)))) mYes (m2 cLt (m2 bIdx (m2 bIdx (mV 0) (mV 4)) (mC (.int 0))) (m2 bIdx (m2 bIdx (mV 0) (m2 bAdd (mV 4) (mC (.int 1)))) (mC (.int 0)))))]))))
def f_are_pairs : F := semDef 5 b_are_pairs
/-! is_of_modulus -/
def st_is_of_modulus : Stmt := prog.main.body.getD 12 (.Pass ⟨0, 0, 0, 0⟩)
def N_is_of_modulus : List Str := ["value"]
def b_is_of_modulus : MS := (sRet (mAnd (m1 (isinst "tuple") (mV 0)) (mAnd (m2 cEq (mB lenD [(mV 0)]) (mC (.int 2))) (mAnd (mCall f_is_modulus [(m2 bIdx (mV 0) (mC (.int 0)))]) (m1 (isinst "tuple") (m2 bIdx (mV 0) (mC (.int 1))))))))
def f_is_of_modulus : F := semDef 1 b_is_of_modulus
/-! is_a_rule -/
def st_is_a_rule : Stmt := prog.main.body.getD 13 (.Pass ⟨0, 0, 0, 0⟩)
def N_is_a_rule : List Str := ["value"]
def b_is_a_rule : MS := (sRet (mAnd (mCall f_is_of_modulus [(mV 0)]) (mCall f_are_pairs [(m2 bIdx (mV 0) (mC (.int 1))), (m2 bIdx (mV 0) (mC (.int 0)))])))
def f_is_a_rule : F := semDef 1 b_is_a_rule
/-! is_a_round -/
def st_is_a_round : Stmt := prog.main.body.getD 14 (.Pass ⟨0, 0, 0, 0⟩)
def N_is_a_round : List Str := ["value", "part"]
def b_is_a_round : MS := (sSeq (sIf (kOr (kNot (mTr (mCall f_is_of_modulus [(mV 0)]))) (mTr (m2 cEq (mB lenD [(m2 bIdx (mV 0) (mC (.int 1)))]) (mC (.int 0))))) (sRet (mC (.bool false))) sNext)
    (sRet (mB gAll [(mComp [1] (.n 1) (i1 seqD (m2 bIdx (mV 0) (mC (.int 1)))) mYes (mAnd (mCall f_is_integer [(mV 1)]) (mCh cLe cLt (mC (.int 0)) (mV 1) (m2 bIdx (mV 0) (mC (.int 0))))))])))
def f_is_a_round : F := semDef 2 b_is_a_round
/-! need_rule -/
def st_need_rule : Stmt := prog.main.body.getD 15 (.Pass ⟨0, 0, 0, 0⟩)
def N_need_rule : List Str := ["rule"]
def b_need_rule : MS := (sIf (kNot (mTr (mCall f_is_a_rule [(mV 0)]))) sNever sNext)
def f_need_rule : F := semDef 1 b_need_rule
/-! need_round -/
def st_need_round : Stmt := prog.main.body.getD 16 (.Pass ⟨0, 0, 0, 0⟩)
def N_need_round : List Str := ["row"]
def b_need_round : MS := (sIf (kNot (mTr (mCall f_is_a_round [(mV 0)]))) sNever sNext)
def f_need_round : F := semDef 1 b_need_round
/-! need_same -/
def st_need_same : Stmt := prog.main.body.getD 17 (.Pass ⟨0, 0, 0, 0⟩)
def N_need_same : List Str := ["one", "other"]
def b_need_same : MS := (sIf (mTr (m2 cNe (m2 bIdx (mV 0) (mC (.int 0))) (m2 bIdx (mV 1) (mC (.int 0))))) sNever sNext)
def f_need_same : F := semDef 2 b_need_same
/-! stepped -/
def st_stepped : Stmt := prog.main.body.getD 19 (.Pass ⟨0, 0, 0, 0⟩)
def N_stepped : List Str := ["values", "terms", "prime", "n", "found", "at", "offset", "factor"]
def lb_stepped_0 : MS := (sExpr (mCell1 4 gApp (m2 bMod (mB gSum [(mComp [6, 7] (.t [(.n 6), (.n 7)]) (i1 seqD (mV 1)) mYes (m2 bMulI (mV 7) (m2 bIdx (mV 0) (m2 bMod (m2 bAdd (mV 5) (mV 6)) (mV 3)))))]) (mV 2))))
def b_stepped : MS := (sSeq (sPar2 0 3 1 4 (mB lenD [(mV 0)]) (mLst []))
    (sSeq (sFor (.n 5) (i1 range1 (mV 3)) lb_stepped_0)
    (sRet (mV 4))))
def f_stepped : F := semDef 8 b_stepped
/-! need_both -/
def st_need_both : Stmt := prog.main.body.getD 21 (.Pass ⟨0, 0, 0, 0⟩)
def N_need_both : List Str := ["rule", "row"]
def b_need_both : MS := (sSeq (sExpr (mCall f_need_rule [(mV 0)]))
    (sSeq (sExpr (mCall f_need_round [(mV 1)]))
    (sExpr (mCall f_need_same [(mV 0), (mV 1)]))))
def f_need_both : F := semDef 2 b_need_both
/-! round_bars -/
def st_round_bars : Stmt := prog.main.body.getD 22 (.Pass ⟨0, 0, 0, 0⟩)
def N_round_bars : List Str := ["rule", "row", "value", "prime", "weights", "weight", "offset", "factor", "own"]
def b_round_bars : MS := (sSeq (sExpr (mCall f_need_both [(mV 0), (mV 1)]))
    (sSeq (sIf (kOr (kNot (mTr (m1 (isinst "tuple") (mV 2)))) (kOr (mTr (m2 cNe (mB lenD [(mV 2)]) (mC (.int 2)))) (kNot (mTr (mCall f_is_integer [(m2 bIdx (mV 2) (mC (.int 0)))]))))) (sRet (mC (.bool false))) sNext)
    (sSeq (sUnp (.t [(.n 3), (.n 4)]) (mV 2))
    (sSeq (sIf (kOr (mTr (m2 cNotIn (mV 3) (mCall f_primes_in [(m2 bIdx (mV 1) (mC (.int 0)))]))) (kOr (kNot (mTr (m1 (isinst "tuple") (mV 4)))) (mTr (m2 cNe (mB lenD [(mV 4)]) (mB lenD [(m2 bIdx (mV 1) (mC (.int 1)))]))))) (sRet (mC (.bool false))) sNext)
    (sSeq (sIf (kNot (mTr (mB gAll [(mComp [5] (.n 5) (i1 seqD (mV 4)) mYes (mAnd (mCall f_is_integer [(mV 5)]) (mCh cLe cLt (mC (.int 0)) (mV 5) (mV 3))))]))) (sRet (mC (.bool false))) sNext)
    (sSeq (sIf (mTr (mB gAnyL [(mCall f_stepped [(mV 4), (mComp [6, 7] (.t [(.n 6), (.n 7)]) (i1 seqD (m2 bIdx (mV 0) (mC (.int 1)))) mYes (mTup [(m1 uNeg (mV 6)), (mV 7)])), (mV 3)])])) (sRet (mC (.bool false))) sNext)
    (sRet (m2 cNe (m2 bMod (mB gSum [(mComp [5, 8] (.t [(.n 5), (.n 8)]) (iA zipA [(mV 4), (m2 bIdx (mV 1) (mC (.int 1)))]) mYes (m2 bMulI (mV 5) (mV 8)))]) (mV 3)) (mC (.int 0))))))))))
def f_round_bars : F := semDef 9 b_round_bars
/-! _law_jar -/
def st__law_jar : Stmt := prog.main.body.getD 24 (.Pass ⟨0, 0, 0, 0⟩)
def N__law_jar : List Str := ["_law_script", "_law_k", "_law_cell", "_law_crowd", "_law_mixed", "_law_other"]
def b__law_jar : MS := (sSeq (sSet false 2 (m2 bAdd (m2 bMulI (mC (.int 31)) (mV 1)) (mC (.int 19))))
    (sSeq (sIf (mTr (m2 cLt (mV 1) (mB lenD [(mV 0)]))) (sSet false 2 (m2 bIdx (mV 0) (mV 1))) sNext)
    (sSeq (sSet false 3 (m2 bAdd (mB gSum [(mComp [5] (.n 5) (i1 seqD (mV 0)) mYes (m2 bMod (mB gInt [(mV 5)]) (m2 bAdd (m2 bPow (mC (.int 10)) (mC (.int 22))) (mC (.int 9)))))]) (m2 bMulI (mC (.int 83)) (mB lenD [(mV 0)]))))
    (sSeq (sSet false 4 (m2 bMod (mB gInt [(m2 bAdd (m2 bAdd (m2 bAdd (m2 bMulI (mB gAbs [(mV 2)]) (mC (.int 40503))) (m2 bMulI (mC (.int 5)) (mB gInt [(m2 cLt (mV 2) (mC (.int 0)))]))) (m2 bMulI (mV 3) (mC (.int 2654435)))) (mV 1))]) (m2 bAdd (m2 bPow (mC (.int 10)) (mC (.int 30))) (mC (.int 57)))))
    (sRet (mLst [(mB gMax [(mC (.int 0)), (m2 bSub (mV 2) (m2 bPow (mC (.int 10)) (mC (.int 18))))]), (mV 4), (mC (.int 0))]))))))
def f__law_jar : F := semDef 6 b__law_jar
/-! _law_take -/
def st__law_take : Stmt := prog.main.body.getD 25 (.Pass ⟨0, 0, 0, 0⟩)
def N__law_take : List Str := ["_law_jar_here", "_law_many", "_law_found", "_law_stir"]
def b__law_take : MS := (sSeq (sIf (mTr (m2 cGt (m2 bIdx (mV 0) (mC (.int 0))) (mC (.int 0)))) (sSeq (sSet false 2 (m2 bMod (mB gInt [(m2 bIdx (mV 0) (mC (.int 0)))]) (mV 1)))
    (sSeq (sItem 0 (mC (.int 0)) (m2 bDiv (m2 bIdx (mV 0) (mC (.int 0))) (mV 1)))
    (sRet (mV 2)))) sNext)
    (sSeq (sItem 0 (mC (.int 2)) (m2 bAdd (m2 bIdx (mV 0) (mC (.int 2))) (mC (.int 1))))
    (sSeq (sSet false 3 (m2 bMod (mB gInt [(m2 bAdd (m2 bPow (m2 bAdd (m2 bIdx (mV 0) (mC (.int 1))) (m2 bMulI (mC (.int 314159265)) (m2 bIdx (mV 0) (mC (.int 2))))) (mC (.int 3))) (m2 bMulI (mC (.int 17)) (m2 bIdx (mV 0) (mC (.int 2)))))]) (m2 bAdd (m2 bPow (mC (.int 10)) (mC (.int 31))) (mC (.int 33)))))
    (sSeq (sSet false 3 (m2 bMod (mB gInt [(m2 bMulI (mV 3) (m2 bAdd (mV 3) (m2 bMulI (mC (.int 6421)) (m2 bIdx (mV 0) (mC (.int 2))))))]) (m2 bAdd (m2 bPow (mC (.int 10)) (mC (.int 29))) (mC (.int 319)))))
    (sRet (m2 bMod (mB gInt [(m2 bDiv (mV 3) (mC (.int 16381)))]) (mV 1)))))))
def f__law_take : F := semDef 4 b__law_take
/-! _law_modulus -/
def st__law_modulus : Stmt := prog.main.body.getD 26 (.Pass ⟨0, 0, 0, 0⟩)
def N__law_modulus : List Str := ["_law_jar_here"]
def b__law_modulus : MS := (sRet (m2 bIdx (mLst [(mC (.int 2)), (mC (.int 3)), (mC (.int 5)), (mC (.int 6)), (mC (.int 7)), (mC (.int 10)), (mC (.int 11)), (mC (.int 13)), (mC (.int 14)), (mC (.int 15))]) (mCall f__law_take [(mV 0), (mC (.int 10))])))
def f__law_modulus : F := semDef 1 b__law_modulus
/-! _law_primes -/
def st__law_primes : Stmt := prog.main.body.getD 27 (.Pass ⟨0, 0, 0, 0⟩)
def N__law_primes : List Str := ["_law_modulus_here", "_law_prime"]
def b__law_primes : MS := (sRet (mComp [1] (.n 1) (i1 seqD (mTup [(mC (.int 2)), (mC (.int 3)), (mC (.int 5)), (mC (.int 7)), (mC (.int 11)), (mC (.int 13))])) (mTr (m2 cEq (m2 bMod (mB gInt [(mV 0)]) (mV 1)) (mC (.int 0)))) (mV 1)))
def f__law_primes : F := semDef 2 b__law_primes
/-! _law_product -/
def st__law_product : Stmt := prog.main.body.getD 28 (.Pass ⟨0, 0, 0, 0⟩)
def N__law_product : List Str := ["_law_jar_here", "_law_modulus_here", "_law_most", "_law_usual", "_law_found", "_law_turn", "_law_root", "_law_ahead", "_law_own"]
def lb__law_product_0 : MS := (sSeq (sSet false 6 (m2 bIdx (mLst [(mV 3), (mV 3), (mV 3), (mCall f__law_take [(mV 0), (mV 1)])]) (mCall f__law_take [(mV 0), (mC (.int 4))])))
    (sSet false 4 (mComp [7, 8] (.t [(.n 7), (.n 8)]) (iA zipA [(m2 bAdd (mLst [(mC (.int 0))]) (mV 4)), (m2 bAdd (mV 4) (mLst [(mC (.int 0))]))]) mYes (m2 bMod (mB gInt [(m2 bSub (mV 7) (m2 bMulI (mV 6) (mV 8)))]) (mV 1)))))
def b__law_product : MS := (sSeq (sPar2 0 3 0 4 (m2 bIdx (mLst [(mC (.int 1)), (m2 bSub (mV 1) (mC (.int 1))), (m2 bAdd (mC (.int 1)) (mCall f__law_take [(mV 0), (m2 bSub (mV 1) (mC (.int 1)))]))]) (mCall f__law_take [(mV 0), (mC (.int 3))])) (mLst [(mC (.int 1))]))
    (sSeq (sFor (.n 5) (i1 range1 (mCall f__law_take [(mV 0), (m2 bAdd (mV 2) (mC (.int 1)))])) lb__law_product_0)
    (sRet (mV 4))))
def f__law_product : F := semDef 9 b__law_product
/-! _law_rule -/
def st__law_rule : Stmt := prog.main.body.getD 29 (.Pass ⟨0, 0, 0, 0⟩)
def N__law_rule : List Str := ["_law_jar_here", "_law_modulus_here", "_law_way", "_law_parts", "_law_low", "_law_share", "_law_terms", "_law_turn", "_law_own", "_law_at", "_law_term"]
def b__law_rule : MS := (sSeq (sSet false 2 (mCall f__law_take [(mV 0), (mC (.int 5))]))
    (sSeq (sIf (mTr (m2 cLt (mV 2) (mC (.int 2)))) (sSet false 3 (mCall f__law_product [(mV 0), (mV 1), (mC (.int 8))])) (sSeq (sSet false 3 (mComp [7] (.n 7) (i1 range1 (m2 bAdd (mC (.int 1)) (mCall f__law_take [(mV 0), (mC (.int 9))]))) mYes (mCall f__law_take [(mV 0), (mV 1)])))
    (sIf (mTr (m2 cEq (mV 2) (mC (.int 2)))) (sSet false 3 (mComp [8] (.n 8) (i1 seqD (mV 3)) mYes (m2 bMulI (mV 8) (mB gInt [(m2 cEq (mCall f__law_take [(mV 0), (mC (.int 3))]) (mC (.int 0)))])))) sNext)))
    (sSeq (sSet false 4 (m2 bSub (mCall f__law_take [(mV 0), (m2 bSub (mC (.int 10)) (mB lenD [(mV 3)]))]) (mC (.int 4))))
    (sSeq (sSet false 5 (m2 bIdx (mLst [(mC (.int 1)), (mC (.int 1)), (mC (.int 1)), (mC (.int 1)), (mCall f__law_take [(mV 0), (mV 1)])]) (mCall f__law_take [(mV 0), (mC (.int 5))])))
    (sSeq (sSet false 6 (mComp [9, 8] (.t [(.n 9), (.n 8)]) (i1 enumD (mV 3)) mYes (mTup [(m2 bAdd (mV 4) (mV 9)), (m2 bMod (mB gInt [(m2 bMulI (mV 8) (mV 5))]) (mV 1))])))
    (sRet (mTup [(mV 1), (mB gTup [(mComp [10] (.n 10) (i1 seqD (mV 6)) (mTr (m2 cGt (m2 bIdx (mV 10) (mC (.int 1))) (mC (.int 0)))) (mV 10))])])))))))
def f__law_rule : F := semDef 11 b__law_rule
/-! _law_values -/
def st__law_values : Stmt := prog.main.body.getD 30 (.Pass ⟨0, 0, 0, 0⟩)
def N__law_values : List Str := ["_law_jar_here", "_law_modulus_here", "_law_n", "_law_way", "_law_own", "_law_turn", "_law_at"]
def b__law_values : MS := (sSeq (sSet false 3 (mCall f__law_take [(mV 0), (mC (.int 4))]))
    (sSeq (sIf (mTr (m2 cEq (mV 3) (mC (.int 0)))) (sSeq (sSet false 4 (mComp [5] (.n 5) (i1 range1 (m2 bAdd (mC (.int 1)) (mCall f__law_take [(mV 0), (mV 2)]))) mYes (mCall f__law_take [(mV 0), (mV 1)])))
    (sRet (mB gTup [(mComp [6] (.n 6) (i1 range1 (mV 2)) mYes (m2 bIdx (mV 4) (m2 bMod (mB gInt [(mV 6)]) (mB lenD [(mV 4)]))))]))) sNext)
    (sSeq (sIf (mTr (m2 cEq (mV 3) (mC (.int 1)))) (sRet (mB gTup [(mComp [6] (.n 6) (i1 range1 (mV 2)) mYes (m2 bMulI (mCall f__law_take [(mV 0), (mV 1)]) (mB gInt [(m2 cEq (mCall f__law_take [(mV 0), (mC (.int 4))]) (mC (.int 0)))])))])) sNext)
    (sRet (mB gTup [(mComp [6] (.n 6) (i1 range1 (mV 2)) mYes (mCall f__law_take [(mV 0), (mV 1)]))])))))
def f__law_values : F := semDef 7 b__law_values
/-! _law_step -/
def st__law_step : Stmt := prog.main.body.getD 31 (.Pass ⟨0, 0, 0, 0⟩)
def N__law_step : List Str := ["_law_rule_here", "_law_values_here", "_law_many", "_law_found", "_law_place", "_law_offset", "_law_factor"]
def lb__law_step_0 : MS := (sExpr (mCell1 3 gApp (m2 bMod (mB gInt [(mB gSum [(mComp [5, 6] (.t [(.n 5), (.n 6)]) (i1 seqD (m2 bIdx (mV 0) (mC (.int 1)))) mYes (m2 bMulI (mV 6) (m2 bIdx (mV 1) (m2 bMod (mB gInt [(m2 bAdd (mV 4) (mV 5))]) (mV 2)))))])]) (m2 bIdx (mV 0) (mC (.int 0))))))
def b__law_step : MS := (sSeq (sPar2 0 2 1 3 (mB lenD [(mV 1)]) (mLst []))
    (sSeq (sFor (.n 4) (i1 range1 (mV 2)) lb__law_step_0)
    (sRet (mB gTup [(mV 3)]))))
def f__law_step : F := semDef 7 b__law_step
/-! _law_all -/
def st__law_all : Stmt := prog.main.body.getD 32 (.Pass ⟨0, 0, 0, 0⟩)
def N__law_all : List Str := ["_law_modulus_here", "_law_n", "_law_found", "_law_at", "_law_made", "_law_values_here", "_law_own"]
def lb__law_all_0 : MS := (sExpr (mCell1 4 gApp (m2 bAdd (mV 5) (mTup [(mV 6)]))))
def lb__law_all_1 : MS := (sFor (.n 6) (i1 range1 (mV 0)) lb__law_all_0)
def lb__law_all_2 : MS := (sSeq (sSet true 4 (mLst []))
    (sSeq (sFor (.n 5) (i1 seqD (mV 2)) lb__law_all_1)
    (sFrz [4] (sSet false 2 (mV 4)))))
def b__law_all : MS := (sSeq (sSet false 2 (mLst [(mTup [])]))
    (sSeq (sFor (.n 3) (i1 range1 (mV 1)) lb__law_all_2)
    (sRet (mV 2))))
def f__law_all : F := semDef 7 b__law_all
/-! _law_is_whole -/
def st__law_is_whole : Stmt := prog.main.body.getD 33 (.Pass ⟨0, 0, 0, 0⟩)
def N__law_is_whole : List Str := ["_law_value"]
def b__law_is_whole : MS := (sRet (mAnd (m1 (isinst "int") (mV 0)) (mNot (m1 (isinst "bool") (mV 0)))))
def f__law_is_whole : F := semDef 1 b__law_is_whole
/-! _law_table -/
def st__law_table : Stmt := prog.main.body.getD 34 (.Pass ⟨0, 0, 0, 0⟩)
def N__law_table : List Str := ["_law_rule_here", "_law_n", "_law_at", "_law_place"]
def b__law_table : MS := (sRet (mComp [2] (.n 2) (i1 range1 (mV 1)) mYes (mCall f__law_step [(mV 0), (mB gTup [(mComp [3] (.n 3) (i1 range1 (mV 1)) mYes (mB gInt [(m2 cEq (mV 3) (mV 2))]))])])))
def f__law_table : F := semDef 4 b__law_table
/-! _law_is_bar -/
def st__law_is_bar : Stmt := prog.main.body.getD 35 (.Pass ⟨0, 0, 0, 0⟩)
def N__law_is_bar : List Str := ["_law_table_here", "_law_modulus_here", "_law_values_here", "_law_value", "_law_prime", "_law_weights", "_law_made", "_law_own", "_law_other"]
def lb__law_is_bar_0 : MS := (sIf (mTr (m2 cNe (m2 bMod (mB gInt [(mB gSum [(mComp [7, 8] (.t [(.n 7), (.n 8)]) (iA zipA [(mV 5), (mV 6)]) mYes (m2 bMulI (mV 7) (mV 8)))])]) (mV 4)) (mC (.int 0)))) (sRet (mC (.bool false))) sNext)
def b__law_is_bar : MS := (sSeq (sIf (kOr (kNot (mTr (m1 (isinst "tuple") (mV 3)))) (kOr (mTr (m2 cNe (mB lenD [(mV 3)]) (mC (.int 2)))) (kNot (mTr (mCall f__law_is_whole [(m2 bIdx (mV 3) (mC (.int 0)))]))))) (sRet (mC (.bool false))) sNext)
    (sSeq (sUnp (.t [(.n 4), (.n 5)]) (mV 3))
    (sSeq (sIf (kOr (mTr (m2 cNotIn (mV 4) (mCall f__law_primes [(mV 1)]))) (kOr (kNot (mTr (m1 (isinst "tuple") (mV 5)))) (mTr (m2 cNe (mB lenD [(mV 5)]) (mB lenD [(mV 2)]))))) (sRet (mC (.bool false))) sNext)
    (sSeq (sIf (kNot (mTr (mB gAll [(mComp [7] (.n 7) (i1 seqD (mV 5)) mYes (mAnd (mCall f__law_is_whole [(mV 7)]) (mCh cLe cLt (mC (.int 0)) (mV 7) (mV 4))))]))) (sRet (mC (.bool false))) sNext)
    (sSeq (sFor (.n 6) (i1 seqD (mV 0)) lb__law_is_bar_0)
    (sRet (m2 cNe (m2 bMod (mB gInt [(mB gSum [(mComp [7, 8] (.t [(.n 7), (.n 8)]) (iA zipA [(mV 5), (mV 2)]) mYes (m2 bMulI (mV 7) (mV 8)))])]) (mV 4)) (mC (.int 0)))))))))
def f__law_is_bar : F := semDef 9 b__law_is_bar
/-! _law_killed -/
def st__law_killed : Stmt := prog.main.body.getD 36 (.Pass ⟨0, 0, 0, 0⟩)
def N__law_killed : List Str := ["_law_rule_here", "_law_prime", "_law_n", "_law_table_here", "_law_found", "_law_weights", "_law_sums", "_law_made", "_law_own", "_law_other"]
def lb__law_killed_0 : MS := (sSeq (sSet false 6 (mComp [7] (.n 7) (i1 seqD (mV 3)) mYes (m2 bMod (mB gInt [(mB gSum [(mComp [8, 9] (.t [(.n 8), (.n 9)]) (iA zipA [(mV 5), (mV 7)]) mYes (m2 bMulI (mV 8) (mV 9)))])]) (mV 1))))
    (sIf (kNot (mTr (mB gAnyL [(mV 6)]))) (sExpr (mCell1 4 gApp (mV 5))) sNext))
def b__law_killed : MS := (sSeq (sPar2 0 3 1 4 (mCall f__law_table [(mV 0), (mV 2)]) (mLst []))
    (sSeq (sFor (.n 5) (i1 seqD (mCall f__law_all [(mV 1), (mV 2)])) lb__law_killed_0)
    (sRet (mV 4))))
def f__law_killed : F := semDef 10 b__law_killed
/-! _law_odd_weights -/
def st__law_odd_weights : Stmt := prog.main.body.getD 37 (.Pass ⟨0, 0, 0, 0⟩)
def N__law_odd_weights : List Str := ["_law_jar_here", "_law_weights", "_law_prime", "_law_at", "_law_own", "_law_found", "_law_others", "_law_other"]
def lb__law_odd_weights_0 : MS := (sExpr (mCell1 5 gApp (m2 bAdd (m2 bAdd (mSl (mV 1) none (some (mV 3))) (mTup [(mV 7)])) (mSl (mV 1) (some (m2 bAdd (mV 3) (mC (.int 1)))) none))))
def b__law_odd_weights : MS := (sSeq (sSet false 3 (mCall f__law_take [(mV 0), (mB lenD [(mV 1)])]))
    (sSeq (sPar2 0 4 1 5 (m2 bIdx (mV 1) (mV 3)) (mLst []))
    (sSeq (sSet false 6 (mLst [(m2 bAdd (mV 4) (mV 2)), (m2 bSub (mV 4) (mV 2)), (m1 uNeg (mC (.int 1))), (mV 2), (mC (.bool true)), (mC (.bool false)), (mC .none), (mB gStr [(mV 4)]), (mLst [(mV 4)]), (mTup [(mV 4)]), (m2 bMod (mB gInt [(m2 bAdd (mV 4) (mC (.int 1)))]) (mV 2))]))
    (sSeq (sFor (.n 7) (i1 seqD (mV 6)) lb__law_odd_weights_0)
    (sRet (m2 bAdd (mV 5) (mLst [(mSl (mV 1) none (some (m1 uNeg (mC (.int 1))))), (m2 bAdd (mV 1) (mTup [(mC (.int 0))])), (m2 bAdd (mV 1) (mV 1)), (mB gLst [(mV 1)]), (mTup []), (mC .none), (mC (.int 0)), (mC (.str "1"))])))))))
def f__law_odd_weights : F := semDef 8 b__law_odd_weights
/-! _law_objects -/
def st__law_objects : Stmt := prog.main.body.getD 38 (.Pass ⟨0, 0, 0, 0⟩)
def N__law_objects : List Str := ["_law_jar_here", "_law_modulus_here", "_law_prime", "_law_weights", "_law_found", "_law_other", "_law_odd"]
def lb__law_objects_0 : MS := (sExpr (mCell1 4 gApp (mTup [(mV 5), (mV 3)])))
def b__law_objects : MS := (sSeq (sSet true 4 (m2 bAdd (mLst [(mTup [(mV 2), (mV 3)])]) (mComp [6] (.n 6) (i1 seqD (mCall f__law_odd_weights [(mV 0), (mV 3), (mV 2)])) mYes (mTup [(mV 2), (mV 6)]))))
    (sSeq (sFor (.n 5) (i1 seqD (mLst [(mC (.int 2)), (mC (.int 3)), (mC (.int 5)), (mC (.int 7)), (mC (.int 11)), (mC (.int 13)), (mV 1), (mC (.int 0)), (mC (.int 1)), (m1 uNeg (mV 2)), (mC (.bool true)), (mC .none), (mB gStr [(mV 2)]), (mLst [(mV 2)]), (m2 bPow (mC (.int 10)) (mC (.int 30)))])) lb__law_objects_0)
    (sSeq (sSet true 4 (m2 bAdd (mV 4) (mLst [(mLst [(mV 2), (mV 3)]), (mTup [(mV 2), (mV 3), (mC (.int 0))]), (mTup [(mV 2)]), (mTup [(mV 3), (mV 2)]), (mV 3), (mB gLst [(mV 3)]), (mV 2)])))
    (sRet (m2 bAdd (mV 4) (mLst [(mC .none), (mC (.bool true)), (mTup []), (mLst []), mDct0, (mC (.str "bar")), (mDctS "a" (mLst [(mV 2), (mV 3)])), (mTup [(mTup [(mV 2), (mV 3)])]), (mLst [(mTup [(mV 2), (mLst [(mC (.int 0))])])])]))))))
def f__law_objects : F := semDef 7 b__law_objects
/-! law -/
def st_law : Stmt := prog.main.body.getD 39 (.Pass ⟨0, 0, 0, 0⟩)
def N_law : List Str := ["_law_script", "_law_k", "_law_jar_here", "_law_modulus_here", "_law_primes_here", "_law_rule_here", "_law_prime", "_law_most", "_law_small", "_law_often", "_law_killed_here", "_law_table_here", "_law_turn", "_law_weights", "_law_row", "_law_value", "_law_due", "_law_held"]
def lb_law_0 : MS := (sSeq (sPar2 0 16 0 17 (mCall f__law_is_bar [(mV 11), (mV 3), (m2 bIdx (mV 14) (mC (.int 1))), (mV 15)]) (mB gReprW [(mV 15)]))
    (sSeq (sIf (kOr (mTr (m2 cNe (mB gReprW [(mCall f_round_bars [(mV 5), (mV 14), (mV 15)])]) (mB gReprW [(mV 16)]))) (mTr (m2 cNe (mB gReprW [(mV 15)]) (mV 17)))) (sRet (mC (.bool false))) sNext)
    (sIf (kOr (mTr (m2 cNe (mB gReprW [(mCallK f_round_bars [2, 1, 0] [(mV 15), (mV 14), (mV 5)])]) (mB gReprW [(mV 16)]))) (mTr (m2 cNe (mB gReprW [(mV 15)]) (mV 17)))) (sRet (mC (.bool false))) sNext)))
def lb_law_1 : MS := (sSeq (sSet false 13 (m2 bMulX (m2 bIdx (mV 10) (mCall f__law_take [(mV 2), (mB lenD [(mV 10)])])) (mV 9)))
    (sSeq (sSet false 14 (mTup [(mV 3), (mCall f__law_values [(mV 2), (mV 3), (m2 bMulI (mV 8) (mV 9))])]))
    (sFor (.n 15) (i1 seqD (mCall f__law_objects [(mV 2), (mV 3), (mV 6), (mV 13)])) lb_law_0)))
def lb_law_2 : MS := (sSeq (sSet true 2 (mCall f__law_jar [(mV 0), (mV 1)]))
    (sSeq (sSet false 3 (mCall f__law_modulus [(mV 2)]))
    (sSeq (sPar2 0 4 0 5 (mCall f__law_primes [(mV 3)]) (mCall f__law_rule [(mV 2), (mV 3)]))
    (sSeq (sSet false 6 (m2 bIdx (mV 4) (mCall f__law_take [(mV 2), (mB lenD [(mV 4)])])))
    (sSeq (sSet false 7 (m2 bIdx (mLst [(mC (.int 8)), (mC (.int 5)), (mC (.int 3)), (mC (.int 3)), (mC (.int 2)), (mC (.int 2))]) (mIdxL (mLst [(mC (.int 2)), (mC (.int 3)), (mC (.int 5)), (mC (.int 7)), (mC (.int 11)), (mC (.int 13))]) (mV 6))))
    (sSeq (sSet false 8 (m2 bAdd (mC (.int 1)) (mCall f__law_take [(mV 2), (mV 7)])))
    (sSeq (sSet false 9 (m2 bIdx (mLst [(mC (.int 1)), (m2 bAdd (mC (.int 1)) (mCall f__law_take [(mV 2), (m2 bDiv (mC (.int 60)) (mV 8))])), (m2 bDiv (mC (.int 60)) (mV 8))]) (mCall f__law_take [(mV 2), (mC (.int 3))])))
    (sSeq (sSet false 10 (mCall f__law_killed [(mV 5), (mV 6), (mV 8)]))
    (sSeq (sSet false 11 (mCall f__law_table [(mV 5), (m2 bMulI (mV 8) (mV 9))]))
    (sFor (.n 12) (i1 range1 (mC (.int 2))) lb_law_1))))))))))
def b_law : MS := (sSeq (sFor (.n 1) (i1 range1 (mB gMax [(mC (.int 1)), (mB gMin [(mC (.int 3)), (mB lenD [(mV 0)])])])) lb_law_2)
    (sRet (mC (.bool true))))
def f_law : F := semDef 18 b_law
end K29
end

section
set_option autoImplicit false
set_option maxRecDepth 100000
set_option linter.all false
namespace K29
open PySem PySem.Spec L2 MP
/-! what the program tells -/
def isI : D → Bool
  | .int _ => true
  | _ => false
theorem is_integer_s (x : D) : f_is_integer [.d x] = .ok (.d (.bool (isI x))) [] := by
  cases x <;> rfl
def tens : List Int := [2, 3, 5, 6, 7, 10, 11, 13, 14, 15]
def isMod : D → Bool
  | .int i => tens.contains i
  | _ => false
theorem is_modulus_s (x : D) : f_is_modulus [.d x] = .ok (.d (.bool (isMod x))) [] := by
  simp [f_is_modulus, b_is_modulus, is_integer_s]
  cases x <;> simp [isI, isMod, cInT, opt, tens]
/-- a pair of two ints, the second from 1 to below m -/
def pairOk (m : Int) : D → Bool
  | .tuple [.int _, .int b] => decide (1 ≤ b) && decide (b < m)
  | _ => false
def fst : D → Int
  | .tuple (.int a :: _) => a
  | _ => 0
theorem isI_or (x : D) : (∃ i, x = .int i) ∨ isI x = false := by
  cases x <;> simp [isI]
theorem pairOk_no {m : Int} {a b : D} (h : isI a = false ∨ isI b = false) : pairOk m (.tuple [a, b]) = false := by
  cases a <;> first | rfl | (cases b <;> first | rfl | (rcases h with h | h <;> cases h))
theorem loop0_s (v p : D) (m : Int) : Goes (if pairOk m p = true then some () else none : Option Unit) (fun _ => lb_are_pairs_0 [some (.d v), some (.d (.int m)), some (.d p), none, none] = .next [some (.d v), some (.d (.int m)), some (.d p), none, none])
    (∃ ρ', lb_are_pairs_0 [some (.d v), some (.d (.int m)), some (.d p), none, none] = .ret (.d (.bool false)) ρ') := by
  cases p with
  | tuple xs =>
    match xs with
    | [] => simp [lb_are_pairs_0, pairOk, subTy]
    | [a] => simp [lb_are_pairs_0, pairOk, subTy]
    | a :: b :: c :: r =>
      have n3 : ¬ ((r.length : Int) + 1 + 1 + 1 = 2) := by omega
      simp [lb_are_pairs_0, pairOk, subTy, n3]
    | [a, b] =>
      have hc : compGo [3] (.n 3) mYes (mCall f_is_integer [mV 3]) [a, b] [] [some (.d v), some (.d (.int m)), some (.d (.tuple [a, b])), none, none] = .ok (.own (.lst ([] ++ [a, b].map fun x => .bool (isI x)))) [some (.d v), some (.d (.int m)), some (.d (.tuple [a, b])), none, none] :=
        comp_pure fun x _ => ⟨[some (.d v), some (.d (.int m)), some (.d (.tuple [a, b])), some (.d x), none], .d (.bool (isI x)), by simp, by simp [is_integer_s], rfl, by simp⟩
      rcases isI_or a with ⟨i, rfl⟩ | ha
      · rcases isI_or b with ⟨j, rfl⟩ | hb
        · by_cases h1 : 1 ≤ j
          · by_cases h2 : j < m
            · simp [lb_are_pairs_0, pairOk, subTy, hc, boolsOf, isI, h1, h2]
            · simp [lb_are_pairs_0, pairOk, subTy, hc, boolsOf, isI, h1, h2]
          · simp [lb_are_pairs_0, pairOk, subTy, hc, boolsOf, isI, h1]
        · simp [lb_are_pairs_0, pairOk_no (m := m) (.inr hb), subTy, hc, boolsOf, hb]
      · simp [lb_are_pairs_0, pairOk_no (m := m) (.inl ha), subTy, hc, boolsOf, ha]
  | _ => simp [lb_are_pairs_0, pairOk, subTy]
/-- the first parts grow -/
def ascR (xs : List D) : Bool := (List.range (xs.length - 1)).all fun i => decide (fst (xs.getD i .none) < fst (xs.getD (i + 1) .none))
def ascD (xs : List D) : D → D
  | .int i => .bool (decide (fst (xs.getD i.toNat .none) < fst (xs.getD (i.toNat + 1) .none)))
  | _ => .none
def arePairs (x : D) (m : Int) : Bool := match x with
  | .tuple xs => xs.all (pairOk m) && ascR xs
  | _ => false
theorem pair_shape {m : Int} {p : D} (h : pairOk m p = true) : ∃ a b, p = .tuple [.int a, .int b] := by
  unfold pairOk at h
  split at h
  · exact ⟨_, _, rfl⟩
  · cases h
theorem are_pairs_s (x : D) (m : Int) (hl : ∀ xs, x = .tuple xs → xs.length ≤ 16777216) : f_are_pairs [.d x, .d (.int m)] = .ok (.d (.bool (arePairs x m))) [] := by
  cases x with
  | tuple xs =>
    have hl := hl xs rfl
    have hs := for_scan (tg := .n 2) (b := lb_are_pairs_0) (r := .d (.bool false)) (Env := fun p (_ : Unit) => [some (.d (.tuple xs)), some (.d (.int m)), p, none, none]) (step := fun _ x => if pairOk m x = true then some () else none) xs none () (fun x _ p _ n => tg_n rfl n) (fun c z => nomatch z) (fun x _ _ => loop0_s _ _ _)
    rw [scan_unit] at hs
    by_cases ha : xs.all (pairOk m) = true
    · rw [if_pos ha] at hs
      obtain ⟨p', hs⟩ := hs
      have small : small62 ((xs.length : Int) - 1) = true := by
        exact small62_mk (by omega)
      have hn : ((xs.length : Int) - 1).toNat = xs.length - 1 := by omega
      have hc : compGo [4] (.n 4) mYes (m2 cLt (m2 bIdx (m2 bIdx (mV 0) (mV 4)) (mC (.int 0))) (m2 bIdx (m2 bIdx (mV 0) (m2 bAdd (mV 4) (mC (.int 1)))) (mC (.int 0)))) (intsD 0 (xs.length - 1)) [] [some (.d (.tuple xs)), some (.d (.int m)), p', none, none] =
          .ok (.own (.lst ([] ++ (intsD 0 (xs.length - 1)).map (ascD xs)))) [some (.d (.tuple xs)), some (.d (.int m)), p', none, none] := by
        refine comp_pure fun x hx => ?_
        obtain ⟨k, hk, rfl⟩ := mem_intsD hx
        have g0 : xs[k]? = some xs[k] := List.getElem?_eq_getElem (by omega)
        have g1 : xs[k + 1]? = some xs[k + 1] := List.getElem?_eq_getElem (by omega)
        obtain ⟨a, b, e0⟩ := pair_shape (List.all_eq_true.mp ha _ (List.mem_of_getElem? g0))
        obtain ⟨c, d, e1⟩ := pair_shape (List.all_eq_true.mp ha _ (List.mem_of_getElem? g1))
        rw [e0] at g0
        rw [e1] at g1
        have a1 : atD xs ((k : Int) + 1) = xs[k + 1]? := atD_nat (i := k + 1)
        refine ⟨[some (.d (.tuple xs)), some (.d (.int m)), p', none, some (.d (.int k))], .d (.bool (decide (a < c))), by simp, ?_, ?_, by simp⟩
        · simp [atD_nat, a1, g0, g1]
        · simp [ascD, List.getD_eq_getElem?_getD, g0, g1, fst]
      have hb : boolsOf ((intsD 0 (xs.length - 1)).map (ascD xs)) = some ((List.range (xs.length - 1)).map fun i => decide (fst (xs.getD i .none) < fst (xs.getD (i + 1) .none))) := by
        unfold intsD
        rw [List.map_map, ← bools_map]
        congr 1
        apply List.map_congr_left
        intro i _
        simp [ascD]
      have hl2 : (intsD 0 (xs.length - 1)).length ≤ 16777216 := by
        unfold intsD
        rw [List.length_map, List.length_range]
        omega
      have h1 : xs.length ≤ 16777217 := by omega
      simp [f_are_pairs, b_are_pairs, subTy, hs, arePairs, ha, range1, small, hn, hc, hb, ascR, hl2]
    · rw [if_neg ha] at hs
      obtain ⟨ρ', hs⟩ := hs
      simp [f_are_pairs, b_are_pairs, subTy, hs, arePairs, ha]
  | _ => simp [f_are_pairs, b_are_pairs, arePairs, subTy]
/-- any length of an argument's tuples that the walk asks for -/
def two (x : D) : Bool := match x with
  | .tuple [a, .tuple _] => isMod a
  | _ => false
theorem not2 {α : Type} {r : List α} : ¬ ((r.length : Int) + 1 + 1 + 1 = 2) := by omega
theorem of_modulus_s (x : D) : f_is_of_modulus [.d x] = .ok (.d (.bool (two x))) [] := by
  cases x with
  | tuple xs =>
    match xs with
    | [] => simp [f_is_of_modulus, b_is_of_modulus, subTy, two]
    | [a] => simp [f_is_of_modulus, b_is_of_modulus, subTy, two]
    | a :: b :: c :: r => simp [f_is_of_modulus, b_is_of_modulus, subTy, two, not2]
    | [a, b] =>
      cases h : isMod a <;> cases b <;> simp [f_is_of_modulus, b_is_of_modulus, subTy, two, is_modulus_s, h]
  | _ => simp [f_is_of_modulus, b_is_of_modulus, two, subTy]
theorem two_shape {x : D} (h : two x = true) : ∃ m ys, x = .tuple [.int m, .tuple ys] ∧ tens.contains m = true := by
  unfold two at h
  split at h
  · rename_i a ys
    unfold isMod at h
    split at h
    · exact ⟨_, _, rfl, h⟩
    · cases h
  · cases h
/-- how long the tuples are that are walked -/
def lenOk (x : D) : Prop := match x with
  | .tuple [_, .tuple ys] => ys.length ≤ 16777216 ∧ ∀ y ∈ ys, match y with
    | .tuple [.tuple zs, _] => zs.length ≤ 16777216
    | _ => True
  | _ => True
def ruleT (x : D) : Bool := match x with
  | .tuple [.int m, .tuple ys] => tens.contains m && arePairs (.tuple ys) m
  | _ => false
theorem no_two {x : D} (h : two x = false) : ruleT x = false := by
  unfold ruleT
  split
  · rename_i m ys
    have : tens.contains m = false := h
    rw [this] <;> rfl
  · rfl
theorem a_rule_s (x : D) (hl : lenOk x) : f_is_a_rule [.d x] = .ok (.d (.bool (ruleT x))) [] := by
  cases h : two x with
  | false => simp [f_is_a_rule, b_is_a_rule, of_modulus_s, h, no_two h]
  | true =>
    obtain ⟨m, ys, rfl, ht⟩ := two_shape h
    have hp := are_pairs_s (.tuple ys) m fun xs e => by cases e; exact hl.1
    have hm : m ∈ tens := List.contains_iff_mem.mp ht
    simp [f_is_a_rule, b_is_a_rule, of_modulus_s, h, hp, ruleT, hm]
def cellOk (m : Int) : D → Bool
  | .int i => decide (0 ≤ i) && decide (i < m)
  | _ => false
def roundT (x : D) : Bool := match x with
  | .tuple [.int m, .tuple ys] => tens.contains m && !ys.isEmpty && ys.all (cellOk m)
  | _ => false
theorem no_two_r {x : D} (h : two x = false) : roundT x = false := by
  unfold roundT
  split
  · rename_i m ys
    have : tens.contains m = false := h
    rw [this] <;> rfl
  · rfl
theorem round_comp (m : Int) (ys : List D) : compGo [1] (.n 1) mYes (mAnd (mCall f_is_integer [(mV 1)]) (mCh cLe cLt (mC (.int 0)) (mV 1) (m2 bIdx (mV 0) (mC (.int 0))))) ys [] [some (.d (.tuple [.int m, .tuple ys])), none] =
    .ok (.own (.lst ([] ++ ys.map fun y => .bool (cellOk m y)))) [some (.d (.tuple [.int m, .tuple ys])), none] := by
  refine comp_pure fun y _ => ⟨[some (.d (.tuple [.int m, .tuple ys])), some (.d y)], .d (.bool (cellOk m y)), by simp, ?_, rfl, by simp⟩
  rcases isI_or y with ⟨i, rfl⟩ | h
  · by_cases h0 : 0 ≤ i
    · simp [is_integer_s, isI, cellOk, h0]
    · simp [is_integer_s, isI, cellOk, h0]
  · have hc : cellOk m y = false := by cases y <;> first | rfl | cases h
    simp [is_integer_s, h, hc]
theorem a_round_s (x : D) (hl : lenOk x) : f_is_a_round [.d x] = .ok (.d (.bool (roundT x))) [] := by
  cases h : two x with
  | false => simp [f_is_a_round, b_is_a_round, of_modulus_s, h, no_two_r h]
  | true =>
    obtain ⟨m, ys, rfl, ht⟩ := two_shape h
    have hl : ys.length ≤ 16777216 := hl.1
    cases ys with
    | nil => simp [f_is_a_round, b_is_a_round, of_modulus_s, h, roundT, ht]
    | cons y ys =>
      have n0 : ¬ ((ys.length : Int) + 1 = 0) := by omega
      have h1 : ys.length ≤ 16777215 := by simpa using hl
      have := bools_map (cellOk m) (y :: ys)
      rw [List.map_cons, List.map_cons] at this
      have hc := round_comp m (y :: ys)
      simp at hc
      have hm : m ∈ tens := List.contains_iff_mem.mp ht
      simp [f_is_a_round, b_is_a_round, of_modulus_s, h, roundT, hm, n0, hc, h1, this]
def ascL : Option Int → List D → Bool
  | _, [] => true
  | s, x :: xs => (s.all fun l => decide (l < fst x)) && ascL (some (fst x)) xs
theorem ascR_cons (x y : D) (r : List D) : ascR (x :: y :: r) = (decide (fst x < fst y) && ascR (y :: r)) := by
  unfold ascR
  have e : (x :: y :: r).length - 1 = (y :: r).length - 1 + 1 := by simp
  rw [e, List.range_succ_eq_map, List.all_cons, List.all_map]
  rfl
theorem asc_eq : ∀ (xs : List D) (x : D), ascR (x :: xs) = ascL (some (fst x)) xs
  | [], x => rfl
  | y :: r, x => by
    rw [ascR_cons, asc_eq r y]
    rfl
theorem asc_all (xs : List D) : ascR xs = ascL none xs := by
  cases xs with
  | nil => rfl
  | cons x xs =>
    rw [asc_eq]
    show _ = (Option.all _ none && ascL (some (fst x)) xs)
    simp
end K29
end

section
set_option autoImplicit false
set_option maxRecDepth 100000
set_option linter.all false
namespace K29
open PySem PySem.Spec L2 MP
/-! the numbers that the script gives -/
def Pot (N : Nat) (l : List D) : Prop := ∃ a b c : Int, l = [.int a, .int b, .int c] ∧ 0 ≤ b ∧ b < 10 ^ 31 ∧ 0 ≤ c ∧ c ≤ N
theorem Pot.mono {N M : Nat} {l : List D} (h : Pot N l) (le : N ≤ M) : Pot M l := by
  obtain ⟨a, b, c, h1, h2, h3, h4, h5⟩ := h
  exact ⟨a, b, c, h1, h2, h3, h4, by omega⟩
theorem p22 : bPow (.int 10) (.int 22) = some (.d (.int 10000000000000000000000)) := by rfl
theorem p18 : bPow (.int 10) (.int 18) = some (.d (.int 1000000000000000000)) := by rfl
theorem p29 : bPow (.int 10) (.int 29) = some (.d (.int 100000000000000000000000000000)) := by rfl
theorem p30 : bPow (.int 10) (.int 30) = some (.d (.int 1000000000000000000000000000000)) := by rfl
theorem p31 : bPow (.int 10) (.int 31) = some (.d (.int 10000000000000000000000000000000)) := by rfl
def crowd (x : D) : Int := match x with
  | .int z => z % 10000000000000000000009
  | _ => 0
theorem crowd_comp (xs : List Int) (ρ0 ρ1 ρ2 ρ3 ρ4 : Option SV) : compGo [5] (.n 5) mYes (m2 bMod (mB gInt [(mV 5)]) (m2 bAdd (m2 bPow (mC (.int 10)) (mC (.int 22))) (mC (.int 9)))) (xs.map PyData.int) [] [ρ0, ρ1, ρ2, ρ3, ρ4, none] =
    .ok (.own (.lst ([] ++ (xs.map PyData.int).map fun x => .int (crowd x)))) [ρ0, ρ1, ρ2, ρ3, ρ4, none] := by
  refine comp_pure fun x hx => ?_
  obtain ⟨z, _, rfl⟩ := List.mem_map.mp hx
  have hd : bMod (.int z) (.int 10000000000000000000009) = some (.d (.int (z % 10000000000000000000009))) := mod_p (by decide)
  refine ⟨[ρ0, ρ1, ρ2, ρ3, ρ4, some (.d (.int z))], .d (.int (crowd (.int z))), by simp, ?_, rfl, by simp⟩
  simp [p22, hd, crowd]
theorem jar_s (xs : List Int) (k : Nat) (hl : xs.length ≤ 63) (hk : k ≤ 63) : ∃ l, f__law_jar [.d (.list (xs.map PyData.int)), .d (.int k)] = .ok (.own (.lst l)) [] ∧ Pot 0 l := by
  have hc := crowd_comp xs
  have hs := ints_map crowd (xs.map PyData.int)
  have m31 : bMulI (.int 31) (.int k) = some (.d (.int (31 * k))) := mul_l (by decide)
  have m83 : ∀ z : Int, bMulI (.int 83) (.int z) = some (.d (.int (83 * z))) := fun z => mul_l (by decide)
  have m1 : ∀ z : Int, bMulI (.int z) (.int 40503) = some (.d (.int (z * 40503))) := fun z => mul_r (by decide)
  have m2 : ∀ z : Int, bMulI (.int z) (.int 2654435) = some (.d (.int (z * 2654435))) := fun z => mul_r (by decide)
  have m3 : ∀ z : Int, bMulI (.int 5) (.int z) = some (.d (.int (5 * z))) := fun z => mul_l (by decide)
  have md : ∀ z : Int, bMod (.int z) (.int 1000000000000000000000000000057) = some (.d (.int (z % 1000000000000000000000000000057))) := fun z => mod_p (by decide)
  have fin : ∀ a z : Int, Pot 0 [.int a, .int (z % 1000000000000000000000000000057), .int 0] := fun a z => ⟨_, _, 0, rfl, by omega, by omega, by omega, by omega⟩
  have he : xs.length ≤ 16777216 := by omega
  obtain ⟨r, h0⟩ : ∃ r, r = f__law_jar [.d (.list (xs.map PyData.int)), .d (.int k)] := ⟨_, rfl⟩
  have h1 := h0
  rw [List.map_map] at hc hs
  by_cases h : k < xs.length
  · have hk2 : (k : Int) < xs.length := by omega
    have ha : atD (xs.map PyData.int) k = some (.int xs[k]) := by
      rw [atD_nat, List.getElem?_map, List.getElem?_eq_getElem h] <;> rfl
    simp [f__law_jar, b__law_jar, he, m31, m83, h, hk2, ha, hc, hs, m1, m2, m3, p30, md, p18] at h1
    exact ⟨_, h0.symm.trans h1, fin _ _⟩
  · have hk2 : ¬ (k : Int) < xs.length := by omega
    simp [f__law_jar, b__law_jar, he, m31, m83, h, hk2, hc, hs, m1, m2, m3, p30, md, p18] at h1
    exact ⟨_, h0.symm.trans h1, fin _ _⟩
theorem nat_lt_of {i : Int} {k : Nat} (h0 : 0 ≤ i) (h : i < 2 ^ k) : i.natAbs < 2 ^ k := by
  have : ((i.natAbs : Nat) : Int) = i := Int.natAbs_of_nonneg h0
  have h2 : ((i.natAbs : Nat) : Int) < ((2 ^ k : Nat) : Int) := by
    rw [this]
    simpa using h
  exact Int.ofNat_lt.mp h2
theorem take_sym (a b c m u1 u2 u3 u4 u5 u6 u7 u8 u9 : Int) (ha : ¬ 0 < a) (q1 : bMulI (.int 314159265) (.int (c + 1)) = some (.d (.int u1))) (q2 : bPow (.int (b + u1)) (.int 3) = some (.d (.int u2)))
    (q8 : bMulI (.int 17) (.int (c + 1)) = some (.d (.int u8))) (q3 : bMod (.int (u2 + u8)) (.int 10000000000000000000000000000033) = some (.d (.int u3))) (q9 : bMulI (.int 6421) (.int (c + 1)) = some (.d (.int u9)))
    (q4 : bMulI (.int u3) (.int (u3 + u9)) = some (.d (.int u4))) (q5 : bMod (.int u4) (.int 100000000000000000000000000319) = some (.d (.int u5)))
    (q6 : bDiv (.int u5) (.int 16381) = some (.d (.int u6))) (q7 : bMod (.int u6) (.int m) = some (.d (.int u7))) :
    f__law_take [.ref (.lst [.int a, .int b, .int c]), .d (.int m)] = .ok (.d (.int u7)) [.lst [.int a, .int b, .int (c + 1)]] := by
  simp [f__law_take, b__law_take, ha, q1, q2, q3, q4, q5, q6, q7, q8, q9, p29, p31]
theorem take_i {N : Nat} {l : List D} (h : Pot N l) (hN : N ≤ 1000000) (m : Int) (hm : 0 < m) (hm2 : m.natAbs.log2 < 9000) :
    ∃ p l', f__law_take [.ref (.lst l), .d (.int m)] = .ok (.d (.int p)) [.lst l'] ∧ Pot (N + 1) l' ∧ 0 ≤ p ∧ p < m := by
  obtain ⟨a, b, c, rfl, hb0, hb1, hc0, hc1⟩ := h
  have mm : ∀ z : Int, bMod (.int z) (.int m) = some (.d (.int (z % m))) := fun z => mod_p hm
  have dm : ∀ z : Int, bDiv (.int z) (.int m) = some (.d (.int (z / m))) := fun z => div_p hm hm2
  have rest : ∀ z : Int, 0 ≤ z % m ∧ z % m < m := fun z => ⟨Int.emod_nonneg _ (by omega), Int.emod_lt_of_pos _ hm⟩
  obtain ⟨r, h0⟩ : ∃ r, r = f__law_take [.ref (.lst [.int a, .int b, .int c]), .d (.int m)] := ⟨_, rfl⟩
  have h1 := h0
  by_cases ha : 0 < a
  · simp [f__law_take, b__law_take, ha, mm, dm] at h1
    exact ⟨_, _, h0.symm.trans h1, ⟨_, b, c, rfl, hb0, hb1, hc0, by omega⟩, rest _⟩
  · have e1 : bMulI (.int 314159265) (.int (c + 1)) = some (.d (.int (314159265 * (c + 1)))) := mul_l (by decide)
    have e8 : bMulI (.int 17) (.int (c + 1)) = some (.d (.int (17 * (c + 1)))) := mul_l (by decide)
    have e9 : bMulI (.int 6421) (.int (c + 1)) = some (.d (.int (6421 * (c + 1)))) := mul_l (by decide)
    have hz : (b + 314159265 * (c + 1)).natAbs.log2 < 110 := log_lt (nat_lt_of (by omega) (by omega)) (by decide)
    have e4 := pow_p (i := b + 314159265 * (c + 1)) (j := 3) (by decide) (by show _ * 3 ≤ _; omega)
    have md : ∀ z : Int, bMod (.int z) (.int 10000000000000000000000000000033) = some (.d (.int (z % 10000000000000000000000000000033))) := fun z => mod_p (by decide)
    have md2 : ∀ z : Int, bMod (.int z) (.int 100000000000000000000000000319) = some (.d (.int (z % 100000000000000000000000000319))) := fun z => mod_p (by decide)
    have dv : ∀ z : Int, bDiv (.int z) (.int 16381) = some (.d (.int (z / 16381))) := fun z => div_p (by decide) (by decide)
    have e5 : ∀ z : Int, bMulI (.int (z % 10000000000000000000000000000033)) (.int (z % 10000000000000000000000000000033 + 6421 * (c + 1))) = some (.d (.int (z % 10000000000000000000000000000033 * (z % 10000000000000000000000000000033 + 6421 * (c + 1))))) := fun z => by
      refine mul_b ?_
      have g1 : (z % 10000000000000000000000000000033).natAbs.log2 < 110 := log_lt (nat_lt_of (by omega) (by omega)) (by decide)
      have g2 : (z % 10000000000000000000000000000033 + 6421 * (c + 1)).natAbs.log2 < 110 := log_lt (nat_lt_of (by omega) (by omega)) (by decide)
      omega
    exact ⟨_, _, take_sym a b c m _ _ _ _ _ _ _ _ _ ha e1 e4 e8 (md _) e9 (e5 _) (md2 _) (dv _) (mm _), ⟨a, b, c + 1, rfl, hb0, hb1, by omega, by omega⟩, rest _⟩
theorem take_s {N : Nat} {l : List D} (h : Pot N l) (hN : N ≤ 1000000) (m : Nat) (hm : 0 < m) (hm2 : m ≤ 1000) :
    ∃ (p : Nat) (l' : List D), f__law_take [.ref (.lst l), .d (.int m)] = .ok (.d (.int p)) [.lst l'] ∧ Pot (N + 1) l' ∧ p < m := by
  obtain ⟨p, l', h1, h2, h3, h4⟩ := take_i h hN m (by omega) (Nat.lt_of_le_of_lt (Nat.log2_le_self _) (by simp; omega))
  refine ⟨p.toNat, l', ?_, h2, by omega⟩
  rw [show ((p.toNat : Nat) : Int) = p by omega]
  exact h1
end K29
end

section
set_option autoImplicit false
set_option maxRecDepth 100000
set_option linter.all false
namespace K29
open PySem PySem.Spec L2 MP
def tenN : List Nat := [2, 3, 5, 6, 7, 10, 11, 13, 14, 15]
theorem ten_le {m : Nat} (h : m ∈ tenN) : 2 ≤ m ∧ m ≤ 15 := by
  unfold tenN at h
  simp at h
  omega
/-- cells modulo m -/
def Cs (m : Nat) (zs : List Int) : Prop := ∀ z ∈ zs, 0 ≤ z ∧ z < m
theorem Cs.at_ {p : Nat} {zs : List Int} (h : Cs p zs) {i : Nat} (hi : i < zs.length) : 0 ≤ zs[i] ∧ zs[i] < p := h _ (List.getElem_mem hi)
theorem modulus_s {N : Nat} {l : List D} (h : Pot N l) (hN : N ≤ 900000) : ∃ (m : Nat) (l' : List D), f__law_modulus [.ref (.lst l)] = .ok (.d (.int m)) [.lst l'] ∧ Pot (N + 1) l' ∧ m ∈ tenN := by
  obtain ⟨d, l1, k1, S1, hd⟩ := take_s h (by omega) 10 (by omega) (by omega)
  have k1' : f__law_take [.ref (.lst l), .d (.int 10)] = .ok (.d (.int d)) [.lst l1] := k1
  have hx : atD [.int 2, .int 3, .int 5, .int 6, .int 7, .int 10, .int 11, .int 13, .int 14, .int 15] (d : Int) = some (.int ((tenN.getD d 2 : Nat) : Int)) := by
    have : ∀ d < 10, atD [.int 2, .int 3, .int 5, .int 6, .int 7, .int 10, .int 11, .int 13, .int 14, .int 15] ((d : Nat) : Int) = some (.int ((tenN.getD d 2 : Nat) : Int)) := by
      intro d hd
      rw [atD_nat]
      have : d = 0 ∨ d = 1 ∨ d = 2 ∨ d = 3 ∨ d = 4 ∨ d = 5 ∨ d = 6 ∨ d = 7 ∨ d = 8 ∨ d = 9 := by omega
      rcases this with rfl | rfl | rfl | rfl | rfl | rfl | rfl | rfl | rfl | rfl <;> rfl
    exact this d hd
  refine ⟨tenN.getD d 2, l1, ?_, S1, ?_⟩
  · simp [f__law_modulus, b__law_modulus, k1', hx]
  · have : ∀ d < 10, tenN.getD d 2 ∈ tenN := by decide
    exact this d hd
/-- the primes of a modulus -/
def pr (m : Nat) : List Nat := [2, 3, 5, 7, 11, 13].filter fun p => m % p == 0
theorem pr_in {m p : Nat} (h : p ∈ pr m) : 2 ≤ p ∧ p ≤ 13 ∧ p ∣ m := by
  unfold pr at h
  rw [List.mem_filter] at h
  obtain ⟨h1, h2⟩ := h
  simp at h1 h2
  exact ⟨by omega, by omega, Nat.dvd_of_mod_eq_zero h2⟩
theorem pr_ne {m : Nat} (h : m ∈ tenN) : pr m ≠ [] := by
  have : ∀ m ∈ tenN, pr m ≠ [] := by decide
  exact this m h
def isPr (m : Nat) : D → Bool
  | .int i => (m : Int) % i == 0
  | _ => false
theorem primes_s (m : Nat) : f__law_primes [.d (.int m)] = .ok (.own (.lst ((pr m).map fun p : Nat => PyData.int (p : Int)))) [] := by
  have hc := comp_map (vs := [1]) (tg := .n 1) (t := mTr (m2 cEq (m2 bMod (mB gInt [(mV 0)]) (mV 1)) (mC (.int 0)))) (e := mV 1) (ρ := [some (.d (.int m)), none]) (c := isPr m) (y := fun x => x) (xs := [.int 2, .int 3, .int 5, .int 7, .int 11, .int 13]) (acc := []) fun x hx => by
    simp at hx
    have key : ∀ q : Int, 0 < q → ∃ ρa ρb ρc, tgSet (.n 1) (PyData.int q) (wipeE [some (.d (.int m)), none] [1]) = some ρa ∧ (mTr (m2 cEq (m2 bMod (mB gInt [(mV 0)]) (mV 1)) (mC (.int 0)))) ρa = .ok (isPr m (.int q)) ρb ∧ (isPr m (.int q) = false → back [some (.d (.int m)), none] ρb [1] = [some (.d (.int m)), none]) ∧ (isPr m (.int q) = true → ∃ v, mV 1 ρb = .ok v ρc ∧ toD v = some (.int q) ∧ back [some (.d (.int m)), none] ρc [1] = [some (.d (.int m)), none]) := fun q hq => by
      have md : bMod (.int m) (.int q) = some (.d (.int ((m : Int) % q))) := mod_p hq
      exact ⟨[some (.d (.int m)), some (.d (.int q))], [some (.d (.int m)), some (.d (.int q))], [some (.d (.int m)), some (.d (.int q))], by simp, by simp [md, isPr], fun _ => by simp, fun _ => ⟨.d (.int q), by simp, rfl, by simp⟩⟩
    rcases hx with rfl | rfl | rfl | rfl | rfl | rfl <;> exact key _ (by decide)
  have he : ([.int 2, .int 3, .int 5, .int 7, .int 11, .int 13] : List D) = [2, 3, 5, 7, 11, 13].map fun p : Nat => .int (p : Int) := rfl
  have hf : (fun x => isPr m x) ∘ (fun p : Nat => PyData.int (p : Int)) = fun p : Nat => m % p == 0 := by
    funext p
    show ((m : Int) % (p : Int) == 0) = _
    rw [Bool.eq_iff_iff, beq_iff_eq, beq_iff_eq]
    omega
  have hq : (List.filter (isPr m) [.int 2, .int 3, .int 5, .int 7, .int 11, .int 13]).map (fun x => x) = (pr m).map fun p : Nat => PyData.int (p : Int) := by
    rw [List.map_id', he, List.filter_map]
    congr 1
    unfold pr
    congr 1
  rw [hq, List.nil_append] at hc
  simp [f__law_primes, b__law_primes, hc]

/-! the rule -/
def tp (t : Int × Int) : D := .tuple [.int t.1, .int t.2]
def enumT : Int → List Int → List (Int × Int)
  | _, [] => []
  | k, z :: zs => (k, z) :: enumT (k + 1) zs
def termsOf : Int → List Int → List (Int × Int)
  | _, [] => []
  | k, z :: zs => if z == 0 then termsOf (k + 1) zs else (k, z) :: termsOf (k + 1) zs
def posT : D → Bool
  | .tuple [_, .int v] => decide (0 < v)
  | _ => false
def putT (low share m : Int) : D → D
  | .tuple [.int k, .int v] => .tuple [.int (low + k), .int (v * share % m)]
  | _ => .none
theorem enum_put (low share m : Int) : ∀ (zs : List Int) (k : Int), (enumFrom k (zs.map PyData.int)).map (putT low share m) = (enumT (low + k) (zs.map fun z => z * share % m)).map tp
  | [], k => rfl
  | z :: zs, k => by
    have ih := enum_put low share m zs (k + 1)
    rw [← Int.add_assoc] at ih
    rw [List.map_cons, enumFrom, List.map_cons, ih]
    rfl
theorem enum_pos {m : Nat} : ∀ (zs : List Int) (k : Int), Cs m zs → ((enumT k zs).map tp).filter posT = (termsOf k zs).map tp
  | [], k, _ => rfl
  | z :: zs, k, h => by
    have hz := h z List.mem_cons_self
    have ih := enum_pos zs (k + 1) fun w hw => h w (List.mem_cons_of_mem _ hw)
    rw [enumT, termsOf, List.map_cons]
    by_cases z0 : z = 0
    · rw [List.filter_cons_of_neg (by simp [posT, tp, z0]), ih, if_pos (by simp [z0])]
    · rw [List.filter_cons_of_pos (by simp [posT, tp]; omega), ih, if_neg (by simp [z0])]
      rfl
theorem terms_pair {p : Nat} : ∀ (zs : List Int) (k : Int), Cs p zs → ∀ t ∈ termsOf k zs, 1 ≤ t.2 ∧ t.2 < p
  | [], k, _, t, h => by cases h
  | z :: zs, k, hc, t, h => by
    have hz := hc z List.mem_cons_self
    have hr : Cs p zs := fun w hw => hc w (List.mem_cons_of_mem _ hw)
    rw [termsOf] at h
    split at h
    · exact terms_pair zs (k + 1) hr t h
    · rename_i h0
      rcases List.mem_cons.mp h with rfl | h
      · have : z ≠ 0 := fun e => h0 (by rw [e] <;> rfl)
        exact ⟨by show 1 ≤ z; omega, hz.2⟩
      · exact terms_pair zs (k + 1) hr t h
theorem terms_asc : ∀ (zs : List Int) (k : Int) (s : Option Int), (∀ l, s = some l → l < k) → ascL s ((termsOf k zs).map tp) = true
  | [], k, s, _ => rfl
  | z :: zs, k, s, h => by
    rw [termsOf]
    split
    · exact terms_asc zs (k + 1) s fun l e => by have := h l e; omega
    · rw [List.map_cons, ascL, terms_asc zs (k + 1) (some (fst (tp (k, z)))) (fun l e => by
        have e' : k = l := Option.some.inj e
        omega), Bool.and_true]
      cases s with
      | none => rfl
      | some l => exact decide_eq_true (h l rfl)
theorem terms_len : ∀ (zs : List Int) (k : Int), (termsOf k zs).length ≤ zs.length
  | [], _ => Nat.le_refl _
  | z :: zs, k => by
    have := terms_len zs (k + 1)
    rw [termsOf, List.length_cons]
    split
    · omega
    · rw [List.length_cons]; omega
structure Rule (m : Nat) (ts : List (Int × Int)) : Prop where
  ok : ruleT (.tuple [.int m, .tuple (ts.map tp)]) = true
  le : ts.length ≤ 9
  fac : ∀ t ∈ ts, 1 ≤ t.2 ∧ t.2 < m
abbrev rD (m : Nat) (ts : List (Int × Int)) : D := .tuple [.int m, .tuple (ts.map tp)]
theorem rule_of {m : Nat} (hm : m ∈ tenN) (zs : List Int) (k : Int) (hc : Cs m zs) (hl : zs.length ≤ 9) : Rule m (termsOf k zs) := by
  refine ⟨?_, Nat.le_trans (terms_len _ _) hl, terms_pair zs _ hc⟩
  unfold ruleT
  have t1 : tens.contains (m : Int) = true := by
    have : ∀ p ∈ tenN, tens.contains (p : Int) = true := by decide
    exact this m hm
  show (tens.contains (m : Int) && arePairs _ _) = true
  rw [t1, Bool.true_and]
  show (List.all _ _ && ascR _) = true
  rw [asc_all, terms_asc _ _ none (fun l e => by cases e), Bool.and_true, List.all_eq_true]
  intro x hx
  obtain ⟨t, ht, rfl⟩ := List.mem_map.mp hx
  have := terms_pair zs _ hc t ht
  show (decide (1 ≤ t.2) && decide (t.2 < (m : Int))) = true
  rw [decide_eq_true this.1, decide_eq_true this.2] <;> rfl
theorem nat_of {z : Int} (h : 0 ≤ z) : ∃ n : Nat, z = n := ⟨z.toNat, by omega⟩
theorem product_s {N : Nat} {l : List D} (h : Pot N l) (hN : N ≤ 900000) {m : Nat} (hm : m ∈ tenN) : ∃ (zs : List Int) (l' : List D), f__law_product [.ref (.lst l), .d (.int m), .d (.int 8)] = .ok (.d (.list (zs.map PyData.int))) [.lst l'] ∧ Pot (N + 100) l' ∧ 1 ≤ zs.length ∧ zs.length ≤ 9 ∧ Cs m zs := by
  have hm2 := ten_le hm
  obtain ⟨a, l1, k1, S1, ha⟩ := take_s h (by omega) (m - 1) (by omega) (by omega)
  rw [show ((m - 1 : Nat) : Int) = (m : Int) - 1 by omega] at k1
  obtain ⟨b, l2, k2, S2, hb⟩ := take_s S1 (by omega) 3 (by omega) (by omega)
  have k2' : f__law_take [.ref (.lst l1), .d (.int 3)] = .ok (.d (.int b)) [.lst l2] := k2
  obtain ⟨u, hu, hu2, hat⟩ : ∃ u : Int, 0 ≤ u ∧ u < m ∧ atD [.int 1, .int ((m : Int) - 1), .int (1 + (a : Int))] b = some (.int u) := by
    have : b = 0 ∨ b = 1 ∨ b = 2 := by omega
    rcases this with rfl | rfl | rfl
    · exact ⟨1, by omega, by omega, by rw [atD_nat] <;> rfl⟩
    · exact ⟨(m : Int) - 1, by omega, by omega, by rw [atD_nat] <;> rfl⟩
    · exact ⟨1 + (a : Int), by omega, by omega, by rw [atD_nat] <;> rfl⟩
  obtain ⟨n, l3, k3, S3, hn⟩ := take_s S2 (by omega) 9 (by omega) (by omega)
  have k3' : f__law_take [.ref (.lst l2), .d (.int 9)] = .ok (.d (.int n)) [.lst l3] := k3
  obtain ⟨ρ', e1, zs, l4, r6, r5, e2, n5, n6, e3, e4, e5⟩ := for_inv (tg := .n 5) (b := lb__law_product_0) (J := fun i ρ => ∃ (zs : List Int) (l4 : List D) (r6 r5 : Option SV), ρ = [some (.ref (.lst l4)), some (.d (.int m)), some (.d (.int 8)), some (.d (.int u)), some (.d (.list (zs.map PyData.int))), r5, r6, none, none] ∧ (∀ c, r5 ≠ some (.ref c)) ∧ (∀ c, r6 ≠ some (.ref c)) ∧ Pot (N + 3 + 2 * i) l4 ∧ zs.length = 1 + i ∧ Cs m zs)
    (intsD 0 n) 0 [some (.ref (.lst l3)), some (.d (.int m)), some (.d (.int 8)), some (.d (.int u)), some (.d (.list [.int 1])), none, none, none, none] ⟨[1], l3, none, none, rfl, fun c => nofun, fun c => nofun, S3, rfl, fun z hz => by simp at hz; omega⟩ fun k x ρ hx hk => by
      rintro ⟨zs, l4, r6, r5, rfl, n5, n6, S, lz, cz⟩
      rw [intsD_len] at hk
      obtain ⟨j, hj, rfl⟩ := mem_intsD hx
      obtain ⟨c, l5, q1, T1, hc⟩ := take_s S (by omega) m (by omega) (by omega)
      obtain ⟨d, l6, q2, T2, hd⟩ := take_s T1 (by omega) 4 (by omega) (by omega)
      have q2' : f__law_take [.ref (.lst l5), .d (.int 4)] = .ok (.d (.int d)) [.lst l6] := q2
      obtain ⟨v, hv, hv2, hat2⟩ : ∃ v : Int, 0 ≤ v ∧ v < m ∧ atD [.int u, .int u, .int u, .int (c : Int)] d = some (.int v) := by
        have : d = 0 ∨ d = 1 ∨ d = 2 ∨ d = 3 := by omega
        rcases this with rfl | rfl | rfl | rfl
        · exact ⟨u, hu, hu2, by rw [atD_nat] <;> rfl⟩
        · exact ⟨u, hu, hu2, by rw [atD_nat] <;> rfl⟩
        · exact ⟨u, hu, hu2, by rw [atD_nat] <;> rfl⟩
        · exact ⟨c, by omega, by omega, by rw [atD_nat] <;> rfl⟩
      obtain ⟨ys, _, c1, _, c3, c4⟩ := comp_st (S := Unit) (vs := [7, 8]) (tg := .t [(.n 7), (.n 8)]) (e := m2 bMod (mB gInt [(m2 bSub (mV 7) (m2 bMulI (mV 6) (mV 8)))]) (mV 1)) (Env := fun _ => [some (.ref (.lst l6)), some (.d (.int m)), some (.d (.int 8)), some (.d (.int u)), some (.d (.list (zs.map PyData.int))), some (.d (.int j)), some (.d (.int v)), none, none])
        (J := fun _ _ => True) (P := fun _ y => ∃ z : Int, y = .int z ∧ 0 ≤ z ∧ z < m) (zipL (.int 0 :: zs.map PyData.int) (zs.map PyData.int ++ [.int 0])) [] 0 () trivial fun x hx i t hi hJ => by
          obtain ⟨i, hi2⟩ := List.getElem?_of_mem hx
          obtain ⟨x1, x2, h1, h2, rfl⟩ := zipL_get hi2
          have g1 : ∃ a : Int, x1 = .int a := by
            rcases List.mem_cons.mp (List.mem_of_getElem? h1) with h | h
            · exact ⟨0, h⟩
            · obtain ⟨a, _, e⟩ := List.mem_map.mp h; exact ⟨a, e.symm⟩
          have g2 : ∃ a : Int, x2 = .int a := by
            rcases List.mem_append.mp (List.mem_of_getElem? h2) with h | h
            · obtain ⟨a, _, e⟩ := List.mem_map.mp h; exact ⟨a, e.symm⟩
            · exact ⟨0, List.mem_singleton.mp h⟩
          obtain ⟨a1, rfl⟩ := g1
          obtain ⟨a2, rfl⟩ := g2
          have mu : bMulI (.int v) (.int a2) = some (.d (.int (v * a2))) := mul_small hv (by omega)
          have md : bMod (.int (a1 - v * a2)) (.int m) = some (.d (.int ((a1 - v * a2) % m))) := mod_p (by omega)
          refine ⟨[some (.ref (.lst l6)), some (.d (.int m)), some (.d (.int 8)), some (.d (.int u)), some (.d (.list (zs.map PyData.int))), some (.d (.int j)), some (.d (.int v)), some (.d (.int a1)), some (.d (.int a2))], [some (.ref (.lst l6)), some (.d (.int m)), some (.d (.int 8)), some (.d (.int u)), some (.d (.list (zs.map PyData.int))), some (.d (.int j)), some (.d (.int v)), some (.d (.int a1)), some (.d (.int a2))], .d (.int ((a1 - v * a2) % m)), .int ((a1 - v * a2) % m), (), by simp, ?_, rfl, by simp, trivial, ⟨_, rfl, Int.emod_nonneg _ (by omega), Int.emod_lt_of_pos _ (by omega)⟩⟩
          simp [mu, md]
      obtain ⟨ws, rfl, hw⟩ := ints_ex (each_of c3 (P := fun y => ∃ z : Int, y = .int z ∧ 0 ≤ z ∧ z < m) c4)
      have zl : (zipL (.int 0 :: zs.map PyData.int) (zs.map PyData.int ++ [.int 0])).length = 1 + (k + 1) := by rw [zipL_len, List.length_cons, List.length_append, List.length_map, lz, List.length_singleton]; omega
      rw [List.nil_append] at c1
      rw [List.length_map, zl] at c3
      have b1 : bAdd (.list [.int 0]) (.list (zs.map PyData.int)) = some (.own (.lst (.int 0 :: zs.map PyData.int))) := if_pos (by rw [List.length_map, lz, List.length_singleton]; unfold line; omega)
      have b2 : bAdd (.list (zs.map PyData.int)) (.list [.int 0]) = some (.own (.lst (zs.map PyData.int ++ [.int 0]))) := if_pos (by rw [List.length_map, lz, List.length_singleton]; unfold line; omega)
      have zd : zipA [.list (.int 0 :: zs.map PyData.int), .list (zs.map PyData.int ++ [.int 0])] = some (zipL (.int 0 :: zs.map PyData.int) (zs.map PyData.int ++ [.int 0])) := rfl
      have zl2 : (zipL (.int 0 :: zs.map PyData.int) (zs.map PyData.int ++ [.int 0])).length ≤ 16777216 := by rw [zl]; omega
      have f5 := free_at (ρ := [some (.ref (.lst l4)), some (.d (.int m)), some (.d (.int 8)), some (.d (.int u)), some (.d (.list (zs.map PyData.int))), r5, r6, none, none]) (i := 5) rfl n5
      have f6 := free_at (ρ := [some (.ref (.lst l6)), some (.d (.int m)), some (.d (.int 8)), some (.d (.int u)), some (.d (.list (zs.map PyData.int))), some (.d (.int j)), r6, none, none]) (i := 6) rfl n6
      refine ⟨[some (.ref (.lst l4)), some (.d (.int m)), some (.d (.int 8)), some (.d (.int u)), some (.d (.list (zs.map PyData.int))), some (.d (.int j)), r6, none, none], [some (.ref (.lst l6)), some (.d (.int m)), some (.d (.int 8)), some (.d (.int u)), some (.d (.list (ws.map PyData.int))), some (.d (.int j)), some (.d (.int v)), none, none], ?_, ?_, ws, l6, some (.d (.int v)), some (.d (.int j)), rfl, fun c => nofun, fun c => nofun, T2.mono (by omega), c3, hw⟩
      · rw [p_tgN, if_pos f5]; rfl
      · generalize zipL (.int 0 :: zs.map PyData.int) (zs.map PyData.int ++ [.int 0]) = Z at *
        generalize zs.map PyData.int ++ [.int 0] = Y1 at *
        generalize hY0 : zs.map PyData.int = Y0 at *
        have f6' : (match r6 with | some (SV.ref _) => false | some v => true | none => true) = true := by
          cases r6 with
          | none => rfl
          | some s => cases s <;> first | rfl | exact absurd rfl (n6 _)
        simp [lb__law_product_0, q1, q2', hat2, b1, b2, zd, zl2, c1]
  rw [intsD_len] at e3 e4
  subst e2
  have rq := range1_nat (q := n) (by omega)
  exact ⟨zs, l4, by simp [f__law_product, b__law_product, k1, k2', hat, k3', rq, e1], e3.mono (by omega), by omega, by omega, e5⟩
theorem take5 {N : Nat} {l : List D} (h : Pot N l) (hN : N ≤ 900000) {m : Nat} (hm : m ∈ tenN) (n : Nat) (hn : n ≤ 100) (r2 : Option SV) :
    ∃ (zs : List Int) (l' : List D), compGo [7] (.n 7) mYes (mCall f__law_take [(mV 0), (mV 1)]) (intsD 0 n) [] [some (.ref (.lst l)), some (.d (.int m)), r2, none, none, none, none, none, none, none, none] =
      .ok (.own (.lst (zs.map PyData.int))) [some (.ref (.lst l')), some (.d (.int m)), r2, none, none, none, none, none, none, none, none] ∧ Pot (N + 100) l' ∧ zs.length = n ∧ Cs m zs := by
  have hm2 := ten_le hm
  obtain ⟨ys, l2, e1, e2, e3, e4⟩ := comp_st (vs := [7]) (tg := .n 7) (e := mCall f__law_take [(mV 0), (mV 1)]) (Env := fun l => [some (.ref (.lst l)), some (.d (.int m)), r2, none, none, none, none, none, none, none, none])
    (J := fun i l => Pot (N + i) l) (P := fun _ y => ∃ z : Int, y = .int z ∧ 0 ≤ z ∧ z < m) (intsD 0 n) [] 0 l h fun x hx i t hi hJ => by
      rw [intsD_len] at hi
      obtain ⟨k, hk, rfl⟩ := mem_intsD hx
      obtain ⟨f, l3, q1, q2, q3⟩ := take_s hJ (by omega) m (by omega) (by omega)
      refine ⟨[some (.ref (.lst t)), some (.d (.int m)), r2, none, none, none, none, some (.d (.int k)), none, none, none], [some (.ref (.lst l3)), some (.d (.int m)), r2, none, none, none, none, some (.d (.int k)), none, none, none], .d (.int f), .int f, l3, by simp, by simp [q1], rfl, by simp, q2, ⟨f, rfl, by omega, by omega⟩⟩
  obtain ⟨zs, rfl, hz⟩ := ints_ex (each_of e3 (P := fun y => ∃ z : Int, y = .int z ∧ 0 ≤ z ∧ z < m) e4)
  rw [List.nil_append] at e1
  rw [intsD_len] at e2 e3
  exact ⟨zs, l2, e1, e2.mono (by omega), by simpa using e3, hz⟩
theorem some5 {N : Nat} {l : List D} (h : Pot N l) (hN : N ≤ 900000) {m : Nat} (hm : m ∈ tenN) (zs : List Int) (hz : Cs m zs) (hn : zs.length ≤ 100) (r2 : Option SV) :
    ∃ (ws : List Int) (l' : List D), compGo [8] (.n 8) mYes (m2 bMulI (mV 8) (mB gInt [(m2 cEq (mCall f__law_take [(mV 0), (mC (.int 3))]) (mC (.int 0)))])) (zs.map PyData.int) [] [some (.ref (.lst l)), some (.d (.int m)), r2, some (.d (.list (zs.map PyData.int))), none, none, none, none, none, none, none] =
      .ok (.own (.lst (ws.map PyData.int))) [some (.ref (.lst l')), some (.d (.int m)), r2, some (.d (.list (zs.map PyData.int))), none, none, none, none, none, none, none] ∧ Pot (N + 100) l' ∧ ws.length = zs.length ∧ Cs m ws := by
  have hm2 := ten_le hm
  obtain ⟨ys, l2, e1, e2, e3, e4⟩ := comp_st (vs := [8]) (tg := .n 8) (e := m2 bMulI (mV 8) (mB gInt [(m2 cEq (mCall f__law_take [(mV 0), (mC (.int 3))]) (mC (.int 0)))])) (Env := fun l => [some (.ref (.lst l)), some (.d (.int m)), r2, some (.d (.list (zs.map PyData.int))), none, none, none, none, none, none, none])
    (J := fun i l => Pot (N + i) l) (P := fun _ y => ∃ z : Int, y = .int z ∧ 0 ≤ z ∧ z < m) (zs.map PyData.int) [] 0 l h fun x hx i t hi hJ => by
      rw [List.length_map] at hi
      obtain ⟨k, hk, rfl⟩ := List.mem_map.mp hx
      have hk2 := hz k hk
      obtain ⟨f, l3, q1, q2, q3⟩ := take_s hJ (by omega) 3 (by omega) (by omega)
      have q1' : f__law_take [.ref (.lst t), .d (.int 3)] = .ok (.d (.int f)) [.lst l3] := q1
      have mu : ∀ z : Int, bMulI (.int k) (.int z) = some (.d (.int (k * z))) := fun z => mul_small hk2.1 (by omega)
      refine ⟨[some (.ref (.lst t)), some (.d (.int m)), r2, some (.d (.list (zs.map PyData.int))), none, none, none, none, some (.d (.int k)), none, none], [some (.ref (.lst l3)), some (.d (.int m)), r2, some (.d (.list (zs.map PyData.int))), none, none, none, none, some (.d (.int k)), none, none], .d (.int (k * (if (f : Int) = 0 then 1 else 0))), .int (k * (if (f : Int) = 0 then 1 else 0)), l3, by simp, by simp [q1', mu], rfl, by simp, q2, ⟨_, rfl, ?_⟩⟩
      by_cases z : (f : Int) = 0
      · rw [if_pos z]; omega
      · rw [if_neg z]; omega
  obtain ⟨ws, rfl, hw⟩ := ints_ex (each_of e3 (P := fun y => ∃ z : Int, y = .int z ∧ 0 ≤ z ∧ z < m) e4)
  rw [List.nil_append] at e1
  rw [List.length_map] at e2 e3
  exact ⟨ws, l2, e1, e2.mono (by omega), by simpa using e3, hw⟩
theorem rule_end {N : Nat} {l : List D} (h : Pot N l) (hN : N ≤ 900000) {m : Nat} (hm : m ∈ tenN) (zs : List Int) (hz : Cs m zs) (l1 : 1 ≤ zs.length) (l9 : zs.length ≤ 9) (r2 : Option SV) :
    ∃ (ts : List (Int × Int)) (l' : List D) (ρ : En), ((sSeq (sSet false 4 (m2 bSub (mCall f__law_take [(mV 0), (m2 bSub (mC (.int 10)) (mB lenD [(mV 3)]))]) (mC (.int 4))))
    (sSeq (sSet false 5 (m2 bIdx (mLst [(mC (.int 1)), (mC (.int 1)), (mC (.int 1)), (mC (.int 1)), (mCall f__law_take [(mV 0), (mV 1)])]) (mCall f__law_take [(mV 0), (mC (.int 5))])))
    (sSeq (sSet false 6 (mComp [9, 8] (.t [(.n 9), (.n 8)]) (i1 enumD (mV 3)) mYes (mTup [(m2 bAdd (mV 4) (mV 9)), (m2 bMod (mB gInt [(m2 bMulI (mV 8) (mV 5))]) (mV 1))])))
    (sRet (mTup [(mV 1), (mB gTup [(mComp [10] (.n 10) (i1 seqD (mV 6)) (mTr (m2 cGt (m2 bIdx (mV 10) (mC (.int 1))) (mC (.int 0)))) (mV 10))])]))))) : MS)
      [some (.ref (.lst l)), some (.d (.int m)), r2, some (.d (.list (zs.map PyData.int))), none, none, none, none, none, none, none] = .ret (.d (rD m ts)) (some (.ref (.lst l')) :: ρ) ∧ Pot (N + 3) l' ∧ Rule m ts := by
  have hm2 := ten_le hm
  obtain ⟨a, l2, k1, S1, ha⟩ := take_s h (by omega) (10 - zs.length) (by omega) (by omega)
  rw [show ((10 - zs.length : Nat) : Int) = 10 - (zs.length : Int) by omega] at k1
  obtain ⟨b, l3, k2, S2, hb⟩ := take_s S1 (by omega) m (by omega) (by omega)
  obtain ⟨c, l4, k3, S3, hc⟩ := take_s S2 (by omega) 5 (by omega) (by omega)
  have k3' : f__law_take [.ref (.lst l3), .d (.int 5)] = .ok (.d (.int c)) [.lst l4] := k3
  obtain ⟨s, hs, hs2, hat⟩ : ∃ s : Int, 0 ≤ s ∧ s < 1000 ∧ atD [.int 1, .int 1, .int 1, .int 1, .int b] c = some (.int s) := by
    have : c = 0 ∨ c = 1 ∨ c = 2 ∨ c = 3 ∨ c = 4 := by omega
    rcases this with rfl | rfl | rfl | rfl | rfl
    · exact ⟨1, by omega, by omega, by rw [atD_nat] <;> rfl⟩
    · exact ⟨1, by omega, by omega, by rw [atD_nat] <;> rfl⟩
    · exact ⟨1, by omega, by omega, by rw [atD_nat] <;> rfl⟩
    · exact ⟨1, by omega, by omega, by rw [atD_nat] <;> rfl⟩
    · exact ⟨b, by omega, by omega, by rw [atD_nat] <;> rfl⟩
  have c1 := comp_pure (vs := [9, 8]) (tg := .t [(.n 9), (.n 8)]) (e := mTup [(m2 bAdd (mV 4) (mV 9)), (m2 bMod (mB gInt [(m2 bMulI (mV 8) (mV 5))]) (mV 1))]) (ρ := [some (.ref (.lst l4)), some (.d (.int m)), r2, some (.d (.list (zs.map PyData.int))), some (.d (.int ((a : Int) - 4))), some (.d (.int s)), none, none, none, none, none])
    (y := putT ((a : Int) - 4) s m) (xs := enumFrom 0 (zs.map PyData.int)) (acc := []) fun x hx => by
      obtain ⟨j, hj⟩ := List.getElem?_of_mem hx
      obtain ⟨y, h1, rfl⟩ := enum_get hj
      rw [List.getElem?_map] at h1
      obtain ⟨z, hz1, rfl⟩ := Option.map_eq_some_iff.mp h1
      have hz2 := hz z (List.mem_of_getElem? hz1)
      have mu : bMulI (.int z) (.int s) = some (.d (.int (z * s))) := mul_small hz2.1 (by omega)
      have md : bMod (.int (z * s)) (.int m) = some (.d (.int (z * s % m))) := mod_p (by omega)
      exact ⟨[some (.ref (.lst l4)), some (.d (.int m)), r2, some (.d (.list (zs.map PyData.int))), some (.d (.int ((a : Int) - 4))), some (.d (.int s)), none, none, some (.d (.int z)), some (.d (.int (0 + j))), none], .d (.tuple [.int ((a : Int) - 4 + (0 + j)), .int (z * s % m)]), by simp, by simp [mu, md], rfl, by simp⟩
  rw [enum_put, List.nil_append] at c1
  have hw : Cs m (zs.map fun z => z * s % m) := fun w hw => by
    obtain ⟨z, _, rfl⟩ := List.mem_map.mp hw
    exact ⟨Int.emod_nonneg _ (by omega), Int.emod_lt_of_pos _ (by omega)⟩
  have hwl : (zs.map fun z => z * s % m).length ≤ 9 := by rw [List.length_map]; omega
  generalize zs.map (fun z => z * s % m) = ws at c1 hw hwl
  have c2 := comp_map (vs := [10]) (tg := .n 10) (t := mTr (m2 cGt (m2 bIdx (mV 10) (mC (.int 1))) (mC (.int 0)))) (e := mV 10) (ρ := [some (.ref (.lst l4)), some (.d (.int m)), r2, some (.d (.list (zs.map PyData.int))), some (.d (.int ((a : Int) - 4))), some (.d (.int s)), some (.d (.list ((enumT ((a : Int) - 4 + 0) ws).map tp))), none, none, none, none])
    (c := posT) (y := fun x => x) (xs := (enumT ((a : Int) - 4 + 0) ws).map tp) (acc := []) fun x hx => by
      obtain ⟨t, _, rfl⟩ := List.mem_map.mp hx
      exact ⟨[some (.ref (.lst l4)), some (.d (.int m)), r2, some (.d (.list (zs.map PyData.int))), some (.d (.int ((a : Int) - 4))), some (.d (.int s)), some (.d (.list ((enumT ((a : Int) - 4 + 0) ws).map tp))), none, none, none, some (.d (tp t))], [some (.ref (.lst l4)), some (.d (.int m)), r2, some (.d (.list (zs.map PyData.int))), some (.d (.int ((a : Int) - 4))), some (.d (.int s)), some (.d (.list ((enumT ((a : Int) - 4 + 0) ws).map tp))), none, none, none, some (.d (tp t))], [some (.ref (.lst l4)), some (.d (.int m)), r2, some (.d (.list (zs.map PyData.int))), some (.d (.int ((a : Int) - 4))), some (.d (.int s)), some (.d (.list ((enumT ((a : Int) - 4 + 0) ws).map tp))), none, none, none, some (.d (tp t))], by simp, by simp [tp, posT], fun _ => by simp, fun _ => ⟨.d (tp t), by simp, rfl, by simp⟩⟩
  rw [List.map_id', enum_pos _ _ hw, List.nil_append] at c2
  have el : (enumFrom 0 (zs.map PyData.int)).length ≤ 16777216 := by rw [enum_len, List.length_map]; omega
  have et : ∀ (ws : List Int) (k : Int), (enumT k ws).length = ws.length := fun ws => by
    induction ws with
    | nil => intro k; rfl
    | cons w ws ih => intro k; rw [enumT, List.length_cons, ih, List.length_cons]
  have el2 : ((enumT ((a : Int) - 4 + 0) ws).map tp).length ≤ 16777216 := by rw [List.length_map, et]; omega
  refine ⟨termsOf ((a : Int) - 4 + 0) ws, l4, [some (.d (.int m)), r2, some (.d (.list (zs.map PyData.int))), some (.d (.int ((a : Int) - 4))), some (.d (.int s)), some (.d (.list ((enumT ((a : Int) - 4 + 0) ws).map tp))), none, none, none, none], ?_, S3, rule_of hm ws _ hw hwl⟩
  generalize termsOf ((a : Int) - 4 + 0) ws = ts at c2
  generalize (enumT ((a : Int) - 4 + 0) ws).map tp = es at c1 c2 el2
  simp [k1, k2, k3', hat, enumD, el, c1, el2, c2]
theorem rule_s {N : Nat} {l : List D} (h : Pot N l) (hN : N ≤ 800000) {m : Nat} (hm : m ∈ tenN) : ∃ (ts : List (Int × Int)) (l' : List D), f__law_rule [.ref (.lst l), .d (.int m)] = .ok (.d (rD m ts)) [.lst l'] ∧ Pot (N + 300) l' ∧ Rule m ts := by
  have hm2 := ten_le hm
  obtain ⟨w, l1, k1, S1, hw⟩ := take_s h (by omega) 5 (by omega) (by omega)
  have k1' : f__law_take [.ref (.lst l), .d (.int 5)] = .ok (.d (.int w)) [.lst l1] := k1
  by_cases w2 : w < 2
  · have w2' : (w : Int) < 2 := by omega
    obtain ⟨zs, l2, q1, S2, z1, z2, z3⟩ := product_s S1 (by omega) hm
    obtain ⟨ts, l3, ρ, q2, S3, hr⟩ := rule_end S2 (by omega) hm zs z3 z1 z2 (some (.d (.int w)))
    refine ⟨ts, l3, ?_, S3.mono (by omega), hr⟩
    rw [p_seq] at q2
    simp [f__law_rule, b__law_rule, k1', w2', q1]
    simp at q2
    rw [q2]
    rfl
  · have w2' : ¬ (w : Int) < 2 := by omega
    obtain ⟨n, l2, k2, S2, hn⟩ := take_s S1 (by omega) 9 (by omega) (by omega)
    have k2' : f__law_take [.ref (.lst l1), .d (.int 9)] = .ok (.d (.int n)) [.lst l2] := k2
    obtain ⟨zs, l3, q1, S3, z1, z3⟩ := take5 S2 (by omega) hm (1 + n) (by omega) (some (.d (.int w)))
    have rq : range1 (.int (1 + (n : Int))) = some (intsD 0 (1 + n)) := by
      have := range1_nat (q := 1 + n) (by omega)
      rw [← this]
      congr 2
    have lq : (intsD 0 (1 + n)).length ≤ 16777216 := by rw [intsD_len]; omega
    by_cases w3 : w = 2
    · subst w3
      obtain ⟨ws, l4, q3, S4, y1, y3⟩ := some5 S3 (by omega) hm zs z3 (by omega) (some (.d (.int (2 : Nat))))
      obtain ⟨ts, l5, ρ, q2, S5, hr⟩ := rule_end S4 (by omega) hm ws y3 (by omega) (by omega) (some (.d (.int (2 : Nat))))
      have lz : (zs.map PyData.int).length ≤ 16777216 := by rw [List.length_map]; omega
      refine ⟨ts, l5, ?_, S5.mono (by omega), hr⟩
      simp at q2
      have hW : (ws.map PyData.int).length = ws.length := List.length_map ..
      generalize zs.map PyData.int = Z at *
      generalize ws.map PyData.int = W at *
      simp at q1 q3 lz
      simp [f__law_rule, b__law_rule, k1', k2', rq, lq, q1, lz, q3, hW]
      rw [q2]
      rfl
    · obtain ⟨ts, l5, ρ, q2, S5, hr⟩ := rule_end S3 (by omega) hm zs z3 (by omega) (by omega) (some (.d (.int w)))
      have w3' : ¬ (w : Int) = 2 := by omega
      refine ⟨ts, l5, ?_, S5.mono (by omega), hr⟩
      simp at q2
      simp [f__law_rule, b__law_rule, k1', k2', w2', w3', w3, rq, lq, q1]
      rw [q2]
      rfl
/-! the values -/
theorem values_s {N : Nat} {l : List D} (h : Pot N l) (hN : N ≤ 800000) {m : Nat} (hm : m ∈ tenN) (n : Nat) (h1 : 1 ≤ n) (hn : n ≤ 60) :
    ∃ (zs : List Int) (l' : List D), f__law_values [.ref (.lst l), .d (.int m), .d (.int n)] = .ok (.d (.tuple (zs.map PyData.int))) [.lst l'] ∧ Pot (N + 300) l' ∧ zs.length = n ∧ Cs m zs := by
  have hm2 := ten_le hm
  obtain ⟨w, l1, k1, S1, hw⟩ := take_s h (by omega) 4 (by omega) (by omega)
  have k1' : f__law_take [.ref (.lst l), .d (.int 4)] = .ok (.d (.int w)) [.lst l1] := k1
  have rq := range1_nat (q := n) (by omega)
  have lq : (intsD 0 n).length ≤ 16777216 := by rw [intsD_len]; omega
  by_cases w0 : w = 0
  · subst w0
    obtain ⟨a, l2, k2, S2, ha⟩ := take_s S1 (by omega) n (by omega) (by omega)
    obtain ⟨ys, l3, e1, e2, e3, e4⟩ := comp_st (vs := [5]) (tg := .n 5) (e := mCall f__law_take [(mV 0), (mV 1)]) (Env := fun l => [some (.ref (.lst l)), some (.d (.int m)), some (.d (.int n)), some (.d (.int 0)), none, none, none])
      (J := fun i l => Pot (N + 2 + i) l) (P := fun _ y => ∃ z : Int, y = .int z ∧ 0 ≤ z ∧ z < m) (intsD 0 (1 + a)) [] 0 l2 S2 fun x hx i t hi hJ => by
        rw [intsD_len] at hi
        obtain ⟨k, hk, rfl⟩ := mem_intsD hx
        obtain ⟨f, l3, q1, q2, q3⟩ := take_s hJ (by omega) m (by omega) (by omega)
        refine ⟨[some (.ref (.lst t)), some (.d (.int m)), some (.d (.int n)), some (.d (.int 0)), none, some (.d (.int k)), none], [some (.ref (.lst l3)), some (.d (.int m)), some (.d (.int n)), some (.d (.int 0)), none, some (.d (.int k)), none], .d (.int f), .int f, l3, by simp, by simp [q1], rfl, by simp, q2, ⟨f, rfl, by omega, by omega⟩⟩
    obtain ⟨ws, rfl, hz⟩ := ints_ex (each_of e3 (P := fun y => ∃ z : Int, y = .int z ∧ 0 ≤ z ∧ z < m) e4)
    rw [List.nil_append] at e1
    rw [intsD_len] at e2 e3
    rw [List.length_map] at e3
    have rq2 : range1 (.int (1 + (a : Int))) = some (intsD 0 (1 + a)) := by
      have := range1_nat (q := 1 + a) (by omega)
      rw [← this]
      congr 2
    have lq2 : (intsD 0 (1 + a)).length ≤ 16777216 := by rw [intsD_len]; omega
    obtain ⟨ys, _, c1, _, c3, c4⟩ := comp_st (S := Unit) (vs := [6]) (tg := .n 6) (e := m2 bIdx (mV 4) (m2 bMod (mB gInt [(mV 6)]) (mB lenD [(mV 4)]))) (Env := fun _ => [some (.ref (.lst l3)), some (.d (.int m)), some (.d (.int n)), some (.d (.int 0)), some (.d (.list (ws.map PyData.int))), none, none])
      (J := fun _ _ => True) (P := fun _ y => ∃ z : Int, y = .int z ∧ 0 ≤ z ∧ z < m) (intsD 0 n) [] 0 () trivial fun x hx i t hi hJ => by
        obtain ⟨k, hk, rfl⟩ := mem_intsD hx
        have md : bMod (.int k) (.int (ws.length : Nat)) = some (.d (.int ((k % ws.length : Nat) : Int))) := by
          rw [mod_p (by omega)]
          rfl
        have hlt : k % ws.length < ws.length := Nat.mod_lt _ (by omega)
        have a1 := at_ints (xs := ws) (k := k % ws.length) hlt
        have hv := hz _ (List.getElem_mem hlt)
        generalize ws[k % ws.length] = u at a1 hv
        generalize ((k % ws.length : Nat) : Int) = w at md a1
        refine ⟨[some (.ref (.lst l3)), some (.d (.int m)), some (.d (.int n)), some (.d (.int 0)), some (.d (.list (ws.map PyData.int))), none, some (.d (.int k))], [some (.ref (.lst l3)), some (.d (.int m)), some (.d (.int n)), some (.d (.int 0)), some (.d (.list (ws.map PyData.int))), none, some (.d (.int k))], .d (.int u), .int u, (), by simp, ?_, rfl, by simp, trivial, ⟨u, rfl, hv⟩⟩
        simp [md, a1]
    obtain ⟨zs, rfl, hzs⟩ := ints_ex (each_of c3 (P := fun y => ∃ z : Int, y = .int z ∧ 0 ≤ z ∧ z < m) c4)
    rw [List.nil_append] at c1
    rw [intsD_len, List.length_map] at c3
    refine ⟨zs, l3, ?_, e2.mono (by omega), c3, hzs⟩
    generalize ws.map PyData.int = W at *
    simp [f__law_values, b__law_values, k1', k2, rq2, lq2, e1, rq, lq, c1]
  by_cases w1 : w = 1
  · subst w1
    obtain ⟨ys, l3, e1, e2, e3, e4⟩ := comp_st (vs := [6]) (tg := .n 6) (e := m2 bMulI (mCall f__law_take [(mV 0), (mV 1)]) (mB gInt [(m2 cEq (mCall f__law_take [(mV 0), (mC (.int 4))]) (mC (.int 0)))])) (Env := fun l => [some (.ref (.lst l)), some (.d (.int m)), some (.d (.int n)), some (.d (.int 1)), none, none, none])
      (J := fun i l => Pot (N + 2 + 2 * i) l) (P := fun _ y => ∃ z : Int, y = .int z ∧ 0 ≤ z ∧ z < m) (intsD 0 n) [] 0 l1 (S1.mono (by omega)) fun x hx i t hi hJ => by
        rw [intsD_len] at hi
        obtain ⟨k, hk, rfl⟩ := mem_intsD hx
        obtain ⟨f, l3, q1, q2, q3⟩ := take_s hJ (by omega) m (by omega) (by omega)
        obtain ⟨g, l4, p1, p2, p3⟩ := take_s q2 (by omega) 4 (by omega) (by omega)
        have p1' : f__law_take [.ref (.lst l3), .d (.int 4)] = .ok (.d (.int g)) [.lst l4] := p1
        have mu : ∀ z : Int, bMulI (.int f) (.int z) = some (.d (.int (f * z))) := fun z => mul_small (by omega) (by omega)
        refine ⟨[some (.ref (.lst t)), some (.d (.int m)), some (.d (.int n)), some (.d (.int 1)), none, none, some (.d (.int k))], [some (.ref (.lst l4)), some (.d (.int m)), some (.d (.int n)), some (.d (.int 1)), none, none, some (.d (.int k))], .d (.int (f * (if (g : Int) = 0 then 1 else 0))), .int (f * (if (g : Int) = 0 then 1 else 0)), l4, by simp, by simp [q1, p1', mu], rfl, by simp, p2.mono (by omega), ⟨_, rfl, ?_⟩⟩
        by_cases z : (g : Int) = 0
        · rw [if_pos z]; omega
        · rw [if_neg z]; omega
    obtain ⟨ws, rfl, hz⟩ := ints_ex (each_of e3 (P := fun y => ∃ z : Int, y = .int z ∧ 0 ≤ z ∧ z < m) e4)
    rw [List.nil_append] at e1
    rw [intsD_len] at e2 e3
    exact ⟨ws, l3, by simp [f__law_values, b__law_values, k1', rq, lq, e1], e2.mono (by omega), by simpa using e3, hz⟩
  · obtain ⟨ys, l3, e1, e2, e3, e4⟩ := comp_st (vs := [6]) (tg := .n 6) (e := mCall f__law_take [(mV 0), (mV 1)]) (Env := fun l => [some (.ref (.lst l)), some (.d (.int m)), some (.d (.int n)), some (.d (.int w)), none, none, none])
      (J := fun i l => Pot (N + 2 + i) l) (P := fun _ y => ∃ z : Int, y = .int z ∧ 0 ≤ z ∧ z < m) (intsD 0 n) [] 0 l1 (S1.mono (by omega)) fun x hx i t hi hJ => by
        rw [intsD_len] at hi
        obtain ⟨k, hk, rfl⟩ := mem_intsD hx
        obtain ⟨f, l3, q1, q2, q3⟩ := take_s hJ (by omega) m (by omega) (by omega)
        refine ⟨[some (.ref (.lst t)), some (.d (.int m)), some (.d (.int n)), some (.d (.int w)), none, none, some (.d (.int k))], [some (.ref (.lst l3)), some (.d (.int m)), some (.d (.int n)), some (.d (.int w)), none, none, some (.d (.int k))], .d (.int f), .int f, l3, by simp, by simp [q1], rfl, by simp, q2, ⟨f, rfl, by omega, by omega⟩⟩
    obtain ⟨ws, rfl, hz⟩ := ints_ex (each_of e3 (P := fun y => ∃ z : Int, y = .int z ∧ 0 ≤ z ∧ z < m) e4)
    rw [List.nil_append] at e1
    rw [intsD_len] at e2 e3
    have w0' : ¬ (w : Int) = 0 := by omega
    have w1' : ¬ (w : Int) = 1 := by omega
    exact ⟨ws, l3, by simp [f__law_values, b__law_values, k1', w0', w1', w0, w1, rq, lq, e1], e2.mono (by omega), by simpa using e3, hz⟩
end K29
end

section
set_option autoImplicit false
set_option linter.all false
/-! rows that come round, and rules: a row that ever dies out dies out in as many steps as it has cells -/
namespace RR
def Fs (ts : List (Int × Int)) (w : Int → Int) (j : Int) : Int := (ts.map fun t => t.2 * w (j + t.1)).sum
theorem Fs_cons (t : Int × Int) (ts : List (Int × Int)) (w : Int → Int) (j : Int) : Fs (t :: ts) w j = t.2 * w (j + t.1) + Fs ts w j := by
  simp [Fs]
theorem Fs_nil (w : Int → Int) (j : Int) : Fs [] w j = 0 := rfl
theorem Fs_lin (c : Int) (u v : Int → Int) : ∀ (ts : List (Int × Int)) (j : Int), Fs ts (fun i => c * u i + v i) j = c * Fs ts u j + Fs ts v j
  | [], j => by simp [Fs_nil]
  | t :: ts, j => by
    rw [Fs_cons, Fs_cons, Fs_cons, Fs_lin c u v ts j, Int.mul_add, Int.mul_add]
    have : t.2 * (c * u (j + t.1)) = c * (t.2 * u (j + t.1)) := by rw [← Int.mul_assoc, ← Int.mul_assoc, Int.mul_comm c]
    omega
def Zp (p : Nat) (u : Int → Int) : Prop := ∀ j, (p : Int) ∣ u j
theorem Fs_z {p : Nat} {u : Int → Int} (h : Zp p u) : ∀ ts : List (Int × Int), Zp p (Fs ts u)
  | [], j => by rw [Fs_nil]; exact Int.dvd_zero _
  | t :: ts, j => by
    rw [Fs_cons]
    exact Int.dvd_add (Int.dvd_mul_of_dvd_right (h _)) (Fs_z h ts j)
theorem Fs_congr {p : Nat} {u v : Int → Int} (h : Zp p fun j => u j - v j) (ts : List (Int × Int)) : Zp p fun j => Fs ts u j - Fs ts v j := fun j => by
  have e := Fs_lin (-1) v u ts j
  have z := Fs_z (u := fun i => -1 * v i + u i) (p := p) (fun i => by
    have := h i
    show (p : Int) ∣ -1 * v i + u i
    rw [show -1 * v i + u i = u i - v i by omega]
    exact this) ts j
  rw [e] at z
  show (p : Int) ∣ Fs ts u j - Fs ts v j
  rw [show Fs ts u j - Fs ts v j = -1 * Fs ts v j + Fs ts u j by omega]
  exact z
def itF (ts : List (Int × Int)) : Nat → (Int → Int) → Int → Int
  | 0, w => w
  | k + 1, w => itF ts k (Fs ts w)
theorem itF_F (ts : List (Int × Int)) : ∀ (k : Nat) (w : Int → Int), itF ts k (Fs ts w) = Fs ts (itF ts k w)
  | 0, w => rfl
  | k + 1, w => by
    show itF ts k (Fs ts (Fs ts w)) = Fs ts (itF ts k (Fs ts w))
    rw [itF_F ts k]
theorem itF_lin (ts : List (Int × Int)) (c : Int) : ∀ (k : Nat) (u v : Int → Int), itF ts k (fun i => c * u i + v i) = fun i => c * itF ts k u i + itF ts k v i
  | 0, u, v => rfl
  | k + 1, u, v => by
    have e : Fs ts (fun i => c * u i + v i) = fun i => c * Fs ts u i + Fs ts v i := funext fun j => Fs_lin c u v ts j
    show itF ts k (Fs ts _) = _
    rw [e, itF_lin ts c k]
    rfl
theorem itF_z {p : Nat} (ts : List (Int × Int)) : ∀ (k : Nat) {u : Int → Int}, Zp p u → Zp p (itF ts k u)
  | 0, _, h => h
  | k + 1, _, h => itF_z ts k (Fs_z h ts)
theorem itF_congr {p : Nat} (ts : List (Int × Int)) : ∀ (k : Nat) {u v : Int → Int}, (Zp p fun j => u j - v j) → Zp p fun j => itF ts k u j - itF ts k v j
  | 0, _, _, h => h
  | k + 1, _, _, h => itF_congr ts k (Fs_congr h ts)
/-- the numbers below a power of p as combinations -/
def comb (p : Nat) (ts : List (Int × Int)) : Nat → Nat → (Int → Int) → Int → Int
  | 0, _, _ => fun _ => 0
  | k + 1, N, w => fun j => ((N % p : Nat) : Int) * w j + comb p ts k (N / p) (Fs ts w) j
theorem comb_z {p : Nat} (ts : List (Int × Int)) (m : Nat) : ∀ (k N : Nat) {u : Int → Int}, Zp p (itF ts m u) → Zp p (itF ts m (comb p ts k N u))
  | 0, N, u, _ => itF_z ts m fun _ => Int.dvd_zero _
  | k + 1, N, u, h => fun j => by
    have e : comb p ts (k + 1) N u = fun j => ((N % p : Nat) : Int) * u j + comb p ts k (N / p) (Fs ts u) j := rfl
    rw [e, itF_lin]
    refine Int.dvd_add (Int.dvd_mul_of_dvd_right (h j)) (comb_z ts m k (N / p) ?_ j)
    rw [itF_F]
    exact Fs_z h ts
def Prim (p : Nat) : Prop := 0 < p ∧ ∀ (e x : Int), (p : Int) ∣ e * x → ¬ (p : Int) ∣ e → (p : Int) ∣ x
theorem small_nd {p : Nat} {a b : Nat} (ha : a < p) (hb : b < p) (h : a ≠ b) : ¬ (p : Int) ∣ (a : Int) - b := fun ⟨k, e⟩ => by
  have h1 : (a : Int) - b < p := by omega
  have h2 : -(p : Int) < (a : Int) - b := by omega
  rw [e] at h1 h2
  have hp : (0 : Int) < p := by omega
  have k1 : k < 1 := by
    have : (p : Int) * k < p * 1 := by rw [Int.mul_one]; exact h1
    exact Int.lt_of_mul_lt_mul_left this (Int.le_of_lt hp)
  have k2 : -1 < k := by
    have : (p : Int) * (-1) < p * k := by omega
    exact Int.lt_of_mul_lt_mul_left this (Int.le_of_lt hp)
  have : k = 0 := by omega
  rw [this, Int.mul_zero] at e
  omega
theorem two_combs {p : Nat} (hp : Prim p) (ts : List (Int × Int)) : ∀ (k N M : Nat) (w : Int → Int), N < p ^ (k + 1) → M < p ^ (k + 1) → N ≠ M →
    (Zp p fun j => comb p ts (k + 1) N w j - comb p ts (k + 1) M w j) → Zp p (itF ts (k + 1) w) → Zp p (itF ts k w)
  | 0, N, M, w, hN, hM, ne, hc, _ => fun j => by
    rw [Nat.pow_one] at hN hM
    have h := hc j
    have e1 : comb p ts 1 N w j = ((N % p : Nat) : Int) * w j + 0 := rfl
    have e2 : comb p ts 1 M w j = ((M % p : Nat) : Int) * w j + 0 := rfl
    have h' : (p : Int) ∣ comb p ts 1 N w j - comb p ts 1 M w j := h
    rw [e1, e2, Nat.mod_eq_of_lt hN, Nat.mod_eq_of_lt hM, Int.add_zero, Int.add_zero, ← Int.sub_mul] at h'
    exact hp.2 _ _ h' (small_nd hN hM ne)
  | k + 1, N, M, w, hN, hM, ne, hc, hz => by
    have dN : N / p < p ^ (k + 1) := Nat.div_lt_of_lt_mul (by rw [Nat.mul_comm, ← Nat.pow_succ]; exact hN)
    have dM : M / p < p ^ (k + 1) := Nat.div_lt_of_lt_mul (by rw [Nat.mul_comm, ← Nat.pow_succ]; exact hM)
    have tN := Nat.div_add_mod N p
    have tM := Nat.div_add_mod M p
    by_cases ea : N % p = M % p
    · have ne2 : N / p ≠ M / p := fun z => ne (by rw [← tN, ← tM, z, ea])
      refine two_combs hp ts k (N / p) (M / p) (Fs ts w) dN dM ne2 (fun j => ?_) hz
      have h := hc j
      have h' : (p : Int) ∣ (((N % p : Nat) : Int) * w j + comb p ts (k + 1) (N / p) (Fs ts w) j) - (((M % p : Nat) : Int) * w j + comb p ts (k + 1) (M / p) (Fs ts w) j) := h
      rw [ea] at h'
      show (p : Int) ∣ comb p ts (k + 1) (N / p) (Fs ts w) j - comb p ts (k + 1) (M / p) (Fs ts w) j
      rw [show comb p ts (k + 1) (N / p) (Fs ts w) j - comb p ts (k + 1) (M / p) (Fs ts w) j = (((M % p : Nat) : Int) * w j + comb p ts (k + 1) (N / p) (Fs ts w) j) - (((M % p : Nat) : Int) * w j + comb p ts (k + 1) (M / p) (Fs ts w) j) by omega]
      exact h'
    · have zr : ∀ R : Nat, Zp p (itF ts (k + 1) (comb p ts (k + 1) R (Fs ts w))) := fun R => comb_z ts (k + 1) (k + 1) R (by
        exact hz)
      have hc2 := itF_congr (p := p) ts (k + 1) hc
      intro j
      have e1 : comb p ts (k + 1 + 1) N w = fun j => ((N % p : Nat) : Int) * w j + comb p ts (k + 1) (N / p) (Fs ts w) j := rfl
      have e2 : comb p ts (k + 1 + 1) M w = fun j => ((M % p : Nat) : Int) * w j + comb p ts (k + 1) (M / p) (Fs ts w) j := rfl
      have h := hc2 j
      have h' : (p : Int) ∣ itF ts (k + 1) (comb p ts (k + 1 + 1) N w) j - itF ts (k + 1) (comb p ts (k + 1 + 1) M w) j := h
      rw [e1, e2, itF_lin, itF_lin] at h'
      simp only [] at h'
      have z1 := zr (N / p) j
      have z2 := zr (M / p) j
      refine hp.2 (((N % p : Nat) : Int) - ((M % p : Nat) : Int)) _ ?_ (small_nd (Nat.mod_lt _ hp.1) (Nat.mod_lt _ hp.1) ea)
      rw [Int.sub_mul]
      have := Int.dvd_add (Int.dvd_sub h' z1) z2
      refine (Int.dvd_iff_emod_eq_zero.mpr ?_)
      have h3 := Int.dvd_iff_emod_eq_zero.mp this
      rw [← h3]
      congr 1
      omega
/-! pigeons -/
theorem pigeon : ∀ (m : Nat) (f : Nat → Nat) (n : Nat), m < n → (∀ i, i < n → f i < m) → ∃ i j, i < n ∧ j < n ∧ i ≠ j ∧ f i = f j
  | 0, f, n, hn, h => absurd (h 0 hn) (Nat.not_lt_zero _)
  | m + 1, f, n, hn, h => by
    by_cases q : ∃ i, i < n - 1 ∧ f i = f (n - 1)
    · obtain ⟨i, h1, h2⟩ := q
      exact ⟨i, n - 1, by omega, by omega, by omega, h2⟩
    · have q' : ∀ i, i < n - 1 → f i ≠ f (n - 1) := fun i hi z => q ⟨i, hi, z⟩
      obtain ⟨i, j, h1, h2, h3, h4⟩ := pigeon m (fun i => if f i < f (n - 1) then f i else f i - 1) (n - 1) (by omega) fun i hi => by
        have a := h i (by omega)
        have b := h (n - 1) (by omega)
        have c := q' i hi
        show (if f i < f (n - 1) then f i else f i - 1) < m
        split <;> omega
      refine ⟨i, j, by omega, by omega, h3, ?_⟩
      have a := q' i h1
      have b := q' j h2
      have h4' : (if f i < f (n - 1) then f i else f i - 1) = (if f j < f (n - 1) then f j else f j - 1) := h4
      split at h4' <;> split at h4' <;> omega
/-- the cells from 0 on as a number -/
def enc (p : Nat) : Nat → (Int → Int) → Nat
  | 0, _ => 0
  | n + 1, w => (w 0 % (p : Int)).toNat + p * enc p n (fun j => w (j + 1))
theorem enc_lt {p : Nat} (hp : 0 < p) : ∀ (n : Nat) (w : Int → Int), enc p n w < p ^ n
  | 0, w => Nat.one_pos
  | n + 1, w => by
    have h := enc_lt hp n fun j => w (j + 1)
    have a : (w 0 % (p : Int)).toNat < p := by
      have := Int.emod_lt_of_pos (w 0) (show (0 : Int) < p by omega)
      have := Int.emod_nonneg (w 0) (show (p : Int) ≠ 0 by omega)
      omega
    show (w 0 % (p : Int)).toNat + p * enc p n (fun j => w (j + 1)) < p ^ n * p
    have : p * enc p n (fun j => w (j + 1)) + p ≤ p ^ n * p := by
      rw [Nat.mul_comm (p ^ n), ← Nat.mul_succ]
      exact Nat.mul_le_mul_left _ h
    omega
theorem enc_eq {p : Nat} (hp : 0 < p) : ∀ (n : Nat) (u w : Int → Int), enc p n u = enc p n w → ∀ j : Nat, j < n → (p : Int) ∣ u j - w j
  | 0, u, w, _, j, hj => absurd hj (Nat.not_lt_zero _)
  | n + 1, u, w, h, j, hj => by
    have b : ∀ v : Int → Int, (v 0 % (p : Int)).toNat < p ∧ (((v 0 % (p : Int)).toNat : Nat) : Int) = v 0 % (p : Int) := fun v => by
      have := Int.emod_lt_of_pos (v 0) (show (0 : Int) < p by omega)
      have := Int.emod_nonneg (v 0) (show (p : Int) ≠ 0 by omega)
      omega
    have h' : (u 0 % (p : Int)).toNat + p * enc p n (fun j => u (j + 1)) = (w 0 % (p : Int)).toNat + p * enc p n (fun j => w (j + 1)) := h
    have e1 : (u 0 % (p : Int)).toNat = (w 0 % (p : Int)).toNat := by
      have := congrArg (· % p) h'
      simp only [Nat.add_mul_mod_self_left] at this
      rwa [Nat.mod_eq_of_lt (b u).1, Nat.mod_eq_of_lt (b w).1] at this
    have e2 : enc p n (fun j => u (j + 1)) = enc p n (fun j => w (j + 1)) := by
      rw [e1] at h'
      exact Nat.eq_of_mul_eq_mul_left hp (Nat.add_left_cancel h')
    cases j with
    | zero =>
      have : u 0 % (p : Int) = w 0 % (p : Int) := by rw [← (b u).2, ← (b w).2, e1]
      exact Int.dvd_of_emod_eq_zero (Int.emod_eq_emod_iff_emod_sub_eq_zero.mp this)
    | succ j => exact enc_eq hp n _ _ e2 j (by omega)
/-- w comes round by n -/
def Per (n : Nat) (w : Int → Int) : Prop := ∀ j k : Int, w (j + n * k) = w j
theorem Per.Fs {n : Nat} {w : Int → Int} (h : Per n w) (ts : List (Int × Int)) : Per n (Fs ts w) := fun j k => by
  unfold RR.Fs
  congr 2
  funext t
  rw [show j + n * k + t.1 = (j + t.1) + n * k by omega, h]
theorem Per.comb {n p : Nat} (ts : List (Int × Int)) : ∀ (k N : Nat) {w : Int → Int}, Per n w → Per n (comb p ts k N w)
  | 0, _, _, _ => fun _ _ => rfl
  | k + 1, N, w, h => fun j l => by
    show ((N % p : Nat) : Int) * w (j + n * l) + RR.comb p ts k (N / p) (RR.Fs ts w) (j + n * l) = _
    rw [h, Per.comb ts k (N / p) (h.Fs ts)]
    rfl
/-- a row of n cells that dies out in n + 1 steps dies out in n -/
theorem dies_by {p n : Nat} (hp : Prim p) (h1 : 1 < p) (hn : 0 < n) (ts : List (Int × Int)) {w : Int → Int} (hw : Per n w) (hz : Zp p (itF ts (n + 1) w)) : Zp p (itF ts n w) := by
  obtain ⟨N, M, hN, hM, ne, he⟩ := pigeon (p ^ n) (fun N => enc p n (comb p ts (n + 1) N w)) (p ^ (n + 1)) (Nat.pow_lt_pow_right h1 (Nat.lt_succ_self n)) fun i _ => enc_lt hp.1 n _
  refine two_combs hp ts n N M w hN hM ne (fun j => ?_) hz
  have q := enc_eq hp.1 n _ _ he (j % n).toNat (by
    have := Int.emod_lt_of_pos j (show (0 : Int) < n by omega)
    have := Int.emod_nonneg j (show (n : Int) ≠ 0 by omega)
    omega)
  have e : (((j % n).toNat : Nat) : Int) = j % n := Int.toNat_of_nonneg (Int.emod_nonneg j (by omega))
  rw [e] at q
  have pj : ∀ R : Nat, comb p ts (n + 1) R w j = comb p ts (n + 1) R w (j % n) := fun R => by
    have := Per.comb (p := p) ts (n + 1) R hw (j % n) (j / n)
    rw [Int.emod_add_mul_ediv] at this
    exact this
  show (p : Int) ∣ comb p ts (n + 1) N w j - comb p ts (n + 1) M w j
  rw [pj N, pj M]
  exact q
end RR
end

section
set_option autoImplicit false
set_option linter.all false
namespace RR
/-- the cell at a place, coming round -/
def toF (vs : List Int) (j : Int) : Int := vs.getD (j % vs.length).toNat 0
def stepV (p : Nat) (ts : List (Int × Int)) (vs : List Int) : List Int := (List.range vs.length).map fun (i : Nat) => Fs ts (toF vs) i % (p : Int)
theorem stepV_len {p : Nat} {ts : List (Int × Int)} {vs : List Int} : (stepV p ts vs).length = vs.length := by
  unfold stepV
  rw [List.length_map, List.length_range]
theorem toF_per (vs : List Int) : Per vs.length (toF vs) := fun j k => by
  unfold toF
  rw [Int.add_mul_emod_self_left]
theorem toF_nat {vs : List Int} {i : Nat} (h : i < vs.length) : toF vs i = vs[i] := by
  unfold toF
  rw [Int.emod_eq_of_lt (by omega) (by omega), Int.toNat_natCast, List.getD_eq_getElem?_getD, List.getElem?_eq_getElem h] <;> rfl
theorem rest_lt {n : Nat} (j : Int) (h : 0 < n) : (j % n).toNat < n ∧ (((j % n).toNat : Nat) : Int) = j % n := by
  have := Int.emod_lt_of_pos j (show (0 : Int) < n by omega)
  have := Int.emod_nonneg j (show (n : Int) ≠ 0 by omega)
  omega
theorem per_rest {n : Nat} {w : Int → Int} (h : Per n w) (j : Int) : w (j % n) = w j := by
  have := h (j % n) (j / n)
  rw [Int.emod_add_mul_ediv] at this
  exact this.symm
theorem toF_step {p : Nat} {ts : List (Int × Int)} {vs : List Int} (h : 0 < vs.length) (j : Int) : toF (stepV p ts vs) j = Fs ts (toF vs) j % (p : Int) := by
  obtain ⟨h1, h2⟩ := rest_lt j h
  have e : toF (stepV p ts vs) j = (stepV p ts vs).getD (j % vs.length).toNat 0 := by
    unfold toF
    rw [stepV_len]
  rw [e, List.getD_eq_getElem?_getD]
  unfold stepV
  rw [List.getElem?_map, List.getElem?_range h1]
  show Fs ts (toF vs) (((j % vs.length).toNat : Nat) : Int) % (p : Int) = _
  rw [h2, per_rest ((toF_per vs).Fs ts)]
/-- all is 0 -/
def zero (vs : List Int) : Bool := vs.all fun z => z == 0
theorem zero_iff {vs : List Int} (h : 0 < vs.length) : zero vs = true ↔ ∀ j, toF vs j = 0 := by
  unfold zero
  rw [List.all_eq_true]
  constructor
  · intro q j
    unfold toF
    obtain ⟨h1, _⟩ := rest_lt j h
    rw [List.getD_eq_getElem?_getD, List.getElem?_eq_getElem h1]
    exact eq_of_beq (q _ (List.getElem_mem h1))
  · intro q z hz
    obtain ⟨i, hi, e⟩ := List.getElem_of_mem hz
    rw [← e, ← toF_nat hi, q]
    rfl
def due {S : Type} (z : S → Bool) (f : S → S) : Nat → Nat → S → Option Nat
  | 0, _, _ => none
  | k + 1, t, v => if z v = true then some t else due z f k (t + 1) (f v)
def it {S : Type} (f : S → S) : Nat → S → S
  | 0, v => v
  | k + 1, v => it f k (f v)
theorem it_f {S : Type} (f : S → S) : ∀ (k : Nat) (v : S), it f k (f v) = f (it f k v)
  | 0, _ => rfl
  | k + 1, v => it_f f k (f v)
section
variable {S : Type} {z : S → Bool} {f : S → S}
theorem due_t : ∀ (k t : Nat) (v : S), due z f k (t + 1) v = (due z f k t v).map (· + 1)
  | 0, _, _ => rfl
  | k + 1, t, v => by
    unfold due
    split
    · rfl
    · exact due_t k (t + 1) (f v)
theorem due_rel {R : S → S → Prop} (hz : ∀ v w, R v w → z v = z w) (hf : ∀ v w, R v w → R (f v) (f w)) : ∀ (k t : Nat) (v w : S), R v w → due z f k t v = due z f k t w
  | 0, _, _, _, _ => rfl
  | k + 1, t, v, w, h => by
    unfold due
    rw [hz v w h, due_rel hz hf k (t + 1) _ _ (hf v w h)]
theorem due_more : ∀ (k t : Nat) (v : S), due z f (k + 1) t v = match due z f k t v with
    | some s => some s
    | none => if z (it f k v) = true then some (t + k) else none
  | 0, t, v => by
    show (if z v = true then some t else none) = _
    rfl
  | k + 1, t, v => by
    unfold due
    by_cases h : z v = true
    · rw [if_pos h, if_pos h]
    · rw [if_neg h, if_neg h, due_more k (t + 1) (f v)]
      have e : t + 1 + k = t + (k + 1) := by omega
      rw [e]
      rfl
/-- one step later -/
theorem due_step (k : Nat) (v : S) (h0 : z v = true → z (f v) = true) (hn : z (it f (k + 1) v) = true → z (it f k v) = true) :
    due z f (k + 1) 0 (f v) = match due z f (k + 1) 0 v with
      | none => none
      | some 0 => some 0
      | some (t + 1) => some t := by
  by_cases h : z v = true
  · have e1 : due z f (k + 1) 0 v = some 0 := by
      unfold due
      rw [if_pos h]
    have e2 : due z f (k + 1) 0 (f v) = some 0 := by
      unfold due
      rw [if_pos (h0 h)]
    rw [e1, e2]
  · have e1 : due z f (k + 1) 0 v = (due z f k 0 (f v)).map (· + 1) := by
      rw [due, if_neg h, due_t]
    rw [e1, due_more]
    cases e : due z f k 0 (f v) with
    | some s => rfl
    | none =>
      show (if z (it f k (f v)) = true then some (0 + k) else none) = none
      rw [if_neg]
      intro q
      have q2 := hn q
      cases k with
      | zero => exact h q2
      | succ m =>
        have e3 : due z f (m + 1) 0 (f v) ≠ none := by
          rw [due_more]
          cases due z f m 0 (f v) with
          | some s => exact fun z => nomatch z
          | none =>
            show (if z (it f m (f v)) = true then some (0 + m) else none) ≠ none
            rw [if_pos (show z (it f m (f v)) = true from q2)]
            exact fun z => nomatch z
        exact e3 e
end
/-! steps of lists and of functions -/
theorem it_len {p : Nat} {ts : List (Int × Int)} : ∀ (k : Nat) (vs : List Int), (it (stepV p ts) k vs).length = vs.length
  | 0, _ => rfl
  | k + 1, vs => by
    show (it (stepV p ts) k (stepV p ts vs)).length = _
    rw [it_len k, stepV_len]
theorem dvd_emod {p : Nat} (x : Int) : (p : Int) ∣ x % p - x := by
  refine Int.dvd_of_emod_eq_zero (Int.emod_eq_emod_iff_emod_sub_eq_zero.mp ?_)
  rw [Int.emod_emod]
theorem it_cong {p : Nat} {ts : List (Int × Int)} : ∀ (k : Nat) (vs : List Int), 0 < vs.length → Zp p fun j => toF (it (stepV p ts) k vs) j - itF ts k (toF vs) j
  | 0, vs, _ => fun j => by
    show (p : Int) ∣ toF vs j - toF vs j
    rw [Int.sub_self]
    exact Int.dvd_zero _
  | k + 1, vs, h => fun j => by
    have a := it_cong (p := p) (ts := ts) k (stepV p ts vs) (by rw [stepV_len]; exact h) j
    have b := itF_congr (p := p) ts k (u := toF (stepV p ts vs)) (v := Fs ts (toF vs)) (fun j => by
      show (p : Int) ∣ toF (stepV p ts vs) j - Fs ts (toF vs) j
      rw [toF_step h]
      exact dvd_emod _) j
    have c := Int.dvd_add a b
    show (p : Int) ∣ toF (it (stepV p ts) k (stepV p ts vs)) j - itF ts k (Fs ts (toF vs)) j
    have e : toF (it (stepV p ts) k (stepV p ts vs)) j - itF ts k (Fs ts (toF vs)) j = (toF (it (stepV p ts) k (stepV p ts vs)) j - itF ts k (toF (stepV p ts vs)) j) + (itF ts k (toF (stepV p ts vs)) j - itF ts k (Fs ts (toF vs)) j) := by omega
    rw [e]
    exact c
def Cl (p : Nat) (zs : List Int) : Prop := ∀ z ∈ zs, 0 ≤ z ∧ z < p
theorem cl_step {p : Nat} {ts : List (Int × Int)} {vs : List Int} (hp : 0 < p) : Cl p (stepV p ts vs) := fun z hz => by
  unfold stepV at hz
  obtain ⟨i, _, rfl⟩ := List.mem_map.mp hz
  exact ⟨Int.emod_nonneg _ (by omega), Int.emod_lt_of_pos _ (by omega)⟩
theorem cl_it {p : Nat} {ts : List (Int × Int)} (hp : 0 < p) : ∀ (k : Nat) (vs : List Int), Cl p vs → Cl p (it (stepV p ts) k vs)
  | 0, _, h => h
  | k + 1, _, _ => cl_it hp k _ (cl_step hp)
theorem toF_cl {p : Nat} {vs : List Int} (h : Cl p vs) (hl : 0 < vs.length) (j : Int) : 0 ≤ toF vs j ∧ toF vs j < p := by
  obtain ⟨h1, _⟩ := rest_lt j hl
  unfold toF
  rw [List.getD_eq_getElem?_getD, List.getElem?_eq_getElem h1]
  exact h _ (List.getElem_mem h1)
theorem zero_z {p : Nat} {vs : List Int} (h : Cl p vs) (hl : 0 < vs.length) : zero vs = true ↔ Zp p (toF vs) := by
  rw [zero_iff hl]
  constructor
  · intro q j
    rw [q j]
    exact Int.dvd_zero _
  · intro q j
    have := toF_cl h hl j
    have e := Int.emod_eq_zero_of_dvd (q j)
    rwa [Int.emod_eq_of_lt this.1 this.2] at e
theorem Zp.trans_sub {p : Nat} {u v : Int → Int} (h : Zp p fun j => u j - v j) (hv : Zp p v) : Zp p u := fun j => by
  have := Int.dvd_add (h j) (hv j)
  rw [show u j - v j + v j = u j by omega] at this
  exact this
theorem Zp.sub_symm {p : Nat} {u v : Int → Int} (h : Zp p fun j => u j - v j) : Zp p fun j => v j - u j := fun j => by
  have := Int.dvd_neg.mpr (h j)
  rw [show -(u j - v j) = v j - u j by omega] at this
  exact this
/-- dies_in of one step further -/
theorem due_one {p : Nat} (hp : Prim p) (h1 : 1 < p) (ts : List (Int × Int)) {vs : List Int} (hc : Cl p vs) (hl : 0 < vs.length) :
    due zero (stepV p ts) (vs.length + 1) 0 (stepV p ts vs) = match due zero (stepV p ts) (vs.length + 1) 0 vs with
      | none => none
      | some 0 => some 0
      | some (t + 1) => some t := by
  refine due_step vs.length vs (fun q => ?_) fun q => ?_
  · rw [zero_z (cl_step hp.1) (by rw [stepV_len]; exact hl)]
    have z := Fs_z ((zero_z hc hl).mp q) ts
    refine Zp.trans_sub (v := Fs ts (toF vs)) (fun j => ?_) z
    show (p : Int) ∣ toF (stepV p ts vs) j - Fs ts (toF vs) j
    rw [toF_step hl]
    exact dvd_emod _
  · have l1 : 0 < (it (stepV p ts) (vs.length + 1) vs).length := by rw [it_len]; exact hl
    have l2 : 0 < (it (stepV p ts) vs.length vs).length := by rw [it_len]; exact hl
    have z1 := (zero_z (cl_it hp.1 _ _ hc) l1).mp q
    have z2 := Zp.trans_sub (Zp.sub_symm (it_cong (p := p) (ts := ts) (vs.length + 1) vs hl)) z1
    have z3 := dies_by hp h1 hl ts (toF_per vs) z2
    exact (zero_z (cl_it hp.1 _ _ hc) l2).mpr (Zp.trans_sub (it_cong vs.length vs hl) z3)
/-- moved round and multiplied -/
def Mv (p : Nat) (b c : Int) (v w : List Int) : Prop := w.length = v.length ∧ 0 < v.length ∧ Cl p v ∧ Cl p w ∧ ∀ j, (p : Int) ∣ toF w j - c * toF v (j + b)
theorem Fs_shift (ts : List (Int × Int)) (w : Int → Int) (b : Int) : ∀ j, Fs ts (fun i => w (i + b)) j = Fs ts w (j + b) := fun j => by
  unfold Fs
  congr 2
  funext t
  show t.2 * w (j + t.1 + b) = _
  rw [show j + t.1 + b = j + b + t.1 by omega]
theorem mv_zero {p : Nat} (hp : Prim p) {b c : Int} (hc : ¬ (p : Int) ∣ c) {v w : List Int} (h : Mv p b c v w) : zero v = zero w := by
  obtain ⟨h1, h2, h3, h4, h5⟩ := h
  have hw : 0 < w.length := by rw [h1]; exact h2
  rw [Bool.eq_iff_iff, zero_z h3 h2, zero_z h4 hw]
  constructor
  · intro q j
    have := Int.dvd_add (h5 j) (show (p : Int) ∣ c * toF v (j + b) from Int.dvd_mul_of_dvd_right (q (j + b)))
    rw [show toF w j - c * toF v (j + b) + c * toF v (j + b) = toF w j by omega] at this
    exact this
  · intro q j
    have a := h5 (j - b)
    rw [show j - b + b = j by omega] at a
    have := Int.dvd_sub (q (j - b)) a
    rw [show toF w (j - b) - (toF w (j - b) - c * toF v j) = c * toF v j by omega] at this
    exact hp.2 _ _ this hc
theorem mv_step {p : Nat} (hp : Prim p) (ts : List (Int × Int)) {b c : Int} {v w : List Int} (h : Mv p b c v w) : Mv p b c (stepV p ts v) (stepV p ts w) := by
  obtain ⟨h1, h2, h3, h4, h5⟩ := h
  have hw : 0 < w.length := by rw [h1]; exact h2
  refine ⟨by rw [stepV_len, stepV_len, h1], by rw [stepV_len]; exact h2, cl_step hp.1, cl_step hp.1, fun j => ?_⟩
  rw [toF_step hw, toF_step h2]
  have a := Fs_congr (p := p) (u := toF w) (v := fun j => c * toF v (j + b)) h5 ts j
  have e : Fs ts (fun j => c * toF v (j + b)) j = c * Fs ts (toF v) (j + b) := by
    have := Fs_lin c (fun j => toF v (j + b)) (fun _ => 0) ts j
    have z : Fs ts (fun _ => 0) j = 0 := by
      clear this a
      induction ts with
      | nil => rfl
      | cons t ts ih => rw [Fs_cons, ih]; simp
    rw [z, Fs_shift] at this
    simpa using this
  have a' : (p : Int) ∣ Fs ts (toF w) j - Fs ts (fun j => c * toF v (j + b)) j := a
  rw [e] at a'
  have d1 := dvd_emod (p := p) (Fs ts (toF w) j)
  have d2 : (p : Int) ∣ c * (Fs ts (toF v) (j + b) % p - Fs ts (toF v) (j + b)) := Int.dvd_mul_of_dvd_right (dvd_emod (p := p) (Fs ts (toF v) (j + b)))
  rw [Int.mul_sub] at d2
  have := Int.dvd_sub (Int.dvd_add d1 a') d2
  rw [show Fs ts (toF w) j % (p : Int) - c * (Fs ts (toF v) (j + b) % (p : Int)) = Fs ts (toF w) j % (p : Int) - Fs ts (toF w) j + (Fs ts (toF w) j - c * Fs ts (toF v) (j + b)) - (c * (Fs ts (toF v) (j + b) % (p : Int)) - c * Fs ts (toF v) (j + b)) by omega]
  exact this
theorem due_mv {p : Nat} (hp : Prim p) (ts : List (Int × Int)) {b c : Int} (hc : ¬ (p : Int) ∣ c) {v w : List Int} (h : Mv p b c v w) (k : Nat) : due zero (stepV p ts) k 0 w = due zero (stepV p ts) k 0 v :=
  (due_rel (R := Mv p b c) (fun _ _ q => mv_zero hp hc q) (fun _ _ q => mv_step hp ts q) k 0 v w h).symm
end RR
end

section
set_option autoImplicit false
set_option linter.all false
/-! a step turned about: the sums of weights with the rows that single cells become -/
namespace RR
def dot (ws vs : List Int) : Int := (List.zipWith (fun a b => a * b) ws vs).sum
def neg (ts : List (Int × Int)) : List (Int × Int) := ts.map fun t => (-t.1, t.2)
def sumN (n : Nat) (f : Nat → Int) : Int := ((List.range n).map f).sum
theorem sum_app (xs ys : List Int) : (xs ++ ys).sum = xs.sum + ys.sum := by
  induction xs with
  | nil => simp
  | cons x xs ih => simp [ih]; omega
theorem sumN_succ (n : Nat) (f : Nat → Int) : sumN (n + 1) f = sumN n f + f n := by
  unfold sumN
  rw [List.range_succ, List.map_append, sum_app]
  simp
theorem sumN_add (f g : Nat → Int) : ∀ n, sumN n (fun i => f i + g i) = sumN n f + sumN n g
  | 0 => rfl
  | n + 1 => by rw [sumN_succ, sumN_succ, sumN_succ, sumN_add f g n]; omega
theorem sumN_mul (c : Int) (f : Nat → Int) : ∀ n, sumN n (fun i => c * f i) = c * sumN n f
  | 0 => by simp [sumN]
  | n + 1 => by rw [sumN_succ, sumN_succ, sumN_mul c f n, Int.mul_add]
theorem sumN_congr {f g : Nat → Int} : ∀ n, (∀ i, i < n → f i = g i) → sumN n f = sumN n g
  | 0, _ => rfl
  | n + 1, h => by rw [sumN_succ, sumN_succ, sumN_congr n fun i hi => h i (by omega), h n (by omega)]
theorem sumN_zero : ∀ n, sumN n (fun _ => 0) = 0
  | 0 => rfl
  | n + 1 => by rw [sumN_succ, sumN_zero n] <;> rfl
theorem sumN_one (f : Nat → Int) (j : Nat) : ∀ n, sumN n (fun i => if i = j then f i else 0) = if j < n then f j else 0
  | 0 => rfl
  | n + 1 => by
    rw [sumN_succ, sumN_one f j n]
    by_cases h : n = j
    · subst h
      rw [if_neg (by omega), if_pos rfl, if_pos (by omega)]
      omega
    · rw [if_neg h]
      by_cases h2 : j < n
      · rw [if_pos h2, if_pos (by omega)]; omega
      · rw [if_neg h2, if_neg (by omega)]; rfl
theorem sumN_dvd {p : Int} {f g : Nat → Int} : ∀ n, (∀ i, i < n → p ∣ f i - g i) → p ∣ sumN n f - sumN n g
  | 0, _ => by simp [sumN]
  | n + 1, h => by
    rw [sumN_succ, sumN_succ, show sumN n f + f n - (sumN n g + g n) = (sumN n f - sumN n g) + (f n - g n) by omega]
    exact Int.dvd_add (sumN_dvd n fun i hi => h i (by omega)) (h n (by omega))
theorem dot_range {ws : List Int} (g : Nat → Int) : dot ws ((List.range ws.length).map g) = sumN ws.length fun i => ws.getD i 0 * g i := by
  unfold dot sumN
  congr 1
  apply List.ext_getElem
  · simp
  · intro i h1 h2
    simp at h1
    simp [List.getElem?_eq_getElem h1]
/-- the cell at alone -/
def one (n at_ : Nat) : List Int := (List.range n).map fun i => if i = at_ then 1 else 0
theorem one_len (n at_ : Nat) : (one n at_).length = n := by unfold one; simp
theorem one_at {n at_ : Nat} (h : at_ < n) (k : Int) : toF (one n at_) k = if (k % n).toNat = at_ then 1 else 0 := by
  obtain ⟨h1, h2⟩ := rest_lt (n := n) k (by omega)
  unfold toF
  rw [one_len]
  unfold one
  rw [List.getD_eq_getElem?_getD, List.getElem?_map, List.getElem?_range h1] <;> rfl
theorem pick_one {ws : List Int} {n at_ : Nat} (hn : ws.length = n) (h : at_ < n) (o : Int) : sumN n (fun i => ws.getD i 0 * toF (one n at_) (i + o)) = toF ws (at_ - o) := by
  obtain ⟨h1, h2⟩ := rest_lt (n := n) ((at_ : Int) - o) (by omega)
  have key : ∀ i, i < n → ws.getD i 0 * toF (one n at_) ((i : Int) + o) = if i = (((at_ : Int) - o) % n).toNat then ws.getD i 0 else 0 := fun i hi => by
    rw [one_at h]
    have e : ((((i : Int) + o) % n).toNat = at_) ↔ (i = (((at_ : Int) - o) % n).toNat) := by
      obtain ⟨g1, g2⟩ := rest_lt (n := n) ((i : Int) + o) (by omega)
      have m1 := Int.emod_add_mul_ediv ((i : Int) + o) n
      have m2 := Int.emod_add_mul_ediv ((at_ : Int) - o) n
      constructor
      · intro e
        have e' : ((i : Int) + o) % n = at_ := by rw [← g2, e]
        have : ((at_ : Int) - o) % n = i := by
          have d : (at_ : Int) - o = i - n * (((i : Int) + o) / n) := by omega
          rw [d, Int.sub_mul_emod_self_left]
          exact Int.emod_eq_of_lt (by omega) (by omega)
        omega
      · intro e
        have e' : ((at_ : Int) - o) % n = i := by rw [← h2, ← e]
        have : ((i : Int) + o) % n = at_ := by
          have d : (i : Int) + o = at_ - n * (((at_ : Int) - o) / n) := by omega
          rw [d, Int.sub_mul_emod_self_left]
          exact Int.emod_eq_of_lt (by omega) (by omega)
        omega
    by_cases q : i = (((at_ : Int) - o) % n).toNat
    · rw [if_pos q, if_pos (e.mpr q), Int.mul_one]
    · rw [if_neg q, if_neg fun z => q (e.mp z), Int.mul_zero]
  rw [sumN_congr n key, sumN_one (fun i => ws.getD i 0) _ n, if_pos h1]
  unfold toF
  rw [hn]
theorem turned {ws : List Int} {n at_ : Nat} (hn : ws.length = n) (h : at_ < n) : ∀ ts : List (Int × Int), sumN n (fun i => ws.getD i 0 * Fs ts (toF (one n at_)) i) = Fs (neg ts) (toF ws) at_
  | [] => by
    have : (fun i : Nat => ws.getD i 0 * Fs [] (toF (one n at_)) i) = fun _ => 0 := by
      funext i
      rw [Fs_nil, Int.mul_zero]
    rw [this, sumN_zero]
    rfl
  | t :: ts => by
    have ih := turned hn h ts
    have : (fun i : Nat => ws.getD i 0 * Fs (t :: ts) (toF (one n at_)) i) = fun i : Nat => t.2 * (ws.getD i 0 * toF (one n at_) (i + t.1)) + ws.getD i 0 * Fs ts (toF (one n at_)) i := by
      funext i
      rw [Fs_cons, Int.mul_add, Int.mul_left_comm]
    rw [this, sumN_add, sumN_mul, pick_one hn h, ih]
    show _ = Fs ((-t.1, t.2) :: neg ts) _ _
    rw [Fs_cons, show ((at_ : Nat) : Int) - t.1 = (at_ : Int) + -t.1 by omega]
/-- by a prime of the modulus -/
theorem turned_mod {p m n at_ : Nat} (hd : p ∣ m) {ws : List Int} (hn : ws.length = n) (h : at_ < n) (ts : List (Int × Int)) :
    dot ws ((List.range n).map fun (i : Nat) => Fs ts (toF (one n at_)) i % (m : Int)) % (p : Int) = Fs (neg ts) (toF ws) at_ % (p : Int) := by
  rw [← turned hn h ts, ← hn, dot_range]
  refine Int.emod_eq_emod_iff_emod_sub_eq_zero.mpr (Int.emod_eq_zero_of_dvd (sumN_dvd _ fun i hi => ?_))
  rw [← Int.mul_sub]
  refine Int.dvd_mul_of_dvd_right ?_
  have h1 : (m : Int) ∣ Fs ts (toF (one ws.length at_)) i % (m : Int) - Fs ts (toF (one ws.length at_)) i := by
    refine Int.dvd_of_emod_eq_zero (Int.emod_eq_emod_iff_emod_sub_eq_zero.mp ?_)
    rw [Int.emod_emod]
  exact Int.dvd_trans (Int.natCast_dvd_natCast.mpr hd) h1
end RR
end

section
set_option autoImplicit false
set_option maxRecDepth 100000
set_option linter.all false
namespace K29
open PySem PySem.Spec L2 MP
abbrev vD (vs : List Int) : D := .tuple (vs.map PyData.int)
structure Row (m : Nat) (vs : List Int) : Prop where
  cs : Cs m vs
  lo : 1 ≤ vs.length
  hi : vs.length ≤ 60
theorem row_ok {m : Nat} (hm : m ∈ tenN) {vs : List Int} (h : Row m vs) : roundT (.tuple [.int m, vD vs]) = true := by
  have t1 : tens.contains (m : Int) = true := by
    have : ∀ p ∈ tenN, tens.contains (p : Int) = true := by decide
    exact this m hm
  show (tens.contains (m : Int) && !(vs.map PyData.int).isEmpty && (vs.map PyData.int).all (cellOk m)) = true
  rw [t1]
  have e : (vs.map PyData.int).isEmpty = false := by
    cases vs with
    | nil => exact absurd h.lo (by decide)
    | cons _ _ => rfl
  rw [e]
  show (List.all _ _) = true
  rw [List.all_eq_true]
  intro x hx
  obtain ⟨z, hz, rfl⟩ := List.mem_map.mp hx
  have := h.cs z hz
  show (decide (0 ≤ z) && decide (z < (m : Int))) = true
  rw [decide_eq_true this.1, decide_eq_true this.2] <;> rfl
theorem rule_len {m : Nat} {ts : List (Int × Int)} (h : Rule m ts) : lenOk (rD m ts) := by
  have := h.le
  refine ⟨by rw [List.length_map]; omega, fun y hy => ?_⟩
  obtain ⟨t, _, rfl⟩ := List.mem_map.mp hy
  trivial
theorem row_len {m : Nat} {vs : List Int} (h : Row m vs) : lenOk (.tuple [.int m, vD vs]) := by
  have := h.hi
  refine ⟨by rw [List.length_map]; omega, fun y hy => ?_⟩
  obtain ⟨t, _, rfl⟩ := List.mem_map.mp hy
  trivial
theorem need_rule_s {m : Nat} {ts : List (Int × Int)} (h : Rule m ts) : f_need_rule [.d (rD m ts)] = .ok (.d .none) [] := by
  simp [f_need_rule, b_need_rule, a_rule_s _ (rule_len h), h.ok]
theorem need_round_s {m : Nat} (hm : m ∈ tenN) {vs : List Int} (h : Row m vs) : f_need_round [.d (.tuple [.int m, vD vs])] = .ok (.d .none) [] := by
  simp [f_need_round, b_need_round, a_round_s _ (row_len h), row_ok hm h]
theorem need_both_s {m : Nat} (hm : m ∈ tenN) {ts : List (Int × Int)} (hR : Rule m ts) {vs : List Int} (h : Row m vs) : f_need_both [.d (rD m ts), .d (.tuple [.int m, vD vs])] = .ok (.d .none) [] := by
  have h1 := need_rule_s hR
  have h2 := need_round_s hm h
  have h3 : f_need_same [.d (rD m ts), .d (.tuple [.int m, vD vs])] = .ok (.d .none) [] := by simp [f_need_same, b_need_same]
  generalize rD m ts = R at h1 h3
  generalize vD vs = V at h2 h3
  simp [f_need_both, b_need_both, h1, h2, h3]
/-! a step -/
structure Fac (ts : List (Int × Int)) : Prop where
  le : ts.length ≤ 9
  fac : ∀ t ∈ ts, 0 ≤ t.2 ∧ t.2 < 1000
theorem Rule.f {m : Nat} (hm : m ∈ tenN) {ts : List (Int × Int)} (h : Rule m ts) : Fac ts := ⟨h.le, fun t ht => by have := h.fac t ht; have := ten_le hm; omega⟩
theorem Fac.neg {ts : List (Int × Int)} (h : Fac ts) : Fac (RR.neg ts) := by
  refine ⟨?_, fun t ht => ?_⟩
  · have := h.le
    unfold RR.neg
    rw [List.length_map]
    exact this
  · unfold RR.neg at ht
    obtain ⟨u, hu, rfl⟩ := List.mem_map.mp ht
    exact h.fac u hu
def prodT (vs : List Int) (k : Int) : D → Int
  | .tuple [.int o, .int f] => f * RR.toF vs (k + o)
  | _ => 0
theorem prods (vs : List Int) (k : Int) (ts : List (Int × Int)) : ((ts.map tp).map fun x => PyData.int (prodT vs k x)) = (ts.map fun t => t.2 * RR.toF vs (k + t.1)).map PyData.int := by
  rw [List.map_map, List.map_map]
  rfl
theorem at_mod {vs : List Int} (h : 1 ≤ vs.length) (j : Int) : bMod (.int j) (.int (vs.length : Nat)) = some (.d (.int (((j % vs.length).toNat : Nat) : Int))) ∧ atD (vs.map PyData.int) (((j % vs.length).toNat : Nat) : Int) = some (.int (RR.toF vs j)) := by
  obtain ⟨h1, h2⟩ := RR.rest_lt (n := vs.length) j (by omega)
  refine ⟨by rw [mod_p (by omega), h2], ?_⟩
  rw [at_ints h1]
  unfold RR.toF
  rw [List.getD_eq_getElem?_getD, List.getElem?_eq_getElem h1] <;> rfl
theorem comp1 {ts : List (Int × Int)} (hR : Fac ts) {vs : List Int} (hv : 1 ≤ vs.length) (k : Nat) (ρ1 ρ2 ρ4 : Option SV) :
    compGo [6, 7] (.t [(.n 6), (.n 7)]) mYes (m2 bMulI (mV 7) (m2 bIdx (mV 0) (m2 bMod (m2 bAdd (mV 5) (mV 6)) (mV 3)))) (ts.map tp) [] [some (.d (vD vs)), ρ1, ρ2, some (.d (.int (vs.length : Nat))), ρ4, some (.d (.int k)), none, none] =
      .ok (.own (.lst ((ts.map fun t => t.2 * RR.toF vs (k + t.1)).map PyData.int))) [some (.d (vD vs)), ρ1, ρ2, some (.d (.int (vs.length : Nat))), ρ4, some (.d (.int k)), none, none] := by
  rw [← prods]
  refine comp_pure fun x hx => ?_
  obtain ⟨t, ht, rfl⟩ := List.mem_map.mp hx
  have hf := hR.fac t ht
  obtain ⟨m1, m2⟩ := at_mod hv ((k : Int) + t.1)
  have mm : bMulI (.int t.2) (.int (RR.toF vs (k + t.1))) = some (.d (.int (t.2 * RR.toF vs (k + t.1)))) := mul_small (by omega) (by omega)
  generalize (((((k : Int) + t.1) % vs.length).toNat : Nat) : Int) = w at m1 m2
  generalize hq : RR.toF vs (k + t.1) = q at m2 mm
  refine ⟨[some (.d (vD vs)), ρ1, ρ2, some (.d (.int (vs.length : Nat))), ρ4, some (.d (.int k)), some (.d (.int t.1)), some (.d (.int t.2))], .d (.int (t.2 * q)), by simp [tp], ?_, by rw [← hq] <;> rfl, by simp⟩
  simp [m1, m2, mm]
theorem comp2 {ts : List (Int × Int)} (hR : Fac ts) {vs : List Int} (hv : 1 ≤ vs.length) (k : Nat) (ρ0 ρ3 : Option SV) :
    compGo [5, 6] (.t [(.n 5), (.n 6)]) mYes (m2 bMulI (mV 6) (m2 bIdx (mV 1) (m2 bMod (mB gInt [(m2 bAdd (mV 4) (mV 5))]) (mV 2)))) (ts.map tp) [] [ρ0, some (.d (vD vs)), some (.d (.int (vs.length : Nat))), ρ3, some (.d (.int k)), none, none] =
      .ok (.own (.lst ((ts.map fun t => t.2 * RR.toF vs (k + t.1)).map PyData.int))) [ρ0, some (.d (vD vs)), some (.d (.int (vs.length : Nat))), ρ3, some (.d (.int k)), none, none] := by
  rw [← prods]
  refine comp_pure fun x hx => ?_
  obtain ⟨t, ht, rfl⟩ := List.mem_map.mp hx
  have hf := hR.fac t ht
  obtain ⟨m1, m2⟩ := at_mod hv ((k : Int) + t.1)
  have mm : bMulI (.int t.2) (.int (RR.toF vs (k + t.1))) = some (.d (.int (t.2 * RR.toF vs (k + t.1)))) := mul_small (by omega) (by omega)
  generalize (((((k : Int) + t.1) % vs.length).toNat : Nat) : Int) = w at m1 m2
  generalize hq : RR.toF vs (k + t.1) = q at m2 mm
  refine ⟨[ρ0, some (.d (vD vs)), some (.d (.int (vs.length : Nat))), ρ3, some (.d (.int k)), some (.d (.int t.1)), some (.d (.int t.2))], .d (.int (t.2 * q)), by simp [tp], ?_, by rw [← hq] <;> rfl, by simp⟩
  simp [m1, m2, mm]
def upTo (p : Nat) (ts : List (Int × Int)) (vs : List Int) (k : Nat) : List Int := (List.range k).map fun (i : Nat) => RR.Fs ts (RR.toF vs) i % (p : Int)
theorem upTo_succ {p : Nat} {ts : List (Int × Int)} {vs : List Int} {k : Nat} : (upTo p ts vs (k + 1)).map PyData.int = (upTo p ts vs k).map PyData.int ++ [.int (RR.Fs ts (RR.toF vs) k % (p : Int))] := by
  unfold upTo
  rw [List.range_succ, List.map_append, List.map_append]
  rfl
theorem upTo_len {p : Nat} {ts : List (Int × Int)} {vs : List Int} {k : Nat} : (upTo p ts vs k).length = k := by
  unfold upTo
  rw [List.length_map, List.length_range]
theorem ints_at {n k : Nat} {x : D} (hk : (intsD 0 n)[k]? = some x) : x = .int (k : Nat) ∧ k < n := by
  have hkl := (List.getElem?_eq_some_iff.mp hk).1
  rw [intsD_len] at hkl
  refine ⟨?_, hkl⟩
  unfold intsD at hk
  rw [List.getElem?_map, List.getElem?_range hkl] at hk
  have := Option.some.inj hk
  rw [← this]
  show PyData.int (0 + (k : Int)) = _
  rw [Int.zero_add]
theorem stepped_s {p : Nat} (hp : 0 < p) {ts : List (Int × Int)} (hR : Fac ts) {vs : List Int} (lo : 1 ≤ vs.length) (hi : vs.length ≤ 60) :
    f_stepped [.d (vD vs), .d (.list (ts.map tp)), .d (.int p)] = .ok (.own (.lst ((RR.stepV p ts vs).map PyData.int))) [] := by
  have tl := hR.le
  have tl2 : ts.length ≤ 16777216 := by omega
  obtain ⟨ρ', h1, p5, rfl, h2⟩ := for_at (tg := .n 5) (b := lb_stepped_0) (J := fun k ρ => ∃ p5 : Option SV, ρ = [some (.d (vD vs)), some (.d (.list (ts.map tp))), some (.d (.int p)), some (.d (.int (vs.length : Nat))), some (.own (.lst ((upTo p ts vs k).map PyData.int))), p5, none, none] ∧ OptD p5)
    (intsD 0 vs.length) 0 [some (.d (vD vs)), some (.d (.list (ts.map tp))), some (.d (.int p)), some (.d (.int (vs.length : Nat))), some (.own (.lst [])), none, none, none] ⟨none, rfl, .inl rfl⟩ fun k x ρ hk hJ => by
      rw [Nat.zero_add] at hJ ⊢
      obtain ⟨p5, rfl, hO⟩ := hJ
      obtain ⟨rfl, hkl⟩ := ints_at hk
      have hs := ints_id (ts.map fun t => t.2 * RR.toF vs ((k : Int) + t.1))
      have md : bMod (.int (RR.Fs ts (RR.toF vs) k)) (.int p) = some (.d (.int (RR.Fs ts (RR.toF vs) k % (p : Int)))) := mod_p (by omega)
      have gl := gApp_l (xs := (upTo p ts vs k).map PyData.int) (x := .int (RR.Fs ts (RR.toF vs) k % (p : Int))) (by rw [List.length_map, upTo_len]; omega)
      refine ⟨[some (.d (vD vs)), some (.d (.list (ts.map tp))), some (.d (.int p)), some (.d (.int (vs.length : Nat))), some (.own (.lst ((upTo p ts vs k).map PyData.int))), some (.d (.int k)), none, none], [some (.d (vD vs)), some (.d (.list (ts.map tp))), some (.d (.int p)), some (.d (.int (vs.length : Nat))), some (.own (.lst ((upTo p ts vs (k + 1)).map PyData.int))), some (.d (.int k)), none, none], ?_, ?_, _, rfl, .inr ⟨_, rfl⟩⟩
      · rcases hO with rfl | ⟨_, rfl⟩ <;> simp
      · have hc := comp1 hR lo k (some (.d (.list (ts.map tp)))) (some (.d (.int p))) (some (.own (.lst ((upTo p ts vs k).map PyData.int))))
        rw [upTo_succ]
        generalize hF : (ts.map fun t => t.2 * RR.toF vs ((k : Int) + t.1)) = F at hs hc
        have hsum : F.sum = RR.Fs ts (RR.toF vs) k := by rw [← hF] <;> rfl
        generalize RR.Fs ts (RR.toF vs) k = S at md gl hsum
        generalize (upTo p ts vs k).map PyData.int = U at gl hc
        simp [lb_stepped_0, tl2, hc, hs, hsum, md, gl]
  rw [intsD_len, Nat.zero_add] at h1
  have e : upTo p ts vs vs.length = RR.stepV p ts vs := rfl
  rw [e] at h1
  have rq := range1_nat (q := vs.length) (by omega)
  generalize RR.stepV p ts vs = W at h1
  simp [f_stepped, b_stepped, rq, h1]
theorem step_s {m : Nat} (hm : m ∈ tenN) {ts : List (Int × Int)} (hR : Fac ts) {vs : List Int} (lo : 1 ≤ vs.length) (hi : vs.length ≤ 60) :
    f__law_step [.d (rD m ts), .d (vD vs)] = .ok (.d (vD (RR.stepV m ts vs))) [] := by
  have hm2 := ten_le hm
  have tl := hR.le
  have tl2 : ts.length ≤ 16777216 := by omega
  obtain ⟨ρ', h1, p4, rfl, h2⟩ := for_at (tg := .n 4) (b := lb__law_step_0) (J := fun k ρ => ∃ p4 : Option SV, ρ = [some (.d (rD m ts)), some (.d (vD vs)), some (.d (.int (vs.length : Nat))), some (.own (.lst ((upTo m ts vs k).map PyData.int))), p4, none, none] ∧ OptD p4)
    (intsD 0 vs.length) 0 [some (.d (rD m ts)), some (.d (vD vs)), some (.d (.int (vs.length : Nat))), some (.own (.lst [])), none, none, none] ⟨none, rfl, .inl rfl⟩ fun k x ρ hk hJ => by
      rw [Nat.zero_add] at hJ ⊢
      obtain ⟨p4, rfl, hO⟩ := hJ
      obtain ⟨rfl, hkl⟩ := ints_at hk
      have hs := ints_id (ts.map fun t => t.2 * RR.toF vs ((k : Int) + t.1))
      have md : bMod (.int (RR.Fs ts (RR.toF vs) k)) (.int m) = some (.d (.int (RR.Fs ts (RR.toF vs) k % (m : Int)))) := mod_p (by omega)
      have gl := gApp_l (xs := (upTo m ts vs k).map PyData.int) (x := .int (RR.Fs ts (RR.toF vs) k % (m : Int))) (by rw [List.length_map, upTo_len]; omega)
      refine ⟨[some (.d (rD m ts)), some (.d (vD vs)), some (.d (.int (vs.length : Nat))), some (.own (.lst ((upTo m ts vs k).map PyData.int))), some (.d (.int k)), none, none], [some (.d (rD m ts)), some (.d (vD vs)), some (.d (.int (vs.length : Nat))), some (.own (.lst ((upTo m ts vs (k + 1)).map PyData.int))), some (.d (.int k)), none, none], ?_, ?_, _, rfl, .inr ⟨_, rfl⟩⟩
      · rcases hO with rfl | ⟨_, rfl⟩ <;> simp
      · have hc := comp2 hR lo k (some (.d (rD m ts))) (some (.own (.lst ((upTo m ts vs k).map PyData.int))))
        rw [upTo_succ]
        generalize hF : (ts.map fun t => t.2 * RR.toF vs ((k : Int) + t.1)) = F at hs hc
        have hsum : F.sum = RR.Fs ts (RR.toF vs) k := by rw [← hF] <;> rfl
        generalize RR.Fs ts (RR.toF vs) k = S at md gl hsum
        generalize (upTo m ts vs k).map PyData.int = U at gl hc
        simp [lb__law_step_0, tl2, hc, hs, hsum, md, gl]
  rw [intsD_len, Nat.zero_add] at h1
  have e : upTo m ts vs vs.length = RR.stepV m ts vs := rfl
  rw [e] at h1
  have rq := range1_nat (q := vs.length) (by omega)
  generalize RR.stepV m ts vs = W at h1
  simp [f__law_step, b__law_step, rq, h1]
/-! the table -/
def rowsT (m : Nat) (ts : List (Int × Int)) (n : Nat) : List (List Int) := (List.range n).map fun at_ => RR.stepV m ts (RR.one n at_)
theorem one_comp (n at_ : Nat) (ρ0 ρ1 : Option SV) : compGo [3] (.n 3) mYes (mB gInt [(m2 cEq (mV 3) (mV 2))]) (intsD 0 n) [] [ρ0, ρ1, some (.d (.int at_)), none] = .ok (.own (.lst ((RR.one n at_).map PyData.int))) [ρ0, ρ1, some (.d (.int at_)), none] := by
  have e : (RR.one n at_).map PyData.int = [] ++ (intsD 0 n).map fun x => match x with | .int i => .int (if i = (at_ : Int) then 1 else 0) | _ => .none := by
    unfold RR.one intsD
    rw [List.map_map, List.map_map, List.nil_append]
    apply List.map_congr_left
    intro i _
    show PyData.int _ = PyData.int _
    congr 1
    by_cases h : i = at_
    · subst h
      simp
    · show (if i = at_ then (1 : Int) else 0) = if (0 + (i : Int)) = at_ then 1 else 0
      rw [if_neg h, if_neg (by omega)]
  rw [e]
  refine comp_pure fun x hx => ?_
  obtain ⟨k, hk, rfl⟩ := mem_intsD hx
  exact ⟨[ρ0, ρ1, some (.d (.int at_)), some (.d (.int k))], .d (.int (if (k : Int) = at_ then 1 else 0)), by simp, by simp, rfl, by simp⟩
theorem table_s {m : Nat} (hm : m ∈ tenN) {ts : List (Int × Int)} (hR : Fac ts) (n : Nat) (hi : n ≤ 60) :
    f__law_table [.d (rD m ts), .d (.int n)] = .ok (.own (.lst ((rowsT m ts n).map vD))) [] := by
  have rq := range1_nat (q := n) (by omega)
  have lq : (intsD 0 n).length ≤ 16777216 := by rw [intsD_len]; omega
  have hc : compGo [2] (.n 2) mYes (mCall f__law_step [(mV 0), (mB gTup [(mComp [3] (.n 3) (i1 range1 (mV 1)) mYes (mB gInt [(m2 cEq (mV 3) (mV 2))]))])]) (intsD 0 n) [] [some (.d (rD m ts)), some (.d (.int n)), none, none] = .ok (.own (.lst ((rowsT m ts n).map vD))) [some (.d (rD m ts)), some (.d (.int n)), none, none] := by
    have e : (rowsT m ts n).map vD = [] ++ (intsD 0 n).map fun x => match x with | .int i => vD (RR.stepV m ts (RR.one n i.toNat)) | _ => .none := by
      unfold rowsT intsD
      rw [List.map_map, List.map_map, List.nil_append]
      apply List.map_congr_left
      intro i _
      show vD _ = vD _
      rw [show ((0 : Int) + (i : Nat)).toNat = i by omega]
    rw [e]
    refine comp_pure fun x hx => ?_
    obtain ⟨k, hk, rfl⟩ := mem_intsD hx
    have h1 := one_comp n k (some (.d (rD m ts))) (some (.d (.int n)))
    have h2 := step_s hm hR (vs := RR.one n k) (by rw [RR.one_len]; omega) (by rw [RR.one_len]; omega)
    refine ⟨[some (.d (rD m ts)), some (.d (.int n)), some (.d (.int k)), none], .d (vD (RR.stepV m ts (RR.one n k))), by simp, ?_, rfl, by simp⟩
    generalize RR.stepV m ts (RR.one n k) = W at h2
    generalize rD m ts = R at h1 h2
    have h2' : f__law_step [.d R, .d (.tuple ((RR.one n k).map PyData.int))] = .ok (.d (vD W)) [] := h2
    generalize (RR.one n k).map PyData.int = O at h1 h2'
    simp [rq, lq, h1, h2']
  generalize (rowsT m ts n).map vD = W at hc
  simp [f__law_table, b__law_table, rq, lq, hc]
theorem rows_len (m : Nat) (ts : List (Int × Int)) (n : Nat) : (rowsT m ts n).length = n := by unfold rowsT; simp
end K29
end

section
set_option autoImplicit false
set_option maxRecDepth 100000
set_option linter.all false
namespace K29
open PySem PySem.Spec L2 MP
abbrev prD (m : Nat) : List D := (pr m).map fun p : Nat => PyData.int (p : Int)
def inPr (m : Nat) (i : Int) : Bool := (pr m).any fun p => (p : Int) == i
theorem in_any (ps : List Nat) (i : Int) : ((ps.map fun p : Nat => PyData.int (p : Int)).any fun y => PyData.eqv y (.int i)) = ps.any fun p => (p : Int) == i := by
  rw [List.any_map]
  congr 1
theorem in_ok (ps : List Nat) (i : Int) : inOk (.int i) (ps.map fun p : Nat => PyData.int (p : Int)) = true := by
  have h1 : PyData.plainAll (ps.map fun p : Nat => PyData.int (p : Int)) = true := by
    induction ps with
    | nil => rfl
    | cons p ps ih => show (true && _) = true; rw [ih] <;> rfl
  have h2 : PyData.plain (.int i) = true := by simp [PyData.plain]
  have h3 : PyData.depth (.int i) = 0 := by simp [PyData.depth]
  unfold inOk
  rw [h1, h2, h3]
  simp
theorem notIn_tup (ps : List Nat) (i : Int) : cNotIn (.int i) (.tuple (ps.map fun p : Nat => PyData.int (p : Int))) = some (.d (.bool (!(ps.any fun p => (p : Int) == i)))) := by
  unfold cNotIn
  simp only [in_ok, if_pos, in_any]
theorem notIn_lst (ps : List Nat) (i : Int) : cNotIn (.int i) (.list (ps.map fun p : Nat => PyData.int (p : Int))) = some (.d (.bool (!(ps.any fun p => (p : Int) == i)))) := by
  unfold cNotIn
  simp only [in_ok, if_pos, in_any]
theorem primes_in_s {m : Nat} (hm : m ∈ tenN) : f_primes_in [.d (.int m)] = .ok (.d (.tuple (prD m))) [] := by
  unfold tenN at hm
  simp at hm
  rcases hm with rfl | rfl | rfl | rfl | rfl | rfl | rfl | rfl | rfl | rfl <;> rfl
theorem neg_comp (ts : List (Int × Int)) (ρ0 ρ1 ρ2 ρ3 ρ4 ρ5 ρ8 : Option SV) : compGo [6, 7] (.t [(.n 6), (.n 7)]) mYes (mTup [(m1 uNeg (mV 6)), (mV 7)]) (ts.map tp) [] [ρ0, ρ1, ρ2, ρ3, ρ4, ρ5, none, none, ρ8] =
    .ok (.own (.lst ((RR.neg ts).map tp))) [ρ0, ρ1, ρ2, ρ3, ρ4, ρ5, none, none, ρ8] := by
  have e : (RR.neg ts).map tp = [] ++ (ts.map tp).map fun x => match x with | .tuple [.int o, .int f] => .tuple [.int (-o), .int f] | _ => .none := by
    unfold RR.neg
    rw [List.map_map, List.map_map, List.nil_append]
    rfl
  rw [e]
  refine comp_pure fun x hx => ?_
  obtain ⟨t, _, rfl⟩ := List.mem_map.mp hx
  exact ⟨[ρ0, ρ1, ρ2, ρ3, ρ4, ρ5, some (.d (.int t.1)), some (.d (.int t.2)), ρ8], .d (.tuple [.int (-t.1), .int t.2]), by simp [tp], by simp, rfl, by simp⟩
theorem zip_tp : ∀ as bs : List Int, zipL (as.map PyData.int) (bs.map PyData.int) = (as.zip bs).map tp
  | [], _ => by simp [zipL]
  | a :: as, [] => by simp [zipL]
  | a :: as, b :: bs => by
    have := zip_tp as bs
    show PyData.tuple [.int a, .int b] :: zipL (as.map PyData.int) (bs.map PyData.int) = _
    rw [this]
    rfl
def prd : D → Int
  | .tuple [.int a, .int b] => a * b
  | _ => 0
theorem prd_sum (as bs : List Int) : (((as.zip bs).map tp).map fun x => PyData.int (prd x)) = (List.zipWith (fun a b => a * b) as bs).map PyData.int := by
  rw [List.map_map]
  have : List.zipWith (fun a b => a * b) as bs = (as.zip bs).map fun t => t.1 * t.2 := by
    rw [List.map_zip_eq_zipWith]
    rfl
  rw [this, List.map_map]
  rfl
theorem all_comp (p : Int) (ys : List D) (ρ0 ρ1 ρ2 ρ4 ρ6 ρ7 ρ8 : Option SV) : compGo [5] (.n 5) mYes (mAnd (mCall f_is_integer [(mV 5)]) (mCh cLe cLt (mC (.int 0)) (mV 5) (mV 3))) ys [] [ρ0, ρ1, ρ2, some (.d (.int p)), ρ4, none, ρ6, ρ7, ρ8] =
    .ok (.own (.lst ([] ++ ys.map fun y => .bool (cellOk p y)))) [ρ0, ρ1, ρ2, some (.d (.int p)), ρ4, none, ρ6, ρ7, ρ8] := by
  refine comp_pure fun y _ => ⟨[ρ0, ρ1, ρ2, some (.d (.int p)), ρ4, some (.d y), ρ6, ρ7, ρ8], .d (.bool (cellOk p y)), by simp, ?_, rfl, by simp⟩
  rcases isI_or y with ⟨i, rfl⟩ | h
  · by_cases h0 : 0 ≤ i
    · simp [is_integer_s, isI, cellOk, h0]
    · simp [is_integer_s, isI, cellOk, h0]
  · have hc : cellOk p y = false := by cases y <;> first | rfl | cases h
    simp [is_integer_s, h, hc]
theorem all_comp2 (p : Int) (ys : List D) (ρ0 ρ1 ρ2 ρ3 ρ5 ρ6 ρ8 : Option SV) : compGo [7] (.n 7) mYes (mAnd (mCall f__law_is_whole [(mV 7)]) (mCh cLe cLt (mC (.int 0)) (mV 7) (mV 4))) ys [] [ρ0, ρ1, ρ2, ρ3, some (.d (.int p)), ρ5, ρ6, none, ρ8] =
    .ok (.own (.lst ([] ++ ys.map fun y => .bool (cellOk p y)))) [ρ0, ρ1, ρ2, ρ3, some (.d (.int p)), ρ5, ρ6, none, ρ8] := by
  have iw : ∀ x : D, f__law_is_whole [.d x] = .ok (.d (.bool (isI x))) [] := fun x => by cases x <;> rfl
  refine comp_pure fun y _ => ⟨[ρ0, ρ1, ρ2, ρ3, some (.d (.int p)), ρ5, ρ6, some (.d y), ρ8], .d (.bool (cellOk p y)), by simp, ?_, rfl, by simp⟩
  rcases isI_or y with ⟨i, rfl⟩ | h
  · by_cases h0 : 0 ≤ i
    · simp [iw, isI, cellOk, h0]
    · simp [iw, isI, cellOk, h0]
  · have hc : cellOk p y = false := by cases y <;> first | rfl | cases h
    simp [iw, h, hc]
theorem cells_ints {p : Int} : ∀ {ys : List D}, ys.all (cellOk p) = true → ∃ ws : List Int, ys = ws.map PyData.int ∧ ∀ w ∈ ws, 0 ≤ w ∧ w < p := fun {ys} h => ints_ex fun y hy => by
  have := List.all_eq_true.mp h y hy
  unfold cellOk at this
  split at this
  · rw [Bool.and_eq_true, decide_eq_true_eq, decide_eq_true_eq] at this
    exact ⟨_, rfl, this⟩
  · cases this
/-- some weight that a step turned about leaves is not 0 -/
def live (p m : Nat) (ts : List (Int × Int)) (ws : List Int) : Bool := (rowsT m ts ws.length).any fun r => !(RR.dot ws r % (p : Int) == 0)
theorem live_eq {p m : Nat} (hd : p ∣ m) (ts : List (Int × Int)) (ws : List Int) : ((RR.stepV p (RR.neg ts) ws).any fun z => z != 0) = live p m ts ws := by
  unfold live rowsT RR.stepV
  rw [List.any_map, List.any_map]
  have key : ∀ at_ ∈ List.range ws.length, ((fun z : Int => z != 0) ∘ fun (i : Nat) => RR.Fs (RR.neg ts) (RR.toF ws) i % (p : Int)) at_ = ((fun r => !(RR.dot ws r % (p : Int) == 0)) ∘ fun at_ => (List.range (RR.one ws.length at_).length).map fun (i : Nat) => RR.Fs ts (RR.toF (RR.one ws.length at_)) i % (m : Int)) at_ := fun at_ ha => by
    have h := List.mem_range.mp ha
    show (RR.Fs (RR.neg ts) (RR.toF ws) at_ % (p : Int) != 0) = !(RR.dot ws _ % (p : Int) == 0)
    dsimp only
    rw [RR.one_len, RR.turned_mod hd rfl h ts]
    rfl
  rw [Bool.eq_iff_iff, List.any_eq_true, List.any_eq_true]
  constructor
  · rintro ⟨x, h1, h2⟩
    exact ⟨x, h1, by rw [← key x h1]; exact h2⟩
  · rintro ⟨x, h1, h2⟩
    exact ⟨x, h1, by rw [key x h1]; exact h2⟩
/-- what is told of any value -/
def bar (m : Nat) (ts : List (Int × Int)) (row : List Int) : D → Bool
  | .tuple [.int p, .tuple ys] => inPr m p && (ys.length == row.length) && ys.all (cellOk p) && (match intsOf ys with
    | some ws => !(live p.toNat m ts ws) && !(RR.dot ws row % p == 0)
    | none => false)
  | _ => false
theorem dot_comp (as bs : List Int) (c : ∀ a ∈ as, 0 ≤ a ∧ a < 1000) (ρ0 ρ1 ρ2 ρ3 ρ4 ρ6 ρ7 : Option SV) : compGo [5, 8] (.t [(.n 5), (.n 8)]) mYes (m2 bMulI (mV 5) (mV 8)) (zipL (as.map PyData.int) (bs.map PyData.int)) [] [ρ0, ρ1, ρ2, ρ3, ρ4, none, ρ6, ρ7, none] =
    .ok (.own (.lst ((List.zipWith (fun a b => a * b) as bs).map PyData.int))) [ρ0, ρ1, ρ2, ρ3, ρ4, none, ρ6, ρ7, none] := by
  rw [← prd_sum, zip_tp]
  refine comp_pure fun x hx => ?_
  obtain ⟨t, ht, rfl⟩ := List.mem_map.mp hx
  have := c t.1 (List.of_mem_zip ht).1
  have mu : bMulI (.int t.1) (.int t.2) = some (.d (.int (t.1 * t.2))) := mul_small (by omega) (by omega)
  exact ⟨[ρ0, ρ1, ρ2, ρ3, ρ4, some (.d (.int t.1)), ρ6, ρ7, some (.d (.int t.2))], .d (.int (t.1 * t.2)), by simp [tp], by simp [mu], rfl, by simp⟩
theorem dot_comp2 (as bs : List Int) (c : ∀ a ∈ as, 0 ≤ a ∧ a < 1000) (ρ0 ρ1 ρ2 ρ3 ρ4 ρ5 ρ6 : Option SV) : compGo [7, 8] (.t [(.n 7), (.n 8)]) mYes (m2 bMulI (mV 7) (mV 8)) (zipL (as.map PyData.int) (bs.map PyData.int)) [] [ρ0, ρ1, ρ2, ρ3, ρ4, ρ5, ρ6, none, none] =
    .ok (.own (.lst ((List.zipWith (fun a b => a * b) as bs).map PyData.int))) [ρ0, ρ1, ρ2, ρ3, ρ4, ρ5, ρ6, none, none] := by
  rw [← prd_sum, zip_tp]
  refine comp_pure fun x hx => ?_
  obtain ⟨t, ht, rfl⟩ := List.mem_map.mp hx
  have := c t.1 (List.of_mem_zip ht).1
  have mu : bMulI (.int t.1) (.int t.2) = some (.d (.int (t.1 * t.2))) := mul_small (by omega) (by omega)
  exact ⟨[ρ0, ρ1, ρ2, ρ3, ρ4, ρ5, ρ6, some (.d (.int t.1)), some (.d (.int t.2))], .d (.int (t.1 * t.2)), by simp [tp], by simp [mu], rfl, by simp⟩
theorem inPr_nat {m : Nat} {i : Int} (h : inPr m i = true) : ∃ p : Nat, i = p ∧ p ∈ pr m := by
  unfold inPr at h
  rw [List.any_eq_true] at h
  obtain ⟨p, h1, h2⟩ := h
  exact ⟨p, (eq_of_beq h2).symm, h1⟩
/-- a value that is no pair of a prime and as many weights is no bar -/
theorem bar_cases (x : D) : (∃ i ys, x = .tuple [.int i, .tuple ys]) ∨ (∃ i b, x = .tuple [.int i, b] ∧ subTy (tyD b) "tuple" = false) ∨ (∃ a b, x = .tuple [a, b] ∧ isI a = false) ∨ (∃ a b c r, x = .tuple (a :: b :: c :: r)) ∨ (∃ a, x = .tuple [a]) ∨ x = .tuple [] ∨ subTy (tyD x) "tuple" = false := by
  cases x with
  | tuple xs =>
    match xs with
    | [] => simp
    | [a] => simp
    | a :: b :: c :: r => simp
    | [a, b] =>
      rcases isI_or a with ⟨i, rfl⟩ | h
      · cases b <;> first | exact .inl ⟨i, _, rfl⟩ | exact .inr (.inl ⟨i, _, rfl, rfl⟩)
      · simp [h]
  | _ => simp [subTy]
theorem round_bars_s {m : Nat} (hm : m ∈ tenN) {ts : List (Int × Int)} (hR : Rule m ts) {row : List Int} (hv : Row m row) (x : D) :
    f_round_bars [.d (rD m ts), .d (.tuple [.int m, vD row]), .d x] = .ok (.d (.bool (bar m ts row x))) [] := by
  have hb := need_both_s hm hR hv
  have hpi := primes_in_s hm
  have hrl := hv.hi
  have hr1 := hv.lo
  have hrl2 : row.length ≤ 16777216 := by omega
  rcases bar_cases x with ⟨i, ys, rfl⟩ | ⟨i, b, rfl, hb2⟩ | ⟨a, b, rfl, h⟩ | ⟨a, b, c, r, rfl⟩ | ⟨a, rfl⟩ | rfl | h
  · have hn : cNotIn (.int i) (.tuple (prD m)) = some (.d (.bool (!inPr m i))) := notIn_tup _ _
    generalize prD m = pD at hpi hn
    cases hp : inPr m i with
    | false =>
      have hbar : bar m ts row (.tuple [.int i, .tuple ys]) = false := by simp [bar, hp]
      generalize hV : vD row = V at hb
      generalize rD m ts = R at hb
      simp [f_round_bars, b_round_bars, hb, hpi, subTy, is_integer_s, isI, hn, hp, hbar]
    | true =>
      by_cases hl : ys.length = row.length
      · have hc := all_comp i ys
        obtain ⟨bs, hbs⟩ : ∃ bs, bs = ys.map (cellOk i) := ⟨_, rfl⟩
        have hbm := bools_map (cellOk i) ys
        rw [← hbs] at hbm
        have hall : bs.all id = ys.all (cellOk i) := by rw [hbs, List.all_map] <;> rfl
        have ly : ys.length ≤ 16777216 := by omega
        cases hA : ys.all (cellOk i) with
        | false =>
          have hbar : bar m ts row (.tuple [.int i, .tuple ys]) = false := by simp only [bar, hA, Bool.and_false, Bool.false_and]
          rw [hA] at hall
          generalize rD m ts = R at hb
          generalize (ys.map fun x => PyData.bool (cellOk i x)) = Y at hc hbm
          simp [f_round_bars, b_round_bars, hb, hpi, subTy, is_integer_s, isI, hn, hp, hbar, hl, hc, hbm, ly, hall, hrl2]
        | true =>
          obtain ⟨ws, rfl, hw⟩ := cells_ints hA
          obtain ⟨p, rfl, hpm⟩ := inPr_nat hp
          have hp2 := pr_in hpm
          rw [List.length_map] at hl
          rw [hA] at hall
          have hi2 := ints_id ws
          have hs := stepped_s (p := p) (by omega) (hR.f hm).neg (vs := ws) (by omega) (by omega)
          have hnc := neg_comp ts
          have htl := hR.le
          have ltp : (ts.map tp).length ≤ 16777216 := by rw [List.length_map]; omega
          have hlv := live_eq hp2.2.2 ts ws
          have hal := anyL_ints (RR.stepV p (RR.neg ts) ws)
          rw [hlv] at hal
          have hdc := dot_comp ws row fun a ha => by have := hw a ha; omega
          have hdi := ints_id (List.zipWith (fun a b => a * b) ws row)
          have hsum : (List.zipWith (fun a b => a * b) ws row).sum = RR.dot ws row := rfl
          have hmd : bMod (.int (RR.dot ws row)) (.int p) = some (.d (.int (RR.dot ws row % (p : Int)))) := mod_p (by omega)
          have hzd : zipA [vD ws, vD row] = some (zipL (ws.map PyData.int) (row.map PyData.int)) := rfl
          have hzl : (zipL (ws.map PyData.int) (row.map PyData.int)).length ≤ 16777216 := by rw [zipL_len, List.length_map]; omega
          have hbar : bar m ts row (.tuple [.int p, .tuple (ws.map PyData.int)]) = (!(live p m ts ws) && !(RR.dot ws row % (p : Int) == 0)) := by
            simp only [bar, hp, hA, hi2, List.length_map, hl, Bool.true_and, Int.toNat_natCast, beq_self_eq_true]
          have hl2 : (ws.map PyData.int).length = row.length := by rw [List.length_map, hl]
          have hl3 : (row.map PyData.int).length = row.length := List.length_map ..
          rw [hbar]
          dsimp only [vD, rD] at *
          generalize live p m ts ws = L at *
          generalize List.zipWith (fun a b => a * b) ws row = Z at *
          generalize zipL (ws.map PyData.int) (row.map PyData.int) = ZL at *
          generalize RR.dot ws row = S at *
          generalize (RR.neg ts).map tp = TN at *
          generalize ts.map tp = T at *
          generalize (RR.stepV p (RR.neg ts) ws).map PyData.int = W at *
          generalize ((ws.map PyData.int).map fun x => PyData.bool (cellOk p x)) = Y at hc hbm
          generalize ws.map PyData.int = wD at *
          generalize row.map PyData.int = roD at *
          cases L with
          | true => simp [f_round_bars, b_round_bars, hb, hpi, subTy, is_integer_s, isI, hn, hp, hl2, hl3, hc, hbm, ly, hall, hrl2, hnc, hs, hal, ltp]
          | false => simp [f_round_bars, b_round_bars, hb, hpi, subTy, is_integer_s, isI, hn, hp, hl2, hl3, hc, hbm, ly, hall, hrl2, hnc, hs, hal, ltp, hzd, hzl, hdc, hdi, hsum, hmd]
      · have hl' : ¬ ((ys.length : Int) = row.length) := by omega
        have hbar : bar m ts row (.tuple [.int i, .tuple ys]) = false := by
          simp only [bar, beq_eq_false_iff_ne.mpr hl, Bool.and_false, Bool.false_and]
        generalize rD m ts = R at hb
        simp [f_round_bars, b_round_bars, hb, hpi, subTy, is_integer_s, isI, hn, hp, hbar, hl']
  · have hn : cNotIn (.int i) (.tuple (prD m)) = some (.d (.bool (!inPr m i))) := notIn_tup _ _
    generalize prD m = pD at hpi hn
    have hbar : bar m ts row (.tuple [.int i, b]) = false := by cases b <;> first | rfl | (simp [subTy] at hb2)
    have hb3 : ¬ tyD b = "tuple" := by simpa [subTy] using hb2
    generalize rD m ts = R at hb
    cases hp : inPr m i <;> simp [f_round_bars, b_round_bars, hb, hpi, is_integer_s, isI, hn, hp, hbar, hb2, hb3, subTy]
  · have hbar : bar m ts row (.tuple [a, b]) = false := by cases a <;> first | rfl | (simp [isI] at h)
    generalize rD m ts = R at hb
    simp [f_round_bars, b_round_bars, hb, subTy, is_integer_s, h, hbar]
  · simp [f_round_bars, b_round_bars, hb, subTy, not2, bar]
  · simp [f_round_bars, b_round_bars, hb, subTy, bar]
  · simp [f_round_bars, b_round_bars, hb, subTy, bar]
  · have : bar m ts row x = false := by cases x <;> first | rfl | (simp [subTy] at h)
    simp [f_round_bars, b_round_bars, hb, h, this]
end K29
end

section
set_option autoImplicit false
set_option maxRecDepth 100000
set_option linter.all false
namespace K29
open PySem PySem.Spec L2 MP
theorem whole_s (x : D) : f__law_is_whole [.d x] = .ok (.d (.bool (isI x))) [] := by cases x <;> rfl
def rowOk (p : Nat) (ws : List Int) : D → Bool
  | .tuple zs => match intsOf zs with
    | some r => RR.dot ws r % (p : Int) == 0
    | none => false
  | _ => false
theorem rows_ok (p m : Nat) (ts : List (Int × Int)) (ws : List Int) (n : Nat) (h : ws.length = n) : ((rowsT m ts n).map vD).all (rowOk p ws) = !live p m ts ws := by
  unfold live
  rw [h, List.all_map, List.not_any_eq_all_not]
  congr 1
  funext r
  show rowOk p ws (.tuple (r.map PyData.int)) = _
  unfold rowOk
  simp only [ints_id, Bool.not_not]
theorem bar_loop {p m : Nat} (hp : 0 < p) (ts : List (Int × Int)) (ws : List Int) (hw : ∀ a ∈ ws, 0 ≤ a ∧ a < 1000) (n : Nat) (h : ws.length = n) (hn : n ≤ 60) (ρ0 ρ1 ρ2 ρ3 : Option SV) :
    Goes (if (!live p m ts ws) = true then some () else none : Option Unit) (fun _ => ∃ q, forGo (.n 6) lb__law_is_bar_0 ((rowsT m ts n).map vD) [ρ0, ρ1, ρ2, ρ3, some (.d (.int p)), some (.d (vD ws)), none, none, none] = .next [ρ0, ρ1, ρ2, ρ3, some (.d (.int p)), some (.d (vD ws)), q, none, none])
      (∃ ρ', forGo (.n 6) lb__law_is_bar_0 ((rowsT m ts n).map vD) [ρ0, ρ1, ρ2, ρ3, some (.d (.int p)), some (.d (vD ws)), none, none, none] = .ret (.d (.bool false)) ρ') := by
  have hs := for_scan (tg := .n 6) (b := lb__law_is_bar_0) (r := .d (.bool false)) (Env := fun q (_ : Unit) => [ρ0, ρ1, ρ2, ρ3, some (.d (.int p)), some (.d (vD ws)), q, none, none]) (step := fun _ x => if rowOk p ws x = true then some () else none) ((rowsT m ts n).map vD) none () (fun x _ p _ n => tg_n rfl n) (fun c z => nomatch z) (fun x hx _ => by
    obtain ⟨r, hr, rfl⟩ := List.mem_map.mp hx
    have hdc := dot_comp2 ws r hw
    have hdi := ints_id (List.zipWith (fun a b => a * b) ws r)
    have hsum : (List.zipWith (fun a b => a * b) ws r).sum = RR.dot ws r := rfl
    have hmd : bMod (.int (RR.dot ws r)) (.int p) = some (.d (.int (RR.dot ws r % (p : Int)))) := mod_p (by omega)
    have hzd : zipA [vD ws, vD r] = some (zipL (ws.map PyData.int) (r.map PyData.int)) := rfl
    have hzl : (zipL (ws.map PyData.int) (r.map PyData.int)).length ≤ 16777216 := by rw [zipL_len, List.length_map]; omega
    have hro : rowOk p ws (vD r) = (RR.dot ws r % (p : Int) == 0) := by
      show rowOk p ws (.tuple (r.map PyData.int)) = _
      unfold rowOk
      simp only [ints_id]
    rw [hro]
    dsimp only [vD] at *
    generalize List.zipWith (fun a b => a * b) ws r = Z at *
    generalize zipL (ws.map PyData.int) (r.map PyData.int) = ZL at *
    generalize RR.dot ws r = S at *
    generalize r.map PyData.int = rD' at *
    generalize ws.map PyData.int = wD at *
    by_cases h0 : S % (p : Int) = 0
    · simp [lb__law_is_bar_0, hzd, hzl, hdc, hdi, hsum, hmd, h0]
    · simp [lb__law_is_bar_0, hzd, hzl, hdc, hdi, hsum, hmd, h0])
  rw [scan_unit, rows_ok p m ts ws n h] at hs
  exact hs
theorem is_bar_s {m : Nat} (hm : m ∈ tenN) {ts : List (Int × Int)} {row : List Int} (hv : Row m row) (x : D) :
    f__law_is_bar [.d (.list ((rowsT m ts row.length).map vD)), .d (.int m), .d (vD row), .d x] = .ok (.d (.bool (bar m ts row x))) [] := by
  have hpi : f__law_primes [.d (.int m)] = .ok (.own (.lst (prD m))) [] := primes_s m
  have hrl := hv.hi
  have hr1 := hv.lo
  have hrl2 : row.length ≤ 16777216 := by omega
  obtain ⟨TB, hTB⟩ : ∃ TB, TB = (rowsT m ts row.length).map vD := ⟨_, rfl⟩
  rcases bar_cases x with ⟨i, ys, rfl⟩ | ⟨i, b, rfl, hb2⟩ | ⟨a, b, rfl, h⟩ | ⟨a, b, c, r, rfl⟩ | ⟨a, rfl⟩ | rfl | h
  · have hn : cNotIn (.int i) (.list (prD m)) = some (.d (.bool (!inPr m i))) := notIn_lst _ _
    generalize prD m = pD at hpi hn
    rw [← hTB]
    cases hp : inPr m i with
    | false =>
      have hbar : bar m ts row (.tuple [.int i, .tuple ys]) = false := by simp [bar, hp]
      simp [f__law_is_bar, b__law_is_bar, hpi, subTy, whole_s, isI, hn, hp, hbar]
    | true =>
      by_cases hl : ys.length = row.length
      · have hc := all_comp2 i ys
        obtain ⟨bs, hbs⟩ : ∃ bs, bs = ys.map (cellOk i) := ⟨_, rfl⟩
        have hbm := bools_map (cellOk i) ys
        rw [← hbs] at hbm
        have hall : bs.all id = ys.all (cellOk i) := by rw [hbs, List.all_map] <;> rfl
        have ly : ys.length ≤ 16777216 := by omega
        cases hA : ys.all (cellOk i) with
        | false =>
          have hbar : bar m ts row (.tuple [.int i, .tuple ys]) = false := by simp only [bar, hA, Bool.and_false, Bool.false_and]
          rw [hA] at hall
          generalize (ys.map fun x => PyData.bool (cellOk i x)) = Y at hc hbm
          simp [f__law_is_bar, b__law_is_bar, hpi, subTy, whole_s, isI, hn, hp, hbar, hl, hc, hbm, ly, hall, hrl2]
        | true =>
          obtain ⟨ws, rfl, hw⟩ := cells_ints hA
          obtain ⟨p, rfl, hpm⟩ := inPr_nat hp
          have hp2 := pr_in hpm
          rw [List.length_map] at hl
          rw [hA] at hall
          have hi2 := ints_id ws
          have hw2 : ∀ a ∈ ws, 0 ≤ a ∧ a < 1000 := fun a ha => by have := hw a ha; omega
          have hlp := bar_loop (p := p) (m := m) (by omega) ts ws hw2 row.length hl hrl
          rw [← hTB] at hlp
          have hdc := dot_comp2 ws row hw2
          have hdi := ints_id (List.zipWith (fun a b => a * b) ws row)
          have hsum : (List.zipWith (fun a b => a * b) ws row).sum = RR.dot ws row := rfl
          have hmd : bMod (.int (RR.dot ws row)) (.int p) = some (.d (.int (RR.dot ws row % (p : Int)))) := mod_p (by omega)
          have hzd : zipA [vD ws, vD row] = some (zipL (ws.map PyData.int) (row.map PyData.int)) := rfl
          have hzl : (zipL (ws.map PyData.int) (row.map PyData.int)).length ≤ 16777216 := by rw [zipL_len, List.length_map]; omega
          have hbar : bar m ts row (.tuple [.int p, .tuple (ws.map PyData.int)]) = (!(live p m ts ws) && !(RR.dot ws row % (p : Int) == 0)) := by
            simp only [bar, hp, hA, hi2, List.length_map, hl, Bool.true_and, Int.toNat_natCast, beq_self_eq_true]
          have hl2 : (ws.map PyData.int).length = row.length := by rw [List.length_map, hl]
          have hl3 : (row.map PyData.int).length = row.length := List.length_map ..
          rw [hbar]
          dsimp only [vD, rD] at *
          generalize live p m ts ws = L at *
          generalize List.zipWith (fun a b => a * b) ws row = Z at *
          generalize zipL (ws.map PyData.int) (row.map PyData.int) = ZL at *
          generalize RR.dot ws row = S at *
          generalize ((ws.map PyData.int).map fun x => PyData.bool (cellOk p x)) = Y at hc hbm
          generalize ws.map PyData.int = wD at *
          generalize row.map PyData.int = roD at *
          cases L with
          | true =>
            obtain ⟨ρ', hlp⟩ := hlp (some (.d (.list TB))) (some (.d (.int m))) (some (.d (.tuple roD))) (some (.d (.tuple [.int p, .tuple wD])))
            simp [f__law_is_bar, b__law_is_bar, hpi, subTy, whole_s, isI, hn, hp, hl2, hl3, hc, hbm, ly, hall, hrl2, hlp]
          | false =>
            obtain ⟨q, hlp⟩ := hlp (some (.d (.list TB))) (some (.d (.int m))) (some (.d (.tuple roD))) (some (.d (.tuple [.int p, .tuple wD])))
            simp [f__law_is_bar, b__law_is_bar, hpi, subTy, whole_s, isI, hn, hp, hl2, hl3, hc, hbm, ly, hall, hrl2, hlp, hzd, hzl, hdc, hdi, hsum, hmd]
      · have hl' : ¬ ((ys.length : Int) = row.length) := by omega
        have hbar : bar m ts row (.tuple [.int i, .tuple ys]) = false := by
          simp only [bar, beq_eq_false_iff_ne.mpr hl, Bool.and_false, Bool.false_and]
        simp [f__law_is_bar, b__law_is_bar, hpi, subTy, whole_s, isI, hn, hp, hbar, hl']
  · have hn : cNotIn (.int i) (.list (prD m)) = some (.d (.bool (!inPr m i))) := notIn_lst _ _
    generalize prD m = pD at hpi hn
    have hbar : bar m ts row (.tuple [.int i, b]) = false := by cases b <;> first | rfl | (simp [subTy] at hb2)
    have hb3 : ¬ tyD b = "tuple" := by simpa [subTy] using hb2
    cases hp : inPr m i <;> simp [f__law_is_bar, b__law_is_bar, hpi, whole_s, isI, hn, hp, hbar, hb2, hb3, subTy]
  · have hbar : bar m ts row (.tuple [a, b]) = false := by cases a <;> first | rfl | (simp [isI] at h)
    simp [f__law_is_bar, b__law_is_bar, subTy, whole_s, h, hbar]
  · simp [f__law_is_bar, b__law_is_bar, subTy, not2, bar]
  · simp [f__law_is_bar, b__law_is_bar, subTy, bar]
  · simp [f__law_is_bar, b__law_is_bar, subTy, bar]
  · have : bar m ts row x = false := by cases x <;> first | rfl | (simp [subTy] at h)
    simp [f__law_is_bar, b__law_is_bar, h, this]
end K29
end

section
set_option autoImplicit false
set_option maxRecDepth 100000
set_option linter.all false
namespace K29
open PySem PySem.Spec L2 MP
/-! all rows of n cells -/
def ext1 (p : Nat) (v : List Int) : List (List Int) := (List.range p).map fun o : Nat => v ++ [(o : Int)]
def allT (p : Nat) : Nat → List (List Int)
  | 0 => [[]]
  | k + 1 => (allT p k).flatMap (ext1 p)
theorem ext1_len (p : Nat) (v : List Int) : (ext1 p v).length = p := by unfold ext1; simp
theorem flat_len (p : Nat) : ∀ L : List (List Int), (L.flatMap (ext1 p)).length = L.length * p
  | [] => by simp
  | v :: L => by rw [List.flatMap_cons, List.length_append, flat_len p L, ext1_len, List.length_cons, Nat.succ_mul]; omega
theorem all_len (p : Nat) : ∀ k, (allT p k).length = p ^ k
  | 0 => rfl
  | k + 1 => by rw [allT, flat_len, all_len p k, Nat.pow_succ]
theorem all_in {p : Nat} : ∀ (k : Nat) (v : List Int), v ∈ allT p k → v.length = k ∧ Cs p v
  | 0, v, h => by
    rw [allT, List.mem_singleton] at h
    subst h
    exact ⟨rfl, fun z hz => nomatch hz⟩
  | k + 1, v, h => by
    rw [allT, List.mem_flatMap] at h
    obtain ⟨u, hu, h⟩ := h
    unfold ext1 at h
    obtain ⟨o, ho, rfl⟩ := List.mem_map.mp h
    obtain ⟨h1, h2⟩ := all_in k u hu
    refine ⟨by simp [h1], fun z hz => ?_⟩
    rcases List.mem_append.mp hz with hz | hz
    · exact h2 z hz
    · have := List.mem_range.mp ho
      rw [List.mem_singleton.mp hz]
      omega
theorem all_zero {p : Nat} (hp : 0 < p) : ∀ k : Nat, List.replicate k 0 ∈ allT p k
  | 0 => List.mem_singleton.mpr rfl
  | k + 1 => by
    rw [allT, List.mem_flatMap]
    refine ⟨_, all_zero hp k, ?_⟩
    unfold ext1
    exact List.mem_map.mpr ⟨0, List.mem_range.mpr hp, by rw [List.replicate_succ']; rfl⟩
theorem in_loop {p : Nat} (v : List Int) (hv : v.length ≤ 1000) (ρ0 ρ1 ρ2 ρ3 q6 : Option SV) (h6 : OptD q6) (hp : p ≤ 13) (acc : List D) (ha : acc.length ≤ 1000000) :
    ∃ q, forGo (.n 6) lb__law_all_0 (intsD 0 p) [ρ0, ρ1, ρ2, ρ3, some (.own (.lst acc)), some (.d (vD v)), q6] = .next [ρ0, ρ1, ρ2, ρ3, some (.own (.lst (acc ++ (ext1 p v).map vD))), some (.d (vD v)), q] ∧ OptD q := by
  obtain ⟨ρ', h1, q, rfl, h2⟩ := for_at (tg := .n 6) (b := lb__law_all_0) (J := fun k ρ => ∃ q, ρ = [ρ0, ρ1, ρ2, ρ3, some (.own (.lst (acc ++ ((List.range k).map fun o : Nat => vD (v ++ [(o : Int)]))))), some (.d (vD v)), q] ∧ OptD q) (intsD 0 p) 0 [ρ0, ρ1, ρ2, ρ3, some (.own (.lst acc)), some (.d (vD v)), q6] ⟨q6, by simp, h6⟩ fun k x ρ hk hJ => by
      rw [Nat.zero_add] at hJ ⊢
      obtain ⟨q, rfl, hO⟩ := hJ
      obtain ⟨rfl, hkl⟩ := ints_at hk
      have ba : bAdd (vD v) (.tuple [.int k]) = some (.d (vD (v ++ [(k : Int)]))) := by
        show (if _ then _ else _) = _
        rw [if_pos (by rw [List.length_map, List.length_singleton]; unfold line; omega), ← List.map_singleton, ← List.map_append]
      have gl := gApp_l (xs := acc ++ ((List.range k).map fun o : Nat => vD (v ++ [(o : Int)]))) (x := vD (v ++ [(k : Int)])) (by rw [List.length_append, List.length_map, List.length_range]; omega)
      refine ⟨[ρ0, ρ1, ρ2, ρ3, some (.own (.lst (acc ++ ((List.range k).map fun o : Nat => vD (v ++ [(o : Int)]))))), some (.d (vD v)), some (.d (.int k))], [ρ0, ρ1, ρ2, ρ3, some (.own (.lst (acc ++ ((List.range (k + 1)).map fun o : Nat => vD (v ++ [(o : Int)]))))), some (.d (vD v)), some (.d (.int k))], ?_, ?_, _, rfl, .inr ⟨_, rfl⟩⟩
      · rcases hO with rfl | ⟨_, rfl⟩ <;> simp
      · rw [List.range_succ, List.map_append, List.map_singleton, ← List.append_assoc]
        generalize (acc ++ ((List.range k).map fun o : Nat => vD (v ++ [(o : Int)]))) = A at *
        generalize vD (v ++ [(k : Int)]) = Y at *
        generalize vD v = V at *
        simp [lb__law_all_0, ba, gl]
  rw [intsD_len, Nat.zero_add] at h1
  refine ⟨q, ?_, h2⟩
  rw [h1]
  unfold ext1
  rw [List.map_map]
  rfl
theorem mid_loop {p n : Nat} (hp : p ≤ 13) (hn : n ≤ 100) : ∀ (L : List (List Int)) (acc : List D) (q5 q6 : Option SV) (ρ2 ρ3 : Option SV), (∀ v ∈ L, v.length ≤ 1000) → OptD q5 → OptD q6 → acc.length + L.length * p ≤ 1000000 →
    ∃ q q', forGo (.n 5) lb__law_all_1 (L.map vD) [some (.d (.int p)), some (.d (.int n)), ρ2, ρ3, some (.own (.lst acc)), q5, q6] = .next [some (.d (.int p)), some (.d (.int n)), ρ2, ρ3, some (.own (.lst (acc ++ (L.flatMap (ext1 p)).map vD))), q, q'] ∧ OptD q ∧ OptD q'
  | [], acc, q5, q6, ρ2, ρ3, _, h5, h6, _ => ⟨q5, q6, by simp [forGo], h5, h6⟩
  | v :: L, acc, q5, q6, ρ2, ρ3, hv, h5, h6, ha => by
    rw [List.length_cons, Nat.succ_mul] at ha
    obtain ⟨q, e1, e2⟩ := in_loop v (hv v List.mem_cons_self) (some (.d (.int p))) (some (.d (.int n))) ρ2 ρ3 q6 h6 hp acc (by omega)
    obtain ⟨r, r', e3, e4, e5⟩ := mid_loop hp hn L (acc ++ (ext1 p v).map vD) (some (.d (vD v))) q ρ2 ρ3 (fun w hw => hv w (List.mem_cons_of_mem _ hw)) (.inr ⟨_, rfl⟩) e2 (by rw [List.length_append, List.length_map, ext1_len]; omega)
    refine ⟨r, r', ?_, e4, e5⟩
    rw [List.map_cons]
    unfold forGo
    have t1 : tgSet (.n 5) (vD v) [some (.d (.int p)), some (.d (.int n)), ρ2, ρ3, some (.own (.lst acc)), q5, q6] = some [some (.d (.int p)), some (.d (.int n)), ρ2, ρ3, some (.own (.lst acc)), some (.d (vD v)), q6] := by
      rcases h5 with rfl | ⟨_, rfl⟩ <;> simp
    have rq := range1_nat (q := p) (by omega)
    have b1 : lb__law_all_1 [some (.d (.int p)), some (.d (.int n)), ρ2, ρ3, some (.own (.lst acc)), some (.d (vD v)), q6] = .next [some (.d (.int p)), some (.d (.int n)), ρ2, ρ3, some (.own (.lst (acc ++ (ext1 p v).map vD))), some (.d (vD v)), q] := by
      generalize (acc ++ (ext1 p v).map vD) = A at *
      generalize vD v = V at *
      simp [lb__law_all_1, rq, e1]
    rw [t1]
    simp only [b1]
    rw [e3, List.flatMap_cons, List.map_append, List.append_assoc]
theorem all_s {p n : Nat} (hp : p ≤ 13) (hp1 : 1 ≤ p) (hn : n ≤ 100) (hb : p ^ n ≤ 1000) : f__law_all [.d (.int p), .d (.int n)] = .ok (.d (.list ((allT p n).map vD))) [] := by
  obtain ⟨ρ', h1, q3, q4, q5, q6, rfl, _, _, _, _⟩ := for_at (tg := .n 3) (b := lb__law_all_2) (J := fun k ρ => ∃ q3 q4 q5 q6, ρ = [some (.d (.int p)), some (.d (.int n)), some (.d (.list ((allT p k).map vD))), q3, q4, q5, q6] ∧ OptD q3 ∧ OptD q4 ∧ OptD q5 ∧ OptD q6) (intsD 0 n) 0 [some (.d (.int p)), some (.d (.int n)), some (.d (.list [.tuple []])), none, none, none, none] ⟨none, none, none, none, rfl, .inl rfl, .inl rfl, .inl rfl, .inl rfl⟩ fun k x ρ hk hJ => by
      rw [Nat.zero_add] at hJ ⊢
      obtain ⟨q3, q4, q5, q6, rfl, h3, h4, h5, h6⟩ := hJ
      obtain ⟨rfl, hkl⟩ := ints_at hk
      have hle : p ^ (k + 1) ≤ p ^ n := Nat.pow_le_pow_right (by omega) (by omega)
      rw [Nat.pow_succ] at hle
      obtain ⟨r, r', e1, e2, e3⟩ := mid_loop (n := n) hp hn (allT p k) [] q5 q6 (some (.d (.list ((allT p k).map vD)))) (some (.d (.int k))) (fun v hv => by rw [(all_in k v hv).1]; omega) h5 h6 (by rw [all_len]; show 0 + _ ≤ _; omega)
      rw [List.nil_append] at e1
      refine ⟨[some (.d (.int p)), some (.d (.int n)), some (.d (.list ((allT p k).map vD))), some (.d (.int k)), q4, q5, q6], [some (.d (.int p)), some (.d (.int n)), some (.d (.list ((allT p (k + 1)).map vD))), some (.d (.int k)), some (.d (.list ((allT p (k + 1)).map vD))), r, r'], ?_, ?_, _, _, _, _, rfl, .inr ⟨_, rfl⟩, .inr ⟨_, rfl⟩, e2, e3⟩
      · rcases h3 with rfl | ⟨_, rfl⟩ <;> simp
      · have ea : (allT p (k + 1)).map vD = ((allT p k).flatMap (ext1 p)).map vD := rfl
        rw [ea]
        generalize ((allT p k).flatMap (ext1 p)).map vD = A at *
        generalize (allT p k).map vD = B at *
        rcases h4 with rfl | ⟨_, rfl⟩ <;> simp [lb__law_all_2, e1, frz, frz1]
  rw [intsD_len, Nat.zero_add] at h1
  have rq := range1_nat (q := n) (by omega)
  generalize (allT p n).map vD = A at *
  simp [f__law_all, b__law_all, rq, h1]
/-! the weights that a step takes to 0 -/
def quiet (p m : Nat) (ts : List (Int × Int)) (n : Nat) (ws : List Int) : Bool := !((rowsT m ts n).map fun r => RR.dot ws r % (p : Int)).any fun i => i != 0
theorem dot_zero : ∀ (n : Nat) (r : List Int), RR.dot (List.replicate n 0) r = 0
  | 0, r => by simp [RR.dot]
  | n + 1, [] => by simp [RR.dot]
  | n + 1, z :: r => by
    have := dot_zero n r
    unfold RR.dot at *
    simp [List.replicate_succ, this]
theorem quiet_zero (p m : Nat) (ts : List (Int × Int)) (n : Nat) : quiet p m ts n (List.replicate n 0) = true := by
  unfold quiet
  rw [Bool.not_eq_true', List.any_map]
  rw [Bool.eq_false_iff]
  intro h
  obtain ⟨r, _, h2⟩ := List.any_eq_true.mp h
  simp [dot_zero] at h2
theorem killed_s {m : Nat} (hm : m ∈ tenN) {ts : List (Int × Int)} (hR : Fac ts) {p n : Nat} (hp : p ≤ 13) (hp1 : 1 ≤ p) (hn1 : 1 ≤ n) (hn : n ≤ 60) (hb : p ^ n ≤ 1000) :
    f__law_killed [.d (rD m ts), .d (.int p), .d (.int n)] = .ok (.own (.lst (((allT p n).filter (quiet p m ts n)).map vD))) [] := by
  have ht := table_s hm hR n hn
  have ha := all_s hp hp1 (by omega) hb
  have rl := rows_len m ts n
  obtain ⟨ρ', h1, q5, q6, rfl, _, _⟩ := for_at (tg := .n 5) (b := lb__law_killed_0) (J := fun k ρ => ∃ q5 q6, ρ = [some (.d (rD m ts)), some (.d (.int p)), some (.d (.int n)), some (.d (.list ((rowsT m ts n).map vD))), some (.own (.lst ((((allT p n).take k).filter (quiet p m ts n)).map vD))), q5, q6, none, none, none] ∧ OptD q5 ∧ OptD q6)
    ((allT p n).map vD) 0 [some (.d (rD m ts)), some (.d (.int p)), some (.d (.int n)), some (.d (.list ((rowsT m ts n).map vD))), some (.own (.lst [])), none, none, none, none, none] ⟨none, none, rfl, .inl rfl, .inl rfl⟩ fun k x ρ hk hJ => by
      rw [Nat.zero_add] at hJ ⊢
      obtain ⟨q5, q6, rfl, h5, h6⟩ := hJ
      rw [List.getElem?_map] at hk
      obtain ⟨ws, hws, rfl⟩ := Option.map_eq_some_iff.mp hk
      have hkl := (List.getElem?_eq_some_iff.mp hws).1
      have hwi := all_in n ws (List.mem_of_getElem? hws)
      have hw2 : ∀ a ∈ ws, 0 ≤ a ∧ a < 1000 := fun a ha => by have := hwi.2 a ha; omega
      have hc : compGo [7] (.n 7) mYes (m2 bMod (mB gInt [(mB gSum [(mComp [8, 9] (.t [(.n 8), (.n 9)]) (iA zipA [(mV 5), (mV 7)]) mYes (m2 bMulI (mV 8) (mV 9)))])]) (mV 1)) ((rowsT m ts n).map vD) [] [some (.d (rD m ts)), some (.d (.int p)), some (.d (.int n)), some (.d (.list ((rowsT m ts n).map vD))), some (.own (.lst ((((allT p n).take k).filter (quiet p m ts n)).map vD))), some (.d (vD ws)), q6, none, none, none] =
          .ok (.own (.lst (((rowsT m ts n).map fun r => RR.dot ws r % (p : Int)).map PyData.int))) [some (.d (rD m ts)), some (.d (.int p)), some (.d (.int n)), some (.d (.list ((rowsT m ts n).map vD))), some (.own (.lst ((((allT p n).take k).filter (quiet p m ts n)).map vD))), some (.d (vD ws)), q6, none, none, none] := by
        have e : ((rowsT m ts n).map fun r => RR.dot ws r % (p : Int)).map PyData.int = [] ++ ((rowsT m ts n).map vD).map fun x => match x with | .tuple zs => (match intsOf zs with | some r => .int (RR.dot ws r % (p : Int)) | none => .none) | _ => .none := by
          rw [List.map_map, List.map_map, List.nil_append]
          apply List.map_congr_left
          intro r _
          show _ = (match intsOf (r.map PyData.int) with | some r => PyData.int (RR.dot ws r % (p : Int)) | none => .none)
          rw [ints_id] <;> rfl
        rw [e]
        refine comp_pure fun x hx => ?_
        obtain ⟨r, hr, rfl⟩ := List.mem_map.mp hx
        have hdc : compGo [8, 9] (.t [(.n 8), (.n 9)]) mYes (m2 bMulI (mV 8) (mV 9)) (zipL (ws.map PyData.int) (r.map PyData.int)) [] [some (.d (rD m ts)), some (.d (.int p)), some (.d (.int n)), some (.d (.list ((rowsT m ts n).map vD))), some (.own (.lst ((((allT p n).take k).filter (quiet p m ts n)).map vD))), some (.d (vD ws)), q6, some (.d (vD r)), none, none] =
            .ok (.own (.lst ((List.zipWith (fun a b => a * b) ws r).map PyData.int))) [some (.d (rD m ts)), some (.d (.int p)), some (.d (.int n)), some (.d (.list ((rowsT m ts n).map vD))), some (.own (.lst ((((allT p n).take k).filter (quiet p m ts n)).map vD))), some (.d (vD ws)), q6, some (.d (vD r)), none, none] := by
          rw [← prd_sum, zip_tp]
          refine comp_pure fun x hx => ?_
          obtain ⟨t, ht, rfl⟩ := List.mem_map.mp hx
          have := hw2 t.1 (List.of_mem_zip ht).1
          have mu : bMulI (.int t.1) (.int t.2) = some (.d (.int (t.1 * t.2))) := mul_small (by omega) (by omega)
          exact ⟨[some (.d (rD m ts)), some (.d (.int p)), some (.d (.int n)), some (.d (.list ((rowsT m ts n).map vD))), some (.own (.lst ((((allT p n).take k).filter (quiet p m ts n)).map vD))), some (.d (vD ws)), q6, some (.d (vD r)), some (.d (.int t.1)), some (.d (.int t.2))], .d (.int (t.1 * t.2)), by simp [tp], by simp [mu], rfl, by simp⟩
        have hdi := ints_id (List.zipWith (fun a b => a * b) ws r)
        have hsum : (List.zipWith (fun a b => a * b) ws r).sum = RR.dot ws r := rfl
        have hmd : bMod (.int (RR.dot ws r)) (.int p) = some (.d (.int (RR.dot ws r % (p : Int)))) := mod_p (by omega)
        have hzd : zipA [vD ws, vD r] = some (zipL (ws.map PyData.int) (r.map PyData.int)) := rfl
        have hzl : (zipL (ws.map PyData.int) (r.map PyData.int)).length ≤ 16777216 := by rw [zipL_len, List.length_map]; omega
        refine ⟨[some (.d (rD m ts)), some (.d (.int p)), some (.d (.int n)), some (.d (.list ((rowsT m ts n).map vD))), some (.own (.lst ((((allT p n).take k).filter (quiet p m ts n)).map vD))), some (.d (vD ws)), q6, some (.d (vD r)), none, none], .d (.int (RR.dot ws r % (p : Int))), by simp, ?_, ?_, by simp⟩
        · generalize (rowsT m ts n).map vD = TB at *
          generalize (((allT p n).take k).filter (quiet p m ts n)).map vD = FF at *
          generalize List.zipWith (fun a b => a * b) ws r = Z at *
          generalize zipL (ws.map PyData.int) (r.map PyData.int) = ZL at *
          generalize RR.dot ws r = S at *
          generalize vD r = R1 at *
          generalize vD ws = W1 at *
          simp [hzd, hzl, hdc, hdi, hsum, hmd]
        · show _ = some (match intsOf (r.map PyData.int) with | some r => PyData.int (RR.dot ws r % (p : Int)) | none => .none)
          rw [ints_id] <;> rfl
      have hany := anyL_ints ((rowsT m ts n).map fun r => RR.dot ws r % (p : Int))
      have hq : (((rowsT m ts n).map fun r => RR.dot ws r % (p : Int)).any fun i => i != 0) = !quiet p m ts n ws := by unfold quiet; rw [Bool.not_not]
      rw [hq] at hany
      have ltb : ((rowsT m ts n).map vD).length ≤ 16777216 := by rw [List.length_map, rl]; omega
      have hlen : ((((allT p n).take k).filter (quiet p m ts n)).map vD).length ≤ 1000 := by
        rw [List.length_map]
        have h1 := List.length_filter_le (quiet p m ts n) ((allT p n).take k)
        have h2 : ((allT p n).take k).length ≤ (allT p n).length := by rw [List.length_take]; omega
        rw [all_len] at h2
        omega
      have gl := gApp_l (xs := (((allT p n).take k).filter (quiet p m ts n)).map vD) (x := vD ws) (by omega)
      have etk : (allT p n).take (k + 1) = (allT p n).take k ++ [ws] := by
        rw [List.take_add_one, hws] <;> rfl
      refine ⟨[some (.d (rD m ts)), some (.d (.int p)), some (.d (.int n)), some (.d (.list ((rowsT m ts n).map vD))), some (.own (.lst ((((allT p n).take k).filter (quiet p m ts n)).map vD))), some (.d (vD ws)), q6, none, none, none], [some (.d (rD m ts)), some (.d (.int p)), some (.d (.int n)), some (.d (.list ((rowsT m ts n).map vD))), some (.own (.lst ((((allT p n).take (k + 1)).filter (quiet p m ts n)).map vD))), some (.d (vD ws)), some (.d (.list (((rowsT m ts n).map fun r => RR.dot ws r % (p : Int)).map PyData.int))), none, none, none], ?_, ?_, _, _, rfl, .inr ⟨_, rfl⟩, .inr ⟨_, rfl⟩⟩
      · rcases h5 with rfl | ⟨_, rfl⟩ <;> simp
      · rw [etk, List.filter_append, List.map_append]
        have e1 : ([ws].filter (quiet p m ts n)).map vD = if quiet p m ts n ws = true then [vD ws] else [] := by
          cases h : quiet p m ts n ws <;> simp [h]
        rw [e1]
        generalize ((rowsT m ts n).map fun r => RR.dot ws r % (p : Int)).map PyData.int = SU at *
        generalize (rowsT m ts n).map vD = TB at *
        generalize (((allT p n).take k).filter (quiet p m ts n)).map vD = FF at *
        generalize quiet p m ts n ws = QQ at *
        generalize vD ws = W1 at *
        cases QQ <;> rcases h6 with rfl | ⟨_, rfl⟩ <;> simp [lb__law_killed_0, ltb, hc, hany, gl]
  rw [List.length_map, Nat.zero_add, List.take_length] at h1
  generalize (allT p n).map vD = A at *
  generalize ((allT p n).filter (quiet p m ts n)).map vD = FF at *
  generalize (rowsT m ts n).map vD = TB at *
  simp [f__law_killed, b__law_killed, ht, ha, h1]
end K29
end

section
set_option autoImplicit false
set_option maxRecDepth 100000
set_option linter.all false
namespace K29
open PySem PySem.Spec L2 MP
/-! the values that are asked for can be shown -/
def strOk (k : Nat) : Bool := (PyData.str (toString (k : Int))).leavesShort 700 && (PyData.str (toString (k : Int))).showable && decide ((PyData.str (toString (k : Int))).bulk ≤ 3) && decide ((PyData.str (toString (k : Int))).depth ≤ 0)
theorem strs_ok : ((List.range 14).all strOk) = true := by decide +kernel
theorem fine_strI {k : Nat} (h : k < 14) : Fine 3 0 (.str (toString (k : Int))) := by
  have := List.all_eq_true.mp strs_ok k (List.mem_range.mpr h)
  unfold strOk at this
  simp only [Bool.and_eq_true, decide_eq_true_eq] at this
  exact ⟨this.1.1.1, this.1.1.2, this.1.2, this.2⟩
theorem fine_one : Fine 3 0 (.str "1") := by
  refine ⟨?_, ?_, ?_, ?_⟩ <;> decide +kernel
theorem fine_bar : Fine 3 0 (.str "bar") := by
  refine ⟨?_, ?_, ?_, ?_⟩ <;> decide +kernel
theorem str_s {k : Nat} (h : k < 14) : gStr [.int k] = some (.d (.str (toString (k : Int)))) := by
  refine if_pos ?_
  have h1 : ((k : Int)).natAbs = k := by omega
  rw [h1]
  exact Nat.lt_of_le_of_lt (Nat.log2_le_self _) (by omega)
theorem fine_cells {ws : List Int} (h : ∀ w ∈ ws, 0 ≤ w ∧ w < 1000) {n : Nat} (hn : ws.length ≤ n) : Fine n 1 (vD ws) := by
  have := fine_tuple (xs := ws.map PyData.int) (b := 0) (d := 0) (n := n) (fun x hx => by
    obtain ⟨w, hw, rfl⟩ := List.mem_map.mp hx
    have := h w hw
    exact fine_small (Nat.lt_of_lt_of_le (show w.natAbs < 1000 by omega) (by decide))) (by rw [List.length_map]; exact hn)
  exact this.mono (by omega) (by omega)
theorem fine_i {i : Int} (h : i.natAbs < 10 ^ 40) : Fine 0 0 (.int i) := fine_small (Nat.lt_trans h (by decide))
structure W (p : Nat) (ws : List Int) : Prop where
  cs : Cs p ws
  lo : 1 ≤ ws.length
  hi : ws.length ≤ 60
theorem put_s {ws : List Int} {at_ : Nat} (y : D) (h : at_ < ws.length) (hl : ws.length ≤ 60) : ∃ z, slD (vD ws) none (some (at_ : Int)) = some (.d (.tuple ((ws.take at_).map PyData.int))) ∧ bAdd (.tuple ((ws.take at_).map PyData.int)) (.tuple [y]) = some (.d (.tuple ((ws.take at_).map PyData.int ++ [y]))) ∧
    slD (vD ws) (some ((at_ : Int) + 1)) none = some (.d (.tuple ((ws.drop (at_ + 1)).map PyData.int))) ∧ bAdd (.tuple ((ws.take at_).map PyData.int ++ [y])) (.tuple ((ws.drop (at_ + 1)).map PyData.int)) = some (.d (.tuple z)) ∧ z = (ws.take at_).map PyData.int ++ [y] ++ (ws.drop (at_ + 1)).map PyData.int := by
  refine ⟨_, ?_, if_pos ?_, ?_, if_pos ?_, rfl⟩
  · rw [slD_tup, cut_to, List.map_take]
  · rw [List.length_map, List.length_take, List.length_singleton]; unfold line; omega
  · rw [slD_tup, cut_from (by omega), List.map_drop, show ((at_ : Int) + 1).toNat = at_ + 1 by omega]
  · rw [List.length_append, List.length_map, List.length_take, List.length_singleton, List.length_map, List.length_drop]; unfold line; omega
theorem odd_s {N : Nat} {l : List D} (h : Pot N l) (hN : N ≤ 900000) {p : Nat} (hp : 2 ≤ p ∧ p ≤ 13) {ws : List Int} (hW : W p ws) :
    ∃ (ys : List D) (l' : List D), f__law_odd_weights [.ref (.lst l), .d (vD ws), .d (.int p)] = .ok (.own (.lst ys)) [.lst l'] ∧ Pot (N + 1) l' ∧ (∀ y ∈ ys, Fine 600 2 y) ∧ ys.length ≤ 30 := by
  have hlo := hW.lo
  have hhi := hW.hi
  have hw2 : ∀ w ∈ ws, 0 ≤ w ∧ w < 1000 := fun w hw => by have := hW.cs w hw; omega
  obtain ⟨a, l1, k1, S1, ha⟩ := take_s h (by omega) ws.length (by omega) (by omega)
  have hat := at_ints (xs := ws) ha
  have hv := hW.cs _ (List.getElem_mem ha)
  obtain ⟨v, hv0⟩ := nat_of hv.1
  rw [hv0] at hat hv
  have hv14 : v < 14 := by omega
  have hst := str_s hv14
  have hmd : bMod (.int ((v : Int) + 1)) (.int p) = some (.d (.int (((v : Int) + 1) % p))) := mod_p (by omega)
  have hm0 : 0 ≤ ((v : Int) + 1) % p ∧ ((v : Int) + 1) % p < p := ⟨Int.emod_nonneg _ (by omega), Int.emod_lt_of_pos _ (by omega)⟩
  obtain ⟨os, hos⟩ : ∃ os, os = [PyData.int ((v : Int) + p), .int ((v : Int) - p), .int (-1), .int p, .bool true, .bool false, .none, .str (toString (v : Int)), .list [.int v], .tuple [.int v], .int (((v : Int) + 1) % p)] := ⟨_, rfl⟩
  have fi : ∀ z : Int, z.natAbs < 10 ^ 40 → Fine 3 1 (.int z) := fun z hz => (fine_i hz).mono (by omega) (by omega)
  have big : 100 < 10 ^ 40 := by decide
  have hfo : ∀ y ∈ os, Fine 3 1 y := fun y hy => by
    rw [hos] at hy
    simp only [List.mem_cons, List.not_mem_nil, or_false] at hy
    rcases hy with rfl | rfl | rfl | rfl | rfl | rfl | rfl | rfl | rfl | rfl | rfl
    · exact fi _ (by omega)
    · exact fi _ (by omega)
    · exact fi _ (by omega)
    · exact fi _ (by omega)
    · exact fine_bool.mono (by omega) (by omega)
    · exact fine_bool.mono (by omega) (by omega)
    · exact fine_none.mono (by omega) (by omega)
    · exact (fine_strI hv14).mono (by omega) (by omega)
    · exact (fine_list (n := 1) (b := 0) (d := 0) (fun x hx => by rw [List.mem_singleton.mp hx]; exact fine_i (by omega)) (by simp)).mono (by omega) (by omega)
    · exact (fine_tuple (n := 1) (b := 0) (d := 0) (fun x hx => by rw [List.mem_singleton.mp hx]; exact fine_i (by omega)) (by simp)).mono (by omega) (by omega)
    · exact fi _ (by omega)
  have hlo2 : os.length = 11 := by rw [hos] <;> rfl
  obtain ⟨ρ', e1, q, ys, rfl, hq, hys, hyl⟩ := for_at (tg := .n 7) (b := lb__law_odd_weights_0) (J := fun k ρ => ∃ q ys, ρ = [some (.ref (.lst l1)), some (.d (vD ws)), some (.d (.int p)), some (.d (.int a)), some (.d (.int v)), some (.own (.lst ys)), some (.d (.list os)), q] ∧ OptD q ∧ (∀ y ∈ ys, Fine 600 2 y) ∧ ys.length = k) os 0 [some (.ref (.lst l1)), some (.d (vD ws)), some (.d (.int p)), some (.d (.int a)), some (.d (.int v)), some (.own (.lst [])), some (.d (.list os)), none] ⟨none, [], rfl, .inl rfl, (fun y hy => nomatch hy), rfl⟩ fun k x ρ hk hJ => by
      rw [Nat.zero_add] at hJ ⊢
      obtain ⟨q, ys, rfl, hq, hys, hyl⟩ := hJ
      have hkl := (List.getElem?_eq_some_iff.mp hk).1
      have hfx := hfo x (List.mem_of_getElem? hk)
      obtain ⟨z, z1, z2, z3, z4, z5⟩ := put_s x ha hhi
      have gl := gApp_l (xs := ys) (x := .tuple z) (by omega)
      have hfz : Fine 600 2 (.tuple z) := by
        have := fine_tuple (xs := z) (b := 3) (d := 1) (n := 61) (fun y hy => by
          rw [z5] at hy
          have hc : ∀ us : List Int, (∀ u ∈ us, u ∈ ws) → ∀ y ∈ us.map PyData.int, Fine 3 1 y := fun us hus y hy => by
            obtain ⟨u, hu, rfl⟩ := List.mem_map.mp hy
            have := hw2 u (hus u hu)
            exact fi _ (by omega)
          rcases List.mem_append.mp hy with hy | hy
          · rcases List.mem_append.mp hy with hy | hy
            · exact hc _ (fun u hu => List.mem_of_mem_take hu) y hy
            · rw [List.mem_singleton.mp hy]; exact hfx
          · exact hc _ (fun u hu => List.mem_of_mem_drop hu) y hy) (by
          rw [z5, List.length_append, List.length_append, List.length_map, List.length_map, List.length_take, List.length_drop, List.length_singleton]; omega)
        exact this.mono (by omega) (by omega)
      refine ⟨[some (.ref (.lst l1)), some (.d (vD ws)), some (.d (.int p)), some (.d (.int a)), some (.d (.int v)), some (.own (.lst ys)), some (.d (.list os)), some (.d x)], [some (.ref (.lst l1)), some (.d (vD ws)), some (.d (.int p)), some (.d (.int a)), some (.d (.int v)), some (.own (.lst (ys ++ [.tuple z]))), some (.d (.list os)), some (.d x)], ?_, ?_, _, _, rfl, .inr ⟨_, rfl⟩, ?_, by rw [List.length_append, hyl] <;> rfl⟩
      · rcases hq with rfl | ⟨_, rfl⟩ <;> simp
      · generalize (ws.take a).map PyData.int = A1 at *
        generalize (ws.drop (a + 1)).map PyData.int = A2 at *
        generalize vD ws = V at *
        clear hfo hos
        simp [lb__law_odd_weights_0, z1, z2, z3, z4, gl]
      · intro y hy
        rcases List.mem_append.mp hy with hy | hy
        · exact hys y hy
        · rw [List.mem_singleton.mp hy]; exact hfz
  rw [Nat.zero_add] at hyl
  obtain ⟨es, hes⟩ : ∃ es : List D, es = [.tuple ((ws.take (ws.length - 1)).map PyData.int), .tuple (ws.map PyData.int ++ [.int 0]), .tuple (ws.map PyData.int ++ ws.map PyData.int), .list (ws.map PyData.int), .tuple [], .none, .int 0, .str "1"] := ⟨_, rfl⟩
  have s1 : slD (vD ws) none (some (-1)) = some (.d (.tuple ((ws.take (ws.length - 1)).map PyData.int))) := by
    rw [slD_tup, cut_to1, List.map_take, List.length_map]
  have s2 : bAdd (vD ws) (.tuple [.int 0]) = some (.d (.tuple (ws.map PyData.int ++ [.int 0]))) := if_pos (by rw [List.length_map, List.length_singleton]; unfold line; omega)
  have s3 : bAdd (vD ws) (vD ws) = some (.d (.tuple (ws.map PyData.int ++ ws.map PyData.int))) := if_pos (by rw [List.length_map]; unfold line; omega)
  have s4 : gLst [vD ws] = some (.own (.lst (ws.map PyData.int))) := rfl
  have s5 : bAdd (.list ys) (.list es) = some (.own (.lst (ys ++ es))) := if_pos (by rw [hyl, hlo2, hes]; show 11 + 8 ≤ line; unfold line; omega)
  have hc : ∀ us : List Int, (∀ u ∈ us, u ∈ ws ∨ u = 0) → ∀ y ∈ us.map PyData.int, Fine 0 0 y := fun us hus y hy => by
    obtain ⟨u, hu, rfl⟩ := List.mem_map.mp hy
    rcases hus u hu with h | h
    · have := hw2 u h
      exact fine_i (by omega)
    · exact fine_i (by omega)
  have hfe : ∀ y ∈ es, Fine 600 2 y := fun y hy => by
    rw [hes] at hy
    simp only [List.mem_cons, List.not_mem_nil, or_false] at hy
    rcases hy with rfl | rfl | rfl | rfl | rfl | rfl | rfl | rfl
    · exact (fine_tuple (n := 60) (hc _ fun u hu => .inl (List.mem_of_mem_take hu)) (by rw [List.length_map, List.length_take]; omega)).mono (by omega) (by omega)
    · exact (fine_tuple (n := 61) (fun x hx => (List.mem_append.mp hx).elim (hc ws (fun u hu => .inl hu) x) fun hx => by rw [List.mem_singleton.mp hx]; exact fine_i (by omega)) (by rw [List.length_append, List.length_map, List.length_singleton]; omega)).mono (by omega) (by omega)
    · exact (fine_tuple (n := 120) (fun x hx => (List.mem_append.mp hx).elim (hc ws (fun u hu => .inl hu) x) (hc ws (fun u hu => .inl hu) x)) (by rw [List.length_append, List.length_map]; omega)).mono (by omega) (by omega)
    · exact (fine_list (n := 60) (hc ws fun u hu => .inl hu) (by rw [List.length_map]; omega)).mono (by omega) (by omega)
    · exact (fine_tuple (n := 0) (b := 0) (d := 0) (fun x hx => absurd hx (by simp)) (by simp)).mono (by omega) (by omega)
    · exact fine_none.mono (by omega) (by omega)
    · exact (fine_i (by omega)).mono (by omega) (by omega)
    · exact fine_one.mono (by omega) (by omega)
  refine ⟨ys ++ es, l1, ?_, S1, fun y hy => (List.mem_append.mp hy).elim (hys y) (hfe y), by rw [List.length_append, hyl, hlo2, hes]; show 11 + 8 ≤ 30; omega⟩
  have hsub : bSub (.int v) (.int p) = some (.d (.int ((v : Int) - p))) := rfl
  have hlen : (ws.map PyData.int).length = ws.length := List.length_map ..
  dsimp only [vD] at *
  rw [hes] at s5 ⊢
  rw [hos] at e1
  generalize (PyData.str (toString (v : Int))) = ST at *
  generalize ((v : Int) + 1) % (p : Int) = MM at *
  generalize (ws.take (ws.length - 1)).map PyData.int = A1 at *
  generalize hA : ws.map PyData.int = A at *
  clear hfo hos hfe hes hc
  simp [f__law_odd_weights, b__law_odd_weights, hlen, k1, hat, hst, hmd, e1, s1, s2, s3, s5]
theorem fine_dict {k : Str} {x : D} {b d : Nat} (hk : Fine 3 0 (.str k)) (h : Fine b d x) : Fine (b + 5) (d + 1) (.dict [(.str k, x)]) := by
  have k1 := hk.short
  have k2 := hk.shw
  have k3 := hk.bulk
  have k4 := hk.dep
  refine ⟨?_, ?_, ?_, ?_⟩
  · simp only [PyData.leavesShort, PyData.leavesShortKv, h.short, Bool.and_true]
    simpa only [PyData.leavesShort] using k1
  · simp only [PyData.showable, PyData.showableKv, h.shw, Bool.and_true]
  · have := h.bulk
    simp only [PyData.bulk] at k3
    simp only [PyData.bulk, PyData.bulkKv]
    omega
  · have := h.dep
    simp only [PyData.depth] at k4
    simp only [PyData.depth, PyData.depthKv]
    omega
theorem fine_a : Fine 3 0 (.str "a") := by
  refine ⟨?_, ?_, ?_, ?_⟩ <;> decide +kernel
theorem fine_dct0 : Fine 0 1 (.dict []) := by
  refine ⟨?_, ?_, ?_, ?_⟩ <;> simp [PyData.leavesShort, PyData.leavesShortKv, PyData.showable, PyData.showableKv, PyData.bulk, PyData.bulkKv, PyData.depth, PyData.depthKv]
theorem objects_s {N : Nat} {l : List D} (h : Pot N l) (hN : N ≤ 900000) {m p : Nat} (hm : m ≤ 15) (hp : 2 ≤ p ∧ p ≤ 13) {ws : List Int} (hW : W p ws) :
    ∃ (ys : List D) (l' : List D), f__law_objects [.ref (.lst l), .d (.int m), .d (.int p), .d (vD ws)] = .ok (.own (.lst ys)) [.lst l'] ∧ Pot (N + 1) l' ∧ (∀ y ∈ ys, Fine 5000 10 y) ∧ ys.length ≤ 1000 := by
  have hlo := hW.lo
  have hhi := hW.hi
  have hw2 : ∀ w ∈ ws, 0 ≤ w ∧ w < 1000 := fun w hw => by have := hW.cs w hw; omega
  obtain ⟨os, l1, k1, S1, hos, hol⟩ := odd_s h hN hp hW
  have fw : Fine 60 1 (vD ws) := fine_cells hw2 hhi
  have big : 1000 < 10 ^ 40 := by decide
  have fi : ∀ z : Int, z.natAbs < 10 ^ 40 → ∀ d, Fine 60 d (.int z) := fun z hz d => (fine_i hz).mono (by omega) (by omega)
  have two_ : ∀ (x y : D) (b d : Nat), Fine b d x → Fine b d y → Fine (2 * (b + 1)) (d + 1) (.tuple [x, y]) := fun x y b d hx hy => fine_tuple (n := 2) (fun z hz => by
    simp only [List.mem_cons, List.not_mem_nil, or_false] at hz
    rcases hz with rfl | rfl
    · exact hx
    · exact hy) (by simp)
  have twoL : ∀ (x y : D) (b d : Nat), Fine b d x → Fine b d y → Fine (2 * (b + 1)) (d + 1) (.list [x, y]) := fun x y b d hx hy => fine_list (n := 2) (fun z hz => by
    simp only [List.mem_cons, List.not_mem_nil, or_false] at hz
    rcases hz with rfl | rfl
    · exact hx
    · exact hy) (by simp)
  have c1 := comp_pure (vs := [6]) (tg := .n 6) (e := mTup [(mV 2), (mV 6)]) (ρ := [some (.ref (.lst l1)), some (.d (.int m)), some (.d (.int p)), some (.d (vD ws)), none, none, none]) (y := fun x => .tuple [.int p, x]) (xs := os) (acc := []) fun x hx =>
    ⟨[some (.ref (.lst l1)), some (.d (.int m)), some (.d (.int p)), some (.d (vD ws)), none, none, some (.d x)], .d (.tuple [.int p, x]), by simp, by simp, rfl, by simp⟩
  rw [List.nil_append] at c1
  obtain ⟨F1, hF1⟩ : ∃ F1 : List D, F1 = .tuple [.int p, vD ws] :: os.map fun x => .tuple [.int p, x] := ⟨_, rfl⟩
  have b1 : bAdd (.list [.tuple [.int p, vD ws]]) (.list (os.map fun x => .tuple [.int p, x])) = some (.own (.lst F1)) := by
    rw [hF1]
    exact if_pos (by rw [List.length_map, List.length_singleton]; unfold line; omega)
  have l1F : F1.length ≤ 31 := by rw [hF1, List.length_cons, List.length_map]; omega
  have fF1 : ∀ y ∈ F1, Fine 5000 10 y := fun y hy => by
    rw [hF1] at hy
    rcases List.mem_cons.mp hy with rfl | hy
    · exact (two_ _ _ 60 1 (fi p (by omega) 1) fw).mono (by omega) (by omega)
    · obtain ⟨x, hx, rfl⟩ := List.mem_map.mp hy
      exact (two_ _ _ 600 2 ((fi p (by omega) 1).mono (by omega) (by omega)) (hos x hx)).mono (by omega) (by omega)
  have hst := str_s (k := p) (by omega)
  have p30' := p30
  obtain ⟨as, has⟩ : ∃ as : List D, as = [.int 2, .int 3, .int 5, .int 7, .int 11, .int 13, .int m, .int 0, .int 1, .int (-p), .bool true, .none, .str (toString (p : Int)), .list [.int p], .int 1000000000000000000000000000000] := ⟨_, rfl⟩
  have fas : ∀ y ∈ as, Fine 60 1 y := fun y hy => by
    rw [has] at hy
    simp only [List.mem_cons, List.not_mem_nil, or_false] at hy
    rcases hy with rfl | rfl | rfl | rfl | rfl | rfl | rfl | rfl | rfl | rfl | rfl | rfl | rfl | rfl | rfl
    · exact fi _ (by omega) 1
    · exact fi _ (by omega) 1
    · exact fi _ (by omega) 1
    · exact fi _ (by omega) 1
    · exact fi _ (by omega) 1
    · exact fi _ (by omega) 1
    · exact fi _ (by omega) 1
    · exact fi _ (by omega) 1
    · exact fi _ (by omega) 1
    · exact fi _ (by omega) 1
    · exact fine_bool.mono (by omega) (by omega)
    · exact fine_none.mono (by omega) (by omega)
    · exact (fine_strI (by omega)).mono (by omega) (by omega)
    · exact (fine_list (n := 1) (b := 0) (d := 0) (fun x hx => by rw [List.mem_singleton.mp hx]; exact fine_i (by omega)) (by simp)).mono (by omega) (by omega)
    · exact fi _ (by decide) 1
  have las : as.length = 15 := by rw [has] <;> rfl
  obtain ⟨ρ', e1, q, ys, rfl, hq, hys, hyl⟩ := for_at (tg := .n 5) (b := lb__law_objects_0) (J := fun k ρ => ∃ q ys, ρ = [some (.ref (.lst l1)), some (.d (.int m)), some (.d (.int p)), some (.d (vD ws)), some (.own (.lst ys)), q, none] ∧ OptD q ∧ (∀ y ∈ ys, Fine 5000 10 y) ∧ ys.length = F1.length + k) as 0 [some (.ref (.lst l1)), some (.d (.int m)), some (.d (.int p)), some (.d (vD ws)), some (.own (.lst F1)), none, none] ⟨none, F1, rfl, .inl rfl, fF1, rfl⟩ fun k x ρ hk hJ => by
      rw [Nat.zero_add] at hJ ⊢
      obtain ⟨q, ys, rfl, hq, hys, hyl⟩ := hJ
      have hkl := (List.getElem?_eq_some_iff.mp hk).1
      have hfx := fas x (List.mem_of_getElem? hk)
      have gl := gApp_l (xs := ys) (x := .tuple [x, vD ws]) (by omega)
      refine ⟨[some (.ref (.lst l1)), some (.d (.int m)), some (.d (.int p)), some (.d (vD ws)), some (.own (.lst ys)), some (.d x), none], [some (.ref (.lst l1)), some (.d (.int m)), some (.d (.int p)), some (.d (vD ws)), some (.own (.lst (ys ++ [.tuple [x, vD ws]]))), some (.d x), none], ?_, ?_, _, _, rfl, .inr ⟨_, rfl⟩, ?_, by rw [List.length_append, hyl]; show F1.length + k + 1 = _; omega⟩
      · rcases hq with rfl | ⟨_, rfl⟩ <;> simp
      · generalize vD ws = V at *
        clear fas has
        simp [lb__law_objects_0, gl]
      · intro y hy
        rcases List.mem_append.mp hy with hy | hy
        · exact hys y hy
        · rw [List.mem_singleton.mp hy]; exact (two_ _ _ 60 1 hfx fw).mono (by omega) (by omega)
  rw [Nat.zero_add, las] at hyl
  obtain ⟨es, hes⟩ : ∃ es : List D, es = [.list [.int p, vD ws], .tuple [.int p, vD ws, .int 0], .tuple [.int p], .tuple [vD ws, .int p], vD ws, .list (ws.map PyData.int), .int p] := ⟨_, rfl⟩
  have fes : ∀ y ∈ es, Fine 5000 10 y := fun y hy => by
    rw [hes] at hy
    simp only [List.mem_cons, List.not_mem_nil, or_false] at hy
    rcases hy with rfl | rfl | rfl | rfl | rfl | rfl | rfl
    · exact (twoL _ _ 60 1 (fi _ (by omega) 1) fw).mono (by omega) (by omega)
    · exact (fine_tuple (n := 3) (b := 60) (d := 1) (fun x hx => by
        simp only [List.mem_cons, List.not_mem_nil, or_false] at hx
        rcases hx with rfl | rfl | rfl
        · exact fi _ (by omega) 1
        · exact fw
        · exact fi _ (by omega) 1) (by simp)).mono (by omega) (by omega)
    · exact (fine_tuple (n := 1) (b := 0) (d := 0) (fun x hx => by rw [List.mem_singleton.mp hx]; exact fine_i (by omega)) (by simp)).mono (by omega) (by omega)
    · exact (two_ _ _ 60 1 fw (fi _ (by omega) 1)).mono (by omega) (by omega)
    · exact fw.mono (by omega) (by omega)
    · exact (fine_list (n := 60) (b := 0) (d := 0) (fun x hx => by
        obtain ⟨u, hu, rfl⟩ := List.mem_map.mp hx
        have := hw2 u hu
        exact fine_i (by omega)) (by rw [List.length_map]; omega)).mono (by omega) (by omega)
    · exact (fi _ (by omega) 1).mono (by omega) (by omega)
  have les : es.length = 7 := by rw [hes] <;> rfl
  obtain ⟨gs, hgs⟩ : ∃ gs : List D, gs = [.none, .bool true, .tuple [], .list [], .dict [], .str "bar", .dict [(.str "a", .list [.int p, vD ws])], .tuple [.tuple [.int p, vD ws]], .list [.tuple [.int p, .list [.int 0]]]] := ⟨_, rfl⟩
  have fgs : ∀ y ∈ gs, Fine 5000 10 y := fun y hy => by
    rw [hgs] at hy
    simp only [List.mem_cons, List.not_mem_nil, or_false] at hy
    have one_ : ∀ x : D, ∀ b d, Fine b d x → ∀ y ∈ [x], Fine b d y := fun x b d h y hy => by rw [List.mem_singleton.mp hy]; exact h
    rcases hy with rfl | rfl | rfl | rfl | rfl | rfl | rfl | rfl | rfl
    · exact fine_none.mono (by omega) (by omega)
    · exact fine_bool.mono (by omega) (by omega)
    · exact (fine_tuple (n := 0) (b := 0) (d := 0) (fun x hx => absurd hx (by simp)) (by simp)).mono (by omega) (by omega)
    · exact (fine_list (n := 0) (b := 0) (d := 0) (fun x hx => absurd hx (by simp)) (by simp)).mono (by omega) (by omega)
    · exact fine_dct0.mono (by omega) (by omega)
    · exact fine_bar.mono (by omega) (by omega)
    · exact (fine_dict fine_a (twoL _ _ 60 1 (fi _ (by omega) 1) fw)).mono (by omega) (by omega)
    · exact (fine_tuple (n := 1) (one_ _ _ _ (two_ _ _ 60 1 (fi _ (by omega) 1) fw)) (by simp)).mono (by omega) (by omega)
    · exact (fine_list (n := 1) (one_ _ _ _ (two_ _ _ 60 1 (fi _ (by omega) 1) ((fine_list (n := 1) (one_ _ 0 0 (fine_i (by omega))) (by simp)).mono (by omega) (by omega)))) (by simp)).mono (by omega) (by omega)
  have lgs : gs.length = 9 := by rw [hgs] <;> rfl
  have b2 : bAdd (.list ys) (.list es) = some (.own (.lst (ys ++ es))) := if_pos (by rw [hyl, les]; unfold line; omega)
  have b3 : bAdd (.list (ys ++ es)) (.list gs) = some (.own (.lst (ys ++ es ++ gs))) := if_pos (by rw [List.length_append, hyl, les, lgs]; unfold line; omega)
  refine ⟨ys ++ es ++ gs, l1, ?_, S1, fun y hy => ?_, by rw [List.length_append, List.length_append, hyl, les, lgs]; omega⟩
  · have s4 : gLst [vD ws] = some (.own (.lst (ws.map PyData.int))) := rfl
    have lo2 : os.length ≤ 16777216 := by omega
    dsimp only [vD] at *
    rw [hgs] at b3 ⊢
    rw [hes] at b2 b3 ⊢
    rw [has] at e1
    generalize (PyData.str (toString (p : Int))) = ST at *
    generalize hA : ws.map PyData.int = A at *
    generalize (os.map fun x => PyData.tuple [PyData.int p, x]) = OS at *
    clear hF1 has fas hes fes hgs fgs
    simp only [List.append_assoc] at b3 ⊢
    simp [f__law_objects, b__law_objects, k1, lo2, c1, b1, hst, p30', e1, b2, b3]
  · rcases List.mem_append.mp hy with hy | hy
    · exact (List.mem_append.mp hy).elim (hys y) (fes y)
    · exact fgs y hy
end K29
end

section
set_option autoImplicit false
set_option maxRecDepth 100000
set_option linter.all false
namespace K29
open PySem PySem.Spec L2 MP
theorem fine_b {b : Bool} : repOkW (.bool b) = true := (fine_bool (b := b)).repW (by omega) (by omega)
def mostL : List Nat := [8, 5, 3, 3, 2, 2]
def sixL : List Nat := [2, 3, 5, 7, 11, 13]
theorem most_ok : ∀ i < 6, ∀ n ≤ mostL.getD i 0, (sixL.getD i 2) ^ n ≤ 1000 := by decide
theorem pr_six {m p : Nat} (h : p ∈ pr m) : ∃ i, i < 6 ∧ p = sixL.getD i 2 := by
  unfold pr at h
  obtain ⟨h1, _⟩ := List.mem_filter.mp h
  obtain ⟨i, hi, e⟩ := List.getElem_of_mem h1
  exact ⟨i, hi, by rw [← e]; unfold sixL; rw [List.getD_eq_getElem?_getD, List.getElem?_eq_getElem hi] <;> rfl⟩
theorem index_s {i : Nat} (h : i < 6) : idxI [.int 2, .int 3, .int 5, .int 7, .int 11, .int 13] (.int (sixL.getD i 2 : Nat)) = some (.d (.int i)) ∧ atD [.int 8, .int 5, .int 3, .int 3, .int 2, .int 2] (i : Int) = some (.int (mostL.getD i 0 : Nat)) := by
  have : i = 0 ∨ i = 1 ∨ i = 2 ∨ i = 3 ∨ i = 4 ∨ i = 5 := by omega
  rcases this with rfl | rfl | rfl | rfl | rfl | rfl <;> exact ⟨rfl, by rw [atD_nat] <;> rfl⟩
theorem flat_ints (vs : List Int) : ∀ n : Nat, (List.replicate n (vs.map PyData.int)).flatten = (List.replicate n vs).flatten.map PyData.int
  | 0 => rfl
  | n + 1 => by rw [List.replicate_succ, List.flatten_cons, flat_ints vs n, List.replicate_succ, List.flatten_cons, List.map_append]
theorem Cs.rep {p : Nat} {vs : List Int} (h : Cs p vs) (n : Nat) : Cs p (List.replicate n vs).flatten := fun z hz => by
  obtain ⟨l, h1, h2⟩ := List.mem_flatten.mp hz
  rw [List.eq_of_mem_replicate h1] at h2
  exact h z h2
theorem len_rep (vs : List Int) : ∀ n : Nat, (List.replicate n vs).flatten.length = n * vs.length
  | 0 => by simp
  | n + 1 => by rw [List.replicate_succ, List.flatten_cons, List.length_append, len_rep vs n, Nat.succ_mul]; omega
theorem mul_rep {ws : List Int} {k : Nat} (h1 : 1 ≤ k) (h2 : k ≤ 60) (h3 : 1 ≤ ws.length) (h4 : ws.length ≤ 60) : bMulX (vD ws) (.int k) = some (.d (vD (List.replicate k ws).flatten)) := by
  show bRepT (.tuple (ws.map PyData.int)) (.int k) = _
  rw [bRepT_ok (by omega) (by omega) (by rw [List.length_map]; omega) (by
    cases ws with
    | nil => simp at h3
    | cons w ws => exact fun z => nomatch z), Int.toNat_natCast, flat_ints]
/-- one value after another -/
theorem obj_loop {m : Nat} (hm : m ∈ tenN) {ts : List (Int × Int)} (hR : Rule m ts) {row : List Int} (hv : Row m row) (n : Nat) (hn : row.length = n) (ρ0 ρ1 ρ2 ρ4 ρ6 ρ7 ρ8 ρ9 ρ10 ρ12 ρ13 : Option SV) : ∀ (ys : List D), (∀ y ∈ ys, Fine 5000 10 y) → ∀ q15 q16 q17 : Option SV, OptD q15 → OptD q16 → OptD q17 →
    ∃ q15' q16' q17', forGo (.n 15) lb_law_0 ys [ρ0, ρ1, ρ2, some (.d (.int m)), ρ4, some (.d (rD m ts)), ρ6, ρ7, ρ8, ρ9, ρ10, some (.d (.list ((rowsT m ts n).map vD))), ρ12, ρ13, some (.d (.tuple [.int m, vD row])), q15, q16, q17] =
      .next [ρ0, ρ1, ρ2, some (.d (.int m)), ρ4, some (.d (rD m ts)), ρ6, ρ7, ρ8, ρ9, ρ10, some (.d (.list ((rowsT m ts n).map vD))), ρ12, ρ13, some (.d (.tuple [.int m, vD row])), q15', q16', q17'] ∧ OptD q15' ∧ OptD q16' ∧ OptD q17'
  | [], _, q15, q16, q17, h5, h6, h7 => ⟨q15, q16, q17, by simp [forGo], h5, h6, h7⟩
  | y :: ys, hys, q15, q16, q17, h5, h6, h7 => by
    subst hn
    have hb := is_bar_s hm hv (ts := ts) y
    have hr := round_bars_s hm hR hv y
    have hf := reprW_ok ((hys y List.mem_cons_self).repW (by omega) (by omega))
    have hbb := reprW_ok (fine_b (b := bar m ts row y))
    have e1 := eqv_str_refl y.shown
    have e2 := eqv_str_refl (PyData.bool (bar m ts row y)).shown
    obtain ⟨r5, r6, r7, g1, g2, g3, g4⟩ := obj_loop hm hR hv row.length rfl ρ0 ρ1 ρ2 ρ4 ρ6 ρ7 ρ8 ρ9 ρ10 ρ12 ρ13 ys (fun z hz => hys z (List.mem_cons_of_mem _ hz)) (some (.d y)) (some (.d (.bool (bar m ts row y)))) (some (.d (.str y.shown))) (.inr ⟨_, rfl⟩) (.inr ⟨_, rfl⟩) (.inr ⟨_, rfl⟩)
    refine ⟨r5, r6, r7, ?_, g2, g3, g4⟩
    unfold forGo
    generalize (rowsT m ts row.length).map vD = TB at *
    generalize rD m ts = R at *
    have hr' : f_round_bars [.d R, .d (.tuple [.int m, vD row]), .d y] = .ok (.d (.bool (bar m ts row y))) [] := hr
    generalize vD row = V at *
    generalize bar m ts row y = B at *
    generalize y.shown = YS at *
    generalize (PyData.bool B).shown = BS at *
    have t1 : tgSet (.n 15) y [ρ0, ρ1, ρ2, some (.d (.int m)), ρ4, some (.d R), ρ6, ρ7, ρ8, ρ9, ρ10, some (.d (.list TB)), ρ12, ρ13, some (.d (.tuple [.int m, V])), q15, q16, q17] = some [ρ0, ρ1, ρ2, some (.d (.int m)), ρ4, some (.d R), ρ6, ρ7, ρ8, ρ9, ρ10, some (.d (.list TB)), ρ12, ρ13, some (.d (.tuple [.int m, V])), some (.d y), q16, q17] := by
      rcases h5 with rfl | ⟨_, rfl⟩ <;> simp
    have b1 : lb_law_0 [ρ0, ρ1, ρ2, some (.d (.int m)), ρ4, some (.d R), ρ6, ρ7, ρ8, ρ9, ρ10, some (.d (.list TB)), ρ12, ρ13, some (.d (.tuple [.int m, V])), some (.d y), q16, q17] = .next [ρ0, ρ1, ρ2, some (.d (.int m)), ρ4, some (.d R), ρ6, ρ7, ρ8, ρ9, ρ10, some (.d (.list TB)), ρ12, ρ13, some (.d (.tuple [.int m, V])), some (.d y), some (.d (.bool B)), some (.d (.str YS))] := by
      rcases h6 with rfl | ⟨_, rfl⟩ <;> rcases h7 with rfl | ⟨_, rfl⟩ <;> simp [lb_law_0, hb, hf, hr', hbb, e1, e2]
    rw [t1]
    simp only [b1]
    exact g1
end K29
end

section
set_option autoImplicit false
set_option maxRecDepth 100000
set_option linter.all false
namespace K29
open PySem PySem.Spec L2 MP
theorem tg_opt {ρ : En} {i : Nat} {p : Option SV} {x : D} (h : ρ[i]? = some p) (n : OptD p) : tgSet (.n i) x ρ = some (ρ.set i (some (.d x))) := tg_n h (by rcases n with rfl | ⟨_, rfl⟩ <;> exact fun c => nofun)
theorem turn_s {N : Nat} {l : List D} (h : Pot N l) (hN : N ≤ 700000) {m : Nat} (hm : m ∈ tenN) {ts : List (Int × Int)} (hR : Rule m ts) {p small often : Nat} (hp : p ∈ pr m) (s1 : 1 ≤ small) (s2 : small ≤ 8) (hb : p ^ small ≤ 1000) (o1 : 1 ≤ often) (o2 : small * often ≤ 60)
    (ρ0 ρ1 ρ4 ρ7 q13 q14 q15 q16 q17 : Option SV) (t : D) (h13 : OptD q13) (h14 : OptD q14) (h15 : OptD q15) (h16 : OptD q16) (h17 : OptD q17) :
    ∃ (l' : List D) (r13 r14 r15 r16 r17 : Option SV), lb_law_1 [ρ0, ρ1, some (.own (.lst l)), some (.d (.int m)), ρ4, some (.d (rD m ts)), some (.d (.int p)), ρ7, some (.d (.int small)), some (.d (.int often)), some (.d (.list (((allT p small).filter (quiet p m ts small)).map vD))), some (.d (.list ((rowsT m ts (small * often)).map vD))), some (.d t), q13, q14, q15, q16, q17] =
      .next [ρ0, ρ1, some (.own (.lst l')), some (.d (.int m)), ρ4, some (.d (rD m ts)), some (.d (.int p)), ρ7, some (.d (.int small)), some (.d (.int often)), some (.d (.list (((allT p small).filter (quiet p m ts small)).map vD))), some (.d (.list ((rowsT m ts (small * often)).map vD))), some (.d t), r13, r14, r15, r16, r17] ∧ Pot (N + 400) l' ∧ OptD r13 ∧ OptD r14 ∧ OptD r15 ∧ OptD r16 ∧ OptD r17 := by
  have hp2 := pr_in hp
  have hm2 := ten_le hm
  have o3 : often ≤ 60 := Nat.le_trans (Nat.le_mul_of_pos_left _ s1) o2
  have n1 : 1 ≤ small * often := Nat.mul_pos s1 o1
  obtain ⟨KL, hKL⟩ : ∃ KL, KL = (allT p small).filter (quiet p m ts small) := ⟨_, rfl⟩
  have hz : List.replicate small 0 ∈ KL := by
    rw [hKL, List.mem_filter]
    exact ⟨all_zero (by omega) small, quiet_zero p m ts small⟩
  have hin : ∀ ws ∈ KL, ws.length = small ∧ Cs p ws := fun ws hw => by
    rw [hKL, List.mem_filter] at hw
    exact all_in small ws hw.1
  have hlen : KL.length ≤ 1000 := by
    have h1 := List.length_filter_le (quiet p m ts small) (allT p small)
    rw [all_len] at h1
    rw [hKL]
    omega
  have hpos : 0 < KL.length := List.length_pos_of_mem hz
  rw [← hKL]
  obtain ⟨i, l1, k1, S1, hi⟩ := take_s h (by omega) KL.length hpos (by omega)
  have hat : atD (KL.map vD) (i : Int) = some (vD KL[i]) := by
    rw [atD_nat, List.getElem?_map, List.getElem?_eq_getElem hi] <;> rfl
  obtain ⟨w1, w2⟩ := hin _ (List.getElem_mem hi)
  obtain ⟨ws, hws⟩ : ∃ ws, ws = KL[i] := ⟨_, rfl⟩
  rw [← hws] at hat w1 w2
  have hmu := mul_rep (ws := ws) o1 o3 (by omega) (by omega)
  have hmm : bMulI (.int small) (.int often) = some (.d (.int ((small * often : Nat) : Int))) := mul_small (by omega) (by omega)
  obtain ⟨row, l2, k2, S2, r1, r2⟩ := values_s S1 (by omega) hm (small * often) n1 o2
  have hW : W p (List.replicate often ws).flatten := ⟨w2.rep _, by rw [len_rep, w1, Nat.mul_comm]; exact n1, by rw [len_rep, w1, Nat.mul_comm]; exact o2⟩
  have hv : Row m row := ⟨r2, by omega, by omega⟩
  obtain ⟨ys, l3, k3, S3, fy, ly⟩ := objects_s S2 (by omega) (m := m) (by omega) ⟨hp2.1, hp2.2.1⟩ hW
  obtain ⟨r15, r16, r17, e1, e2, e3, e4⟩ := obj_loop hm hR hv (small * often) r1 ρ0 ρ1 (some (.own (.lst l3))) ρ4 (some (.d (.int p))) ρ7 (some (.d (.int small))) (some (.d (.int often))) (some (.d (.list (KL.map vD)))) (some (.d t)) (some (.d (vD (List.replicate often ws).flatten))) ys fy q15 q16 q17 h15 h16 h17
  refine ⟨l3, some (.d (vD (List.replicate often ws).flatten)), some (.d (.tuple [.int m, vD row])), r15, r16, r17, ?_, S3.mono (by omega), .inr ⟨_, rfl⟩, .inr ⟨_, rfl⟩, e2, e3, e4⟩
  have hll : (KL.map vD).length = KL.length := List.length_map ..
  generalize (rowsT m ts (small * often)).map vD = TB at *
  generalize ((small * often : Nat) : Int) = NN at *
  generalize KL.map vD = KD at *
  generalize rD m ts = R at *
  generalize vD (List.replicate often ws).flatten = WD at *
  generalize vD ws = wD at *
  have k2' : f__law_values [.ref (.lst l1), .d (.int m), .d (.int NN)] = .ok (.d (vD row)) [.lst l2] := k2
  generalize vD row = V at *
  rcases h13 with rfl | ⟨_, rfl⟩ <;> rcases h14 with rfl | ⟨_, rfl⟩ <;> simp [lb_law_1, hll, k1, hat, hmu, hmm, k2', k3, e1]
theorem free_opt {q : Option SV} (h : OptD q) : ∀ (n : Nat) (ρ r : En), ρ.length = n → free (ρ ++ q :: r) n = true := fun n ρ r e => by
  refine free_at (p := q) ?_ (by rcases h with rfl | ⟨_, rfl⟩ <;> exact fun c => nofun)
  rw [List.getElem?_append_right (by omega), e, Nat.sub_self] <;> rfl
theorem right_s (xs : List Int) (k : Nat) (hl : xs.length ≤ 63) (hk : k ≤ 63) (q3 q4 q5 q6 q7 q8 q9 q10 q11 q12 q13 q14 q15 q16 q17 : Option SV) (q2 : Option SV) (h2 : q2 = none ∨ ∃ c, q2 = some (.own c)) (hq : ∀ q ∈ [q3, q4, q5, q6, q7, q8, q9, q10, q11, q12, q13, q14, q15, q16, q17], OptD q) :
    ∃ q2' qs, lb_law_2 ([some (.d (.list (xs.map PyData.int))), some (.d (.int k)), q2, q3, q4, q5, q6, q7, q8, q9, q10, q11, q12, q13, q14, q15, q16, q17]) = .next (some (.d (.list (xs.map PyData.int))) :: some (.d (.int k)) :: q2' :: qs) ∧ (∃ c, q2' = some (.own c)) ∧ qs.length = 15 ∧ ∀ q ∈ qs, OptD q := by
  obtain ⟨l, j1, S0⟩ := jar_s xs k hl hk
  obtain ⟨m, l1, j2, S1, hm⟩ := modulus_s S0 (by omega)
  have hm2 := ten_le hm
  have j3 : f__law_primes [.d (.int m)] = .ok (.own (.lst (prD m))) [] := primes_s m
  obtain ⟨ts, l2, j4, S2, hR⟩ := rule_s S1 (by omega) hm
  have hne := List.length_pos_iff.mpr (pr_ne hm)
  have hpl : (pr m).length ≤ 6 := by
    have := List.length_filter_le (fun p => m % p == 0) [2, 3, 5, 7, 11, 13]
    exact this
  obtain ⟨i, l3, j5, S3, hi⟩ := take_s S2 (by omega) (pr m).length hne (by omega)
  obtain ⟨p, hpe⟩ : ∃ p, p = (pr m)[i] := ⟨_, rfl⟩
  have hp : p ∈ pr m := by rw [hpe]; exact List.getElem_mem hi
  have hat : atD (prD m) (i : Int) = some (.int p) := by
    rw [atD_nat, List.getElem?_map, List.getElem?_eq_getElem hi, hpe] <;> rfl
  have hp2 := pr_in hp
  obtain ⟨c, hc, hpc⟩ := pr_six hp
  obtain ⟨x1, x2⟩ := index_s hc
  rw [← hpc] at x1
  obtain ⟨mo, hmo⟩ : ∃ mo, mo = mostL.getD c 0 := ⟨_, rfl⟩
  rw [← hmo] at x2
  have hmo2 : 2 ≤ mo ∧ mo ≤ 8 := by
    have : ∀ c < 6, 2 ≤ mostL.getD c 0 ∧ mostL.getD c 0 ≤ 8 := by decide
    rw [hmo]
    exact this c hc
  obtain ⟨s, l4, j6, S4, hs⟩ := take_s S3 (by omega) mo (by omega) (by omega)
  obtain ⟨small, hsm⟩ : ∃ small, small = 1 + s := ⟨_, rfl⟩
  have c1 : (1 : Int) + s = (small : Nat) := by omega
  have hb : p ^ small ≤ 1000 := by
    have := most_ok c hc small (by omega)
    rw [hpc]
    exact this
  have hd : bDiv (.int 60) (.int small) = some (.d (.int ((60 / small : Nat) : Int))) := by
    rw [div_p (by omega) (Nat.lt_of_le_of_lt (Nat.log2_le_self _) (by simp; omega))] <;> rfl
  have hd1 : 1 ≤ 60 / small := by rw [Nat.le_div_iff_mul_le (by omega)]; omega
  have hd2 : 60 / small ≤ 60 := Nat.div_le_self _ _
  have hd3 : 60 / small * small ≤ 60 := Nat.div_mul_le_self 60 small
  obtain ⟨a, l5, j7, S5, ha⟩ := take_s S4 (by omega) (60 / small) (by omega) (by omega)
  obtain ⟨b, l6, j8, S6, hb3⟩ := take_s S5 (by omega) 3 (by omega) (by omega)
  have j8' : f__law_take [.ref (.lst l5), .d (.int 3)] = .ok (.d (.int b)) [.lst l6] := j8
  obtain ⟨often, ho1, ho2, hat2⟩ : ∃ o : Nat, 1 ≤ o ∧ o ≤ 60 / small ∧ atD [.int 1, .int (1 + (a : Int)), .int ((60 / small : Nat) : Int)] b = some (.int o) := by
    have : b = 0 ∨ b = 1 ∨ b = 2 := by omega
    rcases this with rfl | rfl | rfl
    · exact ⟨1, by omega, by omega, by rw [atD_nat] <;> rfl⟩
    · exact ⟨1 + a, by omega, by omega, by rw [atD_nat]; show some (PyData.int (1 + (a : Int))) = some (.int ((1 + a : Nat) : Int)); rw [show ((1 + a : Nat) : Int) = 1 + (a : Int) by omega]⟩
    · exact ⟨60 / small, by omega, by omega, by rw [atD_nat] <;> rfl⟩
  have o2 : small * often ≤ 60 := by
    rw [Nat.mul_comm]
    exact Nat.le_trans (Nat.mul_le_mul_right _ ho2) hd3
  have hkl := killed_s hm (hR.f hm) (p := p) (n := small) hp2.2.1 (by omega) (by omega) (by omega) hb
  have htb := table_s hm (hR.f hm) (small * often) o2
  have hmm : bMulI (.int small) (.int often) = some (.d (.int ((small * often : Nat) : Int))) := mul_small (by omega) (by omega)
  have gq : ∀ q ∈ [q3, q4, q5, q6, q7, q8, q9, q10, q11, q12, q13, q14, q15, q16, q17], ∀ c, q ≠ some (.ref c) := fun q hqm c => by
    rcases hq q hqm with rfl | ⟨_, rfl⟩ <;> exact nofun
  obtain ⟨ρ', e1, l7, r12, r13, r14, r15, r16, r17, rfl, _, h12, h13, h14, h15, h16, h17⟩ := for_at (tg := .n 12) (b := lb_law_1) (J := fun i ρ => ∃ (l' : List D) (r12 r13 r14 r15 r16 r17 : Option SV), ρ = [some (.d (.list (xs.map PyData.int))), some (.d (.int k)), some (.own (.lst l')), some (.d (.int m)), some (.d (.list (prD m))), some (.d (rD m ts)), some (.d (.int p)), some (.d (.int mo)), some (.d (.int small)), some (.d (.int often)), some (.d (.list (((allT p small).filter (quiet p m ts small)).map vD))), some (.d (.list ((rowsT m ts (small * often)).map vD))), r12, r13, r14, r15, r16, r17] ∧ Pot (1000 + 400 * i) l' ∧ OptD r12 ∧ OptD r13 ∧ OptD r14 ∧ OptD r15 ∧ OptD r16 ∧ OptD r17)
    (intsD 0 2) 0 [some (.d (.list (xs.map PyData.int))), some (.d (.int k)), some (.own (.lst l6)), some (.d (.int m)), some (.d (.list (prD m))), some (.d (rD m ts)), some (.d (.int p)), some (.d (.int mo)), some (.d (.int small)), some (.d (.int often)), some (.d (.list (((allT p small).filter (quiet p m ts small)).map vD))), some (.d (.list ((rowsT m ts (small * often)).map vD))), q12, q13, q14, q15, q16, q17]
      ⟨l6, q12, q13, q14, q15, q16, q17, rfl, S6.mono (by omega), hq _ (by simp), hq _ (by simp), hq _ (by simp), hq _ (by simp), hq _ (by simp), hq _ (by simp)⟩ fun j x ρ hx hJ => by
      rw [Nat.zero_add] at hJ ⊢
      obtain ⟨l', r12, r13, r14, r15, r16, r17, rfl, S, h12, h13, h14, h15, h16, h17⟩ := hJ
      obtain ⟨_, hj⟩ := ints_at hx
      obtain ⟨l8, t13, t14, t15, t16, t17, f1, f2, f3, f4, f5, f6, f7⟩ := turn_s S (by omega) hm hR hp (by omega) (by omega) hb ho1 o2 (some (.d (.list (xs.map PyData.int)))) (some (.d (.int k))) (some (.d (.list (prD m)))) (some (.d (.int mo))) r13 r14 r15 r16 r17 x h13 h14 h15 h16 h17
      exact ⟨_, _, tg_opt (i := 12) rfl h12, f1, l8, some (.d x), t13, t14, t15, t16, t17, rfl, f2.mono (by omega), .inr ⟨_, rfl⟩, f3, f4, f5, f6, f7⟩
  have rq := range1_nat (q := 2) (by omega)
  have rq' : range1 (.int 2) = some (intsD 0 2) := rq
  have F2 : ∀ a0 a1 r, free (a0 :: a1 :: q2 :: r) 2 = true := fun a0 a1 r => free_at (p := q2) rfl (by rcases h2 with rfl | ⟨_, rfl⟩ <;> exact fun c => nofun)
  have F3 : ∀ a0 a1 a2 r, free (a0 :: a1 :: a2 :: q3 :: r) 3 = true := fun a0 a1 a2 r => free_opt (hq q3 (by simp)) 3 [a0, a1, a2] r rfl
  have F4 : ∀ a0 a1 a2 a3 r, free (a0 :: a1 :: a2 :: a3 :: q4 :: r) 4 = true := fun a0 a1 a2 a3 r => free_opt (hq q4 (by simp)) 4 [a0, a1, a2, a3] r rfl
  have F5 : ∀ a0 a1 a2 a3 a4 r, free (a0 :: a1 :: a2 :: a3 :: a4 :: q5 :: r) 5 = true := fun a0 a1 a2 a3 a4 r => free_opt (hq q5 (by simp)) 5 [a0, a1, a2, a3, a4] r rfl
  have F6 : ∀ a0 a1 a2 a3 a4 a5 r, free (a0 :: a1 :: a2 :: a3 :: a4 :: a5 :: q6 :: r) 6 = true := fun a0 a1 a2 a3 a4 a5 r => free_opt (hq q6 (by simp)) 6 [a0, a1, a2, a3, a4, a5] r rfl
  have F7 : ∀ a0 a1 a2 a3 a4 a5 a6 r, free (a0 :: a1 :: a2 :: a3 :: a4 :: a5 :: a6 :: q7 :: r) 7 = true := fun a0 a1 a2 a3 a4 a5 a6 r => free_opt (hq q7 (by simp)) 7 [a0, a1, a2, a3, a4, a5, a6] r rfl
  have F8 : ∀ a0 a1 a2 a3 a4 a5 a6 a7 r, free (a0 :: a1 :: a2 :: a3 :: a4 :: a5 :: a6 :: a7 :: q8 :: r) 8 = true := fun a0 a1 a2 a3 a4 a5 a6 a7 r => free_opt (hq q8 (by simp)) 8 [a0, a1, a2, a3, a4, a5, a6, a7] r rfl
  have F9 : ∀ a0 a1 a2 a3 a4 a5 a6 a7 a8 r, free (a0 :: a1 :: a2 :: a3 :: a4 :: a5 :: a6 :: a7 :: a8 :: q9 :: r) 9 = true := fun a0 a1 a2 a3 a4 a5 a6 a7 a8 r => free_opt (hq q9 (by simp)) 9 [a0, a1, a2, a3, a4, a5, a6, a7, a8] r rfl
  have F10 : ∀ a0 a1 a2 a3 a4 a5 a6 a7 a8 a9 r, free (a0 :: a1 :: a2 :: a3 :: a4 :: a5 :: a6 :: a7 :: a8 :: a9 :: q10 :: r) 10 = true := fun a0 a1 a2 a3 a4 a5 a6 a7 a8 a9 r => free_opt (hq q10 (by simp)) 10 [a0, a1, a2, a3, a4, a5, a6, a7, a8, a9] r rfl
  have F11 : ∀ a0 a1 a2 a3 a4 a5 a6 a7 a8 a9 a10 r, free (a0 :: a1 :: a2 :: a3 :: a4 :: a5 :: a6 :: a7 :: a8 :: a9 :: a10 :: q11 :: r) 11 = true := fun a0 a1 a2 a3 a4 a5 a6 a7 a8 a9 a10 r => free_opt (hq q11 (by simp)) 11 [a0, a1, a2, a3, a4, a5, a6, a7, a8, a9, a10] r rfl
  refine ⟨some (.own (.lst l7)), [some (.d (.int m)), some (.d (.list (prD m))), some (.d (rD m ts)), some (.d (.int p)), some (.d (.int mo)), some (.d (.int small)), some (.d (.int often)), some (.d (.list (((allT p small).filter (quiet p m ts small)).map vD))), some (.d (.list ((rowsT m ts (small * often)).map vD))), r12, r13, r14, r15, r16, r17], ?_, ⟨_, rfl⟩, rfl, fun q hq => ?_⟩
  · have hpd : (prD m).length = (pr m).length := List.length_map ..
    generalize ((allT p small).filter (quiet p m ts small)).map vD = KD at *
    generalize (rowsT m ts (small * often)).map vD = TB at *
    generalize ((small * often : Nat) : Int) = NN at *
    generalize ((60 / small : Nat) : Int) = DD at *
    generalize rD m ts = R at *
    generalize prD m = PD at *
    generalize xs.map PyData.int = X at *
    clear hq gq
    simp [-p_free, lb_law_2, F2, F3, F4, F5, F6, F7, F8, F9, F10, F11, j1, j2, j3, j4, hpd, j5, hat, x1, x2, j6, c1, hd, j7, j8', hat2, hkl, hmm, htb, rq', e1]
  · simp only [List.mem_cons, List.not_mem_nil, or_false] at hq
    rcases hq with rfl | rfl | rfl | rfl | rfl | rfl | rfl | rfl | rfl | rfl | rfl | rfl | rfl | rfl | rfl
    all_goals first | exact .inr ⟨_, rfl⟩ | assumption
theorem law_true (ns : List Int) (hl : ns.length ≤ 63) : f_law [.d (.list (ns.map PyData.int))] = .ok (.d (.bool true)) [] := by
  have run : ∀ n : Nat, n ≤ 3 → ∃ ρ : En, forGo (.n 1) lb_law_2 (intsD 0 n) (some (.d (.list (ns.map PyData.int))) :: List.replicate 17 none) = .next (some (.d (.list (ns.map PyData.int))) :: ρ) := fun n hn => by
    obtain ⟨ρ', h1, q1, q2, qs, rfl, _, _, _, _⟩ := for_inv (tg := .n 1) (b := lb_law_2) (J := fun _ ρ => ∃ q1 q2 qs, ρ = some (.d (.list (ns.map PyData.int))) :: q1 :: q2 :: qs ∧ OptD q1 ∧ (q2 = none ∨ ∃ c, q2 = some (.own c)) ∧ qs.length = 15 ∧ ∀ q ∈ qs, OptD q) (intsD 0 n) 0 (some (.d (.list (ns.map PyData.int))) :: List.replicate 17 none) ⟨none, none, List.replicate 15 none, rfl, .inl rfl, .inl rfl, by simp, fun q hq => .inl (List.eq_of_mem_replicate hq)⟩ fun i x ρ hx hi hJ => by
      obtain ⟨q1, q2, qs, rfl, hO, h2, hq, hqs⟩ := hJ
      obtain ⟨k, hk, rfl⟩ := mem_intsD hx
      match qs, hq, hqs with
      | [q3, q4, q5, q6, q7, q8, q9, q10, q11, q12, q13, q14, q15, q16, q17], _, hqs =>
        obtain ⟨q2', qs', e1, e2, e3, e4⟩ := right_s ns k hl (by omega) q3 q4 q5 q6 q7 q8 q9 q10 q11 q12 q13 q14 q15 q16 q17 q2 h2 hqs
        exact ⟨_, _, tg_opt (i := 1) rfl hO, e1, _, _, _, rfl, .inr ⟨_, rfl⟩, .inr e2, e3, e4⟩
    exact ⟨_, h1⟩
  obtain ⟨n, hn, e⟩ : ∃ n : Nat, n ≤ 3 ∧ (if (if (ns.length : Int) < 3 then (ns.length : Int) else 3) > 1 then (if (ns.length : Int) < 3 then (ns.length : Int) else 3) else 1) = (n : Int) := by
    by_cases h1 : (ns.length : Int) < 3
    · by_cases h2 : (ns.length : Int) > 1
      · exact ⟨ns.length, by omega, by rw [if_pos h1, if_pos h2]⟩
      · exact ⟨1, by omega, by rw [if_pos h1, if_neg h2] <;> rfl⟩
    · exact ⟨3, by omega, by rw [if_neg h1, if_pos (by decide)] <;> rfl⟩
  obtain ⟨ρ, h⟩ := run n hn
  have rq : range1 (.int n) = some (intsD 0 n) := range1_nat (by omega)
  have mm : gMin [.int 3, .int ns.length] = some (.d (.int (if (ns.length : Int) < 3 then (ns.length : Int) else 3))) := rfl
  have mx : gMax [.int 1, .int (if (ns.length : Int) < 3 then (ns.length : Int) else 3)] = some (.d (.int n)) := by
    rw [← e] <;> rfl
  have h' : forGo (.n 1) lb_law_2 (intsD 0 n) [some (.d (.list (ns.map PyData.int))), none, none, none, none, none, none, none, none, none, none, none, none, none, none, none, none, none] = .next (some (.d (.list (ns.map PyData.int))) :: ρ) := h
  simp [f_law, b_law, mm, mx, rq, h', -gMin_int, -gMax_int]
end K29
end

section
set_option Elab.async false
set_option linter.all false
set_option maxRecDepth 100000
set_option maxHeartbeats 4000000
set_option autoImplicit false
/-! printed by gen.py -/
namespace K29
open PySem PySem.Spec L2 MP
section
variable {w : World} {K : Fg} {mg : Str → Option Value} {base : Heap} {CA : Str → Addr} {a : Addr} {fd : FuncData}
theorem sc_is_integer : FnScope N_is_integer ["value"] (fScope st_is_integer) := C8.fnScope_by (by decide +kernel)
theorem pa_is_integer : fPars st_is_integer = (["value"] : List Str) := by with_unfolding_all rfl
theorem d_is_integer (T : Tx K mg) (B : Sys base) (h : Here K mg "is_integer" st_is_integer a fd) : Cal prog w K mg base CA 1 st_is_integer "is_integer" f_is_integer 1 := by
  have S := sc_is_integer
  refine ⟨a, fd, ?_, h⟩
  rw [pa_is_integer]
  refine fn_G h S rfl rfl fun cd Ar ou s0 H0 W hr hg => ?_
  exact (b_one (z_ret (s_and (s_isi (T := "int") T.m_isinstance T.m_int (s_v 0) (by decide +kernel) (by decide +kernel)) (s_one (s_not (s_isi (T := "bool") T.m_isinstance T.m_bool (s_v 0) (by decide +kernel) (by decide +kernel)))))))
theorem sc_is_modulus : FnScope N_is_modulus ["value"] (fScope st_is_modulus) := C8.fnScope_by (by decide +kernel)
theorem pa_is_modulus : fPars st_is_modulus = (["value"] : List Str) := by with_unfolding_all rfl
theorem d_is_modulus (T : Tx K mg) (B : Sys base) (h : Here K mg "is_modulus" st_is_modulus a fd) (c_is_integer : Cal prog w K mg base CA 1 st_is_integer "is_integer" f_is_integer 1) : Cal prog w K mg base CA 2 st_is_modulus "is_modulus" f_is_modulus 1 := by
  obtain ⟨_, t_PRIMES, g_PRIMES⟩ := T.e_PRIMES
  have S := sc_is_modulus
  refine ⟨a, fd, ?_, h⟩
  rw [pa_is_modulus]
  refine fn_G h S rfl rfl fun cd Ar ou s0 H0 W hr hg => ?_
  exact (b_one (z_ret (s_and (s_call c_is_integer hr hg pb (s_cons (s_v 0) s_nil) (fun _ _ _ _ _ _ us hl => match us, hl with | [_], _ => rfl)) (s_one (s_inT t_PRIMES.tab g_PRIMES (s_v 0))))))
theorem sc_primes_in : FnScope N_primes_in ["modulus"] (fScope st_primes_in) := C8.fnScope_by (by decide +kernel)
theorem pa_primes_in : fPars st_primes_in = (["modulus"] : List Str) := by with_unfolding_all rfl
theorem d_primes_in (T : Tx K mg) (B : Sys base) (h : Here K mg "primes_in" st_primes_in a fd) : Cal prog w K mg base CA 1 st_primes_in "primes_in" f_primes_in 1 := by
  obtain ⟨_, t_PRIMES, g_PRIMES⟩ := T.e_PRIMES
  have S := sc_primes_in
  refine ⟨a, fd, ?_, h⟩
  rw [pa_primes_in]
  refine fn_G h S rfl rfl fun cd Ar ou s0 H0 W hr hg => ?_
  exact (b_one (z_ret (s_tab t_PRIMES g_PRIMES (s_v 0))))
theorem sc_are_pairs : FnScope N_are_pairs ["value", "modulus"] (fScope st_are_pairs) := C8.fnScope_by (by decide +kernel)
theorem pa_are_pairs : fPars st_are_pairs = (["value", "modulus"] : List Str) := by with_unfolding_all rfl
theorem d_are_pairs (T : Tx K mg) (B : Sys base) (h : Here K mg "are_pairs" st_are_pairs a fd) (c_is_integer : Cal prog w K mg base CA 1 st_is_integer "is_integer" f_is_integer 1) : Cal prog w K mg base CA 2 st_are_pairs "are_pairs" f_are_pairs 2 := by
  have S := sc_are_pairs
  refine ⟨a, fd, ?_, h⟩
  rw [pa_are_pairs]
  refine fn_G h S rfl rfl fun cd Ar ou s0 H0 W hr hg => ?_
  exact (b_cons (z_if (t_not (s_tr (s_isi (T := "tuple") T.m_isinstance T.m_tuple (s_v 0) (by decide +kernel) (by decide +kernel)))) (b_one (z_ret s_bl)) b_nil)
    (b_cons (z_for po rfl (i_seq (s_v 0)) (g_n 2 S.nd) (b_cons (z_if (PW.pt (t_or (t_not (s_tr (s_isi (T := "tuple") T.m_isinstance T.m_tuple (s_v 2) (by decide +kernel) (by decide +kernel)))) (t_or (s_cmpt (op_neP (u64 hr)) og_ne bf_ne (s_b (callOr call_len_seq call_len_str) og_len T.m_len (s_cons (s_v 2) s_nil)) s_int (nomark _)) (t_or1 (t_not (s_tr (s_b (cr_all rfl) og_all T.m_all (s_cons (s_lc (own := [("part", 3)]) rfl S.nd (i_seq (s_v 2)) (blkOk_by (N := N_are_pairs) (sc := fScope st_are_pairs) (by decide +kernel)) (fun _ _ _ _ _ => (g_n 3 S.nd)) (fun _ _ _ _ _ => f_nil) (fun _ _ _ _ _ => (s_call c_is_integer hr hg (fun _ => pass00) (s_cons (s_v 3) s_nil) (fun _ _ _ _ _ _ us hl => match us, hl with | [_], _ => rfl)))) s_nil)))))))) (b_one (z_ret s_bl)) b_nil)
    (b_one (z_if (t_not (t_ch op_le og_le op_lt og_lt bf_lt s_int (s_ix ix_seq og_idx (s_v 2) s_int) (s_v 1))) (b_one (z_ret s_bl)) b_nil))))
    (b_one (z_ret (s_b (cr_all rfl) og_all T.m_all (s_cons (s_lc (own := [("at", 4)]) rfl S.nd (i_range1 T.m_range (s_bin op_sub og_sub (s_b (callOr call_len_seq call_len_str) og_len T.m_len (s_cons (s_v 0) s_nil)) s_int)) (blkOk_by (N := N_are_pairs) (sc := fScope st_are_pairs) (by decide +kernel)) (fun _ _ _ _ _ => (g_n 4 S.nd)) (fun _ _ _ _ _ => f_nil) (fun _ _ _ _ _ => (s_cmp op_lt og_lt (s_ix ix_seq og_idx (s_ix ix_seq og_idx (s_v 0) (s_v 4)) s_int) (s_ix ix_seq og_idx (s_ix ix_seq og_idx (s_v 0) (s_bin op_addA og_add (s_v 4) s_int)) s_int) (nomark _)))) s_nil))))))
theorem sc_is_of_modulus : FnScope N_is_of_modulus ["value"] (fScope st_is_of_modulus) := C8.fnScope_by (by decide +kernel)
theorem pa_is_of_modulus : fPars st_is_of_modulus = (["value"] : List Str) := by with_unfolding_all rfl
theorem d_is_of_modulus (T : Tx K mg) (B : Sys base) (h : Here K mg "is_of_modulus" st_is_of_modulus a fd) (c_is_modulus : Cal prog w K mg base CA 2 st_is_modulus "is_modulus" f_is_modulus 1) : Cal prog w K mg base CA 3 st_is_of_modulus "is_of_modulus" f_is_of_modulus 1 := by
  have S := sc_is_of_modulus
  refine ⟨a, fd, ?_, h⟩
  rw [pa_is_of_modulus]
  refine fn_G h S rfl rfl fun cd Ar ou s0 H0 W hr hg => ?_
  exact (b_one (z_ret (s_and (s_isi (T := "tuple") T.m_isinstance T.m_tuple (s_v 0) (by decide +kernel) (by decide +kernel)) (s_and (s_cmp (op_eqP (u64 hr)) og_eq (s_b (callOr call_len_seq call_len_str) og_len T.m_len (s_cons (s_v 0) s_nil)) s_int (nomark _)) (s_and (s_call c_is_modulus hr hg pb (s_cons (s_ix ix_seq og_idx (s_v 0) s_int) s_nil) (fun _ _ _ _ _ _ us hl => match us, hl with | [_], _ => rfl)) (s_one (s_isi (T := "tuple") T.m_isinstance T.m_tuple (s_ix ix_seq og_idx (s_v 0) s_int) (by decide +kernel) (by decide +kernel))))))))
theorem sc_is_a_rule : FnScope N_is_a_rule ["value"] (fScope st_is_a_rule) := C8.fnScope_by (by decide +kernel)
theorem pa_is_a_rule : fPars st_is_a_rule = (["value"] : List Str) := by with_unfolding_all rfl
theorem d_is_a_rule (T : Tx K mg) (B : Sys base) (h : Here K mg "is_a_rule" st_is_a_rule a fd) (c_are_pairs : Cal prog w K mg base CA 2 st_are_pairs "are_pairs" f_are_pairs 2) (c_is_of_modulus : Cal prog w K mg base CA 3 st_is_of_modulus "is_of_modulus" f_is_of_modulus 1) : Cal prog w K mg base CA 4 st_is_a_rule "is_a_rule" f_is_a_rule 1 := by
  have S := sc_is_a_rule
  refine ⟨a, fd, ?_, h⟩
  rw [pa_is_a_rule]
  refine fn_G h S rfl rfl fun cd Ar ou s0 H0 W hr hg => ?_
  exact (b_one (z_ret (s_and (s_call c_is_of_modulus hr hg pb (s_cons (s_v 0) s_nil) (fun _ _ _ _ _ _ us hl => match us, hl with | [_], _ => rfl)) (s_one (s_call c_are_pairs hr hg pb (s_cons (s_ix ix_seq og_idx (s_v 0) s_int) (s_cons (s_ix ix_seq og_idx (s_v 0) s_int) s_nil)) (fun _ _ _ _ _ _ us hl => match us, hl with | [_, _], _ => rfl))))))
theorem sc_is_a_round : FnScope N_is_a_round ["value"] (fScope st_is_a_round) := C8.fnScope_by (by decide +kernel)
theorem pa_is_a_round : fPars st_is_a_round = (["value"] : List Str) := by with_unfolding_all rfl
theorem d_is_a_round (T : Tx K mg) (B : Sys base) (h : Here K mg "is_a_round" st_is_a_round a fd) (c_is_integer : Cal prog w K mg base CA 1 st_is_integer "is_integer" f_is_integer 1) (c_is_of_modulus : Cal prog w K mg base CA 3 st_is_of_modulus "is_of_modulus" f_is_of_modulus 1) : Cal prog w K mg base CA 4 st_is_a_round "is_a_round" f_is_a_round 1 := by
  have S := sc_is_a_round
  refine ⟨a, fd, ?_, h⟩
  rw [pa_is_a_round]
  refine fn_G h S rfl rfl fun cd Ar ou s0 H0 W hr hg => ?_
  exact (b_cons (z_if (PW.pt (t_or (t_not (s_tr (s_call c_is_of_modulus hr hg pb (s_cons (s_v 0) s_nil) (fun _ _ _ _ _ _ us hl => match us, hl with | [_], _ => rfl)))) (t_or1 (s_cmpt (op_eqP (u64 hr)) og_eq bf_eq (s_b (callOr call_len_seq call_len_str) og_len T.m_len (s_cons (s_ix ix_seq og_idx (s_v 0) s_int) s_nil)) s_int (nomark _))))) (b_one (z_ret s_bl)) b_nil)
    (b_one (z_ret (s_b (cr_all rfl) og_all T.m_all (s_cons (s_lc (own := [("part", 1)]) rfl S.nd (i_seq (s_ix ix_seq og_idx (s_v 0) s_int)) (blkOk_by (N := N_is_a_round) (sc := fScope st_is_a_round) (by decide +kernel)) (fun _ _ _ _ _ => (g_n 1 S.nd)) (fun _ _ _ _ _ => f_nil) (fun _ _ _ _ _ => (s_and (s_call c_is_integer hr hg (fun _ => pass00) (s_cons (s_v 1) s_nil) (fun _ _ _ _ _ _ us hl => match us, hl with | [_], _ => rfl)) (s_one (s_ch op_le og_le op_lt og_lt s_int (s_v 1) (s_ix ix_seq og_idx (s_v 0) s_int)))))) s_nil)))))
theorem sc_need_rule : FnScope N_need_rule ["rule"] (fScope st_need_rule) := C8.fnScope_by (by decide +kernel)
theorem pa_need_rule : fPars st_need_rule = (["rule"] : List Str) := by with_unfolding_all rfl
theorem d_need_rule (T : Tx K mg) (B : Sys base) (h : Here K mg "need_rule" st_need_rule a fd) (c_is_a_rule : Cal prog w K mg base CA 4 st_is_a_rule "is_a_rule" f_is_a_rule 1) : Cal prog w K mg base CA 5 st_need_rule "need_rule" f_need_rule 1 := by
  have S := sc_need_rule
  refine ⟨a, fd, ?_, h⟩
  rw [pa_need_rule]
  refine fn_G h S rfl rfl fun cd Ar ou s0 H0 W hr hg => ?_
  exact (b_one (z_if (t_not (s_tr (s_call c_is_a_rule hr hg pb (s_cons (s_v 0) s_nil) (fun _ _ _ _ _ _ us hl => match us, hl with | [_], _ => rfl)))) (b_one z_never) b_nil))
theorem sc_need_round : FnScope N_need_round ["row"] (fScope st_need_round) := C8.fnScope_by (by decide +kernel)
theorem pa_need_round : fPars st_need_round = (["row"] : List Str) := by with_unfolding_all rfl
theorem d_need_round (T : Tx K mg) (B : Sys base) (h : Here K mg "need_round" st_need_round a fd) (c_is_a_round : Cal prog w K mg base CA 4 st_is_a_round "is_a_round" f_is_a_round 1) : Cal prog w K mg base CA 5 st_need_round "need_round" f_need_round 1 := by
  have S := sc_need_round
  refine ⟨a, fd, ?_, h⟩
  rw [pa_need_round]
  refine fn_G h S rfl rfl fun cd Ar ou s0 H0 W hr hg => ?_
  exact (b_one (z_if (t_not (s_tr (s_call c_is_a_round hr hg pb (s_cons (s_v 0) s_nil) (fun _ _ _ _ _ _ us hl => match us, hl with | [_], _ => rfl)))) (b_one z_never) b_nil))
theorem sc_need_same : FnScope N_need_same ["one", "other"] (fScope st_need_same) := C8.fnScope_by (by decide +kernel)
theorem pa_need_same : fPars st_need_same = (["one", "other"] : List Str) := by with_unfolding_all rfl
theorem d_need_same (T : Tx K mg) (B : Sys base) (h : Here K mg "need_same" st_need_same a fd) : Cal prog w K mg base CA 1 st_need_same "need_same" f_need_same 2 := by
  have S := sc_need_same
  refine ⟨a, fd, ?_, h⟩
  rw [pa_need_same]
  refine fn_G h S rfl rfl fun cd Ar ou s0 H0 W hr hg => ?_
  exact (b_one (z_if (s_cmpt (op_neP (u64 hr)) og_ne bf_ne (s_ix ix_seq og_idx (s_v 0) s_int) (s_ix ix_seq og_idx (s_v 1) s_int) (nomark _)) (b_one z_never) b_nil))
theorem sc_stepped : FnScope N_stepped ["values", "terms", "prime"] (fScope st_stepped) := C8.fnScope_by (by decide +kernel)
theorem pa_stepped : fPars st_stepped = (["values", "terms", "prime"] : List Str) := by with_unfolding_all rfl
theorem d_stepped (T : Tx K mg) (B : Sys base) (h : Here K mg "stepped" st_stepped a fd) : Cal prog w K mg base CA 1 st_stepped "stepped" f_stepped 3 := by
  have S := sc_stepped
  refine ⟨a, fd, ?_, h⟩
  rw [pa_stepped]
  refine fn_G h S rfl rfl fun cd Ar ou s0 H0 W hr hg => ?_
  exact (b_cons (z_par2c 3 4 0 1 (s_b (callOr call_len_seq call_len_str) og_len T.m_len (s_cons (s_v 0) s_nil)) (s_lst s_nil) rfl S.nd rfl)
    (b_cons (z_for po rfl (i_range1 T.m_range (s_v 3)) (g_n 5 S.nd) (b_one (z_expr (s_app 4 (s_v 4) (s_bin op_mod og_mod (s_b (cr_sum rfl) og_sum T.m_sum (s_cons (s_lc (own := [("offset", 6), ("factor", 7)]) rfl S.nd (i_seq (s_v 1)) (blkOk_by (N := N_stepped) (sc := fScope st_stepped) (by decide +kernel)) (fun _ _ _ _ _ => (g_t rfl (g_cons (g_n 6 S.nd) (g_cons (g_n 7 S.nd) g_nil)))) (fun _ _ _ _ _ => f_nil) (fun _ _ _ _ _ => (s_bin op_mulA og_mul (s_v 7) (s_ix ix_seq og_idx (s_v 0) (s_bin op_mod og_mod (s_bin op_addA og_add (s_v 5) (s_v 6)) (s_v 3)))))) s_nil)) (s_v 2))))))
    (b_one (z_ret (s_v 4)))))
theorem sc_need_both : FnScope N_need_both ["rule", "row"] (fScope st_need_both) := C8.fnScope_by (by decide +kernel)
theorem pa_need_both : fPars st_need_both = (["rule", "row"] : List Str) := by with_unfolding_all rfl
theorem d_need_both (T : Tx K mg) (B : Sys base) (h : Here K mg "need_both" st_need_both a fd) (c_need_round : Cal prog w K mg base CA 5 st_need_round "need_round" f_need_round 1) (c_need_rule : Cal prog w K mg base CA 5 st_need_rule "need_rule" f_need_rule 1) (c_need_same : Cal prog w K mg base CA 1 st_need_same "need_same" f_need_same 2) : Cal prog w K mg base CA 6 st_need_both "need_both" f_need_both 2 := by
  have S := sc_need_both
  refine ⟨a, fd, ?_, h⟩
  rw [pa_need_both]
  refine fn_G h S rfl rfl fun cd Ar ou s0 H0 W hr hg => ?_
  exact (b_cons (z_expr (s_call c_need_rule hr hg pb (s_cons (s_v 0) s_nil) (fun _ _ _ _ _ _ us hl => match us, hl with | [_], _ => rfl)))
    (b_cons (z_expr (s_call c_need_round hr hg pb (s_cons (s_v 1) s_nil) (fun _ _ _ _ _ _ us hl => match us, hl with | [_], _ => rfl)))
    (b_one (z_expr (s_call c_need_same hr hg pb (s_cons (s_v 0) (s_cons (s_v 1) s_nil)) (fun _ _ _ _ _ _ us hl => match us, hl with | [_, _], _ => rfl))))))
theorem sc_round_bars : FnScope N_round_bars ["rule", "row", "value"] (fScope st_round_bars) := C8.fnScope_by (by decide +kernel)
theorem pa_round_bars : fPars st_round_bars = (["rule", "row", "value"] : List Str) := by with_unfolding_all rfl
theorem d_round_bars (T : Tx K mg) (B : Sys base) (h : Here K mg "round_bars" st_round_bars a fd) (c_is_integer : Cal prog w K mg base CA 1 st_is_integer "is_integer" f_is_integer 1) (c_need_both : Cal prog w K mg base CA 6 st_need_both "need_both" f_need_both 2) (c_primes_in : Cal prog w K mg base CA 1 st_primes_in "primes_in" f_primes_in 1) (c_stepped : Cal prog w K mg base CA 1 st_stepped "stepped" f_stepped 3) : Cal prog w K mg base CA 7 st_round_bars "round_bars" f_round_bars 3 := by
  have S := sc_round_bars
  refine ⟨a, fd, ?_, h⟩
  rw [pa_round_bars]
  refine fn_G h S rfl rfl fun cd Ar ou s0 H0 W hr hg => ?_
  exact (b_cons (z_expr (s_call c_need_both hr hg pb (s_cons (s_v 0) (s_cons (s_v 1) s_nil)) (fun _ _ _ _ _ _ us hl => match us, hl with | [_, _], _ => rfl)))
    (b_cons (z_if (PW.pt (t_or (t_not (s_tr (s_isi (T := "tuple") T.m_isinstance T.m_tuple (s_v 2) (by decide +kernel) (by decide +kernel)))) (t_or (s_cmpt (op_neP (u64 hr)) og_ne bf_ne (s_b (callOr call_len_seq call_len_str) og_len T.m_len (s_cons (s_v 2) s_nil)) s_int (nomark _)) (t_or1 (t_not (s_tr (s_call c_is_integer hr hg pb (s_cons (s_ix ix_seq og_idx (s_v 2) s_int) s_nil) (fun _ _ _ _ _ _ us hl => match us, hl with | [_], _ => rfl)))))))) (b_one (z_ret s_bl)) b_nil)
    (b_cons (z_unp (s_v 2) (g_t rfl (g_cons (g_n 3 S.nd) (g_cons (g_n 4 S.nd) g_nil))))
    (b_cons (z_if (PW.pt (t_or (s_cmpt (op_notInP (u65 hr)) og_notIn bf_notIn (s_v 3) (s_call c_primes_in hr hg pb (s_cons (s_ix ix_seq og_idx (s_v 1) s_int) s_nil) (fun _ _ _ _ _ _ us hl => match us, hl with | [_], _ => rfl)) (by with_unfolding_all rfl)) (t_or (t_not (s_tr (s_isi (T := "tuple") T.m_isinstance T.m_tuple (s_v 4) (by decide +kernel) (by decide +kernel)))) (t_or1 (s_cmpt (op_neP (u64 hr)) og_ne bf_ne (s_b (callOr call_len_seq call_len_str) og_len T.m_len (s_cons (s_v 4) s_nil)) (s_b (callOr call_len_seq call_len_str) og_len T.m_len (s_cons (s_ix ix_seq og_idx (s_v 1) s_int) s_nil)) (nomark _)))))) (b_one (z_ret s_bl)) b_nil)
    (b_cons (z_if (t_not (s_tr (s_b (cr_all rfl) og_all T.m_all (s_cons (s_lc (own := [("weight", 5)]) rfl S.nd (i_seq (s_v 4)) (blkOk_by (N := N_round_bars) (sc := fScope st_round_bars) (by decide +kernel)) (fun _ _ _ _ _ => (g_n 5 S.nd)) (fun _ _ _ _ _ => f_nil) (fun _ _ _ _ _ => (s_and (s_call c_is_integer hr hg (fun _ => pass00) (s_cons (s_v 5) s_nil) (fun _ _ _ _ _ _ us hl => match us, hl with | [_], _ => rfl)) (s_one (s_ch op_le og_le op_lt og_lt s_int (s_v 5) (s_v 3)))))) s_nil)))) (b_one (z_ret s_bl)) b_nil)
    (b_cons (z_if (s_tr (s_b (callOr (callOr (cr_any rfl) (cr_anyT rfl)) (cr_anyL rfl)) og_anyL T.m_any (s_cons (s_call c_stepped hr hg pb (s_cons (s_v 4) (s_cons (s_lc (own := [("offset", 6), ("factor", 7)]) rfl S.nd (i_seq (s_ix ix_seq og_idx (s_v 0) s_int)) (blkOk_by (N := N_round_bars) (sc := fScope st_round_bars) (by decide +kernel)) (fun _ _ _ _ _ => (g_t rfl (g_cons (g_n 6 S.nd) (g_cons (g_n 7 S.nd) g_nil)))) (fun _ _ _ _ _ => f_nil) (fun _ _ _ _ _ => (s_tup (s_cons (s_un un_neg og_neg (s_v 6)) (s_cons (s_v 7) s_nil))))) (s_cons (s_v 3) s_nil))) (fun _ _ _ _ _ _ us hl => match us, hl with | [_, _, _], _ => rfl)) s_nil))) (b_one (z_ret s_bl)) b_nil)
    (b_one (z_ret (s_cmp (op_neP (u64 hr)) og_ne (s_bin op_mod og_mod (s_b (cr_sum rfl) og_sum T.m_sum (s_cons (s_lc (own := [("weight", 5), ("own", 8)]) rfl S.nd (i_zip T.m_zip (s_cons (s_v 4) (s_cons (s_ix ix_seq og_idx (s_v 1) s_int) s_nil))) (blkOk_by (N := N_round_bars) (sc := fScope st_round_bars) (by decide +kernel)) (fun _ _ _ _ _ => (g_t rfl (g_cons (g_n 5 S.nd) (g_cons (g_n 8 S.nd) g_nil)))) (fun _ _ _ _ _ => f_nil) (fun _ _ _ _ _ => (s_bin op_mulA og_mul (s_v 5) (s_v 8)))) s_nil)) (s_v 3)) s_int (nomark _))))))))))
theorem sc__law_jar : FnScope N__law_jar ["_law_script", "_law_k"] (fScope st__law_jar) := C8.fnScope_by (by decide +kernel)
theorem pa__law_jar : fPars st__law_jar = (["_law_script", "_law_k"] : List Str) := by with_unfolding_all rfl
theorem d__law_jar (T : Tx K mg) (B : Sys base) (h : Here K mg "_law_jar" st__law_jar a fd) : Cal prog w K mg base CA 1 st__law_jar "_law_jar" f__law_jar 2 := by
  have S := sc__law_jar
  refine ⟨a, fd, ?_, h⟩
  rw [pa__law_jar]
  refine fn_G h S rfl rfl fun cd Ar ou s0 H0 W hr hg => ?_
  exact (b_cons (z_set 2 false (s_bin op_addA og_add (s_bin op_mulA og_mul s_int (s_v 1)) s_int) S.nd)
    (b_cons (z_if (s_cmpt op_lt og_lt bf_lt (s_v 1) (s_b (callOr call_len_seq call_len_str) og_len T.m_len (s_cons (s_v 0) s_nil)) (nomark _)) (b_one (z_set 2 false (s_ix ix_seq og_idx (s_v 0) (s_v 1)) S.nd)) b_nil)
    (b_cons (z_set 3 false (s_bin op_addA og_add (s_b (cr_sum rfl) og_sum T.m_sum (s_cons (s_lc (own := [("_law_other", 5)]) rfl S.nd (i_seq (s_v 0)) (blkOk_by (N := N__law_jar) (sc := fScope st__law_jar) (by decide +kernel)) (fun _ _ _ _ _ => (g_n 5 S.nd)) (fun _ _ _ _ _ => f_nil) (fun _ _ _ _ _ => (s_bin op_mod og_mod (s_ty call_int1 og_int T.m_int (s_cons (s_v 5) s_nil)) (s_bin op_addA og_add (s_bin op_powA og_pow s_int s_int) s_int)))) s_nil)) (s_bin op_mulA og_mul s_int (s_b (callOr call_len_seq call_len_str) og_len T.m_len (s_cons (s_v 0) s_nil)))) S.nd)
    (b_cons (z_set 4 false (s_bin op_mod og_mod (s_ty call_int1 og_int T.m_int (s_cons (s_bin op_addA og_add (s_bin op_addA og_add (s_bin op_addA og_add (s_bin op_mulA og_mul (s_b call_abs og_abs T.m_abs (s_cons (s_v 2) s_nil)) s_int) (s_bin op_mulA og_mul s_int (s_ty call_int1 og_int T.m_int (s_cons (s_cmp op_lt og_lt (s_v 2) s_int (nomark _)) s_nil)))) (s_bin op_mulA og_mul (s_v 3) s_int)) (s_v 1)) s_nil)) (s_bin op_addA og_add (s_bin op_powA og_pow s_int s_int) s_int)) S.nd)
    (b_one (z_ret (s_lst (s_cons (s_b (callOr (cr_max rfl) (call_max2 rfl)) og_max T.m_max (s_cons s_int (s_cons (s_bin op_sub og_sub (s_v 2) (s_bin op_powA og_pow s_int s_int)) s_nil))) (s_cons (s_v 4) (s_cons s_int s_nil))))))))))
theorem sc__law_take : FnScope N__law_take ["_law_jar_here", "_law_many"] (fScope st__law_take) := C8.fnScope_by (by decide +kernel)
theorem pa__law_take : fPars st__law_take = (["_law_jar_here", "_law_many"] : List Str) := by with_unfolding_all rfl
theorem d__law_take (T : Tx K mg) (B : Sys base) (h : Here K mg "_law_take" st__law_take a fd) : Cal prog w K mg base CA 1 st__law_take "_law_take" f__law_take 2 := by
  have S := sc__law_take
  refine ⟨a, fd, ?_, h⟩
  rw [pa__law_take]
  refine fn_G h S rfl rfl fun cd Ar ou s0 H0 W hr hg => ?_
  exact (b_cons (z_if (s_cmpt op_gt og_gt bf_gt (s_ix ix_seq og_idx (s_v 0) s_int) s_int (nomark _)) (b_cons (z_set 2 false (s_bin op_mod og_mod (s_ty call_int1 og_int T.m_int (s_cons (s_ix ix_seq og_idx (s_v 0) s_int) s_nil)) (s_v 1)) S.nd)
    (b_cons (z_item 0 (s_v 0) s_int (s_bin op_fdivW og_div (s_ix ix_seq og_idx (s_v 0) s_int) (s_v 1)))
    (b_one (z_ret (s_v 2))))) b_nil)
    (b_cons (z_item 0 (s_v 0) s_int (s_bin op_addA og_add (s_ix ix_seq og_idx (s_v 0) s_int) s_int))
    (b_cons (z_set 3 false (s_bin op_mod og_mod (s_ty call_int1 og_int T.m_int (s_cons (s_bin op_addA og_add (s_bin op_powA og_pow (s_bin op_addA og_add (s_ix ix_seq og_idx (s_v 0) s_int) (s_bin op_mulA og_mul s_int (s_ix ix_seq og_idx (s_v 0) s_int))) s_int) (s_bin op_mulA og_mul s_int (s_ix ix_seq og_idx (s_v 0) s_int))) s_nil)) (s_bin op_addA og_add (s_bin op_powA og_pow s_int s_int) s_int)) S.nd)
    (b_cons (z_set 3 false (s_bin op_mod og_mod (s_ty call_int1 og_int T.m_int (s_cons (s_bin op_mulA og_mul (s_v 3) (s_bin op_addA og_add (s_v 3) (s_bin op_mulA og_mul s_int (s_ix ix_seq og_idx (s_v 0) s_int)))) s_nil)) (s_bin op_addA og_add (s_bin op_powA og_pow s_int s_int) s_int)) S.nd)
    (b_one (z_ret (s_bin op_mod og_mod (s_ty call_int1 og_int T.m_int (s_cons (s_bin op_fdivW og_div (s_v 3) s_int) s_nil)) (s_v 1))))))))
theorem sc__law_modulus : FnScope N__law_modulus ["_law_jar_here"] (fScope st__law_modulus) := C8.fnScope_by (by decide +kernel)
theorem pa__law_modulus : fPars st__law_modulus = (["_law_jar_here"] : List Str) := by with_unfolding_all rfl
theorem d__law_modulus (T : Tx K mg) (B : Sys base) (h : Here K mg "_law_modulus" st__law_modulus a fd) (c__law_take : Cal prog w K mg base CA 1 st__law_take "_law_take" f__law_take 2) : Cal prog w K mg base CA 2 st__law_modulus "_law_modulus" f__law_modulus 1 := by
  have S := sc__law_modulus
  refine ⟨a, fd, ?_, h⟩
  rw [pa__law_modulus]
  refine fn_G h S rfl rfl fun cd Ar ou s0 H0 W hr hg => ?_
  exact (b_one (z_ret (s_ix ix_seq og_idx (s_lst (s_cons s_int (s_cons s_int (s_cons s_int (s_cons s_int (s_cons s_int (s_cons s_int (s_cons s_int (s_cons s_int (s_cons s_int (s_cons s_int s_nil))))))))))) (s_call c__law_take hr hg pb (s_cons (s_v 0) (s_cons s_int s_nil)) (fun _ _ _ _ _ _ us hl => match us, hl with | [_, _], _ => rfl)))))
theorem sc__law_primes : FnScope N__law_primes ["_law_modulus_here"] (fScope st__law_primes) := C8.fnScope_by (by decide +kernel)
theorem pa__law_primes : fPars st__law_primes = (["_law_modulus_here"] : List Str) := by with_unfolding_all rfl
theorem d__law_primes (T : Tx K mg) (B : Sys base) (h : Here K mg "_law_primes" st__law_primes a fd) : Cal prog w K mg base CA 1 st__law_primes "_law_primes" f__law_primes 1 := by
  have S := sc__law_primes
  refine ⟨a, fd, ?_, h⟩
  rw [pa__law_primes]
  refine fn_G h S rfl rfl fun cd Ar ou s0 H0 W hr hg => ?_
  exact (b_one (z_ret (s_lc (own := [("_law_prime", 1)]) rfl S.nd (i_seq (s_tup (s_cons s_int (s_cons s_int (s_cons s_int (s_cons s_int (s_cons s_int (s_cons s_int s_nil)))))))) (blkOk_by (N := N__law_primes) (sc := fScope st__law_primes) (by decide +kernel)) (fun _ _ _ _ _ => (g_n 1 S.nd)) (fun _ _ _ _ _ => (f_one (s_cmpt (op_eqP (u64 hr)) og_eq bf_eq (s_bin op_mod og_mod (s_ty call_int1 og_int T.m_int (s_cons (s_v 0) s_nil)) (s_v 1)) s_int (nomark _)))) (fun _ _ _ _ _ => (s_v 1)))))
theorem sc__law_product : FnScope N__law_product ["_law_jar_here", "_law_modulus_here", "_law_most"] (fScope st__law_product) := C8.fnScope_by (by decide +kernel)
theorem pa__law_product : fPars st__law_product = (["_law_jar_here", "_law_modulus_here", "_law_most"] : List Str) := by with_unfolding_all rfl
theorem d__law_product (T : Tx K mg) (B : Sys base) (h : Here K mg "_law_product" st__law_product a fd) (c__law_take : Cal prog w K mg base CA 1 st__law_take "_law_take" f__law_take 2) : Cal prog w K mg base CA 2 st__law_product "_law_product" f__law_product 3 := by
  have S := sc__law_product
  refine ⟨a, fd, ?_, h⟩
  rw [pa__law_product]
  refine fn_G h S rfl rfl fun cd Ar ou s0 H0 W hr hg => ?_
  exact (b_cons (z_par2 3 4 0 0 (s_ix ix_seq og_idx (s_lst (s_cons s_int (s_cons (s_bin op_sub og_sub (s_v 1) s_int) (s_cons (s_bin op_addA og_add s_int (s_call c__law_take hr hg pb (s_cons (s_v 0) (s_cons (s_bin op_sub og_sub (s_v 1) s_int) s_nil)) (fun _ _ _ _ _ _ us hl => match us, hl with | [_, _], _ => rfl))) s_nil)))) (s_call c__law_take hr hg pb (s_cons (s_v 0) (s_cons s_int s_nil)) (fun _ _ _ _ _ _ us hl => match us, hl with | [_, _], _ => rfl))) (s_lst (s_cons s_int s_nil)) rfl S.nd rfl)
    (b_cons (z_for po rfl (i_range1 T.m_range (s_call c__law_take hr hg pb (s_cons (s_v 0) (s_cons (s_bin op_addA og_add (s_v 2) s_int) s_nil)) (fun _ _ _ _ _ _ us hl => match us, hl with | [_, _], _ => rfl))) (g_n 5 S.nd) (b_cons (z_set 6 false (s_ix ix_seq og_idx (s_lst (s_cons (s_v 3) (s_cons (s_v 3) (s_cons (s_v 3) (s_cons (s_call c__law_take hr hg pb (s_cons (s_v 0) (s_cons (s_v 1) s_nil)) (fun _ _ _ _ _ _ us hl => match us, hl with | [_, _], _ => rfl)) s_nil))))) (s_call c__law_take hr hg pb (s_cons (s_v 0) (s_cons s_int s_nil)) (fun _ _ _ _ _ _ us hl => match us, hl with | [_, _], _ => rfl))) S.nd)
    (b_one (z_lc 4 false (own := [("_law_ahead", 7), ("_law_own", 8)]) rfl S.nd (i_zip T.m_zip (s_cons (s_bin op_addA og_add (s_lst (s_cons s_int s_nil)) (s_v 4)) (s_cons (s_bin op_addA og_add (s_v 4) (s_lst (s_cons s_int s_nil))) s_nil))) (blkOk_by (N := N__law_product) (sc := fScope st__law_product) (by decide +kernel)) (fun _ _ _ _ _ => (g_t rfl (g_cons (g_n 7 S.nd) (g_cons (g_n 8 S.nd) g_nil)))) (fun _ _ _ _ _ => f_nil) (fun _ _ _ _ _ => (s_bin op_mod og_mod (s_ty call_int1 og_int T.m_int (s_cons (s_bin op_sub og_sub (s_v 7) (s_bin op_mulA og_mul (s_v 6) (s_v 8))) s_nil)) (s_v 1))) rfl))))
    (b_one (z_ret (s_v 4)))))
theorem sc__law_rule : FnScope N__law_rule ["_law_jar_here", "_law_modulus_here"] (fScope st__law_rule) := C8.fnScope_by (by decide +kernel)
theorem pa__law_rule : fPars st__law_rule = (["_law_jar_here", "_law_modulus_here"] : List Str) := by with_unfolding_all rfl
theorem d__law_rule (T : Tx K mg) (B : Sys base) (h : Here K mg "_law_rule" st__law_rule a fd) (c__law_product : Cal prog w K mg base CA 2 st__law_product "_law_product" f__law_product 3) (c__law_take : Cal prog w K mg base CA 1 st__law_take "_law_take" f__law_take 2) : Cal prog w K mg base CA 3 st__law_rule "_law_rule" f__law_rule 2 := by
  have S := sc__law_rule
  refine ⟨a, fd, ?_, h⟩
  rw [pa__law_rule]
  refine fn_G h S rfl rfl fun cd Ar ou s0 H0 W hr hg => ?_
  exact (b_cons (z_set 2 false (s_call c__law_take hr hg pb (s_cons (s_v 0) (s_cons s_int s_nil)) (fun _ _ _ _ _ _ us hl => match us, hl with | [_, _], _ => rfl)) S.nd)
    (b_cons (z_if (s_cmpt op_lt og_lt bf_lt (s_v 2) s_int (nomark _)) (b_one (z_set 3 false (s_call c__law_product hr hg pb (s_cons (s_v 0) (s_cons (s_v 1) (s_cons s_int s_nil))) (fun _ _ _ _ _ _ us hl => match us, hl with | [_, _, _], _ => rfl)) S.nd)) (b_cons (z_lc 3 false (own := [("_law_turn", 7)]) rfl S.nd (i_range1 T.m_range (s_bin op_addA og_add s_int (s_call c__law_take hr hg pb (s_cons (s_v 0) (s_cons s_int s_nil)) (fun _ _ _ _ _ _ us hl => match us, hl with | [_, _], _ => rfl)))) (blkOk_by (N := N__law_rule) (sc := fScope st__law_rule) (by decide +kernel)) (fun _ _ _ _ _ => (g_n 7 S.nd)) (fun _ _ _ _ _ => f_nil) (fun _ _ _ _ _ => (s_call c__law_take hr hg (fun _ => pass00) (s_cons (s_v 0) (s_cons (s_v 1) s_nil)) (fun _ _ _ _ _ _ us hl => match us, hl with | [_, _], _ => rfl))) rfl)
    (b_one (z_if (s_cmpt (op_eqP (u64 hr)) og_eq bf_eq (s_v 2) s_int (nomark _)) (b_one (z_lc 3 false (own := [("_law_own", 8)]) rfl S.nd (i_seq (s_v 3)) (blkOk_by (N := N__law_rule) (sc := fScope st__law_rule) (by decide +kernel)) (fun _ _ _ _ _ => (g_n 8 S.nd)) (fun _ _ _ _ _ => f_nil) (fun _ _ _ _ _ => (s_bin op_mulA og_mul (s_v 8) (s_ty call_int1 og_int T.m_int (s_cons (s_cmp (op_eqP (u64 hr)) og_eq (s_call c__law_take hr hg (fun _ => pass00) (s_cons (s_v 0) (s_cons s_int s_nil)) (fun _ _ _ _ _ _ us hl => match us, hl with | [_, _], _ => rfl)) s_int (nomark _)) s_nil)))) rfl)) b_nil))))
    (b_cons (z_set 4 false (s_bin op_sub og_sub (s_call c__law_take hr hg pb (s_cons (s_v 0) (s_cons (s_bin op_sub og_sub s_int (s_b (callOr call_len_seq call_len_str) og_len T.m_len (s_cons (s_v 3) s_nil))) s_nil)) (fun _ _ _ _ _ _ us hl => match us, hl with | [_, _], _ => rfl)) s_int) S.nd)
    (b_cons (z_set 5 false (s_ix ix_seq og_idx (s_lst (s_cons s_int (s_cons s_int (s_cons s_int (s_cons s_int (s_cons (s_call c__law_take hr hg pb (s_cons (s_v 0) (s_cons (s_v 1) s_nil)) (fun _ _ _ _ _ _ us hl => match us, hl with | [_, _], _ => rfl)) s_nil)))))) (s_call c__law_take hr hg pb (s_cons (s_v 0) (s_cons s_int s_nil)) (fun _ _ _ _ _ _ us hl => match us, hl with | [_, _], _ => rfl))) S.nd)
    (b_cons (z_lc 6 false (own := [("_law_at", 9), ("_law_own", 8)]) rfl S.nd (i_enum T.m_enumerate (s_v 3)) (blkOk_by (N := N__law_rule) (sc := fScope st__law_rule) (by decide +kernel)) (fun _ _ _ _ _ => (g_t rfl (g_cons (g_n 9 S.nd) (g_cons (g_n 8 S.nd) g_nil)))) (fun _ _ _ _ _ => f_nil) (fun _ _ _ _ _ => (s_tup (s_cons (s_bin op_addA og_add (s_v 4) (s_v 9)) (s_cons (s_bin op_mod og_mod (s_ty call_int1 og_int T.m_int (s_cons (s_bin op_mulA og_mul (s_v 8) (s_v 5)) s_nil)) (s_v 1)) s_nil)))) rfl)
    (b_one (z_ret (s_tup (s_cons (s_v 1) (s_cons (s_ty call_tuple_of og_tup T.m_tuple (s_cons (s_lc (own := [("_law_term", 10)]) rfl S.nd (i_seq (s_v 6)) (blkOk_by (N := N__law_rule) (sc := fScope st__law_rule) (by decide +kernel)) (fun _ _ _ _ _ => (g_n 10 S.nd)) (fun _ _ _ _ _ => (f_one (s_cmpt op_gt og_gt bf_gt (s_ix ix_seq og_idx (s_v 10) s_int) s_int (nomark _)))) (fun _ _ _ _ _ => (s_v 10))) s_nil)) s_nil))))))))))
theorem sc__law_values : FnScope N__law_values ["_law_jar_here", "_law_modulus_here", "_law_n"] (fScope st__law_values) := C8.fnScope_by (by decide +kernel)
theorem pa__law_values : fPars st__law_values = (["_law_jar_here", "_law_modulus_here", "_law_n"] : List Str) := by with_unfolding_all rfl
theorem d__law_values (T : Tx K mg) (B : Sys base) (h : Here K mg "_law_values" st__law_values a fd) (c__law_take : Cal prog w K mg base CA 1 st__law_take "_law_take" f__law_take 2) : Cal prog w K mg base CA 2 st__law_values "_law_values" f__law_values 3 := by
  have S := sc__law_values
  refine ⟨a, fd, ?_, h⟩
  rw [pa__law_values]
  refine fn_G h S rfl rfl fun cd Ar ou s0 H0 W hr hg => ?_
  exact (b_cons (z_set 3 false (s_call c__law_take hr hg pb (s_cons (s_v 0) (s_cons s_int s_nil)) (fun _ _ _ _ _ _ us hl => match us, hl with | [_, _], _ => rfl)) S.nd)
    (b_cons (z_if (s_cmpt (op_eqP (u64 hr)) og_eq bf_eq (s_v 3) s_int (nomark _)) (b_cons (z_set 4 false (s_lc (own := [("_law_turn", 5)]) rfl S.nd (i_range1 T.m_range (s_bin op_addA og_add s_int (s_call c__law_take hr hg pb (s_cons (s_v 0) (s_cons (s_v 2) s_nil)) (fun _ _ _ _ _ _ us hl => match us, hl with | [_, _], _ => rfl)))) (blkOk_by (N := N__law_values) (sc := fScope st__law_values) (by decide +kernel)) (fun _ _ _ _ _ => (g_n 5 S.nd)) (fun _ _ _ _ _ => f_nil) (fun _ _ _ _ _ => (s_call c__law_take hr hg (fun _ => pass00) (s_cons (s_v 0) (s_cons (s_v 1) s_nil)) (fun _ _ _ _ _ _ us hl => match us, hl with | [_, _], _ => rfl)))) S.nd)
    (b_one (z_ret (s_ty call_tuple_of og_tup T.m_tuple (s_cons (s_lc (own := [("_law_at", 6)]) rfl S.nd (i_range1 T.m_range (s_v 2)) (blkOk_by (N := N__law_values) (sc := fScope st__law_values) (by decide +kernel)) (fun _ _ _ _ _ => (g_n 6 S.nd)) (fun _ _ _ _ _ => f_nil) (fun _ _ _ _ _ => (s_ix ix_seq og_idx (s_v 4) (s_bin op_mod og_mod (s_ty call_int1 og_int T.m_int (s_cons (s_v 6) s_nil)) (s_b (callOr call_len_seq call_len_str) og_len T.m_len (s_cons (s_v 4) s_nil)))))) s_nil))))) b_nil)
    (b_cons (z_if (s_cmpt (op_eqP (u64 hr)) og_eq bf_eq (s_v 3) s_int (nomark _)) (b_one (z_ret (s_ty call_tuple_of og_tup T.m_tuple (s_cons (s_lc (own := [("_law_at", 6)]) rfl S.nd (i_range1 T.m_range (s_v 2)) (blkOk_by (N := N__law_values) (sc := fScope st__law_values) (by decide +kernel)) (fun _ _ _ _ _ => (g_n 6 S.nd)) (fun _ _ _ _ _ => f_nil) (fun _ _ _ _ _ => (s_bin op_mulA og_mul (s_call c__law_take hr hg (fun _ => pass00) (s_cons (s_v 0) (s_cons (s_v 1) s_nil)) (fun _ _ _ _ _ _ us hl => match us, hl with | [_, _], _ => rfl)) (s_ty call_int1 og_int T.m_int (s_cons (s_cmp (op_eqP (u64 hr)) og_eq (s_call c__law_take hr hg (fun _ => pass00) (s_cons (s_v 0) (s_cons s_int s_nil)) (fun _ _ _ _ _ _ us hl => match us, hl with | [_, _], _ => rfl)) s_int (nomark _)) s_nil))))) s_nil)))) b_nil)
    (b_one (z_ret (s_ty call_tuple_of og_tup T.m_tuple (s_cons (s_lc (own := [("_law_at", 6)]) rfl S.nd (i_range1 T.m_range (s_v 2)) (blkOk_by (N := N__law_values) (sc := fScope st__law_values) (by decide +kernel)) (fun _ _ _ _ _ => (g_n 6 S.nd)) (fun _ _ _ _ _ => f_nil) (fun _ _ _ _ _ => (s_call c__law_take hr hg (fun _ => pass00) (s_cons (s_v 0) (s_cons (s_v 1) s_nil)) (fun _ _ _ _ _ _ us hl => match us, hl with | [_, _], _ => rfl)))) s_nil)))))))
theorem sc__law_step : FnScope N__law_step ["_law_rule_here", "_law_values_here"] (fScope st__law_step) := C8.fnScope_by (by decide +kernel)
theorem pa__law_step : fPars st__law_step = (["_law_rule_here", "_law_values_here"] : List Str) := by with_unfolding_all rfl
theorem d__law_step (T : Tx K mg) (B : Sys base) (h : Here K mg "_law_step" st__law_step a fd) : Cal prog w K mg base CA 1 st__law_step "_law_step" f__law_step 2 := by
  have S := sc__law_step
  refine ⟨a, fd, ?_, h⟩
  rw [pa__law_step]
  refine fn_G h S rfl rfl fun cd Ar ou s0 H0 W hr hg => ?_
  exact (b_cons (z_par2c 2 3 0 1 (s_b (callOr call_len_seq call_len_str) og_len T.m_len (s_cons (s_v 1) s_nil)) (s_lst s_nil) rfl S.nd rfl)
    (b_cons (z_for po rfl (i_range1 T.m_range (s_v 2)) (g_n 4 S.nd) (b_one (z_expr (s_app 3 (s_v 3) (s_bin op_mod og_mod (s_ty call_int1 og_int T.m_int (s_cons (s_b (cr_sum rfl) og_sum T.m_sum (s_cons (s_lc (own := [("_law_offset", 5), ("_law_factor", 6)]) rfl S.nd (i_seq (s_ix ix_seq og_idx (s_v 0) s_int)) (blkOk_by (N := N__law_step) (sc := fScope st__law_step) (by decide +kernel)) (fun _ _ _ _ _ => (g_t rfl (g_cons (g_n 5 S.nd) (g_cons (g_n 6 S.nd) g_nil)))) (fun _ _ _ _ _ => f_nil) (fun _ _ _ _ _ => (s_bin op_mulA og_mul (s_v 6) (s_ix ix_seq og_idx (s_v 1) (s_bin op_mod og_mod (s_ty call_int1 og_int T.m_int (s_cons (s_bin op_addA og_add (s_v 4) (s_v 5)) s_nil)) (s_v 2)))))) s_nil)) s_nil)) (s_ix ix_seq og_idx (s_v 0) s_int))))))
    (b_one (z_ret (s_ty call_tuple_of og_tup T.m_tuple (s_cons (s_v 3) s_nil))))))
theorem sc__law_all : FnScope N__law_all ["_law_modulus_here", "_law_n"] (fScope st__law_all) := C8.fnScope_by (by decide +kernel)
theorem pa__law_all : fPars st__law_all = (["_law_modulus_here", "_law_n"] : List Str) := by with_unfolding_all rfl
theorem d__law_all (T : Tx K mg) (B : Sys base) (h : Here K mg "_law_all" st__law_all a fd) : Cal prog w K mg base CA 1 st__law_all "_law_all" f__law_all 2 := by
  have S := sc__law_all
  refine ⟨a, fd, ?_, h⟩
  rw [pa__law_all]
  refine fn_G h S rfl rfl fun cd Ar ou s0 H0 W hr hg => ?_
  exact (b_cons (z_set 2 false (s_lst (s_cons (s_tup s_nil) s_nil)) S.nd)
    (b_cons (z_for po rfl (i_range1 T.m_range (s_v 1)) (g_n 3 S.nd) (b_cons (z_set 4 true (s_lst s_nil) S.nd)
    (b_cons (z_for po rfl (i_seq (s_v 2)) (g_n 5 S.nd) (b_one (z_for po rfl (i_range1 T.m_range (s_v 0)) (g_n 6 S.nd) (b_one (z_expr (s_app 4 (s_v 4) (s_bin op_addA og_add (s_v 5) (s_tup (s_cons (s_v 6) s_nil)))))))))
    (b_one (z_frz [4] (z_set 2 false (s_v 4) S.nd))))))
    (b_one (z_ret (s_v 2)))))
theorem sc__law_is_whole : FnScope N__law_is_whole ["_law_value"] (fScope st__law_is_whole) := C8.fnScope_by (by decide +kernel)
theorem pa__law_is_whole : fPars st__law_is_whole = (["_law_value"] : List Str) := by with_unfolding_all rfl
theorem d__law_is_whole (T : Tx K mg) (B : Sys base) (h : Here K mg "_law_is_whole" st__law_is_whole a fd) : Cal prog w K mg base CA 1 st__law_is_whole "_law_is_whole" f__law_is_whole 1 := by
  have S := sc__law_is_whole
  refine ⟨a, fd, ?_, h⟩
  rw [pa__law_is_whole]
  refine fn_G h S rfl rfl fun cd Ar ou s0 H0 W hr hg => ?_
  exact (b_one (z_ret (s_and (s_isi (T := "int") T.m_isinstance T.m_int (s_v 0) (by decide +kernel) (by decide +kernel)) (s_one (s_not (s_isi (T := "bool") T.m_isinstance T.m_bool (s_v 0) (by decide +kernel) (by decide +kernel)))))))
theorem sc__law_table : FnScope N__law_table ["_law_rule_here", "_law_n"] (fScope st__law_table) := C8.fnScope_by (by decide +kernel)
theorem pa__law_table : fPars st__law_table = (["_law_rule_here", "_law_n"] : List Str) := by with_unfolding_all rfl
theorem d__law_table (T : Tx K mg) (B : Sys base) (h : Here K mg "_law_table" st__law_table a fd) (c__law_step : Cal prog w K mg base CA 1 st__law_step "_law_step" f__law_step 2) : Cal prog w K mg base CA 2 st__law_table "_law_table" f__law_table 2 := by
  have S := sc__law_table
  refine ⟨a, fd, ?_, h⟩
  rw [pa__law_table]
  refine fn_G h S rfl rfl fun cd Ar ou s0 H0 W hr hg => ?_
  exact (b_one (z_ret (s_lc (own := [("_law_at", 2)]) rfl S.nd (i_range1 T.m_range (s_v 1)) (blkOk_by (N := N__law_table) (sc := fScope st__law_table) (by decide +kernel)) (fun _ _ _ _ _ => (g_n 2 S.nd)) (fun _ _ _ _ _ => f_nil) (fun _ _ _ _ _ => (s_call c__law_step hr hg (fun _ => pass00) (s_cons (s_v 0) (s_cons (s_ty call_tuple_of og_tup T.m_tuple (s_cons (s_lc (own := [("_law_place", 3)]) rfl S.nd (i_range1 T.m_range (s_v 1)) (blkOk_by (by with_unfolding_all rfl)) (fun _ _ _ _ _ => (g_n 3 S.nd)) (fun _ _ _ _ _ => f_nil) (fun _ _ _ _ _ => (s_ty call_int1 og_int T.m_int (s_cons (s_cmp (op_eqP (u64 hr)) og_eq (s_v 3) (s_v 2) (nomark _)) s_nil)))) s_nil)) s_nil)) (fun _ _ _ _ _ _ us hl => match us, hl with | [_, _], _ => rfl))))))
theorem sc__law_is_bar : FnScope N__law_is_bar ["_law_table_here", "_law_modulus_here", "_law_values_here", "_law_value"] (fScope st__law_is_bar) := C8.fnScope_by (by decide +kernel)
theorem pa__law_is_bar : fPars st__law_is_bar = (["_law_table_here", "_law_modulus_here", "_law_values_here", "_law_value"] : List Str) := by with_unfolding_all rfl
theorem d__law_is_bar (T : Tx K mg) (B : Sys base) (h : Here K mg "_law_is_bar" st__law_is_bar a fd) (c__law_is_whole : Cal prog w K mg base CA 1 st__law_is_whole "_law_is_whole" f__law_is_whole 1) (c__law_primes : Cal prog w K mg base CA 1 st__law_primes "_law_primes" f__law_primes 1) : Cal prog w K mg base CA 2 st__law_is_bar "_law_is_bar" f__law_is_bar 4 := by
  have S := sc__law_is_bar
  refine ⟨a, fd, ?_, h⟩
  rw [pa__law_is_bar]
  refine fn_G h S rfl rfl fun cd Ar ou s0 H0 W hr hg => ?_
  exact (b_cons (z_if (PW.pt (t_or (t_not (s_tr (s_isi (T := "tuple") T.m_isinstance T.m_tuple (s_v 3) (by decide +kernel) (by decide +kernel)))) (t_or (s_cmpt (op_neP (u64 hr)) og_ne bf_ne (s_b (callOr call_len_seq call_len_str) og_len T.m_len (s_cons (s_v 3) s_nil)) s_int (nomark _)) (t_or1 (t_not (s_tr (s_call c__law_is_whole hr hg pb (s_cons (s_ix ix_seq og_idx (s_v 3) s_int) s_nil) (fun _ _ _ _ _ _ us hl => match us, hl with | [_], _ => rfl)))))))) (b_one (z_ret s_bl)) b_nil)
    (b_cons (z_unp (s_v 3) (g_t rfl (g_cons (g_n 4 S.nd) (g_cons (g_n 5 S.nd) g_nil))))
    (b_cons (z_if (PW.pt (t_or (s_cmpt (op_notInP (u65 hr)) og_notIn bf_notIn (s_v 4) (s_call c__law_primes hr hg pb (s_cons (s_v 1) s_nil) (fun _ _ _ _ _ _ us hl => match us, hl with | [_], _ => rfl)) (by with_unfolding_all rfl)) (t_or (t_not (s_tr (s_isi (T := "tuple") T.m_isinstance T.m_tuple (s_v 5) (by decide +kernel) (by decide +kernel)))) (t_or1 (s_cmpt (op_neP (u64 hr)) og_ne bf_ne (s_b (callOr call_len_seq call_len_str) og_len T.m_len (s_cons (s_v 5) s_nil)) (s_b (callOr call_len_seq call_len_str) og_len T.m_len (s_cons (s_v 2) s_nil)) (nomark _)))))) (b_one (z_ret s_bl)) b_nil)
    (b_cons (z_if (t_not (s_tr (s_b (cr_all rfl) og_all T.m_all (s_cons (s_lc (own := [("_law_own", 7)]) rfl S.nd (i_seq (s_v 5)) (blkOk_by (N := N__law_is_bar) (sc := fScope st__law_is_bar) (by decide +kernel)) (fun _ _ _ _ _ => (g_n 7 S.nd)) (fun _ _ _ _ _ => f_nil) (fun _ _ _ _ _ => (s_and (s_call c__law_is_whole hr hg (fun _ => pass00) (s_cons (s_v 7) s_nil) (fun _ _ _ _ _ _ us hl => match us, hl with | [_], _ => rfl)) (s_one (s_ch op_le og_le op_lt og_lt s_int (s_v 7) (s_v 4)))))) s_nil)))) (b_one (z_ret s_bl)) b_nil)
    (b_cons (z_for po rfl (i_seq (s_v 0)) (g_n 6 S.nd) (b_one (z_if (s_cmpt (op_neP (u64 hr)) og_ne bf_ne (s_bin op_mod og_mod (s_ty call_int1 og_int T.m_int (s_cons (s_b (cr_sum rfl) og_sum T.m_sum (s_cons (s_lc (own := [("_law_own", 7), ("_law_other", 8)]) rfl S.nd (i_zip T.m_zip (s_cons (s_v 5) (s_cons (s_v 6) s_nil))) (blkOk_by (N := N__law_is_bar) (sc := fScope st__law_is_bar) (by decide +kernel)) (fun _ _ _ _ _ => (g_t rfl (g_cons (g_n 7 S.nd) (g_cons (g_n 8 S.nd) g_nil)))) (fun _ _ _ _ _ => f_nil) (fun _ _ _ _ _ => (s_bin op_mulA og_mul (s_v 7) (s_v 8)))) s_nil)) s_nil)) (s_v 4)) s_int (nomark _)) (b_one (z_ret s_bl)) b_nil)))
    (b_one (z_ret (s_cmp (op_neP (u64 hr)) og_ne (s_bin op_mod og_mod (s_ty call_int1 og_int T.m_int (s_cons (s_b (cr_sum rfl) og_sum T.m_sum (s_cons (s_lc (own := [("_law_own", 7), ("_law_other", 8)]) rfl S.nd (i_zip T.m_zip (s_cons (s_v 5) (s_cons (s_v 2) s_nil))) (blkOk_by (N := N__law_is_bar) (sc := fScope st__law_is_bar) (by decide +kernel)) (fun _ _ _ _ _ => (g_t rfl (g_cons (g_n 7 S.nd) (g_cons (g_n 8 S.nd) g_nil)))) (fun _ _ _ _ _ => f_nil) (fun _ _ _ _ _ => (s_bin op_mulA og_mul (s_v 7) (s_v 8)))) s_nil)) s_nil)) (s_v 4)) s_int (nomark _)))))))))
theorem sc__law_killed : FnScope N__law_killed ["_law_rule_here", "_law_prime", "_law_n"] (fScope st__law_killed) := C8.fnScope_by (by decide +kernel)
theorem pa__law_killed : fPars st__law_killed = (["_law_rule_here", "_law_prime", "_law_n"] : List Str) := by with_unfolding_all rfl
theorem d__law_killed (T : Tx K mg) (B : Sys base) (h : Here K mg "_law_killed" st__law_killed a fd) (c__law_all : Cal prog w K mg base CA 1 st__law_all "_law_all" f__law_all 2) (c__law_table : Cal prog w K mg base CA 2 st__law_table "_law_table" f__law_table 2) : Cal prog w K mg base CA 3 st__law_killed "_law_killed" f__law_killed 3 := by
  have S := sc__law_killed
  refine ⟨a, fd, ?_, h⟩
  rw [pa__law_killed]
  refine fn_G h S rfl rfl fun cd Ar ou s0 H0 W hr hg => ?_
  exact (b_cons (z_par2 3 4 0 1 (s_call c__law_table hr hg pb (s_cons (s_v 0) (s_cons (s_v 2) s_nil)) (fun _ _ _ _ _ _ us hl => match us, hl with | [_, _], _ => rfl)) (s_lst s_nil) rfl S.nd rfl)
    (b_cons (z_for po rfl (i_seq (s_call c__law_all hr hg pb (s_cons (s_v 1) (s_cons (s_v 2) s_nil)) (fun _ _ _ _ _ _ us hl => match us, hl with | [_, _], _ => rfl))) (g_n 5 S.nd) (b_cons (z_lc 6 false (own := [("_law_made", 7)]) rfl S.nd (i_seq (s_v 3)) (blkOk_by (N := N__law_killed) (sc := fScope st__law_killed) (by decide +kernel)) (fun _ _ _ _ _ => (g_n 7 S.nd)) (fun _ _ _ _ _ => f_nil) (fun _ _ _ _ _ => (s_bin op_mod og_mod (s_ty call_int1 og_int T.m_int (s_cons (s_b (cr_sum rfl) og_sum T.m_sum (s_cons (s_lc (own := [("_law_own", 8), ("_law_other", 9)]) rfl S.nd (i_zip T.m_zip (s_cons (s_v 5) (s_cons (s_v 7) s_nil))) (blkOk_by (by with_unfolding_all rfl)) (fun _ _ _ _ _ => (g_t rfl (g_cons (g_n 8 S.nd) (g_cons (g_n 9 S.nd) g_nil)))) (fun _ _ _ _ _ => f_nil) (fun _ _ _ _ _ => (s_bin op_mulA og_mul (s_v 8) (s_v 9)))) s_nil)) s_nil)) (s_v 1))) rfl)
    (b_one (z_if (t_not (s_tr (s_b (callOr (callOr (cr_any rfl) (cr_anyT rfl)) (cr_anyL rfl)) og_anyL T.m_any (s_cons (s_v 6) s_nil)))) (b_one (z_expr (s_app 4 (s_v 4) (s_v 5)))) b_nil))))
    (b_one (z_ret (s_v 4)))))
theorem sc__law_odd_weights : FnScope N__law_odd_weights ["_law_jar_here", "_law_weights", "_law_prime"] (fScope st__law_odd_weights) := C8.fnScope_by (by decide +kernel)
theorem pa__law_odd_weights : fPars st__law_odd_weights = (["_law_jar_here", "_law_weights", "_law_prime"] : List Str) := by with_unfolding_all rfl
theorem d__law_odd_weights (T : Tx K mg) (B : Sys base) (h : Here K mg "_law_odd_weights" st__law_odd_weights a fd) (c__law_take : Cal prog w K mg base CA 1 st__law_take "_law_take" f__law_take 2) : Cal prog w K mg base CA 2 st__law_odd_weights "_law_odd_weights" f__law_odd_weights 3 := by
  have S := sc__law_odd_weights
  refine ⟨a, fd, ?_, h⟩
  rw [pa__law_odd_weights]
  refine fn_G h S rfl rfl fun cd Ar ou s0 H0 W hr hg => ?_
  exact (b_cons (z_set 3 false (s_call c__law_take hr hg pb (s_cons (s_v 0) (s_cons (s_b (callOr call_len_seq call_len_str) og_len T.m_len (s_cons (s_v 1) s_nil)) s_nil)) (fun _ _ _ _ _ _ us hl => match us, hl with | [_, _], _ => rfl)) S.nd)
    (b_cons (z_par2 4 5 0 1 (s_ix ix_seq og_idx (s_v 1) (s_v 3)) (s_lst s_nil) rfl S.nd rfl)
    (b_cons (z_set 6 false (s_lst (s_cons (s_bin op_addA og_add (s_v 4) (s_v 2)) (s_cons (s_bin op_sub og_sub (s_v 4) (s_v 2)) (s_cons (s_un un_neg og_neg s_int) (s_cons (s_v 2) (s_cons s_bl (s_cons s_bl (s_cons s_non (s_cons (s_ty (callOr call_str_int SkE.call_str_str) og_str T.m_str (s_cons (s_v 4) s_nil)) (s_cons (s_lst (s_cons (s_v 4) s_nil)) (s_cons (s_tup (s_cons (s_v 4) s_nil)) (s_cons (s_bin op_mod og_mod (s_ty call_int1 og_int T.m_int (s_cons (s_bin op_addA og_add (s_v 4) s_int) s_nil)) (s_v 2)) s_nil)))))))))))) S.nd)
    (b_cons (z_for po rfl (i_seq (s_v 6)) (g_n 7 S.nd) (b_one (z_expr (s_app 5 (s_v 5) (s_bin op_addA og_add (s_bin op_addA og_add (s_sl (s_v 1) so_n (so_s (s_v 3))) (s_tup (s_cons (s_v 7) s_nil))) (s_sl (s_v 1) (so_s (s_bin op_addA og_add (s_v 3) s_int)) so_n))))))
    (b_one (z_ret (s_bin op_addA og_add (s_v 5) (s_lst (s_cons (s_sl (s_v 1) so_n (so_s (s_un un_neg og_neg s_int))) (s_cons (s_bin op_addA og_add (s_v 1) (s_tup (s_cons s_int s_nil))) (s_cons (s_bin op_addA og_add (s_v 1) (s_v 1)) (s_cons (s_ty call_list_of og_lst T.m_list (s_cons (s_v 1) s_nil)) (s_cons (s_tup s_nil) (s_cons s_non (s_cons s_int (s_cons s_str s_nil))))))))))))))))
theorem sc__law_objects : FnScope N__law_objects ["_law_jar_here", "_law_modulus_here", "_law_prime", "_law_weights"] (fScope st__law_objects) := C8.fnScope_by (by decide +kernel)
theorem pa__law_objects : fPars st__law_objects = (["_law_jar_here", "_law_modulus_here", "_law_prime", "_law_weights"] : List Str) := by with_unfolding_all rfl
theorem d__law_objects (T : Tx K mg) (B : Sys base) (h : Here K mg "_law_objects" st__law_objects a fd) (c__law_odd_weights : Cal prog w K mg base CA 2 st__law_odd_weights "_law_odd_weights" f__law_odd_weights 3) : Cal prog w K mg base CA 3 st__law_objects "_law_objects" f__law_objects 4 := by
  have S := sc__law_objects
  refine ⟨a, fd, ?_, h⟩
  rw [pa__law_objects]
  refine fn_G h S rfl rfl fun cd Ar ou s0 H0 W hr hg => ?_
  exact (b_cons (z_set 4 true (s_bin op_addA og_add (s_lst (s_cons (s_tup (s_cons (s_v 2) (s_cons (s_v 3) s_nil))) s_nil)) (s_lc (own := [("_law_odd", 6)]) rfl S.nd (i_seq (s_call c__law_odd_weights hr hg pb (s_cons (s_v 0) (s_cons (s_v 3) (s_cons (s_v 2) s_nil))) (fun _ _ _ _ _ _ us hl => match us, hl with | [_, _, _], _ => rfl))) (blkOk_by (N := N__law_objects) (sc := fScope st__law_objects) (by decide +kernel)) (fun _ _ _ _ _ => (g_n 6 S.nd)) (fun _ _ _ _ _ => f_nil) (fun _ _ _ _ _ => (s_tup (s_cons (s_v 2) (s_cons (s_v 6) s_nil)))))) S.nd)
    (b_cons (z_for po rfl (i_seq (s_lst (s_cons s_int (s_cons s_int (s_cons s_int (s_cons s_int (s_cons s_int (s_cons s_int (s_cons (s_v 1) (s_cons s_int (s_cons s_int (s_cons (s_un un_neg og_neg (s_v 2)) (s_cons s_bl (s_cons s_non (s_cons (s_ty (callOr call_str_int SkE.call_str_str) og_str T.m_str (s_cons (s_v 2) s_nil)) (s_cons (s_lst (s_cons (s_v 2) s_nil)) (s_cons (s_bin op_powA og_pow s_int s_int) s_nil))))))))))))))))) (g_n 5 S.nd) (b_one (z_expr (s_app 4 (s_v 4) (s_tup (s_cons (s_v 5) (s_cons (s_v 3) s_nil)))))))
    (b_cons (z_set 4 true (s_bin op_addA og_add (s_v 4) (s_lst (s_cons (s_lst (s_cons (s_v 2) (s_cons (s_v 3) s_nil))) (s_cons (s_tup (s_cons (s_v 2) (s_cons (s_v 3) (s_cons s_int s_nil)))) (s_cons (s_tup (s_cons (s_v 2) s_nil)) (s_cons (s_tup (s_cons (s_v 3) (s_cons (s_v 2) s_nil))) (s_cons (s_v 3) (s_cons (s_ty call_list_of og_lst T.m_list (s_cons (s_v 3) s_nil)) (s_cons (s_v 2) s_nil))))))))) S.nd)
    (b_one (z_ret (s_bin op_addA og_add (s_v 4) (s_lst (s_cons s_non (s_cons s_bl (s_cons (s_tup s_nil) (s_cons (s_lst s_nil) (s_cons s_d0 (s_cons s_str (s_cons (s_dS (s_lst (s_cons (s_v 2) (s_cons (s_v 3) s_nil)))) (s_cons (s_tup (s_cons (s_tup (s_cons (s_v 2) (s_cons (s_v 3) s_nil))) s_nil)) (s_cons (s_lst (s_cons (s_tup (s_cons (s_v 2) (s_cons (s_lst (s_cons s_int s_nil)) s_nil))) s_nil)) s_nil))))))))))))))))
theorem sc_law : FnScope N_law ["_law_script"] (fScope st_law) := C8.fnScope_by (by decide +kernel)
theorem pa_law : fPars st_law = (["_law_script"] : List Str) := by with_unfolding_all rfl
theorem d_law (T : Tx K mg) (B : Sys base) (h : Here K mg "law" st_law a fd) (c__law_is_bar : Cal prog w K mg base CA 2 st__law_is_bar "_law_is_bar" f__law_is_bar 4) (c__law_jar : Cal prog w K mg base CA 1 st__law_jar "_law_jar" f__law_jar 2) (c__law_killed : Cal prog w K mg base CA 3 st__law_killed "_law_killed" f__law_killed 3) (c__law_modulus : Cal prog w K mg base CA 2 st__law_modulus "_law_modulus" f__law_modulus 1) (c__law_objects : Cal prog w K mg base CA 3 st__law_objects "_law_objects" f__law_objects 4) (c__law_primes : Cal prog w K mg base CA 1 st__law_primes "_law_primes" f__law_primes 1) (c__law_rule : Cal prog w K mg base CA 3 st__law_rule "_law_rule" f__law_rule 2) (c__law_table : Cal prog w K mg base CA 2 st__law_table "_law_table" f__law_table 2) (c__law_take : Cal prog w K mg base CA 1 st__law_take "_law_take" f__law_take 2) (c__law_values : Cal prog w K mg base CA 2 st__law_values "_law_values" f__law_values 3) (c_round_bars : Cal prog w K mg base CA 7 st_round_bars "round_bars" f_round_bars 3) : Cal prog w K mg base CA 8 st_law "law" f_law 1 := by
  have S := sc_law
  refine ⟨a, fd, ?_, h⟩
  rw [pa_law]
  refine fn_G h S rfl rfl fun cd Ar ou s0 H0 W hr hg => ?_
  exact (b_cons (z_for po rfl (i_range1 T.m_range (s_b (callOr (cr_max rfl) (call_max2 rfl)) og_max T.m_max (s_cons s_int (s_cons (s_b (callOr (cr_min rfl) (call_min2 rfl)) og_min T.m_min (s_cons s_int (s_cons (s_b (callOr call_len_seq call_len_str) og_len T.m_len (s_cons (s_v 0) s_nil)) s_nil))) s_nil)))) (g_n 1 S.nd) (b_cons (z_set 2 true (s_call c__law_jar hr hg pb (s_cons (s_v 0) (s_cons (s_v 1) s_nil)) (fun _ _ _ _ _ _ us hl => match us, hl with | [_, _], _ => rfl)) S.nd)
    (b_cons (z_set 3 false (s_call c__law_modulus hr hg pb (s_cons (s_v 2) s_nil) (fun _ _ _ _ _ _ us hl => match us, hl with | [_], _ => rfl)) S.nd)
    (b_cons (z_par2 4 5 0 0 (s_call c__law_primes hr hg pb (s_cons (s_v 3) s_nil) (fun _ _ _ _ _ _ us hl => match us, hl with | [_], _ => rfl)) (s_call c__law_rule hr hg pb (s_cons (s_v 2) (s_cons (s_v 3) s_nil)) (fun _ _ _ _ _ _ us hl => match us, hl with | [_, _], _ => rfl)) rfl S.nd rfl)
    (b_cons (z_set 6 false (s_ix ix_seq og_idx (s_v 4) (s_call c__law_take hr hg pb (s_cons (s_v 2) (s_cons (s_b (callOr call_len_seq call_len_str) og_len T.m_len (s_cons (s_v 4) s_nil)) s_nil)) (fun _ _ _ _ _ _ us hl => match us, hl with | [_, _], _ => rfl))) S.nd)
    (b_cons (z_set 7 false (s_ix ix_seq og_idx (s_lst (s_cons s_int (s_cons s_int (s_cons s_int (s_cons s_int (s_cons s_int (s_cons s_int s_nil))))))) (s_index (s_lst (s_cons s_int (s_cons s_int (s_cons s_int (s_cons s_int (s_cons s_int (s_cons s_int s_nil))))))) (s_v 6))) S.nd)
    (b_cons (z_set 8 false (s_bin op_addA og_add s_int (s_call c__law_take hr hg pb (s_cons (s_v 2) (s_cons (s_v 7) s_nil)) (fun _ _ _ _ _ _ us hl => match us, hl with | [_, _], _ => rfl))) S.nd)
    (b_cons (z_set 9 false (s_ix ix_seq og_idx (s_lst (s_cons s_int (s_cons (s_bin op_addA og_add s_int (s_call c__law_take hr hg pb (s_cons (s_v 2) (s_cons (s_bin op_fdivW og_div s_int (s_v 8)) s_nil)) (fun _ _ _ _ _ _ us hl => match us, hl with | [_, _], _ => rfl))) (s_cons (s_bin op_fdivW og_div s_int (s_v 8)) s_nil)))) (s_call c__law_take hr hg pb (s_cons (s_v 2) (s_cons s_int s_nil)) (fun _ _ _ _ _ _ us hl => match us, hl with | [_, _], _ => rfl))) S.nd)
    (b_cons (z_set 10 false (s_call c__law_killed hr hg pb (s_cons (s_v 5) (s_cons (s_v 6) (s_cons (s_v 8) s_nil))) (fun _ _ _ _ _ _ us hl => match us, hl with | [_, _, _], _ => rfl)) S.nd)
    (b_cons (z_set 11 false (s_call c__law_table hr hg pb (s_cons (s_v 5) (s_cons (s_bin op_mulA og_mul (s_v 8) (s_v 9)) s_nil)) (fun _ _ _ _ _ _ us hl => match us, hl with | [_, _], _ => rfl)) S.nd)
    (b_one (z_for po rfl (i_range1 T.m_range s_int) (g_n 12 S.nd) (b_cons (z_set 13 false (s_bin op_mulX og_mulX (s_ix ix_seq og_idx (s_v 10) (s_call c__law_take hr hg pb (s_cons (s_v 2) (s_cons (s_b (callOr call_len_seq call_len_str) og_len T.m_len (s_cons (s_v 10) s_nil)) s_nil)) (fun _ _ _ _ _ _ us hl => match us, hl with | [_, _], _ => rfl))) (s_v 9)) S.nd)
    (b_cons (z_set 14 false (s_tup (s_cons (s_v 3) (s_cons (s_call c__law_values hr hg pb (s_cons (s_v 2) (s_cons (s_v 3) (s_cons (s_bin op_mulA og_mul (s_v 8) (s_v 9)) s_nil))) (fun _ _ _ _ _ _ us hl => match us, hl with | [_, _, _], _ => rfl)) s_nil))) S.nd)
    (b_one (z_for po rfl (i_seq (s_call c__law_objects hr hg pb (s_cons (s_v 2) (s_cons (s_v 3) (s_cons (s_v 6) (s_cons (s_v 13) s_nil)))) (fun _ _ _ _ _ _ us hl => match us, hl with | [_, _, _, _], _ => rfl))) (g_n 15 S.nd) (b_cons (z_par2 16 17 0 0 (s_call c__law_is_bar hr hg pb (s_cons (s_v 11) (s_cons (s_v 3) (s_cons (s_ix ix_seq og_idx (s_v 14) s_int) (s_cons (s_v 15) s_nil)))) (fun _ _ _ _ _ _ us hl => match us, hl with | [_, _, _, _], _ => rfl)) (s_b (cr_reprW B hg (u64 hr)) og_reprW T.m_repr (s_cons (s_v 15) s_nil)) rfl S.nd rfl)
    (b_cons (z_if (PW.pt (t_or (s_cmpt (op_neP (u64 hr)) og_ne bf_ne (s_b (cr_reprW B hg (u64 hr)) og_reprW T.m_repr (s_cons (s_call c_round_bars hr hg pb (s_cons (s_v 5) (s_cons (s_v 14) (s_cons (s_v 15) s_nil))) (fun _ _ _ _ _ _ us hl => match us, hl with | [_, _, _], _ => rfl)) s_nil)) (s_b (cr_reprW B hg (u64 hr)) og_reprW T.m_repr (s_cons (s_v 16) s_nil)) (nomark _)) (t_or1 (s_cmpt (op_neP (u64 hr)) og_ne bf_ne (s_b (cr_reprW B hg (u64 hr)) og_reprW T.m_repr (s_cons (s_v 15) s_nil)) (s_v 17) (nomark _))))) (b_one (z_ret s_bl)) b_nil)
    (b_one (z_if (PW.pt (t_or (s_cmpt (op_neP (u64 hr)) og_ne bf_ne (s_b (cr_reprW B hg (u64 hr)) og_reprW T.m_repr (s_cons (s_callK (ks := ["value", "row", "rule"]) [2, 1, 0] c_round_bars hr hg pb (k_cons (s_v 15) (k_cons (s_v 14) (k_cons (s_v 5) k_nil))) (fun _ _ _ _ _ _ ws hl => match ws, hl with | [_, _, _], _ => rfl)) s_nil)) (s_b (cr_reprW B hg (u64 hr)) og_reprW T.m_repr (s_cons (s_v 16) s_nil)) (nomark _)) (t_or1 (s_cmpt (op_neP (u64 hr)) og_ne bf_ne (s_b (cr_reprW B hg (u64 hr)) og_reprW T.m_repr (s_cons (s_v 15) s_nil)) (s_v 17) (nomark _))))) (b_one (z_ret s_bl)) b_nil))))))))))))))))))))
    (b_one (z_ret s_bl)))
end
end K29
end

section
set_option Elab.async false
set_option linter.all false
set_option maxRecDepth 100000
set_option maxHeartbeats 4000000
set_option autoImplicit false
/-! printed by gen.py -/
namespace K29
open PySem PySem.Spec L2 MP
theorem all_mk {w : World} {K : Fg} {mg : Str → Option Value} {h : Heap} {fa : Addr} (CA : Str → Addr) (X : K.In h) (G : h.Ns mainGlobals mg) (hfa : mg "law" = some (.ref fa))
    {f0 : Addr} {od0 an0 : Option Addr} {sl0 : Array (Option Value)} {oc0 kV0 dc0 pm0 cd0 ct0 : Value}
    {f1 : Addr} {od1 an1 : Option Addr} {sl1 : Array (Option Value)} {oc1 kV1 dc1 pm1 cd1 ct1 : Value}
    {f2 : Addr} {od2 an2 : Option Addr} {sl2 : Array (Option Value)} {oc2 kV2 dc2 pm2 cd2 ct2 : Value}
    {f3 : Addr} {od3 an3 : Option Addr} {sl3 : Array (Option Value)} {oc3 kV3 dc3 pm3 cd3 ct3 : Value}
    {f4 : Addr} {od4 an4 : Option Addr} {sl4 : Array (Option Value)} {oc4 kV4 dc4 pm4 cd4 ct4 : Value}
    {f5 : Addr} {od5 an5 : Option Addr} {sl5 : Array (Option Value)} {oc5 kV5 dc5 pm5 cd5 ct5 : Value}
    {f6 : Addr} {od6 an6 : Option Addr} {sl6 : Array (Option Value)} {oc6 kV6 dc6 pm6 cd6 ct6 : Value}
    {f7 : Addr} {od7 an7 : Option Addr} {sl7 : Array (Option Value)} {oc7 kV7 dc7 pm7 cd7 ct7 : Value}
    {f8 : Addr} {od8 an8 : Option Addr} {sl8 : Array (Option Value)} {oc8 kV8 dc8 pm8 cd8 ct8 : Value}
    {f9 : Addr} {od9 an9 : Option Addr} {sl9 : Array (Option Value)} {oc9 kV9 dc9 pm9 cd9 ct9 : Value}
    {f10 : Addr} {od10 an10 : Option Addr} {sl10 : Array (Option Value)} {oc10 kV10 dc10 pm10 cd10 ct10 : Value}
    {f11 : Addr} {od11 an11 : Option Addr} {sl11 : Array (Option Value)} {oc11 kV11 dc11 pm11 cd11 ct11 : Value}
    {f12 : Addr} {od12 an12 : Option Addr} {sl12 : Array (Option Value)} {oc12 kV12 dc12 pm12 cd12 ct12 : Value}
    {f13 : Addr} {od13 an13 : Option Addr} {sl13 : Array (Option Value)} {oc13 kV13 dc13 pm13 cd13 ct13 : Value}
    {f14 : Addr} {od14 an14 : Option Addr} {sl14 : Array (Option Value)} {oc14 kV14 dc14 pm14 cd14 ct14 : Value}
    {f15 : Addr} {od15 an15 : Option Addr} {sl15 : Array (Option Value)} {oc15 kV15 dc15 pm15 cd15 ct15 : Value}
    {f16 : Addr} {od16 an16 : Option Addr} {sl16 : Array (Option Value)} {oc16 kV16 dc16 pm16 cd16 ct16 : Value}
    {f17 : Addr} {od17 an17 : Option Addr} {sl17 : Array (Option Value)} {oc17 kV17 dc17 pm17 cd17 ct17 : Value}
    {f18 : Addr} {od18 an18 : Option Addr} {sl18 : Array (Option Value)} {oc18 kV18 dc18 pm18 cd18 ct18 : Value}
    {f19 : Addr} {od19 an19 : Option Addr} {sl19 : Array (Option Value)} {oc19 kV19 dc19 pm19 cd19 ct19 : Value}
    {f20 : Addr} {od20 an20 : Option Addr} {sl20 : Array (Option Value)} {oc20 kV20 dc20 pm20 cd20 ct20 : Value}
    {f21 : Addr} {od21 an21 : Option Addr} {sl21 : Array (Option Value)} {oc21 kV21 dc21 pm21 cd21 ct21 : Value}
    {f22 : Addr} {od22 an22 : Option Addr} {sl22 : Array (Option Value)} {oc22 kV22 dc22 pm22 cd22 ct22 : Value}
    {f23 : Addr} {od23 an23 : Option Addr} {sl23 : Array (Option Value)} {oc23 kV23 dc23 pm23 cd23 ct23 : Value}
    {f24 : Addr} {od24 an24 : Option Addr} {sl24 : Array (Option Value)} {oc24 kV24 dc24 pm24 cd24 ct24 : Value}
    {f25 : Addr} {od25 an25 : Option Addr} {sl25 : Array (Option Value)} {oc25 kV25 dc25 pm25 cd25 ct25 : Value}
    {f26 : Addr} {od26 an26 : Option Addr} {sl26 : Array (Option Value)} {oc26 kV26 dc26 pm26 cd26 ct26 : Value}
    {f27 : Addr} {od27 an27 : Option Addr} {sl27 : Array (Option Value)} {oc27 kV27 dc27 pm27 cd27 ct27 : Value}
    {f28 : Addr} {od28 an28 : Option Addr} {sl28 : Array (Option Value)} {oc28 kV28 dc28 pm28 cd28 ct28 : Value}
    {p_PRIMES : Addr} {es_PRIMES : Array DictEntry} {n_PRIMES : Nat}
    {q0_PRIMES : Addr} {d0_PRIMES : Option Addr} {i0_PRIMES : Array Value} {m0_PRIMES : Nat} {s0_PRIMES : Array (Option Value)}
    {q1_PRIMES : Addr} {d1_PRIMES : Option Addr} {i1_PRIMES : Array Value} {m1_PRIMES : Nat} {s1_PRIMES : Array (Option Value)}
    {q2_PRIMES : Addr} {d2_PRIMES : Option Addr} {i2_PRIMES : Array Value} {m2_PRIMES : Nat} {s2_PRIMES : Array (Option Value)}
    {q3_PRIMES : Addr} {d3_PRIMES : Option Addr} {i3_PRIMES : Array Value} {m3_PRIMES : Nat} {s3_PRIMES : Array (Option Value)}
    {q4_PRIMES : Addr} {d4_PRIMES : Option Addr} {i4_PRIMES : Array Value} {m4_PRIMES : Nat} {s4_PRIMES : Array (Option Value)}
    {q5_PRIMES : Addr} {d5_PRIMES : Option Addr} {i5_PRIMES : Array Value} {m5_PRIMES : Nat} {s5_PRIMES : Array (Option Value)}
    {q6_PRIMES : Addr} {d6_PRIMES : Option Addr} {i6_PRIMES : Array Value} {m6_PRIMES : Nat} {s6_PRIMES : Array (Option Value)}
    {q7_PRIMES : Addr} {d7_PRIMES : Option Addr} {i7_PRIMES : Array Value} {m7_PRIMES : Nat} {s7_PRIMES : Array (Option Value)}
    {q8_PRIMES : Addr} {d8_PRIMES : Option Addr} {i8_PRIMES : Array Value} {m8_PRIMES : Nat} {s8_PRIMES : Array (Option Value)}
    {q9_PRIMES : Addr} {d9_PRIMES : Option Addr} {i9_PRIMES : Array Value} {m9_PRIMES : Nat} {s9_PRIMES : Array (Option Value)}
    (a0 : PySem.W.nsIn K mainGlobals "is_integer" = some (some (.ref f0)))
    (l0 : K.lookup f0 = some ⟨oc0, od0, .func (PySem.W.fnOf "is_integer" "is_integer" (fArgs st_is_integer) (fBody st_is_integer) (fScope st_is_integer) .none kV0 dc0 pm0 an0 cd0 ct0), sl0⟩)
    (c0 : PySem.W.codeIn K cd0 "is_integer" = true)
    (k0 : PySem.W.keepIn K (.ref f0) = true)
    (a1 : PySem.W.nsIn K mainGlobals "is_modulus" = some (some (.ref f1)))
    (l1 : K.lookup f1 = some ⟨oc1, od1, .func (PySem.W.fnOf "is_modulus" "is_modulus" (fArgs st_is_modulus) (fBody st_is_modulus) (fScope st_is_modulus) .none kV1 dc1 pm1 an1 cd1 ct1), sl1⟩)
    (c1 : PySem.W.codeIn K cd1 "is_modulus" = true)
    (k1 : PySem.W.keepIn K (.ref f1) = true)
    (a2 : PySem.W.nsIn K mainGlobals "primes_in" = some (some (.ref f2)))
    (l2 : K.lookup f2 = some ⟨oc2, od2, .func (PySem.W.fnOf "primes_in" "primes_in" (fArgs st_primes_in) (fBody st_primes_in) (fScope st_primes_in) .none kV2 dc2 pm2 an2 cd2 ct2), sl2⟩)
    (c2 : PySem.W.codeIn K cd2 "primes_in" = true)
    (k2 : PySem.W.keepIn K (.ref f2) = true)
    (a3 : PySem.W.nsIn K mainGlobals "are_pairs" = some (some (.ref f3)))
    (l3 : K.lookup f3 = some ⟨oc3, od3, .func (PySem.W.fnOf "are_pairs" "are_pairs" (fArgs st_are_pairs) (fBody st_are_pairs) (fScope st_are_pairs) .none kV3 dc3 pm3 an3 cd3 ct3), sl3⟩)
    (c3 : PySem.W.codeIn K cd3 "are_pairs" = true)
    (k3 : PySem.W.keepIn K (.ref f3) = true)
    (a4 : PySem.W.nsIn K mainGlobals "is_of_modulus" = some (some (.ref f4)))
    (l4 : K.lookup f4 = some ⟨oc4, od4, .func (PySem.W.fnOf "is_of_modulus" "is_of_modulus" (fArgs st_is_of_modulus) (fBody st_is_of_modulus) (fScope st_is_of_modulus) .none kV4 dc4 pm4 an4 cd4 ct4), sl4⟩)
    (c4 : PySem.W.codeIn K cd4 "is_of_modulus" = true)
    (k4 : PySem.W.keepIn K (.ref f4) = true)
    (a5 : PySem.W.nsIn K mainGlobals "is_a_rule" = some (some (.ref f5)))
    (l5 : K.lookup f5 = some ⟨oc5, od5, .func (PySem.W.fnOf "is_a_rule" "is_a_rule" (fArgs st_is_a_rule) (fBody st_is_a_rule) (fScope st_is_a_rule) .none kV5 dc5 pm5 an5 cd5 ct5), sl5⟩)
    (c5 : PySem.W.codeIn K cd5 "is_a_rule" = true)
    (k5 : PySem.W.keepIn K (.ref f5) = true)
    (a6 : PySem.W.nsIn K mainGlobals "is_a_round" = some (some (.ref f6)))
    (l6 : K.lookup f6 = some ⟨oc6, od6, .func (PySem.W.fnOf "is_a_round" "is_a_round" (fArgs st_is_a_round) (fBody st_is_a_round) (fScope st_is_a_round) .none kV6 dc6 pm6 an6 cd6 ct6), sl6⟩)
    (c6 : PySem.W.codeIn K cd6 "is_a_round" = true)
    (k6 : PySem.W.keepIn K (.ref f6) = true)
    (a7 : PySem.W.nsIn K mainGlobals "need_rule" = some (some (.ref f7)))
    (l7 : K.lookup f7 = some ⟨oc7, od7, .func (PySem.W.fnOf "need_rule" "need_rule" (fArgs st_need_rule) (fBody st_need_rule) (fScope st_need_rule) .none kV7 dc7 pm7 an7 cd7 ct7), sl7⟩)
    (c7 : PySem.W.codeIn K cd7 "need_rule" = true)
    (k7 : PySem.W.keepIn K (.ref f7) = true)
    (a8 : PySem.W.nsIn K mainGlobals "need_round" = some (some (.ref f8)))
    (l8 : K.lookup f8 = some ⟨oc8, od8, .func (PySem.W.fnOf "need_round" "need_round" (fArgs st_need_round) (fBody st_need_round) (fScope st_need_round) .none kV8 dc8 pm8 an8 cd8 ct8), sl8⟩)
    (c8 : PySem.W.codeIn K cd8 "need_round" = true)
    (k8 : PySem.W.keepIn K (.ref f8) = true)
    (a9 : PySem.W.nsIn K mainGlobals "need_same" = some (some (.ref f9)))
    (l9 : K.lookup f9 = some ⟨oc9, od9, .func (PySem.W.fnOf "need_same" "need_same" (fArgs st_need_same) (fBody st_need_same) (fScope st_need_same) .none kV9 dc9 pm9 an9 cd9 ct9), sl9⟩)
    (c9 : PySem.W.codeIn K cd9 "need_same" = true)
    (k9 : PySem.W.keepIn K (.ref f9) = true)
    (a10 : PySem.W.nsIn K mainGlobals "stepped" = some (some (.ref f10)))
    (l10 : K.lookup f10 = some ⟨oc10, od10, .func (PySem.W.fnOf "stepped" "stepped" (fArgs st_stepped) (fBody st_stepped) (fScope st_stepped) .none kV10 dc10 pm10 an10 cd10 ct10), sl10⟩)
    (c10 : PySem.W.codeIn K cd10 "stepped" = true)
    (k10 : PySem.W.keepIn K (.ref f10) = true)
    (a11 : PySem.W.nsIn K mainGlobals "need_both" = some (some (.ref f11)))
    (l11 : K.lookup f11 = some ⟨oc11, od11, .func (PySem.W.fnOf "need_both" "need_both" (fArgs st_need_both) (fBody st_need_both) (fScope st_need_both) .none kV11 dc11 pm11 an11 cd11 ct11), sl11⟩)
    (c11 : PySem.W.codeIn K cd11 "need_both" = true)
    (k11 : PySem.W.keepIn K (.ref f11) = true)
    (a12 : PySem.W.nsIn K mainGlobals "round_bars" = some (some (.ref f12)))
    (l12 : K.lookup f12 = some ⟨oc12, od12, .func (PySem.W.fnOf "round_bars" "round_bars" (fArgs st_round_bars) (fBody st_round_bars) (fScope st_round_bars) .none kV12 dc12 pm12 an12 cd12 ct12), sl12⟩)
    (c12 : PySem.W.codeIn K cd12 "round_bars" = true)
    (k12 : PySem.W.keepIn K (.ref f12) = true)
    (a13 : PySem.W.nsIn K mainGlobals "_law_jar" = some (some (.ref f13)))
    (l13 : K.lookup f13 = some ⟨oc13, od13, .func (PySem.W.fnOf "_law_jar" "_law_jar" (fArgs st__law_jar) (fBody st__law_jar) (fScope st__law_jar) .none kV13 dc13 pm13 an13 cd13 ct13), sl13⟩)
    (c13 : PySem.W.codeIn K cd13 "_law_jar" = true)
    (k13 : PySem.W.keepIn K (.ref f13) = true)
    (a14 : PySem.W.nsIn K mainGlobals "_law_take" = some (some (.ref f14)))
    (l14 : K.lookup f14 = some ⟨oc14, od14, .func (PySem.W.fnOf "_law_take" "_law_take" (fArgs st__law_take) (fBody st__law_take) (fScope st__law_take) .none kV14 dc14 pm14 an14 cd14 ct14), sl14⟩)
    (c14 : PySem.W.codeIn K cd14 "_law_take" = true)
    (k14 : PySem.W.keepIn K (.ref f14) = true)
    (a15 : PySem.W.nsIn K mainGlobals "_law_modulus" = some (some (.ref f15)))
    (l15 : K.lookup f15 = some ⟨oc15, od15, .func (PySem.W.fnOf "_law_modulus" "_law_modulus" (fArgs st__law_modulus) (fBody st__law_modulus) (fScope st__law_modulus) .none kV15 dc15 pm15 an15 cd15 ct15), sl15⟩)
    (c15 : PySem.W.codeIn K cd15 "_law_modulus" = true)
    (k15 : PySem.W.keepIn K (.ref f15) = true)
    (a16 : PySem.W.nsIn K mainGlobals "_law_primes" = some (some (.ref f16)))
    (l16 : K.lookup f16 = some ⟨oc16, od16, .func (PySem.W.fnOf "_law_primes" "_law_primes" (fArgs st__law_primes) (fBody st__law_primes) (fScope st__law_primes) .none kV16 dc16 pm16 an16 cd16 ct16), sl16⟩)
    (c16 : PySem.W.codeIn K cd16 "_law_primes" = true)
    (k16 : PySem.W.keepIn K (.ref f16) = true)
    (a17 : PySem.W.nsIn K mainGlobals "_law_product" = some (some (.ref f17)))
    (l17 : K.lookup f17 = some ⟨oc17, od17, .func (PySem.W.fnOf "_law_product" "_law_product" (fArgs st__law_product) (fBody st__law_product) (fScope st__law_product) .none kV17 dc17 pm17 an17 cd17 ct17), sl17⟩)
    (c17 : PySem.W.codeIn K cd17 "_law_product" = true)
    (k17 : PySem.W.keepIn K (.ref f17) = true)
    (a18 : PySem.W.nsIn K mainGlobals "_law_rule" = some (some (.ref f18)))
    (l18 : K.lookup f18 = some ⟨oc18, od18, .func (PySem.W.fnOf "_law_rule" "_law_rule" (fArgs st__law_rule) (fBody st__law_rule) (fScope st__law_rule) .none kV18 dc18 pm18 an18 cd18 ct18), sl18⟩)
    (c18 : PySem.W.codeIn K cd18 "_law_rule" = true)
    (k18 : PySem.W.keepIn K (.ref f18) = true)
    (a19 : PySem.W.nsIn K mainGlobals "_law_values" = some (some (.ref f19)))
    (l19 : K.lookup f19 = some ⟨oc19, od19, .func (PySem.W.fnOf "_law_values" "_law_values" (fArgs st__law_values) (fBody st__law_values) (fScope st__law_values) .none kV19 dc19 pm19 an19 cd19 ct19), sl19⟩)
    (c19 : PySem.W.codeIn K cd19 "_law_values" = true)
    (k19 : PySem.W.keepIn K (.ref f19) = true)
    (a20 : PySem.W.nsIn K mainGlobals "_law_step" = some (some (.ref f20)))
    (l20 : K.lookup f20 = some ⟨oc20, od20, .func (PySem.W.fnOf "_law_step" "_law_step" (fArgs st__law_step) (fBody st__law_step) (fScope st__law_step) .none kV20 dc20 pm20 an20 cd20 ct20), sl20⟩)
    (c20 : PySem.W.codeIn K cd20 "_law_step" = true)
    (k20 : PySem.W.keepIn K (.ref f20) = true)
    (a21 : PySem.W.nsIn K mainGlobals "_law_all" = some (some (.ref f21)))
    (l21 : K.lookup f21 = some ⟨oc21, od21, .func (PySem.W.fnOf "_law_all" "_law_all" (fArgs st__law_all) (fBody st__law_all) (fScope st__law_all) .none kV21 dc21 pm21 an21 cd21 ct21), sl21⟩)
    (c21 : PySem.W.codeIn K cd21 "_law_all" = true)
    (k21 : PySem.W.keepIn K (.ref f21) = true)
    (a22 : PySem.W.nsIn K mainGlobals "_law_is_whole" = some (some (.ref f22)))
    (l22 : K.lookup f22 = some ⟨oc22, od22, .func (PySem.W.fnOf "_law_is_whole" "_law_is_whole" (fArgs st__law_is_whole) (fBody st__law_is_whole) (fScope st__law_is_whole) .none kV22 dc22 pm22 an22 cd22 ct22), sl22⟩)
    (c22 : PySem.W.codeIn K cd22 "_law_is_whole" = true)
    (k22 : PySem.W.keepIn K (.ref f22) = true)
    (a23 : PySem.W.nsIn K mainGlobals "_law_table" = some (some (.ref f23)))
    (l23 : K.lookup f23 = some ⟨oc23, od23, .func (PySem.W.fnOf "_law_table" "_law_table" (fArgs st__law_table) (fBody st__law_table) (fScope st__law_table) .none kV23 dc23 pm23 an23 cd23 ct23), sl23⟩)
    (c23 : PySem.W.codeIn K cd23 "_law_table" = true)
    (k23 : PySem.W.keepIn K (.ref f23) = true)
    (a24 : PySem.W.nsIn K mainGlobals "_law_is_bar" = some (some (.ref f24)))
    (l24 : K.lookup f24 = some ⟨oc24, od24, .func (PySem.W.fnOf "_law_is_bar" "_law_is_bar" (fArgs st__law_is_bar) (fBody st__law_is_bar) (fScope st__law_is_bar) .none kV24 dc24 pm24 an24 cd24 ct24), sl24⟩)
    (c24 : PySem.W.codeIn K cd24 "_law_is_bar" = true)
    (k24 : PySem.W.keepIn K (.ref f24) = true)
    (a25 : PySem.W.nsIn K mainGlobals "_law_killed" = some (some (.ref f25)))
    (l25 : K.lookup f25 = some ⟨oc25, od25, .func (PySem.W.fnOf "_law_killed" "_law_killed" (fArgs st__law_killed) (fBody st__law_killed) (fScope st__law_killed) .none kV25 dc25 pm25 an25 cd25 ct25), sl25⟩)
    (c25 : PySem.W.codeIn K cd25 "_law_killed" = true)
    (k25 : PySem.W.keepIn K (.ref f25) = true)
    (a26 : PySem.W.nsIn K mainGlobals "_law_odd_weights" = some (some (.ref f26)))
    (l26 : K.lookup f26 = some ⟨oc26, od26, .func (PySem.W.fnOf "_law_odd_weights" "_law_odd_weights" (fArgs st__law_odd_weights) (fBody st__law_odd_weights) (fScope st__law_odd_weights) .none kV26 dc26 pm26 an26 cd26 ct26), sl26⟩)
    (c26 : PySem.W.codeIn K cd26 "_law_odd_weights" = true)
    (k26 : PySem.W.keepIn K (.ref f26) = true)
    (a27 : PySem.W.nsIn K mainGlobals "_law_objects" = some (some (.ref f27)))
    (l27 : K.lookup f27 = some ⟨oc27, od27, .func (PySem.W.fnOf "_law_objects" "_law_objects" (fArgs st__law_objects) (fBody st__law_objects) (fScope st__law_objects) .none kV27 dc27 pm27 an27 cd27 ct27), sl27⟩)
    (c27 : PySem.W.codeIn K cd27 "_law_objects" = true)
    (k27 : PySem.W.keepIn K (.ref f27) = true)
    (a28 : PySem.W.nsIn K mainGlobals "law" = some (some (.ref f28)))
    (l28 : K.lookup f28 = some ⟨oc28, od28, .func (PySem.W.fnOf "law" "law" (fArgs st_law) (fBody st_law) (fScope st_law) .none kV28 dc28 pm28 an28 cd28 ct28), sl28⟩)
    (c28 : PySem.W.codeIn K cd28 "law" = true)
    (k28 : PySem.W.keepIn K (.ref f28) = true)
    (z_abs : PySem.W.nsIn K mainGlobals "abs" = some none)
    (z_all : PySem.W.nsIn K mainGlobals "all" = some none)
    (z_any : PySem.W.nsIn K mainGlobals "any" = some none)
    (z_bool : PySem.W.nsIn K mainGlobals "bool" = some none)
    (z_enumerate : PySem.W.nsIn K mainGlobals "enumerate" = some none)
    (z_int : PySem.W.nsIn K mainGlobals "int" = some none)
    (z_isinstance : PySem.W.nsIn K mainGlobals "isinstance" = some none)
    (z_len : PySem.W.nsIn K mainGlobals "len" = some none)
    (z_list : PySem.W.nsIn K mainGlobals "list" = some none)
    (z_max : PySem.W.nsIn K mainGlobals "max" = some none)
    (z_min : PySem.W.nsIn K mainGlobals "min" = some none)
    (z_range : PySem.W.nsIn K mainGlobals "range" = some none)
    (z_repr : PySem.W.nsIn K mainGlobals "repr" = some none)
    (z_str : PySem.W.nsIn K mainGlobals "str" = some none)
    (z_sum : PySem.W.nsIn K mainGlobals "sum" = some none)
    (z_tuple : PySem.W.nsIn K mainGlobals "tuple" = some none)
    (z_zip : PySem.W.nsIn K mainGlobals "zip" = some none)
    (z_PRIMES : PySem.W.nsIn K mainGlobals "PRIMES" = some (some (.ref p_PRIMES)))
    (y_PRIMES : K.lookup p_PRIMES = some ⟨.type "dict", none, .dict es_PRIMES n_PRIMES, #[]⟩)
    (x_PRIMES : EntsR es_PRIMES.toList [(2, q0_PRIMES), (3, q1_PRIMES), (5, q2_PRIMES), (6, q3_PRIMES), (7, q4_PRIMES), (10, q5_PRIMES), (11, q6_PRIMES), (13, q7_PRIMES), (14, q8_PRIMES), (15, q9_PRIMES)])
    (w_PRIMES : (p_PRIMES == sysModules) = false)
    (v0_PRIMES : K.lookup q0_PRIMES = some ⟨.type "tuple", d0_PRIMES, .seq i0_PRIMES m0_PRIMES, s0_PRIMES⟩)
    (u0_PRIMES : PyProof.Rows.IntsAre i0_PRIMES.toList [2])
    (v1_PRIMES : K.lookup q1_PRIMES = some ⟨.type "tuple", d1_PRIMES, .seq i1_PRIMES m1_PRIMES, s1_PRIMES⟩)
    (u1_PRIMES : PyProof.Rows.IntsAre i1_PRIMES.toList [3])
    (v2_PRIMES : K.lookup q2_PRIMES = some ⟨.type "tuple", d2_PRIMES, .seq i2_PRIMES m2_PRIMES, s2_PRIMES⟩)
    (u2_PRIMES : PyProof.Rows.IntsAre i2_PRIMES.toList [5])
    (v3_PRIMES : K.lookup q3_PRIMES = some ⟨.type "tuple", d3_PRIMES, .seq i3_PRIMES m3_PRIMES, s3_PRIMES⟩)
    (u3_PRIMES : PyProof.Rows.IntsAre i3_PRIMES.toList [2, 3])
    (v4_PRIMES : K.lookup q4_PRIMES = some ⟨.type "tuple", d4_PRIMES, .seq i4_PRIMES m4_PRIMES, s4_PRIMES⟩)
    (u4_PRIMES : PyProof.Rows.IntsAre i4_PRIMES.toList [7])
    (v5_PRIMES : K.lookup q5_PRIMES = some ⟨.type "tuple", d5_PRIMES, .seq i5_PRIMES m5_PRIMES, s5_PRIMES⟩)
    (u5_PRIMES : PyProof.Rows.IntsAre i5_PRIMES.toList [2, 5])
    (v6_PRIMES : K.lookup q6_PRIMES = some ⟨.type "tuple", d6_PRIMES, .seq i6_PRIMES m6_PRIMES, s6_PRIMES⟩)
    (u6_PRIMES : PyProof.Rows.IntsAre i6_PRIMES.toList [11])
    (v7_PRIMES : K.lookup q7_PRIMES = some ⟨.type "tuple", d7_PRIMES, .seq i7_PRIMES m7_PRIMES, s7_PRIMES⟩)
    (u7_PRIMES : PyProof.Rows.IntsAre i7_PRIMES.toList [13])
    (v8_PRIMES : K.lookup q8_PRIMES = some ⟨.type "tuple", d8_PRIMES, .seq i8_PRIMES m8_PRIMES, s8_PRIMES⟩)
    (u8_PRIMES : PyProof.Rows.IntsAre i8_PRIMES.toList [2, 7])
    (v9_PRIMES : K.lookup q9_PRIMES = some ⟨.type "tuple", d9_PRIMES, .seq i9_PRIMES m9_PRIMES, s9_PRIMES⟩)
    (u9_PRIMES : PyProof.Rows.IntsAre i9_PRIMES.toList [3, 5])
    : ∃ fd : FuncData, (∀ (s : Shared) (u : Value), BindsTo s fd ⟨[u], []⟩ [("_law_script", u)]) ∧ ∀ base : Heap, K.In base → base.Ns mainGlobals mg → Sys base → FnG prog w K mg base 8 fa fd ["_law_script"] (spOf ⟨K, CA⟩ f_law 1) := by
  have T : Tx K mg := ⟨PySem.W.mg_none_of X G z_abs, PySem.W.mg_none_of X G z_all, PySem.W.mg_none_of X G z_any, PySem.W.mg_none_of X G z_bool, PySem.W.mg_none_of X G z_enumerate, PySem.W.mg_none_of X G z_int, PySem.W.mg_none_of X G z_isinstance, PySem.W.mg_none_of X G z_len, PySem.W.mg_none_of X G z_list, PySem.W.mg_none_of X G z_max, PySem.W.mg_none_of X G z_min, PySem.W.mg_none_of X G z_range, PySem.W.mg_none_of X G z_repr, PySem.W.mg_none_of X G z_str, PySem.W.mg_none_of X G z_sum, PySem.W.mg_none_of X G z_tuple, PySem.W.mg_none_of X G z_zip, ⟨_, ⟨⟨_, _, y_PRIMES, ents_mk x_PRIMES ⟨rfl, tupI_mk v0_PRIMES u0_PRIMES (by decide), rfl, tupI_mk v1_PRIMES u1_PRIMES (by decide), rfl, tupI_mk v2_PRIMES u2_PRIMES (by decide), rfl, tupI_mk v3_PRIMES u3_PRIMES (by decide), rfl, tupI_mk v4_PRIMES u4_PRIMES (by decide), rfl, tupI_mk v5_PRIMES u5_PRIMES (by decide), rfl, tupI_mk v6_PRIMES u6_PRIMES (by decide), rfl, tupI_mk v7_PRIMES u7_PRIMES (by decide), rfl, tupI_mk v8_PRIMES u8_PRIMES (by decide), rfl, tupI_mk v9_PRIMES u9_PRIMES (by decide), trivial⟩⟩, w_PRIMES⟩, PySem.W.mg_of X G z_PRIMES⟩⟩
  have h0 := here_mk (st := st_is_integer) X G a0 l0 c0 k0
  have h1 := here_mk (st := st_is_modulus) X G a1 l1 c1 k1
  have h2 := here_mk (st := st_primes_in) X G a2 l2 c2 k2
  have h3 := here_mk (st := st_are_pairs) X G a3 l3 c3 k3
  have h4 := here_mk (st := st_is_of_modulus) X G a4 l4 c4 k4
  have h5 := here_mk (st := st_is_a_rule) X G a5 l5 c5 k5
  have h6 := here_mk (st := st_is_a_round) X G a6 l6 c6 k6
  have h7 := here_mk (st := st_need_rule) X G a7 l7 c7 k7
  have h8 := here_mk (st := st_need_round) X G a8 l8 c8 k8
  have h9 := here_mk (st := st_need_same) X G a9 l9 c9 k9
  have h10 := here_mk (st := st_stepped) X G a10 l10 c10 k10
  have h11 := here_mk (st := st_need_both) X G a11 l11 c11 k11
  have h12 := here_mk (st := st_round_bars) X G a12 l12 c12 k12
  have h13 := here_mk (st := st__law_jar) X G a13 l13 c13 k13
  have h14 := here_mk (st := st__law_take) X G a14 l14 c14 k14
  have h15 := here_mk (st := st__law_modulus) X G a15 l15 c15 k15
  have h16 := here_mk (st := st__law_primes) X G a16 l16 c16 k16
  have h17 := here_mk (st := st__law_product) X G a17 l17 c17 k17
  have h18 := here_mk (st := st__law_rule) X G a18 l18 c18 k18
  have h19 := here_mk (st := st__law_values) X G a19 l19 c19 k19
  have h20 := here_mk (st := st__law_step) X G a20 l20 c20 k20
  have h21 := here_mk (st := st__law_all) X G a21 l21 c21 k21
  have h22 := here_mk (st := st__law_is_whole) X G a22 l22 c22 k22
  have h23 := here_mk (st := st__law_table) X G a23 l23 c23 k23
  have h24 := here_mk (st := st__law_is_bar) X G a24 l24 c24 k24
  have h25 := here_mk (st := st__law_killed) X G a25 l25 c25 k25
  have h26 := here_mk (st := st__law_odd_weights) X G a26 l26 c26 k26
  have h27 := here_mk (st := st__law_objects) X G a27 l27 c27 k27
  have h28 := here_mk (st := st_law) X G a28 l28 c28 k28
  have e := hfa.symm.trans h28.named
  cases e
  refine ⟨PySem.W.fnOf "law" "law" (fArgs st_law) (fBody st_law) (fScope st_law) .none kV28 dc28 pm28 an28 cd28 ct28, fun s v => .of_eq rfl, fun base _ _ B => ?_⟩
  have m_is_integer := d_is_integer (w := w) (base := base) (CA := CA) T B h0
  have m_is_modulus := d_is_modulus (w := w) (base := base) (CA := CA) T B h1 m_is_integer
  have m_primes_in := d_primes_in (w := w) (base := base) (CA := CA) T B h2
  have m_are_pairs := d_are_pairs (w := w) (base := base) (CA := CA) T B h3 m_is_integer
  have m_is_of_modulus := d_is_of_modulus (w := w) (base := base) (CA := CA) T B h4 m_is_modulus
  have m_is_a_rule := d_is_a_rule (w := w) (base := base) (CA := CA) T B h5 m_are_pairs m_is_of_modulus
  have m_is_a_round := d_is_a_round (w := w) (base := base) (CA := CA) T B h6 m_is_integer m_is_of_modulus
  have m_need_rule := d_need_rule (w := w) (base := base) (CA := CA) T B h7 m_is_a_rule
  have m_need_round := d_need_round (w := w) (base := base) (CA := CA) T B h8 m_is_a_round
  have m_need_same := d_need_same (w := w) (base := base) (CA := CA) T B h9
  have m_stepped := d_stepped (w := w) (base := base) (CA := CA) T B h10
  have m_need_both := d_need_both (w := w) (base := base) (CA := CA) T B h11 m_need_round m_need_rule m_need_same
  have m_round_bars := d_round_bars (w := w) (base := base) (CA := CA) T B h12 m_is_integer m_need_both m_primes_in m_stepped
  have m__law_jar := d__law_jar (w := w) (base := base) (CA := CA) T B h13
  have m__law_take := d__law_take (w := w) (base := base) (CA := CA) T B h14
  have m__law_modulus := d__law_modulus (w := w) (base := base) (CA := CA) T B h15 m__law_take
  have m__law_primes := d__law_primes (w := w) (base := base) (CA := CA) T B h16
  have m__law_product := d__law_product (w := w) (base := base) (CA := CA) T B h17 m__law_take
  have m__law_rule := d__law_rule (w := w) (base := base) (CA := CA) T B h18 m__law_product m__law_take
  have m__law_values := d__law_values (w := w) (base := base) (CA := CA) T B h19 m__law_take
  have m__law_step := d__law_step (w := w) (base := base) (CA := CA) T B h20
  have m__law_all := d__law_all (w := w) (base := base) (CA := CA) T B h21
  have m__law_is_whole := d__law_is_whole (w := w) (base := base) (CA := CA) T B h22
  have m__law_table := d__law_table (w := w) (base := base) (CA := CA) T B h23 m__law_step
  have m__law_is_bar := d__law_is_bar (w := w) (base := base) (CA := CA) T B h24 m__law_is_whole m__law_primes
  have m__law_killed := d__law_killed (w := w) (base := base) (CA := CA) T B h25 m__law_all m__law_table
  have m__law_odd_weights := d__law_odd_weights (w := w) (base := base) (CA := CA) T B h26 m__law_take
  have m__law_objects := d__law_objects (w := w) (base := base) (CA := CA) T B h27 m__law_odd_weights
  have m_law := d_law (w := w) (base := base) (CA := CA) T B h28 m__law_is_bar m__law_jar m__law_killed m__law_modulus m__law_objects m__law_primes m__law_rule m__law_table m__law_take m__law_values m_round_bars
  exact m_law.fn h28
end K29
open PySem PySem.W PyProof.Rows
set_option maxRecDepth 100000 in
set_option maxHeartbeats 0 in
theorem PySem.Challenge.cw_nearadds_k29_bars_of_round_rows_judged_holds : PySem.Challenge.rw_nearadds_k29_bars_of_round_rows_judged.Holds := by
  w_on; o_law; k_head; (case hw => w_witness2)
  k_fill
  refine MP.walk_G2 (l := PySem.Challenge.rw_nearadds_k29_bars_of_round_rows_judged) (n := 63) (k := 8) (x := "_law_script") (sp := fun K => MP.spOf ⟨K, fun _ => 0⟩ K29.f_law 1) rfl (by decide) rfl ⟨rfl, by decide, by decide⟩ (by decide +kernel) (fun w h Y => PySem.W.kIn_of Y) ?F (fun K H a ns hl hS => MP.sp_law (K29.law_true ns hl) hS)
  case F =>
    intro w mg fa h KX G hmg
    refine' K29.all_mk (fun _ => 0) KX G hmg ?a0 ?l0 ?c0 ?k0 ?a1 ?l1 ?c1 ?k1 ?a2 ?l2 ?c2 ?k2 ?a3 ?l3 ?c3 ?k3 ?a4 ?l4 ?c4 ?k4 ?a5 ?l5 ?c5 ?k5 ?a6 ?l6 ?c6 ?k6 ?a7 ?l7 ?c7 ?k7 ?a8 ?l8 ?c8 ?k8 ?a9 ?l9 ?c9 ?k9 ?a10 ?l10 ?c10 ?k10 ?a11 ?l11 ?c11 ?k11 ?a12 ?l12 ?c12 ?k12 ?a13 ?l13 ?c13 ?k13 ?a14 ?l14 ?c14 ?k14 ?a15 ?l15 ?c15 ?k15 ?a16 ?l16 ?c16 ?k16 ?a17 ?l17 ?c17 ?k17 ?a18 ?l18 ?c18 ?k18 ?a19 ?l19 ?c19 ?k19 ?a20 ?l20 ?c20 ?k20 ?a21 ?l21 ?c21 ?k21 ?a22 ?l22 ?c22 ?k22 ?a23 ?l23 ?c23 ?k23 ?a24 ?l24 ?c24 ?k24 ?a25 ?l25 ?c25 ?k25 ?a26 ?l26 ?c26 ?k26 ?a27 ?l27 ?c27 ?k27 ?a28 ?l28 ?c28 ?k28 ?z_abs ?z_all ?z_any ?z_bool ?z_enumerate ?z_int ?z_isinstance ?z_len ?z_list ?z_max ?z_min ?z_range ?z_repr ?z_str ?z_sum ?z_tuple ?z_zip ?z_PRIMES ?y_PRIMES ?x_PRIMES ?w_PRIMES ?v0_PRIMES ?u0_PRIMES ?v1_PRIMES ?u1_PRIMES ?v2_PRIMES ?u2_PRIMES ?v3_PRIMES ?u3_PRIMES ?v4_PRIMES ?u4_PRIMES ?v5_PRIMES ?u5_PRIMES ?v6_PRIMES ?u6_PRIMES ?v7_PRIMES ?u7_PRIMES ?v8_PRIMES ?u8_PRIMES ?v9_PRIMES ?u9_PRIMES
    (case a0 => k_is)
    (case l0 => k_is)
    (case c0 => k_is)
    (case k0 => k_is)
    (case a1 => k_is)
    (case l1 => k_is)
    (case c1 => k_is)
    (case k1 => k_is)
    (case a2 => k_is)
    (case l2 => k_is)
    (case c2 => k_is)
    (case k2 => k_is)
    (case a3 => k_is)
    (case l3 => k_is)
    (case c3 => k_is)
    (case k3 => k_is)
    (case a4 => k_is)
    (case l4 => k_is)
    (case c4 => k_is)
    (case k4 => k_is)
    (case a5 => k_is)
    (case l5 => k_is)
    (case c5 => k_is)
    (case k5 => k_is)
    (case a6 => k_is)
    (case l6 => k_is)
    (case c6 => k_is)
    (case k6 => k_is)
    (case a7 => k_is)
    (case l7 => k_is)
    (case c7 => k_is)
    (case k7 => k_is)
    (case a8 => k_is)
    (case l8 => k_is)
    (case c8 => k_is)
    (case k8 => k_is)
    (case a9 => k_is)
    (case l9 => k_is)
    (case c9 => k_is)
    (case k9 => k_is)
    (case a10 => k_is)
    (case l10 => k_is)
    (case c10 => k_is)
    (case k10 => k_is)
    (case a11 => k_is)
    (case l11 => k_is)
    (case c11 => k_is)
    (case k11 => k_is)
    (case a12 => k_is)
    (case l12 => k_is)
    (case c12 => k_is)
    (case k12 => k_is)
    (case a13 => k_is)
    (case l13 => k_is)
    (case c13 => k_is)
    (case k13 => k_is)
    (case a14 => k_is)
    (case l14 => k_is)
    (case c14 => k_is)
    (case k14 => k_is)
    (case a15 => k_is)
    (case l15 => k_is)
    (case c15 => k_is)
    (case k15 => k_is)
    (case a16 => k_is)
    (case l16 => k_is)
    (case c16 => k_is)
    (case k16 => k_is)
    (case a17 => k_is)
    (case l17 => k_is)
    (case c17 => k_is)
    (case k17 => k_is)
    (case a18 => k_is)
    (case l18 => k_is)
    (case c18 => k_is)
    (case k18 => k_is)
    (case a19 => k_is)
    (case l19 => k_is)
    (case c19 => k_is)
    (case k19 => k_is)
    (case a20 => k_is)
    (case l20 => k_is)
    (case c20 => k_is)
    (case k20 => k_is)
    (case a21 => k_is)
    (case l21 => k_is)
    (case c21 => k_is)
    (case k21 => k_is)
    (case a22 => k_is)
    (case l22 => k_is)
    (case c22 => k_is)
    (case k22 => k_is)
    (case a23 => k_is)
    (case l23 => k_is)
    (case c23 => k_is)
    (case k23 => k_is)
    (case a24 => k_is)
    (case l24 => k_is)
    (case c24 => k_is)
    (case k24 => k_is)
    (case a25 => k_is)
    (case l25 => k_is)
    (case c25 => k_is)
    (case k25 => k_is)
    (case a26 => k_is)
    (case l26 => k_is)
    (case c26 => k_is)
    (case k26 => k_is)
    (case a27 => k_is)
    (case l27 => k_is)
    (case c27 => k_is)
    (case k27 => k_is)
    (case a28 => k_is)
    (case l28 => k_is)
    (case c28 => k_is)
    (case k28 => k_is)
    (case z_abs => k_is)
    (case z_all => k_is)
    (case z_any => k_is)
    (case z_bool => k_is)
    (case z_enumerate => k_is)
    (case z_int => k_is)
    (case z_isinstance => k_is)
    (case z_len => k_is)
    (case z_list => k_is)
    (case z_max => k_is)
    (case z_min => k_is)
    (case z_range => k_is)
    (case z_repr => k_is)
    (case z_str => k_is)
    (case z_sum => k_is)
    (case z_tuple => k_is)
    (case z_zip => k_is)
    (case z_PRIMES => k_is)
    (case y_PRIMES => k_is)
    (case x_PRIMES => exact ⟨⟨_, rfl⟩, rfl, rfl, ⟨_, rfl⟩, rfl, rfl, ⟨_, rfl⟩, rfl, rfl, ⟨_, rfl⟩, rfl, rfl, ⟨_, rfl⟩, rfl, rfl, ⟨_, rfl⟩, rfl, rfl, ⟨_, rfl⟩, rfl, rfl, ⟨_, rfl⟩, rfl, rfl, ⟨_, rfl⟩, rfl, rfl, ⟨_, rfl⟩, rfl, rfl, trivial⟩)
    (case w_PRIMES => first | rfl | decide | k_is)
    (case v0_PRIMES => k_is)
    (case u0_PRIMES => exact (.cons _ _ .nil))
    (case v1_PRIMES => k_is)
    (case u1_PRIMES => exact (.cons _ _ .nil))
    (case v2_PRIMES => k_is)
    (case u2_PRIMES => exact (.cons _ _ .nil))
    (case v3_PRIMES => k_is)
    (case u3_PRIMES => exact (.cons _ _ (.cons _ _ .nil)))
    (case v4_PRIMES => k_is)
    (case u4_PRIMES => exact (.cons _ _ .nil))
    (case v5_PRIMES => k_is)
    (case u5_PRIMES => exact (.cons _ _ (.cons _ _ .nil)))
    (case v6_PRIMES => k_is)
    (case u6_PRIMES => exact (.cons _ _ .nil))
    (case v7_PRIMES => k_is)
    (case u7_PRIMES => exact (.cons _ _ .nil))
    (case v8_PRIMES => k_is)
    (case u8_PRIMES => exact (.cons _ _ (.cons _ _ .nil)))
    (case v9_PRIMES => k_is)
    (case u9_PRIMES => exact (.cons _ _ (.cons _ _ .nil)))
end
