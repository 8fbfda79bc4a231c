import PyProof.Rows.All
import PySem.PyData
import PyProof.ReprLen
import PyProof.ReprReads
import Wide.All
import OpenK.AllK
import Wide.FinOn
import HandS.ForMost
import HandS.ForExc
import HandS.Lambda
import HandS.EndTab
import HandS.Walk
import HandS.TupAny
import HandS.TupMul
import HandS.Style
import HandS.Zip
import HandS.IsInst
import HandS.ExcIs
import HandS.Deep
import HandS.SortOrd
import HandS.Conv
import KE.GoesEnum
import HandS.NoneIn
import HandS.SortRule
import HandS.SortInts
import HandS.Dict
import HandS.Small
import HandS.More
import KE.SortData
import HandS.CallLocal
import HandS.TupSets
import HandS.WordsDict
import HandS.SetFor
import KE.DatumOrd
import HandS.Text
import HandS.Codes
import HandS.Replace
import PyProof.Rows.StrRev
import PyProof.StrBlock2
import PyProof.SliceStr2
import PyProof.ReprRoads
import KE.KIndexOf
import HandS.Flow
import KE.KDictPairs
import KE.KDictSum
import HandS.TupLen
import PySem.Challenge.RW_sumhues_k71_all_free_lots
set_option Elab.async false
set_option linter.all false
set_option maxRecDepth 100000
set_option maxHeartbeats 1000000
/-! Mini1: a small language of plain data. Values are trees, lists that are changed are cells of a store; a def denotes a function. -/
namespace M
open PySem (Str)

/-- data -/
inductive D where
  | non
  | bl (b : Bool)
  | int (i : Int)
  | str (s : Str)
  | tup (xs : List D)
  | lst (xs : List D)
  | dct (ks vs : List D)
  | rol (xs : List D)
  | fn (f : Str)
  | clo (k : Nat)
  | exc (c : Str)
  deriving Inhabited

/-- what a cell holds: a list, a dict by its pairs -/
inductive C where
  | l (xs : List D)
  | k (ks vs : List D)
def C.froz : C → D
  | .l xs => .lst xs
  | .k ks vs => .dct ks vs
/-- what a slot holds -/
inductive A where
  | d (x : D)
  | c (n : Nat)
/-- what an expression gives: data, a new list of nobody else's, a cell -/
inductive R where
  | d (x : D)
  | f (v : C)
  | c (n : Nat)
abbrev Sto := List (Option C)
abbrev Env := List (Option A)
inductive O (α : Type) where
  | ok (a : α) (S : Sto)
  | ex (c : Str) (S : Sto)
  | no
inductive OS where
  | nx (e : Env) (S : Sto)
  | rt (r : R) (S : Sto)
  | bk (e : Env) (S : Sto)
  | ct (e : Env) (S : Sto)
  | ex (c : Str) (e : Env) (S : Sto)
  | no
abbrev Clos := Nat → List A → Sto → O R
abbrev Fn := Clos → List A → Sto → O R
abbrev ME := Clos → Env → Sto → O R
abbrev MS := Clos → Env → Sto → OS
def G0 : Clos := fun _ _ _ => .no
def LIM : Nat := 16777216

def O.bind {α β : Type} (o : O α) (f : α → Sto → O β) : O β := match o with
  | .ok a S => f a S
  | .ex c S => .ex c S
  | .no => .no
def O.bindS {α : Type} (o : O α) (e : Env) (f : α → Sto → OS) : OS := match o with
  | .ok a S => f a S
  | .ex c S => .ex c e S
  | .no => .no
@[simp] theorem O.bind_ok {α β : Type} (a : α) (S : Sto) (f : α → Sto → O β) : (O.ok a S).bind f = f a S := rfl
@[simp] theorem O.bind_ex {α β : Type} (c : Str) (S : Sto) (f : α → Sto → O β) : (O.ex (α := α) c S).bind f = .ex c S := rfl
@[simp] theorem O.bind_no {α β : Type} (f : α → Sto → O β) : (O.no (α := α)).bind f = .no := rfl
theorem O.bind_bind {α β γ : Type} (o : O α) (f : α → Sto → O β) (h : β → Sto → O γ) : (o.bind f).bind h = o.bind fun a S => (f a S).bind h := by cases o <;> rfl
@[simp] theorem O.bindS_ok {α : Type} (a : α) (S : Sto) (e : Env) (f : α → Sto → OS) : (O.ok a S).bindS e f = f a S := rfl
@[simp] theorem O.bindS_ex {α : Type} (c : Str) (S : Sto) (e : Env) (f : α → Sto → OS) : (O.ex (α := α) c S).bindS e f = .ex c e S := rfl
@[simp] theorem O.bindS_no {α : Type} (e : Env) (f : α → Sto → OS) : (O.no (α := α)).bindS e f = .no := rfl

/-! ### reading results -/
def cellOf (S : Sto) (n : Nat) : Option C := (S[n]?).join
def view (S : Sto) : R → Option D
  | .d x => some x
  | .f v => some v.froz
  | .c n => (cellOf S n).map C.froz
def views (S : Sto) : List R → Option (List D)
  | [] => some []
  | r :: rs => match view S r with
    | some x => (match views S rs with
      | some xs => some (x :: xs)
      | none => none)
    | none => none
/-- a result becomes data; a cell is given up -/
def toD (r : R) (S : Sto) : O D := match r with
  | .d x => .ok x S
  | .f v => .ok v.froz S
  | .c n => (match cellOf S n with
    | some v => .ok v.froz (S.set n none)
    | none => .no)
def toA : R → A
  | .d x => .d x
  | .f v => .d v.froz
  | .c n => .c n
@[simp] theorem view_d (S : Sto) (x : D) : view S (.d x) = some x := rfl
@[simp] theorem view_f (S : Sto) (v : C) : view S (.f v) = some v.froz := rfl
@[simp] theorem view_c (S : Sto) (n : Nat) : view S (.c n) = (cellOf S n).map C.froz := rfl
@[simp] theorem toD_d (S : Sto) (x : D) : toD (.d x) S = .ok x S := rfl
@[simp] theorem toD_f (S : Sto) (v : C) : toD (.f v) S = .ok v.froz S := rfl
@[simp] theorem toA_d (x : D) : toA (.d x) = .d x := rfl
@[simp] theorem toA_f (v : C) : toA (.f v) = .d v.froz := rfl
@[simp] theorem toA_c (n : Nat) : toA (.c n) = .c n := rfl
@[simp] theorem froz_l (xs : List D) : C.froz (.l xs) = .lst xs := rfl
@[simp] theorem froz_k (ks vs : List D) : C.froz (.k ks vs) = .dct ks vs := rfl

/-! ### expressions -/
def mK (x : D) : ME := fun _ _ S => .ok (.d x) S
def mVar (i : Nat) : ME := fun _ e S => match e[i]? with
  | some (some (.d x)) => .ok (.d x) S
  | some (some (.c n)) => if (cellOf S n).isSome then .ok (.c n) S else .no
  | _ => .no
def evRs : List ME → Clos → Env → Sto → O (List R)
  | [], _, _, S => .ok [] S
  | m :: ms, g, e, S => (m g e S).bind fun r S1 => (evRs ms g e S1).bind fun rs S2 => .ok (r :: rs) S2
def evDs : List ME → Clos → Env → Sto → O (List D)
  | [], _, _, S => .ok [] S
  | m :: ms, g, e, S => (m g e S).bind fun r S1 => (toD r S1).bind fun x S2 => (evDs ms g e S2).bind fun xs S3 => .ok (x :: xs) S3
def evD (m : ME) (g : Clos) (e : Env) (S : Sto) : O D := (m g e S).bind fun r S1 => toD r S1
/-- a built-in operation on what its arguments are -/
def mOp (f : List D → Option R) (ms : List ME) : ME := fun g e S => (evRs ms g e S).bind fun rs S1 => match views S1 rs with
  | some xs => (match f xs with
    | some r => .ok r S1
    | none => .no)
  | none => .no
def mTup (ms : List ME) : ME := fun g e S => (evDs ms g e S).bind fun xs S1 => .ok (.d (.tup xs)) S1
def mList (ms : List ME) : ME := fun g e S => (evDs ms g e S).bind fun xs S1 => .ok (.f (.l xs)) S1
def mDict0 : ME := fun _ _ S => .ok (.f (.k [] [])) S
def asB : R → Option Bool
  | .d (.bl b) => some b
  | _ => none
/-- a test -/
def evB (m : ME) (g : Clos) (e : Env) (S : Sto) : O Bool := (m g e S).bind fun r S1 => match asB r with
  | some b => .ok b S1
  | none => .no
def mAnd (a b : ME) : ME := fun g e S => (evB a g e S).bind fun c S1 => match c with
  | true => b g e S1
  | false => .ok (.d (.bl false)) S1
def mOr (a b : ME) : ME := fun g e S => (evB a g e S).bind fun c S1 => match c with
  | true => .ok (.d (.bl true)) S1
  | false => b g e S1
def mNot (a : ME) : ME := fun g e S => (evB a g e S).bind fun c S1 => .ok (.d (.bl (!c))) S1
def mIfE (c a b : ME) : ME := fun g e S => (evB c g e S).bind fun k S1 => match k with
  | true => a g e S1
  | false => b g e S1
/-- a < b < c -/
def mChain (f f' : List D → Option R) (a b c : ME) : ME := fun g e S => (a g e S).bind fun r1 S1 => (b g e S1).bind fun r2 S2 =>
  match view S2 r1, view S2 r2 with
  | some x, some y => (match f [x, y] with
    | some (.d (.bl true)) => (c g e S2).bind fun r3 S3 => (match view S3 r2, view S3 r3 with
      | some y', some z => (match f' [y', z] with
        | some r => .ok r S3
        | none => .no)
      | _, _ => .no)
    | some (.d (.bl false)) => .ok (.d (.bl false)) S2
    | _ => .no)
  | _, _ => .no
def mCall (F : Fn) (ms : List ME) : ME := fun g e S => (evRs ms g e S).bind fun rs S1 => F g (rs.map toA) S1
/-- a call of what a name holds: a def, or a lambda of the caller's -/
def mCallV (tb : Str → Option Fn) (i : Nat) (ms : List ME) : ME := fun g e S => match e[i]? with
  | some (some (.d (.fn f))) => (match tb f with
    | some F => (evRs ms g e S).bind fun rs S1 => F g (rs.map toA) S1
    | none => .no)
  | some (some (.d (.clo k))) => (evRs ms g e S).bind fun rs S1 => g k (rs.map toA) S1
  | _ => .no

/-! ### lists that are changed, as expressions -/
/-- the name stands for a list that is changed -/
def hasL (i : Nat) (e : Env) (S : Sto) : Bool := match e[i]? with
  | some (some (.c n)) => (match cellOf S n with
    | some (.l _) => true
    | _ => false)
  | _ => false
def hasC (i : Nat) (e : Env) (S : Sto) : Bool := match e[i]? with
  | some (some (.c n)) => (cellOf S n).isSome
  | _ => false
def mPop (i : Nat) : ME := fun _ e S => match e[i]? with
  | some (some (.c n)) => (match cellOf S n with
    | some (.l xs) => (match xs.getLast? with
      | some x => .ok (.d x) (S.set n (some (.l xs.dropLast)))
      | none => .no)
    | _ => .no)
  | _ => .no
def ixN (n : Nat) (i : Int) : Option Nat := if 0 ≤ i ∧ i < n then some i.toNat else if i < 0 ∧ -(n : Int) ≤ i then some (i + n).toNat else none
def mPopAt (i : Nat) (m : ME) : ME := fun g e S => if hasL i e S = false then .no else (evD m g e S).bind fun y S1 => match e[i]? with
  | some (some (.c n)) => (match cellOf S1 n, y with
    | some (.l xs), .int j => (match ixN xs.length j with
      | some k => (match xs[k]? with
        | some x => .ok (.d x) (S1.set n (some (.l (xs.eraseIdx k))))
        | none => .no)
      | none => .no)
    | _, _ => .no)
  | _ => .no

/-! ### what is walked -/
structure It where
  xs : List D
  fz : Option (Nat × C)
abbrev MI := Clos → Env → Sto → O It
def chars (s : Str) : List D := s.cps.toList.map fun c => .str ⟨#[c]⟩
/-- a cell is walked as what it is now, closed to others meanwhile -/
def itOf (r : R) (S : Sto) : Option (List D × Option (Nat × C)) := match r with
  | .d (.tup xs) => some (xs, none)
  | .d (.lst xs) => some (xs, none)
  | .f (.l xs) => some (xs, none)
  | .c n => (match cellOf S n with
    | some (.l xs) => some (xs, some (n, .l xs))
    | _ => none)
  | _ => none
def shut (fz : Option (Nat × C)) (S : Sto) : Sto := match fz with
  | none => S
  | some (n, _) => S.set n none
@[simp] theorem shut_none (S : Sto) : shut none S = S := rfl
@[simp] theorem shut_some (n : Nat) (c : C) (S : Sto) : shut (some (n, c)) S = S.set n none := rfl
def miSeq (m : ME) : MI := fun g e S => (m g e S).bind fun r S1 => match r with
  | .d (.str s) => .ok ⟨chars s, none⟩ S1
  | r => (match itOf r S1 with
    | some (xs, fz) => .ok ⟨xs, fz⟩ (shut fz S1)
    | none => .no)
def rangeD (lo hi : Int) : List D := (List.range (hi - lo).toNat).map fun (i : Nat) => .int (lo + (i : Int))
def okR (i : Int) : Bool := decide (-(2 ^ 62) ≤ i) && decide (i < 2 ^ 62)
def miRange1 (m : ME) : MI := fun g e S => (m g e S).bind fun r S1 => match r with
  | .d (.int n) => if okR n ∧ n.toNat ≤ LIM then .ok ⟨rangeD 0 n, none⟩ S1 else .no
  | _ => .no
def miRange2 (m1 m2 : ME) : MI := fun g e S => (m1 g e S).bind fun r1 S1 => (m2 g e S1).bind fun r2 S2 => match r1, r2 with
  | .d (.int a), .d (.int b) => if okR a ∧ okR b ∧ (b - a).toNat ≤ LIM then .ok ⟨rangeD a b, none⟩ S2 else .no
  | _, _ => .no
/-- range(a, b, -1) -/
def rangeDown (a b : Int) : List D := (List.range (a - b).toNat).map fun (i : Nat) => .int (a - (i : Int))
def miDown (m1 m2 : ME) : MI := fun g e S => (m1 g e S).bind fun r1 S1 => (m2 g e S1).bind fun r2 S2 => match r1, r2 with
  | .d (.int a), .d (.int b) => if okR a ∧ okR b ∧ (a - b).toNat ≤ LIM then .ok ⟨rangeDown a b, none⟩ S2 else .no
  | _, _ => .no
def seqOf : D → Option (List D)
  | .tup xs => some xs
  | .lst xs => some xs
  | _ => none
def enumD (xs : List D) : List D := xs.zipIdx.map fun p => .tup [.int (p.2 : Int), p.1]
def zipD (xs ys : List D) : List D := (xs.zip ys).map fun p => .tup [p.1, p.2]
def miEnum (m : ME) : MI := fun g e S => (m g e S).bind fun r S1 => match itOf r S1 with
    | some (xs, fz) => .ok ⟨enumD xs, fz⟩ (shut fz S1)
    | none => .no
/-- zip: both lists or both tuples -/
def isTup : R → Bool
  | .d (.tup _) => true
  | _ => false
def miZip (m1 m2 : ME) : MI := fun g e S => (m1 g e S).bind fun r1 S1 => (m2 g e S1).bind fun r2 S2 => if isTup r1 = isTup r2 then
    (match itOf r1 S2, itOf r2 S2 with
    | some (xs, none), some (ys, none) => .ok ⟨zipD xs ys, none⟩ S2
    | some (xs, some (n, v)), some (ys, none) => .ok ⟨zipD xs ys, some (n, v)⟩ (S2.set n none)
    | _, _ => .no)
  else .no
def thaw (fz : Option (Nat × C)) (S : Sto) : Sto := match fz with
  | none => S
  | some (n, v) => S.set n (some v)
@[simp] theorem thaw_none (S : Sto) : thaw none S = S := rfl

/-! ### targets: a name, several names -/
inductive Tg where
  | one (i : Nat)
  | many (is : List Nat)
def setAll : List Nat → List D → Env → Option Env
  | [], [], e => some e
  | i :: is, x :: xs, e => setAll is xs (e.set i (some (.d x)))
  | _, _, _ => none
def Tg.put : Tg → D → Env → Option Env
  | .one i, x, e => some (e.set i (some (.d x)))
  | .many is, .tup xs, e => setAll is xs e
  | .many is, .lst xs, e => setAll is xs e
  | _, _, _ => none
def wipe (e : Env) : List Nat → Env
  | [] => e
  | v :: vs => (wipe e vs).set v none

/-! ### list comprehensions -/
def evC (c : Option ME) (g : Clos) (e : Env) (S : Sto) : O Bool := match c with
  | none => .ok true S
  | some m => evB m g e S
def lcL (tg : Tg) (own : List Nat) (cond : Option ME) (elt : ME) (g : Clos) (e : Env) : List D → Sto → O (List D)
  | [], S => .ok [] S
  | x :: xs, S => match tg.put x (wipe e own) with
    | none => .no
    | some e' =>
      (evC cond g e' S).bind fun b S1 => match b with
          | true => (evD elt g e' S1).bind fun y S2 => (lcL tg own cond elt g e xs S2).bind fun ys S3 => .ok (y :: ys) S3
          | false => lcL tg own cond elt g e xs S1
/-- what is raised within leaves no comprehension here -/
def O.calm {α : Type} : O α → O α
  | .ex _ _ => .no
  | o => o
@[simp] theorem O.calm_ok {α : Type} (a : α) (S : Sto) : (O.ok a S).calm = .ok a S := rfl
def mLc (it : MI) (tg : Tg) (own : List Nat) (cond : Option ME) (elt : ME) : ME := fun g e S => (it g e S).bind fun I S1 =>
  ((lcL tg own cond elt g e I.xs S1).calm).bind fun ys S2 => .ok (.f (.l ys)) (thaw I.fz S2)

/-! ### statements -/
def mSeq : List MS → MS
  | [], _, e, S => .nx e S
  | m :: ms, g, e, S => match m g e S with
    | .nx e' S' => mSeq ms g e' S'
    | o => o
def mPass : MS := fun _ e S => .nx e S
def mBrk : MS := fun _ e S => .bk e S
def mCnt : MS := fun _ e S => .ct e S
def mExpr (m : ME) : MS := fun g e S => (m g e S).bindS e fun _ S1 => .nx e S1
def mRet (m : ME) : MS := fun g e S => (m g e S).bindS e fun r S1 => .rt r S1
def mRetN : MS := fun _ _ S => .rt (.d .non) S
def mRaise (c : Str) : MS := fun _ e S => .ex c e S
def mIf (c : ME) (a b : MS) : MS := fun g e S => (evB c g e S).bindS e fun k S1 => match k with
  | true => a g e S1
  | false => b g e S1
/-- name = e -/
def mSet (i : Nat) (m : ME) : MS := fun g e S => (evD m g e S).bindS e fun x S1 => .nx (e.set i (some (.d x))) S1
/-- name = e, the name of a list that is changed -/
def mSetC (i : Nat) (m : ME) : MS := fun g e S => (m g e S).bindS e fun r S1 => match r, e[i]? with
  | .f v, some (some (.c n)) => .nx e (S1.set n (some v))
  | _, _ => .no
/-- a, b, .. = e -/
def mSetT (is : List Nat) (m : ME) : MS := fun g e S => (evD m g e S).bindS e fun x S1 => match (Tg.many is).put x e with
  | some e' => .nx e' S1
  | none => .no
/-- a, b = b, e: b a list that is changed; what it held is a's now -/
def mShift (i j : Nat) (m : ME) : MS := fun g e S => match e[j]? with
  | some (some (.c n)) => if (cellOf S n).isNone then .no else (m g e S).bindS e fun r S1 => (match r, cellOf S1 n with
    | .f w, some v => .nx (e.set i (some (.d v.froz))) (S1.set n (some w))
    | _, _ => .no)
  | _ => .no
/-- a, b = e1, e2 (also three), plain names -/
def parPut : List Nat → List R → Env → Option Env
  | [], [], e => some e
  | i :: is, .d x :: rs, e => parPut is rs (e.set i (some (.d x)))
  | _, _, _ => none
def mPar (is : List Nat) (ms : List ME) : MS := fun g e S => (evRs ms g e S).bindS e fun rs S1 => match parPut is rs e with
  | some e' => .nx e' S1
  | none => .no
def updC (i : Nat) (e : Env) (S : Sto) (f : C → Option C) : OS := match e[i]? with
  | some (some (.c n)) => (match cellOf S n with
    | some v => (match f v with
      | some v' => .nx e (S.set n (some v'))
      | none => .no)
    | none => .no)
  | _ => .no
def mAppend (i : Nat) (m : ME) : MS := fun g e S => if hasL i e S = false then .no else (evD m g e S).bindS e fun x S1 => updC i e S1 fun v => match v with
  | .l xs => if xs.length < LIM then some (.l (xs ++ [x])) else none
  | _ => none
def mExtend (i : Nat) (m : ME) : MS := fun g e S => if hasL i e S = false then .no else (m g e S).bindS e fun r S1 => match view S1 r with
  | some (.lst ys) => updC i e S1 fun v => (match v with
    | .l xs => if xs.length + ys.length ≤ LIM then some (.l (xs ++ ys)) else none
    | _ => none)
  | _ => .no
def mReverse (i : Nat) : MS := fun _ e S => updC i e S fun v => match v with
  | .l xs => some (.l xs.reverse)
  | _ => none
/-- name[j] = e -/
def mSetIx (i : Nat) (j m : ME) (put : D → D → C → Option C) : MS := fun g e S => (evD m g e S).bindS e fun x S1 => if hasC i e S1 = false then .no else (evD j g e S1).bindS e fun y S2 =>
  updC i e S2 (put y x)
def putL : D → D → C → Option C
  | .int k, x, .l xs => (match ixN xs.length k with
    | some n => some (.l (xs.set n x))
    | none => none)
  | _, _, _ => none
/-- name[j] += e, ints -/
def mAugIx (i : Nat) (j m : ME) : MS := fun g e S => if hasC i e S = false then .no else (evD j g e S).bindS e fun y S1 => match e[i]? with
  | some (some (.c n)) => (match cellOf S1 n, y with
    | some (.l xs), .int k => (match ixN xs.length k with
      | some q => (match xs[q]? with
        | some (.int old) => (evD m g e S1).bindS e fun x S2 => (match x with
          | .int add => updC i e S2 (putL y (.int (old + add)))
          | _ => .no)
        | _ => .no)
      | none => .no)
    | _, _ => .no)
  | _ => .no
def forL (tg : Tg) (wp : List Nat) (body : MS) (g : Clos) : List D → Env → Sto → OS
  | [], e, S => .nx (wipe e wp) S
  | x :: xs, e, S => match tg.put x (wipe e wp) with
    | none => .no
    | some e' => (match body g e' S with
      | .nx e2 S2 => forL tg wp body g xs e2 S2
      | .ct e2 S2 => forL tg wp body g xs e2 S2
      | .bk e2 S2 => .nx (wipe e2 wp) S2
      | o => o)
/-- wp: the names that are of no account ahead of a turn and behind the loop -/
def mFor (it : MI) (tg : Tg) (wp : List Nat) (body : MS) : MS := fun g e S => (it g e S).bindS e fun I S1 => match I.fz with
  | none => forL tg wp body g I.xs e S1
  | some _ => .no
def whileL (wp : List Nat) (c : ME) (body : MS) (g : Clos) : Nat → Env → Sto → OS
  | 0, _, _ => .no
  | n + 1, e, S => (evB c g (wipe e wp) S).bindS (wipe e wp) fun k S1 => match k with
    | false => .nx (wipe e wp) S1
    | true => (match body g (wipe e wp) S1 with
      | .nx e2 S2 => whileL wp c body g n e2 S2
      | .ct e2 S2 => whileL wp c body g n e2 S2
      | .bk e2 S2 => .nx (wipe e2 wp) S2
      | o => o)
def mWhile (fuel : Nat) (wp : List Nat) (c : ME) (body : MS) : MS := fun g e S => whileL wp c body g fuel e S

/-! ### defs -/
/-- the locals behind the parameters: for each whether it is a list that is changed -/
def frame (muts : List Bool) (n : Nat) : Env := match muts with
  | [] => []
  | true :: r => some (.c n) :: frame r (n + 1)
  | false :: r => none :: frame r n
def outOf (n : Nat) : OS → O R
  | .nx _ S => .ok (.d .non) (S.take n)
  | .rt r S => (match r with
    | .d x => .ok (.d x) (S.take n)
    | .f v => .ok (.f v) (S.take n)
    | .c k => if n ≤ k then (match cellOf S k with
        | some v => .ok (.f v) (S.take n)
        | none => .no) else .no)
  | .ex c _ S => .ex c (S.take n)
  | _ => .no
def mkFn (np : Nat) (muts : List Bool) (body : MS) : Fn := fun g as S => if as.length = np then
    outOf S.length (body g (as.map some ++ frame muts S.length) (S ++ List.replicate (muts.countP id) none))
  else .no
end M

/-! Mini2: the built-in operations on data. -/
namespace M
open PySem (Str)
mutual
def eqv : D → D → Bool
  | .non, .non => true
  | .bl a, .bl b => a == b
  | .bl a, .int j => (if a then 1 else 0) == j
  | .int i, .bl b => i == (if b then 1 else 0)
  | .int i, .int j => i == j
  | .str a, .str b => decide (a = b)
  | .lst xs, .lst ys => eqvAll xs ys
  | .tup xs, .tup ys => eqvAll xs ys
  | _, _ => false
def eqvAll : List D → List D → Bool
  | [], [] => true
  | x :: xs, y :: ys => eqv x y && eqvAll xs ys
  | _, _ => false
end
def txtOk (x : Str) : Bool := x.cps.toList.all (fun c => decide (c < 0x110000)) && decide (x.cps.size ≤ LIM)
mutual
/-- what == may look at: plain data, not too deep -/
def good : Nat → D → Bool
  | _, .non => true
  | _, .bl _ => true
  | _, .int _ => true
  | _, .str _ => true
  | 0, _ => false
  | n + 1, .tup xs => goodAll n xs
  | n + 1, .lst xs => goodAll n xs
  | _, _ => false
def goodAll : Nat → List D → Bool
  | _, [] => true
  | n, x :: xs => good n x && goodAll n xs
end
def rb (b : Bool) : Option R := some (.d (.bl b))
def ri (i : Int) : Option R := some (.d (.int i))
def opEq : List D → Option R
  | [x, y] => if good 60 x && good 60 y then rb (eqv x y) else none
  | _ => none
def opNe : List D → Option R
  | [x, y] => if good 60 x && good 60 y then rb (!eqv x y) else none
  | _ => none
def intsOf : List D → Option (List Int)
  | [] => some []
  | .int i :: xs => (match intsOf xs with
    | some is => some (i :: is)
    | none => none)
  | _ => none
def lexLt : List Int → List Int → Bool
  | [], [] => false
  | [], _ :: _ => true
  | _ :: _, [] => false
  | a :: as, b :: bs => if a = b then lexLt as bs else decide (a < b)
def opLt : List D → Option R
  | [.int i, .int j] => rb (decide (i < j))
  | [.tup xs, .tup ys] => (match intsOf xs, intsOf ys with
    | some is, some js => rb (lexLt is js)
    | _, _ => none)
  | _ => none
def opLe : List D → Option R
  | [.int i, .int j] => rb (decide (i ≤ j))
  | _ => none
def opGt : List D → Option R
  | [.int i, .int j] => rb (decide (j < i))
  | _ => none
def opGe : List D → Option R
  | [.int i, .int j] => rb (decide (j ≤ i))
  | _ => none
def isIn (x : D) (ys : List D) : Bool := ys.any fun y => eqv y x
def opIn : List D → Option R
  | [x, .lst ys] => if good 60 x && goodAll 60 ys then rb (isIn x ys) else none
  | [x, .tup ys] => if good 60 x && goodAll 60 ys then rb (isIn x ys) else none
  | [.str a, .str b] => (match a.cps.toList with
    | [c] => rb (decide (c ∈ b.cps.toList))
    | _ => none)
  | _ => none
def opNotIn : List D → Option R
  | [x, .lst ys] => if good 60 x && goodAll 60 ys then rb (!isIn x ys) else none
  | [x, .tup ys] => if good 60 x && goodAll 60 ys then rb (!isIn x ys) else none
  | [.str a, .str b] => (match a.cps.toList with
    | [c] => rb (!decide (c ∈ b.cps.toList))
    | _ => none)
  | _ => none
def isNon : D → Bool
  | .non => true
  | _ => false
def opIs : List D → Option R
  | [x, .non] => rb (isNon x)
  | [.bl a, .bl b] => rb (decide (a = b))
  | _ => none
def opIsNot : List D → Option R
  | [x, .non] => rb (!isNon x)
  | [.bl a, .bl b] => rb (!decide (a = b))
  | _ => none
def opAdd : List D → Option R
  | [.int i, .int j] => ri (i + j)
  | [.tup xs, .tup ys] => if xs.length + ys.length ≤ LIM then some (.d (.tup (xs ++ ys))) else none
  | [.lst xs, .lst ys] => if xs.length + ys.length ≤ LIM then some (.f (.l (xs ++ ys))) else none
  | [.str a, .str b] => if a.cps.size + b.cps.size ≤ LIM then some (.d (.str ⟨a.cps ++ b.cps⟩)) else none
  | _ => none
def opSub : List D → Option R
  | [.int i, .int j] => ri (i - j)
  | _ => none
def small (i : Int) : Bool := decide (-(2 ^ 64) < i) && decide (i < 2 ^ 64)
def rep (xs : List D) (k : Nat) : List D := (List.replicate k xs).flatten
def opMul : List D → Option R
  | [.int i, .int j] => if small i || small j then ri (i * j) else none
  | [.lst xs, .int k] => if xs.length ≤ 1000 ∧ k ≤ 1000 ∧ -1000 ≤ k then some (.f (.l (rep xs k.toNat))) else none
  | [.tup xs, .int k] => if xs.length ≤ 1000 ∧ k ≤ 1000 ∧ -1000 ≤ k then some (.d (.tup (rep xs k.toNat))) else none
  | _ => none
def opDiv : List D → Option R
  | [.int i, .int j] => if 0 < j ∧ j < 1073741824 then ri (i / j) else none
  | _ => none
def opMod : List D → Option R
  | [.int i, .int j] => if 0 < j then ri (i % j) else none
  | _ => none
def opPow : List D → Option R
  | [.int i, .int j] => if 0 ≤ j ∧ j ≤ 1000000 ∧ i.natAbs < 2 ^ 64 then ri (i ^ j.toNat) else none
  | _ => none
def opNeg : List D → Option R
  | [.int i] => ri (-i)
  | _ => none
def atI {α : Type} (xs : List α) (i : Int) : Option α := match ixN xs.length i with
  | some k => xs[k]?
  | none => none
def opGet : List D → Option R
  | [.tup xs, .int i] => (atI xs i).map .d
  | [.lst xs, .int i] => (atI xs i).map .d
  | [.rol xs, .int i] => (atI xs i).map .d
  | [.str s, .int i] => if s.cps.size ≤ LIM then (atI s.cps.toList i).map fun c => .d (.str ⟨#[c]⟩) else none
  | _ => none
def clampI (n : Nat) (i : Int) : Nat := if i < 0 then (i + n).toNat else min i.toNat n
def cut {α : Type} (xs : List α) (lo hi : Option Int) : List α :=
  (xs.drop (match lo with | some i => clampI xs.length i | none => 0)).take ((match hi with | some i => clampI xs.length i | none => xs.length) - (match lo with | some i => clampI xs.length i | none => 0))
def sliceD (x : D) (lo hi : Option Int) : Option R := match x with
  | .tup xs => some (.d (.tup (cut xs lo hi)))
  | .lst xs => some (.f (.l (cut xs lo hi)))
  | .str s => if s.cps.size ≤ LIM then some (.d (.str ⟨(cut s.cps.toList lo hi).toArray⟩)) else none
  | _ => none
def opSlLo : List D → Option R
  | [x, .int i] => sliceD x (some i) none
  | _ => none
def opSlHi : List D → Option R
  | [x, .int j] => sliceD x none (some j)
  | _ => none
/-- a[i:j] -/
def mSlLH (ma mb mc : ME) : ME := fun g e S => (ma g e S).bind fun r1 S1 => (mb g e S1).bind fun r2 S2 => match r2 with
  | .d (.int i) => (mc g e S2).bind fun r3 S3 => (match r3, view S3 r1 with
    | .d (.int j), some x => (match sliceD x (some i) (some j) with
      | some r => .ok r S3
      | none => .no)
    | _, _ => .no)
  | _ => .no
def opRev : List D → Option R
  | [.tup xs] => some (.d (.tup xs.reverse))
  | [.lst xs] => some (.f (.l xs.reverse))
  | _ => none
def opLen : List D → Option R
  | [.tup xs] => ri xs.length
  | [.lst xs] => ri xs.length
  | [.rol xs] => ri xs.length
  | [.str s] => if s.cps.size ≤ LIM then ri s.cps.size else none
  | _ => none
def opTuple : List D → Option R
  | [.tup xs] => some (.d (.tup xs))
  | [.lst xs] => some (.d (.tup xs))
  | _ => none
def opList : List D → Option R
  | [.tup xs] => some (.f (.l xs))
  | [.lst xs] => some (.f (.l xs))
  | _ => none
def opInt : List D → Option R
  | [.int i] => ri i
  | [.bl b] => ri (if b then 1 else 0)
  | _ => none
def opMax2 : List D → Option R
  | [.int i, .int j] => ri (if j > i then j else i)
  | _ => none
def opMin2 : List D → Option R
  | [.int i, .int j] => ri (if j < i then j else i)
  | _ => none
def boolsOf : List D → Option (List Bool)
  | [] => some []
  | .bl b :: xs => (match boolsOf xs with
    | some bs => some (b :: bs)
    | none => none)
  | _ => none
def opAll : List D → Option R
  | [.lst xs] => (match boolsOf xs with
    | some bs => rb (bs.all id)
    | none => none)
  | _ => none
def opAny : List D → Option R
  | [.lst xs] => (match boolsOf xs with
    | some bs => rb (bs.any id)
    | none => none)
  | _ => none
def opSum : List D → Option R
  | [.lst xs] => (match intsOf xs with
    | some is => ri is.sum
    | none => none)
  | _ => none
abbrev tx (s : String) : Str := PySem.Str.ofString s
/-- kinds, as isinstance asks -/
def isKind (t : String) : D → Option Bool
  | .non => some false
  | .bl _ => some (t == "bool" || t == "int")
  | .int _ => some (t == "int")
  | .str _ => some (t == "str")
  | .tup _ => some (t == "tuple")
  | .lst _ => some (t == "list")
  | .rol _ => some (t == "list")
  | .dct _ _ => some (t == "dict")
  | _ => none
def opIsK (t : String) : List D → Option R
  | [x] => (match isKind t x with
    | some b => rb b
    | none => none)
  | _ => none
end M

/-! Mini4: errors that are caught and looked at. -/
namespace M
open PySem (Str)
/-- isinstance(e, cls), cls a class of errors; errs: the classes that are raised -/
def opIsE (errs : List Str) (cls : Str) : List D → Option R
  | [.non] => rb false
  | [.exc c] => if errs.contains c then rb (decide (c = cls) || decide (cls = tx "HueError") || decide (cls = tx "ValueError")) else none
  | _ => none
/-- a def that calls what it got, in a try, and goes on with what was raised in slot xi: m -/
def refRun (muts : List Bool) (xi : Nat) (m : MS) (err : D) (S : Sto) : O R :=
  (outOf S.length (m G0 ((none :: frame muts S.length).set xi (some (.d err))) (S ++ List.replicate (muts.countP id) none))).calm
/-- .. handed a lambda -/
def mRef (errs : List Str) (R : D → Sto → O M.R) (mb : ME) : ME := fun g e S => match mb g e S with
  | .ok _ S1 => R .non S1
  | .ex c S1 => if errs.contains c then R (.exc c) S1 else .no
  | .no => .no
/-- o.m(e): t is the kind of o -/
def mMeth (t : String) (f : List D → Option M.R) (mo ma : ME) : ME := fun g e S => (mo g e S).bind fun r S1 => if (view S1 r).bind (isKind t) = some true then (ma g e S1).bind fun r2 S2 => (match view S2 r, view S2 r2 with
    | some x, some y => (match f [x, y] with
      | some q => .ok q S2
      | none => .no)
    | _, _ => .no) else .no
def opCountL : List D → Option M.R
  | [.lst ys, x] => if good 60 x && goodAll 60 ys then ri (ys.countP fun y => eqv y x) else none
  | _ => none
def opIndexL : List D → Option M.R
  | [.lst ys, x] => if good 60 x && goodAll 60 ys then (match ys.findIdx? fun y => eqv y x with
    | some j => ri j
    | none => none) else none
  | _ => none
/-- a, b = a new list, e: a is a list that is changed -/
def mParC (i j : Nat) (ma mb : ME) : MS := fun g e S => (ma g e S).bindS e fun r S1 => (mb g e S1).bindS e fun r2 S2 => match r, r2, e[i]? with
  | .f v, .d x, some (some (.c n)) => .nx (e.set j (some (.d x))) (S2.set n (some v))
  | _, _, _ => .no
/-- the order of tuples of ints -/
def lexL : List Int → List Int → Bool
  | _, [] => false
  | [], _ :: _ => true
  | x :: xs, y :: ys => if x = y then lexL xs ys else decide (x < y)
def leL (a b : List Int) : Bool := !lexL b a
/-- tuples of ints, none empty -/
def rowsOf : List D → Option (List (List Int))
  | [] => some []
  | .tup xs :: r => (match intsOf xs, rowsOf r with
    | some (n :: ns), some rs => some ((n :: ns) :: rs)
    | _, _ => none)
  | _ :: _ => none
def opSorted : List D → Option R
  | [.lst xs] => (match intsOf xs with
    | some ns => some (.f (.l ((ns.mergeSort fun a b => decide (a ≤ b)).map .int)))
    | none => (match rowsOf xs with
      | some rs => some (.f (.l ((rs.mergeSort leL).map fun r => .tup (r.map .int))))
      | none => none))
  | _ => none
/-- pairs of an int and a tuple of ints -/
def pairsOf : List D → Option (List (Int × List Int))
  | [] => some []
  | .tup [.int n, .tup xs] :: r => (match intsOf xs, pairsOf r with
    | some ns, some rs => some ((n, ns) :: rs)
    | _, _ => none)
  | _ :: _ => none
def leP (a b : Int × List Int) : Bool := leL (a.1 :: a.2) (b.1 :: b.2)
def opSortedP : List D → Option R
  | [.lst xs] => (match pairsOf xs with
    | some rs => some (.f (.l ((rs.mergeSort leP).map fun r => .tup [.int r.1, .tup (r.2.map .int)])))
    | none => none)
  | _ => none
/-- tuples of ints -/
def rowsOf0 : List D → Option (List (List Int))
  | [] => some []
  | .tup xs :: r => (match intsOf xs, rowsOf0 r with
    | some ns, some rs => some (ns :: rs)
    | _, _ => none)
  | _ :: _ => none
/-- sorted(xs), xs a list of tuples of ints -/
def opSortedL0 : List D → Option R
  | [.lst xs] => (match rowsOf0 xs with
    | some rs => some (.f (.l ((rs.mergeSort leL).map fun r => .tup (r.map .int))))
    | none => none)
  | _ => none
/-- sorted(set(xs)), xs a list of few ints -/
def opSortedSet : List D → Option R
  | [.lst xs] => (match intsOf xs with
    | some ns => if ns.all (fun i => decide (0 ≤ i) && decide (i < 60)) then some (.f (.l ((((List.range 60).map Int.ofNat).filter fun i => decide (i ∈ ns)).map .int))) else none
    | none => none)
  | _ => none
/-- dict(xs), xs a list of pairs (int, x): later ones win -/
def pairsI : List D → Option (List (Int × D))
  | [] => some []
  | .tup [.int k, x] :: r => (match pairsI r with
    | some ps => some ((k, x) :: ps)
    | none => none)
  | _ :: _ => none
def putI (kvs : List (Int × D)) (k : Int) (x : D) : List (Int × D) := if (kvs.any fun p => decide (p.1 = k)) = true then kvs.map (fun p => if p.1 = k then (p.1, x) else p) else kvs ++ [(k, x)]
def mergeI (kvs more : List (Int × D)) : List (Int × D) := more.foldl (fun acc p => putI acc p.1 p.2) kvs
def opDictP : List D → Option R
  | [.lst xs] => (match pairsI xs with
    | some ps => some (.f (.k ((mergeI [] ps).map fun p => .int p.1) ((mergeI [] ps).map (·.2))))
    | none => none)
  | _ => none
/-- sorted(d), d a dict of few ints -/
def opSortedD : List D → Option R
  | [.dct ks _] => (match intsOf ks with
    | some ns => if ns.length < 64 then some (.f (.l ((ns.mergeSort fun a b => decide (a ≤ b)).map .int))) else none
    | none => none)
  | _ => none
/-- sorted(t), t a tuple of few ints -/
def opSortedT : List D → Option R
  | [.tup xs] => (match intsOf xs with
    | some ns => if ns.length < 64 then some (.f (.l ((ns.mergeSort fun a b => decide (a ≤ b)).map .int))) else none
    | none => none)
  | _ => none
/-- d[k] = x, k an int -/
def putK : D → D → C → Option C
  | .int k, x, .k ks vs => (match intsOf ks with
    | some ns => if ns.length < LIM then (if ns.any (fun i => decide (i = k)) then some (.k ks ((ns.zip vs).map fun p => if p.1 = k then x else p.2)) else some (.k (ks ++ [.int k]) (vs ++ [x]))) else none
    | none => none)
  | _, _, _ => none
/-- list(range(..)), tuple(range(..)) -/
def opRgL1 : List D → Option R
  | [.int n] => if -8388608 ≤ n ∧ n ≤ 8388608 then some (.f (.l (rangeD 0 n))) else none
  | _ => none
def opRgL2 : List D → Option R
  | [.int i, .int j] => if -8388608 ≤ i ∧ i ≤ 8388608 ∧ -8388608 ≤ j ∧ j ≤ 8388608 then some (.f (.l (rangeD i j))) else none
  | _ => none
def opRgT1 : List D → Option R
  | [.int n] => if -8388608 ≤ n ∧ n ≤ 8388608 then some (.d (.tup (rangeD 0 n))) else none
  | _ => none
def opRgT2 : List D → Option R
  | [.int i, .int j] => if -8388608 ≤ i ∧ i ≤ 8388608 ∧ -8388608 ≤ j ∧ j ≤ 8388608 then some (.d (.tup (rangeD i j))) else none
  | _ => none
def opIsK2 (t1 t2 : String) : List D → Option R
  | [x] => (match isKind t1 x, isKind t2 x with
    | some a, some b => rb (a || b)
    | _, _ => none)
  | _ => none
/-- a def that calls itself: nothing is said of what is too deep -/
def noFn : Fn := fun _ _ _ => .no
/-- a call of a name that holds a def -/
def lookF : List (Str × Fn) → Str → Option Fn
  | [], _ => none
  | p :: r, f => if p.1 = f then some p.2 else lookF r f
def mCallF (tb : List (Str × Fn)) (i : Nat) (ms : List ME) : ME := fun g e S => match e[i]? with
  | some (some (.d (.fn f))) => (match lookF tb f with
    | some F => mCall F ms g e S
    | none => .no)
  | _ => .no
/-- min(xs), ints -/
def minL : Int → List Int → Int
  | m, [] => m
  | m, x :: xs => minL (if x < m then x else m) xs
def opMinL : List D → Option R
  | [.lst xs] => (match intsOf xs with
    | some (n :: ns) => ri (minL n ns)
    | _ => none)
  | _ => none
/-- len(set(xs)), few ints -/
def seen (acc : List Int) (x : Int) : List Int := if acc.any (· == x) then acc else acc ++ [x]
def opLenSet : List D → Option R
  | [.lst xs] => (match intsOf xs with
    | some ns => if ns.length < 64 then ri (ns.foldl seen []).length else none
    | none => none)
  | _ => none
/-- what is fresh or a name's own becomes data at once -/
def mFr (m : ME) : ME := fun g e S => (m g e S).bind fun r S1 => (toD r S1).bind fun x S2 => .ok (.d x) S2
/-- a def that calls what it got: handed the lambda that lies under slot i; ow: the slots that the lambda does not see; tb: what the lambdas denote -/
def mRefV (errs : List Str) (R : D → Sto → O M.R) (i : Nat) (ow : List Nat) (tb : List ME) : ME := fun g e S => match e[i]? with
  | some (some (.d (.clo k))) => (match tb[k]? with
    | some mb => mRef errs R mb g (wipe e ow) S
    | none => .no)
  | _ => .no
/-- d[k], k not in d; d a dict of ints -/
def opGetK : List D → Option R
  | [.dct ks vs, .int k] => (match intsOf ks with
    | some ns => ((ns.zip vs).find? fun p => decide (p.1 = k)).map fun p => .d p.2
    | none => none)
  | _ => none
def opNotInK : List D → Option R
  | [.int k, .dct ks _] => (match intsOf ks with
    | some ns => rb (!ns.any fun i => decide (i = k))
    | none => none)
  | _ => none
def opInK : List D → Option R
  | [.int k, .dct ks _] => (match intsOf ks with
    | some ns => rb (ns.any fun i => decide (i = k))
    | none => none)
  | _ => none
def opLenK : List D → Option R
  | [.dct ks _] => (match intsOf ks with
    | some ns => ri ns.length
    | none => none)
  | _ => none
/-- x = e, x the name of a list that is changed later: it stands for what another holds until it has a list of its own; its cell waits in slot l -/
def mAlias (i l : Nat) (m : ME) : MS := fun g e S => (evD m g e S).bindS e fun x S1 => match e[i]? with
  | some (some (.c n)) => if (cellOf S1 n).isSome then .no else .nx ((e.set l (some (.c n))).set i (some (.d x))) S1
  | _ => .no
/-- a, b = b, e, where b stands for what another holds -/
def mShiftD (i j l : Nat) (m : ME) : MS := fun g e S => match e[j]?, e[l]? with
  | some (some (.d x)), some (some (.c n)) => if (cellOf S n).isSome then .no else (m g e S).bindS e fun r S1 => (match r with
    | .f w => .nx (((e.set l none).set i (some (.d x))).set j (some (.c n))) (S1.set n (some w))
    | _ => .no)
  | _, _ => .no
def mShiftA (i j l : Nat) (m : ME) : MS := fun g e S => match e[j]? with
  | some (some (.d _)) => mShiftD i j l m g e S
  | _ => mShift i j m g e S
/-- a, b = two new lists; both are changed -/
def mParCC (i j : Nat) (ma mb : ME) : MS := fun g e S => (ma g e S).bindS e fun r S1 => (mb g e S1).bindS e fun r2 S2 => match r, r2, e[i]?, e[j]? with
  | .f v, .f w, some (some (.c n)), some (some (.c m)) => .nx e ((S2.set m (some w)).set n (some v))
  | _, _, _, _ => .no
def opLenSetT : List D → Option R
  | [.tup xs] => (match intsOf xs with
    | some ns => if ns.length < 64 then ri (ns.foldl seen []).length else none
    | none => none)
  | _ => none
/-- min(xs), tuples of ints, none empty -/
def minR : List Int → List (List Int) → List Int
  | m, [] => m
  | m, x :: xs => minR (if lexL x m then x else m) xs
def opMinR : List D → Option R
  | [.lst xs] => (match rowsOf xs with
    | some (r :: rs) => some (.d (.tup ((minR r rs).map .int)))
    | _ => none)
  | _ => none
/-- no other slot holds the cell m -/
def noOther (i m : Nat) (e : Env) : Bool := (e.set i none).all fun a => match a with
  | some (.c k) => decide (k ≠ m)
  | _ => true
/-- x = y, y the name of a list of the def's own, told anew before it is read again: x has it from now on, y waits for another. l: the slot of a spare cell; k: that of the first cell -/
def mMove (i j l k : Nat) : MS := fun _ e S => match e[j]?, e[k]? with
  | some (some (.c n)), some (some (.c b)) => if (cellOf S n).isNone then .no else (match e[i]? with
    | some (some (.d _)) => (match e[l]? with
      | some (some (.c m)) => if (cellOf S m).isSome then .no else .nx (((e.set l none).set j (some (.c m))).set i (some (.c n))) S
      | _ => .no)
    | some (some (.c m)) => if b ≤ m ∧ noOther i m e = true then .nx ((e.set j (some (.c m))).set i (some (.c n))) (S.set m none) else .no
    | _ => .no)
  | _, _ => .no
mutual
/-- no list and no dict within -/
def lfree : D → Bool
  | .tup xs => lfrees xs
  | .lst _ => false
  | .dct _ _ => false
  | .rol _ => false
  | _ => true
def lfrees : List D → Bool
  | [] => true
  | x :: xs => lfree x && lfrees xs
end
def freeC : Option C → Bool
  | none => true
  | some (.l xs) => lfrees xs
  | some (.k _ _) => false
def freeS (S : Sto) : Bool := S.all freeC
/-- m reads the list of the name under i as data, and gives a new list of things that hold no lists -/
def mBor (i : Nat) (m : ME) : ME := fun g e S => match e[i]? with
  | some (some (.c n)) => (match cellOf S n with
    | some (.l xs) => (match m g (e.set i (some (.d (.lst xs)))) (S.set n none) with
      | .ok (.f (.l ys)) S2 => if (cellOf S2 n).isNone && (lfrees ys && freeS S2) then .ok (.f (.l ys)) (S2.set n (some (.l xs))) else .no
      | _ => .no)
    | _ => .no)
  | _ => m g e S
/-! texts -/
def strsOf : List D → Option (List Str)
  | [] => some []
  | .str s :: r => (match strsOf r with
    | some ys => some (s :: ys)
    | none => none)
  | _ => none
/-- ''.join(xs) -/
def opJoin0 : List D → Option R
  | [.str s, .lst xs] => if s = ⟨#[]⟩ then (match strsOf xs with
    | some ys => if (ys.map fun y : Str => y.length).sum ≤ LIM then some (.d (.str ⟨(ys.flatMap fun y => y.cps.toList).toArray⟩)) else none
    | none => none) else none
  | _ => none
/-- 'abc'.index(x) -/
def opIdxS : List D → Option R
  | [.str s, .str c] => if s = tx "abc" ∧ c = tx "a" then ri 0 else if s = tx "abc" ∧ c = tx "b" then ri 1 else if s = tx "abc" ∧ c = tx "c" then ri 2 else none
  | _ => none
/-- a sign, n times -/
def opMulS : List D → Option R
  | [.str s, .int n] => (match s.cps.toList with
    | [c] => if 2 ≤ n ∧ n ≤ 1000 then some (.d (.str ⟨(List.replicate n.toNat c).toArray⟩)) else none
    | _ => none)
  | _ => none
def opRevS : List D → Option R
  | [.str s] => some (.d (.str ⟨s.cps.toList.reverse.toArray⟩))
  | _ => none
end M

/-! Mini5: repr. -/
namespace M
open PySem (Str PyData)
mutual
/-- what is shown of data -/
def pyd : D → Option PyData
  | .non => some .none
  | .bl b => some (.bool b)
  | .int i => some (.int i)
  | .str s => some (.str s)
  | .tup xs => (pyds xs).map .tuple
  | .lst xs => (pyds xs).map .list
  | _ => none
def pyds : List D → Option (List PyData)
  | [] => some []
  | x :: xs => match pyd x with
    | some d => match pyds xs with
      | some ds => some (d :: ds)
      | none => none
    | none => none
end
def opRepr : List D → Option R
  | [.dct [] []] => some (.d (.str (tx "{}")))
  | [x] => match pyd x with
    | some d => if (PyData.showable d && decide (PyData.depth d < 50) && txtOk (PyData.shown d)) = true then some (.d (.str (PyData.shown d))) else none
    | none => none
  | _ => none
/-- the slot i has its list's cell n again, which is dead -/
def unfrz (i n : Nat) : OS → OS
  | .nx e S => if (cellOf S n).isNone = true ∧ noOther i n e = true then .nx (e.set i (some (.c n))) S else .no
  | .bk e S => if (cellOf S n).isNone = true ∧ noOther i n e = true then .bk (e.set i (some (.c n))) S else .no
  | .ct e S => if (cellOf S n).isNone = true ∧ noOther i n e = true then .ct (e.set i (some (.c n))) S else .no
  | .ex c e S => if (cellOf S n).isNone = true ∧ noOther i n e = true then .ex c (e.set i (some (.c n))) S else .no
  | .rt r S => .rt r S
  | .no => .no
/-- the list of slot i is data from now on, to the end of the block -/
def mFrz (i : Nat) (m : MS) : MS := fun g e S => match e[i]? with
  | some (some (.c n)) => (match cellOf S n with
    | some v => unfrz i n (m g (e.set i (some (.d v.froz))) (S.set n none))
    | none => .no)
  | _ => .no
/-- sorted(set(xs)), xs a tuple of few small ints -/
def opSortedSetT : List D → Option R
  | [.tup xs] => (match intsOf xs with
    | some ns => if (ns.all (fun i => decide (0 ≤ i) && decide (i < 60)) && decide (ns.length < 100)) = true then some (.f (.l ((((List.range 60).map Int.ofNat).filter fun i => decide (i ∈ ns)).map .int))) else none
    | none => none)
  | _ => none
/-- m reads the list of the name under i as data, and gives data without lists -/
def mBorB (i : Nat) (m : ME) : ME := fun g e S => match e[i]? with
  | some (some (.c n)) => (match cellOf S n with
    | some (.l xs) => (match m g (e.set i (some (.d (.lst xs)))) (S.set n none) with
      | .ok (.d x) S2 => if (cellOf S2 n).isNone && (lfree x && freeS S2) then .ok (.d x) (S2.set n (some (.l xs))) else .no
      | _ => .no)
    | _ => .no)
  | _ => m g e S
/-- a call of what a name holds: a def, or a lambda with parameters that is kept -/
def mCallFC (tb : List (Str × Fn)) (lt : List Fn) (i : Nat) (ms : List ME) : ME := fun g e S => match e[i]? with
  | some (some (.d (.fn f))) => (match lookF tb f with
    | some F => mCall F ms g e S
    | none => .no)
  | some (some (.d (.clo k))) => (match lt[k]? with
    | some F => mCall F ms g e S
    | none => .no)
  | _ => .no
mutual
/-- no lambda within -/
def noClo : D → Bool
  | .clo _ => false
  | .tup xs => noClos xs
  | .lst xs => noClos xs
  | .dct _ xs => noClos xs
  | .rol xs => noClos xs
  | _ => true
def noClos : List D → Bool
  | [] => true
  | x :: xs => noClo x && noClos xs
end
def noCloC : C → Bool
  | .l xs => noClos xs
  | .k _ xs => noClos xs
def noCloO : Option C → Bool
  | none => true
  | some c => noCloC c
def noCloS (S : Sto) : Bool := S.all noCloO
def noCloR : R → Bool
  | .d x => noClo x
  | .f c => noCloC c
  | .c _ => true
def noCloA : A → Bool
  | .d x => noClo x
  | .c _ => true
def lockO : O R → O R
  | .ok r S => if (noCloR r && noCloS S) = true then .ok r S else .no
  | .ex c S => if noCloS S = true then .ex c S else .no
  | .no => .no
/-- a def whose lambdas are its own: none comes in, none goes out -/
def mkFnK (np : Nat) (muts : List Bool) (body : MS) : Fn := fun g as S => if (as.all noCloA && noCloS S) = true then lockO (mkFn np muts body g as S) else .no
/-- x[2:0:-1], x not empty -/
def opSl201 : List D → Option R
  | [.tup xs] => match xs with
    | [] => none
    | x :: r => some (.d (.tup (r.take 2).reverse))
  | _ => none
/-- len(set(xs)), None and ints, few -/
def optsN : List D → Option (List (Option Int))
  | [] => some []
  | .non :: r => (optsN r).map (none :: ·)
  | .int i :: r => (optsN r).map (some i :: ·)
  | _ :: _ => none
def seenO (acc : List (Option Int)) (o : Option Int) : List (Option Int) := if o ∈ acc then acc else acc ++ [o]
def opLenSetN : List D → Option R
  | [.lst xs] => (match optsN xs with
    | some os => if os.length < 60 then ri (os.foldl seenO []).length else none
    | none => none)
  | _ => none
/-- a tuple that is known to have no dict stands as a number: its few Nones and ints, figure by figure -/
def encD : D → Nat
  | .int i => i.toNat + 1
  | _ => 0
def decD (n : Nat) : D := if n = 0 then .non else .int ((n - 1 : Nat) : Int)
def encN : List D → Nat
  | [] => 1
  | x :: xs => encN xs * 64 + encD x
def decN : Nat → Nat → List D
  | 0, _ => []
  | f + 1, n => if n ≤ 1 then [] else decD (n % 64) :: decN f (n / 64)
def okND : D → Bool
  | .non => true
  | .int i => decide (0 ≤ i) && decide (i < 60)
  | _ => false
def okN (xs : List D) : Bool := xs.all okND && decide (xs.length < 64)
/-- tuple(l), known to have no dict -/
def opTupN : List D → Option R
  | [.lst xs] => if okN xs then some (.d (.clo (encN xs))) else none
  | _ => none
/-- read as a tuple -/
def mUntup (m : ME) : ME := fun g e S => (m g e S).bind fun r S1 => match r with
  | .d (.clo k) => .ok (.d (.tup (decN 64 k))) S1
  | _ => .no
def intN : D → Option Int
  | .int i => some i
  | _ => none
/-- t.index(i), ints -/
def mIdxN (mo ma : ME) : ME := fun g e S => (mo g e S).bind fun r S1 => match r with
  | .d (.clo k) => (ma g e S1).bind fun r2 S2 => (match r2, (decN 64 k).mapM intN with
    | .d (.int i), some ns => if i ∈ ns then .ok (.d (.int (ns.idxOf i : Nat))) S2 else .no
    | _, _ => .no)
  | _ => .no
/-- a or b, lists: a new list a, b where it is empty -/
def mOrL (a b : ME) : ME := fun g e S => (a g e S).bind fun r S1 => match r with
  | .f (.l xs) => if xs.isEmpty = true then b g e S1 else .ok (.f (.l xs)) S1
  | _ => .no
end M

/-! Mini6: dicts with tuples of small ints as keys, all their values True, that are not changed once they are made; max of ints. -/
namespace M
open PySem (Str)
/-- max(xs), ints -/
def maxL : Int → List Int → Int
  | m, [] => m
  | m, x :: xs => maxL (if m < x then x else m) xs
def opMaxL : List D → Option R
  | [.lst xs] => (match intsOf xs with
    | some (n :: ns) => ri (maxL n ns)
    | _ => none)
  | _ => none
/-- a list of tuples of small ints as a number -/
def encR : List Int → Nat → Nat
  | [], n => n * 64 + 63
  | x :: xs, n => encR xs n * 64 + (x.toNat + 1)
def encLL : List (List Int) → Nat
  | [] => 1
  | r :: rs => encR r (encLL rs)
def decLL : Nat → Nat → List (List Int)
  | 0, _ => []
  | f + 1, n => if n ≤ 1 then [] else if n % 64 = 63 then [] :: decLL f (n / 64) else match decLL f (n / 64) with
    | r :: rs => (((n % 64 - 1 : Nat) : Int) :: r) :: rs
    | [] => []
def unLL (k : Nat) : List (List Int) := decLL k k
def okRow (r : List Int) : Bool := r.all fun x => decide (0 ≤ x) && decide (x < 60)
def putR (acc : List (List Int)) (r : List Int) : List (List Int) := if r ∈ acc then acc else acc ++ [r]
def pairsT : List D → Option (List (List Int))
  | [] => some []
  | .tup [.tup xs, .bl true] :: r => (match intsOf xs, pairsT r with
    | some ns, some rs => some (ns :: rs)
    | _, _ => none)
  | _ :: _ => none
/-- dict(xs), xs a list of pairs (tuple, True) -/
def opDictT : List D → Option R
  | [.lst xs] => (match pairsT xs with
    | some rs => if rs.all okRow = true then some (.d (.clo (encLL (rs.foldl putR [])))) else none
    | none => none)
  | _ => none
def opInT : List D → Option R
  | [.tup xs, .clo k] => (match intsOf xs with
    | some ns => rb (decide (ns ∈ unLL k))
    | none => none)
  | _ => none
def opSortedDT : List D → Option R
  | [.clo k] => some (.f (.l (((unLL k).mergeSort leL).map fun r => .tup (r.map .int))))
  | _ => none
def opLenDT : List D → Option R
  | [.clo k] => ri (unLL k).length
  | _ => none
theorem encR_ge : ∀ (r : List Int) (n : Nat), n + r.length + 1 ≤ encR r n
  | [], n => by show n + 0 + 1 ≤ n * 64 + 63; omega
  | x :: xs, n => by
    have := encR_ge xs n
    show n + (xs.length + 1) + 1 ≤ encR xs n * 64 + (x.toNat + 1)
    omega
theorem encLL_pos : ∀ L : List (List Int), 1 ≤ encLL L
  | [] => Nat.le_refl _
  | r :: rs => by have := encR_ge r (encLL rs); have := encLL_pos rs; show 1 ≤ encR r (encLL rs); omega
theorem decLL_R : ∀ (r : List Int) (L : List (List Int)) (f : Nat), okRow r = true → (∀ g, encLL L ≤ g → decLL g (encLL L) = L) → encR r (encLL L) ≤ f → decLL f (encR r (encLL L)) = r :: L
  | [], L, f, _, h, hf => by
    have p := encLL_pos L
    have hf : encLL L * 64 + 63 ≤ f := hf
    obtain ⟨g, rfl⟩ : ∃ g, f = g + 1 := ⟨f - 1, by omega⟩
    show decLL (g + 1) (encLL L * 64 + 63) = [] :: L
    rw [decLL, if_neg (by omega), if_pos (by omega), show (encLL L * 64 + 63) / 64 = encLL L by omega, h g (by omega)]
  | x :: xs, L, f, ho, h, hf => by
    have p := encR_ge xs (encLL L)
    have hf : encR xs (encLL L) * 64 + (x.toNat + 1) ≤ f := hf
    have ho : (0 ≤ x ∧ x < 60) ∧ okRow xs = true := by
      unfold okRow at ho ⊢
      simpa using ho
    obtain ⟨g, rfl⟩ : ∃ g, f = g + 1 := ⟨f - 1, by omega⟩
    have ih := decLL_R xs L g ho.2 h (by omega)
    show decLL (g + 1) (encR xs (encLL L) * 64 + (x.toNat + 1)) = (x :: xs) :: L
    rw [decLL, if_neg (by omega), if_neg (by omega), show (encR xs (encLL L) * 64 + (x.toNat + 1)) / 64 = encR xs (encLL L) by omega, ih]
    show (((((encR xs (encLL L) * 64 + (x.toNat + 1)) % 64 - 1 : Nat) : Int)) :: xs) :: L = (x :: xs) :: L
    rw [show (((encR xs (encLL L) * 64 + (x.toNat + 1)) % 64 - 1 : Nat) : Int) = x by omega]
theorem decLL_enc : ∀ (L : List (List Int)) (f : Nat), L.all okRow = true → encLL L ≤ f → decLL f (encLL L) = L
  | [], f, _, hf => by
    have hf : 1 ≤ f := hf
    obtain ⟨g, rfl⟩ : ∃ g, f = g + 1 := ⟨f - 1, by omega⟩
    show decLL (g + 1) 1 = []
    rw [decLL, if_pos (Nat.le_refl _)]
  | r :: rs, f, h, hf => by
    have h : okRow r = true ∧ rs.all okRow = true := by simpa using h
    exact decLL_R r rs f h.1 (fun g hg => decLL_enc rs g h.2 hg) hf
theorem unLL_enc {L : List (List Int)} (h : L.all okRow = true) : unLL (encLL L) = L := decLL_enc L _ h (Nat.le_refl _)
theorem putR_all {p : List Int → Bool} : ∀ (rs acc : List (List Int)), rs.all p = true → acc.all p = true → (rs.foldl putR acc).all p = true
  | [], acc, _, h => h
  | r :: rs, acc, h1, h2 => by
    have h1 : p r = true ∧ rs.all p = true := by simpa using h1
    refine putR_all rs (putR acc r) h1.2 ?_
    unfold putR
    split
    · exact h2
    · rw [List.all_append, h2]
      simp [h1.1]
end M

namespace M
open PySem (Str)
/-- the errors that are raised -/
def errsT : List Str := [tx "NoRule", tx "NoNumber"]

/- is_whole(thing); slots: 0:thing -/
def m_is_whole : MS :=
  (mSeq [(mRet (mAnd (mOp (opIsK "int") [(mVar 0)]) (mNot (mOp (opIsK "bool") [(mVar 0)]))))])
def sem_is_whole : Fn := mkFn 1 [] m_is_whole

/- is_from(thing, least, most); slots: 0:thing 1:least 2:most -/
def m_is_from : MS :=
  (mSeq [(mRet (mAnd (mCall sem_is_whole [(mVar 0)]) (mChain opLe opLe (mVar 1) (mVar 0) (mVar 2))))])
def sem_is_from : Fn := mkFn 3 [] m_is_from

/- must_rule(rule); slots: 0:rule -/
def m_must_rule : MS :=
  (mSeq [(mIf (mOr (mNot (mOp (opIsK "str") [(mVar 0)])) (mOp opNotIn [(mVar 0), (mTup [(mK (.str (tx "any"))), (mK (.str (tx "unlike")))])])) (mSeq [(mRaise (tx "NoRule"))]) (mSeq []))])
def sem_must_rule : Fn := mkFn 1 [] m_must_rule

/- must_number(thing, least, most); slots: 0:thing 1:least 2:most -/
def m_must_number : MS :=
  (mSeq [(mIf (mNot (mCall sem_is_from [(mVar 0), (mVar 1), (mVar 2)])) (mSeq [(mRaise (tx "NoNumber"))]) (mSeq []))])
def sem_must_number : Fn := mkFn 3 [] m_must_number

/- must_lots(n, rule); slots: 0:n 1:rule -/
def m_must_lots : MS :=
  (mSeq [(mExpr (mCall sem_must_number [(mVar 0), (mK (.int 0)), (mK (.int 14))])), (mExpr (mCall sem_must_rule [(mVar 1)]))])
def sem_must_lots : Fn := mkFn 2 [] m_must_lots

/- may_come(lot, number, rule); slots: 0:lot 1:number 2:rule 3:a 4:b -/
def lb_may_come_1 : MS :=
  (mSeq [(mSet 4 (mOp opSub [(mVar 1), (mVar 3)])), (mIf (mAnd (mOp opIn [(mVar 4), (mVar 0)]) (mOr (mOp opEq [(mVar 2), (mK (.str (tx "any")))]) (mOp opNe [(mVar 3), (mVar 4)]))) (mSeq [(mRet (mK (.bl false)))]) (mSeq []))])
def m_may_come : MS :=
  (mSeq [(mFor (miSeq (mVar 0)) (.one 3) [3, 4] lb_may_come_1), (mRet (mK (.bl true)))])
def sem_may_come : Fn := mkFn 3 [false, false] m_may_come

/- all_free(n, rule); slots: 0:n 1:rule 2:found 3:number 4:lot -/
def lb_all_free_1 : MS :=
  (mSeq [(mSet 2 (mOp opAdd [(mVar 2), (mLc (miSeq (mVar 2)) (.one 4) [4] (some (mCall sem_may_come [(mVar 4), (mVar 3), (mVar 1)])) (mOp opAdd [(mVar 4), (mTup [(mVar 3)])]))]))])
def m_all_free : MS :=
  (mSeq [(mSet 2 (mList [(mTup [])])), (mFor (miRange2 (mK (.int 1)) (mOp opAdd [(mVar 0), (mK (.int 1))])) (.one 3) [3] lb_all_free_1), (mRet (mOp opSortedL0 [(mVar 2)]))])
def sem_all_free : Fn := mkFn 2 [false, false, false] m_all_free

/- free_many(n, rule); slots: 0:n 1:rule -/
def m_free_many : MS :=
  (mSeq [(mExpr (mCall sem_must_lots [(mVar 0), (mVar 1)])), (mRet (mOp opLen [(mCall sem_all_free [(mVar 0), (mVar 1)])]))])
def sem_free_many : Fn := mkFn 2 [] m_free_many

/- most_free(n, rule); slots: 0:n 1:rule 2:found 3:most 4:lot -/
def m_most_free : MS :=
  (mSeq [(mExpr (mCall sem_must_lots [(mVar 0), (mVar 1)])), (mSet 2 (mCall sem_all_free [(mVar 0), (mVar 1)])), (mSet 3 (mOp opMaxL [(mLc (miSeq (mVar 2)) (.one 4) [4] none (mOp opLen [(mVar 4)]))])), (mRet (mLc (miSeq (mVar 2)) (.one 4) [4] (some (mOp opEq [(mOp opLen [(mVar 4)]), (mVar 3)])) (mVar 4)))])
def sem_most_free : Fn := mkFn 2 [false, false, false] m_most_free

/- full_free(n, rule); slots: 0:n 1:rule 2:known 3:lot 4:found 5:rest 6:number -/
def lb_full_free_1 : MS :=
  (mSeq [(mSet 5 (mLc (miRange2 (mK (.int 1)) (mOp opAdd [(mVar 0), (mK (.int 1))])) (.one 6) [6] (some (mOp opNotIn [(mVar 6), (mVar 3)])) (mVar 6))), (mIf (mNot (mOp opAny [(mLc (miSeq (mVar 5)) (.one 6) [6] none (mOp opInT [(mOp opTuple [(mOp opSortedT [(mOp opAdd [(mVar 3), (mTup [(mVar 6)])])])]), (mVar 2)]))])) (mSeq [(mAppend 4 (mVar 3))]) (mSeq []))])
def m_full_free : MS :=
  (mSeq [(mExpr (mCall sem_must_lots [(mVar 0), (mVar 1)])), (mSet 2 (mOp opDictT [(mLc (miSeq (mCall sem_all_free [(mVar 0), (mVar 1)])) (.one 3) [3] none (mTup [(mVar 3), (mK (.bl true))]))])), (mSetC 4 (mList [])), (mFor (miSeq (mOp opSortedDT [(mVar 2)])) (.one 3) [3, 5] lb_full_free_1), (mRet (mVar 4))])
def sem_full_free : Fn := mkFnK 2 [false, false, true, false, false] m_full_free

/- _law_cell_at(_law_script, _law_k); slots: 0:_law_script 1:_law_k -/
def m__law_cell_at : MS :=
  (mSeq [(mIf (mOp opLt [(mVar 1), (mOp opLen [(mVar 0)])]) (mSeq [(mRet (mOp opGet [(mVar 0), (mVar 1)]))]) (mSeq [])), (mRet (mK (.int 0)))])
def sem__law_cell_at : Fn := mkFn 2 [] m__law_cell_at

/- _law_state(_law_script, _law_k); slots: 0:_law_script 1:_law_k 2:_law_cell -/
def m__law_state : MS :=
  (mSeq [(mSet 2 (mCall sem__law_cell_at [(mVar 0), (mVar 1)])), (mRet (mList [(mOp opMax2 [(mK (.int 0)), (mOp opSub [(mVar 2), (mOp opPow [(mK (.int 10)), (mK (.int 18))])])]), (mOp opMod [(mVar 2), (mK (.int 2147483647))])]))])
def sem__law_state : Fn := mkFn 2 [false] m__law_state

/- _law_take(_law_state_here, _law_many); slots: 0:_law_state_here 1:_law_many 2:_law_found 3:_law_mixed -/
def m__law_take : MS :=
  (mSeq [(mIf (mOp opGe [(mOp opGet [(mVar 0), (mK (.int 0))]), (mVar 1)]) (mSeq [(mSet 2 (mOp opMod [(mOp opGet [(mVar 0), (mK (.int 0))]), (mVar 1)])), (mSetIx 0 (mK (.int 0)) (mOp opDiv [(mOp opGet [(mVar 0), (mK (.int 0))]), (mVar 1)]) putL), (mRet (mVar 2))]) (mSeq [])), (mSetIx 0 (mK (.int 1)) (mOp opMod [(mOp opAdd [(mOp opMul [(mOp opGet [(mVar 0), (mK (.int 1))]), (mK (.int 48271))]), (mK (.int 29))]), (mK (.int 2147483647))]) putL), (mSet 3 (mOp opMod [(mOp opAdd [(mOp opAdd [(mOp opMul [(mOp opGet [(mVar 0), (mK (.int 1))]), (mOp opGet [(mVar 0), (mK (.int 1))])]), (mOp opMul [(mK (.int 39373)), (mOp opGet [(mVar 0), (mK (.int 1))])])]), (mK (.int 7))]), (mK (.int 2147483629))])), (mSet 3 (mOp opMod [(mOp opAdd [(mOp opMul [(mVar 3), (mVar 3)]), (mOp opMul [(mK (.int 16807)), (mVar 3)])]), (mK (.int 2147483587))])), (mRet (mOp opMod [(mOp opDiv [(mVar 3), (mK (.int 8))]), (mVar 1)]))])
def sem__law_take : Fn := mkFn 2 [false, false] m__law_take

/- _law_free(_law_n, _law_rule); slots: 0:_law_n 1:_law_rule 2:_law_found 3:_law_number 4:_law_longer 5:_law_lot 6:_law_some 7:_law_one -/
def lb__law_free_2 : MS :=
  (mSeq [(mSet 6 (mLc (miSeq (mVar 5)) (.one 7) [7] (some (mOp opIn [(mOp opAdd [(mVar 7), (mVar 3)]), (mVar 5)])) (mVar 7))), (mIf (mAnd (mOp opEq [(mVar 6), (mList [])]) (mOr (mOp opEq [(mVar 1), (mK (.str (tx "unlike")))]) (mOp opNotIn [(mOp opMul [(mK (.int 2)), (mVar 3)]), (mVar 5)]))) (mSeq [(mAppend 4 (mOp opAdd [(mTup [(mVar 3)]), (mVar 5)]))]) (mSeq []))])
def lb__law_free_1 : MS :=
  (mSeq [(mSetC 4 (mList [])), (mFor (miSeq (mVar 2)) (.one 5) [5, 6] lb__law_free_2), (mSet 2 (mOp opAdd [(mVar 2), (mVar 4)]))])
def m__law_free : MS :=
  (mSeq [(mSet 2 (mList [(mTup [])])), (mFor (miDown (mVar 0) (mK (.int 0))) (.one 3) [3, 5, 6] lb__law_free_1), (mRet (mOp opSortedL0 [(mVar 2)]))])
def sem__law_free : Fn := mkFn 2 [false, false, true, false, false, false] m__law_free

/- _law_lists_right(_law_n, _law_rule); slots: 0:_law_n 1:_law_rule 2:_law_free_here 3:_law_known 4:_law_lot 5:_law_most 6:_law_full 7:_law_more 8:_law_number 9:_law_one 10:_law_many 11:_law_call 12:_law_due 13:_law_turn 14:_law_found -/
def lb__law_lists_right_1 : MS :=
  (mSeq [(mSet 7 (mLc (miRange2 (mK (.int 1)) (mOp opAdd [(mVar 0), (mK (.int 1))])) (.one 8) [8] (some (mOp opNotIn [(mVar 8), (mVar 4)])) (mOp opTuple [(mOp opSortedT [(mOp opAdd [(mVar 4), (mTup [(mVar 8)])])])]))), (mIf (mOp opEq [(mLc (miSeq (mVar 7)) (.one 9) [9] (some (mOp opInT [(mVar 9), (mVar 3)])) (mVar 9)), (mList [])]) (mSeq [(mAppend 6 (mVar 4))]) (mSeq []))])
def lb__law_lists_right_3 : MS :=
  (mSeq [(mSetC 14 (mCallF [((tx "most_free"), sem_most_free), ((tx "full_free"), sem_full_free)] 11 [(mVar 0), (mVar 1)])), (mIf (mOr (mNot (mOp (opIsK "list") [(mVar 14)])) (mOp opNe [(mVar 14), (mVar 12)])) (mSeq [(mRet (mK (.bl false)))]) (mSeq [])), (mAppend 14 (mTup [])), (mReverse 14)])
def lb__law_lists_right_2 : MS :=
  (mSeq [(mFor (miRange1 (mK (.int 2))) (.one 13) [13] lb__law_lists_right_3)])
def m__law_lists_right : MS :=
  (mSeq [(mSet 2 (mCall sem__law_free [(mVar 0), (mVar 1)])), (mSet 3 (mOp opDictT [(mLc (miSeq (mVar 2)) (.one 4) [4] none (mTup [(mVar 4), (mK (.bl true))]))])), (mSet 5 (mOp opMaxL [(mLc (miSeq (mVar 2)) (.one 4) [4] none (mOp opLen [(mVar 4)]))])), (mSetC 6 (mList [])), (mFor (miSeq (mVar 2)) (.one 4) [7] lb__law_lists_right_1), (mSet 10 (mCall sem_free_many [(mVar 0), (mVar 1)])), (mIf (mOr (mOp (opIsK "bool") [(mVar 10)]) (mOp opNe [(mVar 10), (mOp opLen [(mVar 2)])])) (mSeq [(mRet (mK (.bl false)))]) (mSeq [])), (mFrz 6 (mSeq [(mFor (miSeq (mList [(mTup [(mK (.fn (tx "most_free"))), (mLc (miSeq (mVar 2)) (.one 4) [4] (some (mOp opEq [(mOp opLen [(mVar 4)]), (mVar 5)])) (mVar 4))]), (mTup [(mK (.fn (tx "full_free"))), (mVar 6)])])) (.many [11, 12]) [4, 11, 12, 13] lb__law_lists_right_2), (mRet (mK (.bl true)))]))])
def sem__law_lists_right : Fn := mkFnK 2 [false, false, false, false, true, false, false, false, false, false, false, false, true] m__law_lists_right

/- law(_law_script); slots: 0:_law_script 1:_law_k 2:_law_state_here 3:_law_n 4:_law_rule -/
def lb_law_1 : MS :=
  (mSeq [(mSetC 2 (mCall sem__law_state [(mVar 0), (mVar 1)])), (mPar [3, 4] [(mCall sem__law_take [(mVar 2), (mOp opGet [(mList [(mK (.int 12)), (mK (.int 12)), (mK (.int 12)), (mK (.int 15))]), (mCall sem__law_take [(mVar 2), (mK (.int 4))])])]), (mOp opGet [(mList [(mK (.str (tx "any"))), (mK (.str (tx "unlike")))]), (mCall sem__law_take [(mVar 2), (mK (.int 2))])])]), (mIf (mNot (mCall sem__law_lists_right [(mVar 3), (mVar 4)])) (mSeq [(mRet (mK (.bl false)))]) (mSeq []))])
def m_law : MS :=
  (mSeq [(mFor (miRange1 (mOp opMax2 [(mK (.int 1)), (mOp opMin2 [(mOp opLen [(mVar 0)]), (mK (.int 2))])])) (.one 1) [1, 3, 4] lb_law_1), (mRet (mAnd (mCall sem__law_lists_right [(mK (.int 0)), (mK (.str (tx "any")))]) (mAnd (mCall sem__law_lists_right [(mK (.int 7)), (mK (.str (tx "any")))]) (mCall sem__law_lists_right [(mK (.int 7)), (mK (.str (tx "unlike")))]))))])
def sem_law : Fn := mkFn 1 [false, true, false, false] m_law

end M
/-! PB: plain facts of the small language, by typed data. -/
namespace MP
open M
open PySem (Str)
/-! ### how the small language runs, from left to right: what is still to be done is kept as text -/
section
variable {g : Clos} {e : Env} {S : Sto}
/-! expressions -/
@[scoped simp] theorem r_mK (x : D) : mK x g e S = .ok (.d x) S := (rfl)
def varOut (a : Option (Option A)) (S : Sto) : O R := match a with
  | some (some (.d x)) => .ok (.d x) S
  | some (some (.c n)) => if (cellOf S n).isSome then .ok (.c n) S else .no
  | _ => .no
@[scoped simp] theorem r_mVar (i : Nat) : mVar i g e S = varOut e[i]? S := by
  unfold mVar varOut; split <;> simp_all
@[scoped simp] theorem varOut_d (x : D) : varOut (some (some (.d x))) S = .ok (.d x) S := (rfl)
@[scoped simp] theorem varOut_c (n : Nat) : varOut (some (some (.c n))) S = if (cellOf S n).isSome then .ok (.c n) S else .no := (rfl)
def evRs2 (r : R) (o : O (List R)) : O (List R) := o.bind fun rs S2 => .ok (r :: rs) S2
@[scoped simp] theorem evRs2_ok (r : R) (rs : List R) : evRs2 r (.ok rs S) = .ok (r :: rs) S := (rfl)
@[scoped simp] theorem evRs2_ex (r : R) (c : Str) : evRs2 r (.ex c S) = .ex c S := (rfl)
def evRs1 (o : O R) (ms : List ME) (g : Clos) (e : Env) : O (List R) := o.bind fun r S1 => evRs2 r (evRs ms g e S1)
@[scoped simp] theorem evRs1_ok (r : R) (ms : List ME) : evRs1 (.ok r S) ms g e = evRs2 r (evRs ms g e S) := (rfl)
@[scoped simp] theorem evRs1_ex (c : Str) (ms : List ME) : evRs1 (.ex c S) ms g e = .ex c S := (rfl)
@[scoped simp] theorem r_evRs_nil : evRs [] g e S = .ok [] S := (rfl)
@[scoped simp] theorem r_evRs_cons (m : ME) (ms : List ME) : evRs (m :: ms) g e S = evRs1 (m g e S) ms g e := (rfl)
def toD1 (o : O R) : O D := o.bind fun r S => toD r S
@[scoped simp] theorem toD1_ok (r : R) : toD1 (.ok r S) = toD r S := (rfl)
@[scoped simp] theorem toD1_ex (c : Str) : toD1 (.ex c S) = .ex c S := (rfl)
@[scoped simp] theorem r_evD (m : ME) : evD m g e S = toD1 (m g e S) := (rfl)
def evDs2 (x : D) (o : O (List D)) : O (List D) := o.bind fun xs S3 => .ok (x :: xs) S3
@[scoped simp] theorem evDs2_ok (x : D) (xs : List D) : evDs2 x (.ok xs S) = .ok (x :: xs) S := (rfl)
@[scoped simp] theorem evDs2_ex (x : D) (c : Str) : evDs2 x (.ex c S) = .ex c S := (rfl)
def evDs1 (o : O D) (ms : List ME) (g : Clos) (e : Env) : O (List D) := o.bind fun x S2 => evDs2 x (evDs ms g e S2)
@[scoped simp] theorem evDs1_ok (x : D) (ms : List ME) : evDs1 (.ok x S) ms g e = evDs2 x (evDs ms g e S) := (rfl)
@[scoped simp] theorem evDs1_ex (c : Str) (ms : List ME) : evDs1 (.ex c S) ms g e = .ex c S := (rfl)
@[scoped simp] theorem r_evDs_nil : evDs [] g e S = .ok [] S := (rfl)
@[scoped simp] theorem r_evDs_cons (m : ME) (ms : List ME) : evDs (m :: ms) g e S = evDs1 (toD1 (m g e S)) ms g e := by
  rw [evDs]; unfold evDs1 toD1 evDs2; rw [O.bind_bind]
def consO (a : Option D) (b : Option (List D)) : Option (List D) := match a with
    | some x => (match b with
      | some xs => some (x :: xs)
      | none => none)
    | none => none
@[scoped simp] theorem r_views_nil : views S [] = some [] := (rfl)
@[scoped simp] theorem r_views_cons (r : R) (rs : List R) : views S (r :: rs) = consO (view S r) (views S rs) := (rfl)
@[scoped simp] theorem consO_some (x : D) (xs : List D) : consO (some x) (some xs) = some (x :: xs) := (rfl)
def opOut (f : List D → Option R) (o : Option (List D)) (S : Sto) : O R := match o with
  | some xs => (match f xs with
    | some r => .ok r S
    | none => .no)
  | none => .no
def outR (o : Option R) (S : Sto) : O R := match o with
  | some r => .ok r S
  | none => .no
def opRun (f : List D → Option R) (o : O (List R)) : O R := o.bind fun rs S1 => opOut f (views S1 rs) S1
@[scoped simp] theorem opRun_ok (f : List D → Option R) (rs : List R) : opRun f (.ok rs S) = opOut f (views S rs) S := (rfl)
@[scoped simp] theorem opRun_ex (f : List D → Option R) (c : Str) : opRun f (.ex c S) = .ex c S := (rfl)
@[scoped simp] theorem r_mOp (f : List D → Option R) (ms : List ME) : mOp f ms g e S = opRun f (evRs ms g e S) := (rfl)
@[scoped simp] theorem opOut_some (f : List D → Option R) (xs : List D) : opOut f (some xs) S = outR (f xs) S := (rfl)
@[scoped simp] theorem outR_some (r : R) : outR (some r) S = .ok r S := (rfl)
def tupRun (o : O (List D)) : O R := o.bind fun xs S1 => .ok (.d (.tup xs)) S1
@[scoped simp] theorem tupRun_ok (xs : List D) : tupRun (.ok xs S) = .ok (.d (.tup xs)) S := (rfl)
@[scoped simp] theorem tupRun_ex (c : Str) : tupRun (.ex c S) = .ex c S := (rfl)
def lstRun (o : O (List D)) : O R := o.bind fun xs S1 => .ok (.f (.l xs)) S1
@[scoped simp] theorem lstRun_ok (xs : List D) : lstRun (.ok xs S) = .ok (.f (.l xs)) S := (rfl)
@[scoped simp] theorem lstRun_ex (c : Str) : lstRun (.ex c S) = .ex c S := (rfl)
@[scoped simp] theorem r_mTup (ms : List ME) : mTup ms g e S = tupRun (evDs ms g e S) := (rfl)
@[scoped simp] theorem r_mList (ms : List ME) : mList ms g e S = lstRun (evDs ms g e S) := (rfl)
@[scoped simp] theorem r_mDict0 : mDict0 g e S = .ok (.f (.k [] [])) S := (rfl)
def bOut (r : R) (S : Sto) : O Bool := match asB r with
  | some b => .ok b S
  | none => .no
@[scoped simp] theorem bOut_bl (b : Bool) : bOut (.d (.bl b)) S = .ok b S := (rfl)
def bRun (o : O R) : O Bool := o.bind bOut
@[scoped simp] theorem bRun_ok (r : R) : bRun (.ok r S) = bOut r S := (rfl)
@[scoped simp] theorem bRun_ex (c : Str) : bRun (.ex c S) = .ex c S := (rfl)
@[scoped simp] theorem r_evB (m : ME) : evB m g e S = bRun (m g e S) := (rfl)
@[scoped simp] theorem r_evC_none : evC none g e S = .ok true S := (rfl)
@[scoped simp] theorem r_evC_some (m : ME) : evC (some m) g e S = bRun (m g e S) := (rfl)
def andRun (o : O Bool) (b : ME) (g : Clos) (e : Env) : O R := o.bind fun c S1 => if c = true then b g e S1 else .ok (.d (.bl false)) S1
@[scoped simp] theorem andRun_ok (c : Bool) (b : ME) : andRun (.ok c S) b g e = if c = true then b g e S else .ok (.d (.bl false)) S := (rfl)
@[scoped simp] theorem r_mAnd (a b : ME) : mAnd a b g e S = andRun (bRun (a g e S)) b g e := by
  unfold mAnd andRun; rw [r_evB]; congr 1; funext c S1; cases c <;> rfl
def orRun (o : O Bool) (b : ME) (g : Clos) (e : Env) : O R := o.bind fun c S1 => if c = true then .ok (.d (.bl true)) S1 else b g e S1
@[scoped simp] theorem orRun_ok (c : Bool) (b : ME) : orRun (.ok c S) b g e = if c = true then .ok (.d (.bl true)) S else b g e S := (rfl)
@[scoped simp] theorem r_mOr (a b : ME) : mOr a b g e S = orRun (bRun (a g e S)) b g e := by
  unfold mOr orRun; rw [r_evB]; congr 1; funext c S1; cases c <;> rfl
def notRun (o : O Bool) : O R := o.bind fun c S1 => .ok (.d (.bl (!c))) S1
@[scoped simp] theorem notRun_ok (c : Bool) : notRun (.ok c S) = .ok (.d (.bl (!c))) S := (rfl)
@[scoped simp] theorem r_mNot (a : ME) : mNot a g e S = notRun (bRun (a g e S)) := (rfl)
def ifeRun (o : O Bool) (a b : ME) (g : Clos) (e : Env) : O R := o.bind fun c S1 => if c = true then a g e S1 else b g e S1
@[scoped simp] theorem ifeRun_ok (c : Bool) (a b : ME) : ifeRun (.ok c S) a b g e = if c = true then a g e S else b g e S := (rfl)
@[scoped simp] theorem r_mIfE (c a b : ME) : mIfE c a b g e S = ifeRun (bRun (c g e S)) a b g e := by
  unfold mIfE ifeRun; rw [r_evB]; congr 1; funext c S1; cases c <;> rfl
def ch3 (f' : List D → Option R) (r2 : R) (o : O R) : O R := o.bind fun r3 S3 => opOut f' (consO (view S3 r2) (consO (view S3 r3) (some []))) S3
@[scoped simp] theorem ch3_ok (f' : List D → Option R) (r2 r3 : R) : ch3 f' r2 (.ok r3 S) = opOut f' (consO (view S r2) (consO (view S r3) (some []))) S := (rfl)
def chOut (f' : List D → Option R) (r2 : R) (c : ME) (g : Clos) (e : Env) (S2 : Sto) (a : Option R) : O R := match a with
  | some (.d (.bl b)) => if b = true then ch3 f' r2 (c g e S2) else .ok (.d (.bl false)) S2
  | _ => .no
def opO (f : List D → Option R) (o : Option (List D)) : Option R := match o with
  | some xs => f xs
  | none => none
@[scoped simp] theorem opO_some (f : List D → Option R) (xs : List D) : opO f (some xs) = f xs := (rfl)
@[scoped simp] theorem chOut_bl (f' : List D → Option R) (r2 : R) (c : ME) (b : Bool) : chOut f' r2 c g e S (some (.d (.bl b))) = if b = true then ch3 f' r2 (c g e S) else .ok (.d (.bl false)) S := (rfl)
def ch2 (f f' : List D → Option R) (c : ME) (r1 : R) (o : O R) (g : Clos) (e : Env) : O R := o.bind fun r2 S2 => chOut f' r2 c g e S2 (opO f (consO (view S2 r1) (consO (view S2 r2) (some []))))
@[scoped simp] theorem ch2_ok (f f' : List D → Option R) (c : ME) (r1 r2 : R) : ch2 f f' c r1 (.ok r2 S) g e = chOut f' r2 c g e S (opO f (consO (view S r1) (consO (view S r2) (some [])))) := (rfl)
def ch1 (f f' : List D → Option R) (b c : ME) (o : O R) (g : Clos) (e : Env) : O R := o.bind fun r1 S1 => ch2 f f' c r1 (b g e S1) g e
@[scoped simp] theorem ch1_ok (f f' : List D → Option R) (b c : ME) (r1 : R) : ch1 f f' b c (.ok r1 S) g e = ch2 f f' c r1 (b g e S) g e := (rfl)
@[scoped simp] theorem r_mChain (f f' : List D → Option R) (a b c : ME) : mChain f f' a b c g e S = ch1 f f' b c (a g e S) g e := by
  unfold mChain ch1 ch2; congr 1; funext r1 S1; congr 1; funext r2 S2
  cases h1 : view S2 r1 with
  | none => rfl
  | some x =>
    cases h2 : view S2 r2 with
    | none => rfl
    | some y =>
      show (match f [x, y] with
        | some (.d (.bl true)) => _
        | some (.d (.bl false)) => _
        | _ => _) = chOut f' r2 c g e S2 (f [x, y])
      cases h3 : f [x, y] with
      | none => rfl
      | some r =>
        cases r with
        | d z =>
          cases z with
          | bl b =>
            cases b with
            | true =>
              simp only [chOut_bl, if_pos, ch3]
              congr 1; funext r3 S3
              cases view S3 r2 with
              | none => rfl
              | some y' => cases view S3 r3 <;> rfl
            | false => rfl
          | _ => rfl
        | _ => rfl
def callRun (F : Fn) (g : Clos) (o : O (List R)) : O R := o.bind fun rs S1 => F g (rs.map toA) S1
@[scoped simp] theorem callRun_ok (F : Fn) (rs : List R) : callRun F g (.ok rs S) = F g (rs.map toA) S := (rfl)
@[scoped simp] theorem callRun_ex (F : Fn) (c : Str) : callRun F g (.ex c S) = .ex c S := (rfl)
@[scoped simp] theorem r_mCall (F : Fn) (ms : List ME) : mCall F ms g e S = callRun F g (evRs ms g e S) := (rfl)
def slOut (r1 : R) (i : Int) (r3 : R) (S3 : Sto) : O R := match r3, view S3 r1 with
    | .d (.int j), some x => (match sliceD x (some i) (some j) with
      | some r => .ok r S3
      | none => .no)
    | _, _ => .no
def slO (o : Option D) (i j : Int) (S : Sto) : O R := match o with
  | some x => outR (sliceD x (some i) (some j)) S
  | none => .no
@[scoped simp] theorem slO_some (x : D) (i j : Int) : slO (some x) i j S = outR (sliceD x (some i) (some j)) S := (rfl)
@[scoped simp] theorem slOut_int (r1 : R) (i j : Int) : slOut r1 i (.d (.int j)) S = slO (view S r1) i j S := by
  simp only [slOut]; cases view S r1 <;> rfl
def sl3 (r1 : R) (i : Int) (o : O R) : O R := o.bind fun r3 S3 => slOut r1 i r3 S3
@[scoped simp] theorem sl3_ok (r1 r3 : R) (i : Int) : sl3 r1 i (.ok r3 S) = slOut r1 i r3 S := (rfl)
def slOut2 (r1 : R) (mc : ME) (g : Clos) (e : Env) (r2 : R) (S2 : Sto) : O R := match r2 with
  | .d (.int i) => sl3 r1 i (mc g e S2)
  | _ => .no
@[scoped simp] theorem slOut2_int (r1 : R) (mc : ME) (i : Int) : slOut2 r1 mc g e (.d (.int i)) S = sl3 r1 i (mc g e S) := (rfl)
def sl2 (r1 : R) (mc : ME) (o : O R) (g : Clos) (e : Env) : O R := o.bind fun r2 S2 => slOut2 r1 mc g e r2 S2
@[scoped simp] theorem sl2_ok (r1 r2 : R) (mc : ME) : sl2 r1 mc (.ok r2 S) g e = slOut2 r1 mc g e r2 S := (rfl)
def sl1 (mb mc : ME) (o : O R) (g : Clos) (e : Env) : O R := o.bind fun r1 S1 => sl2 r1 mc (mb g e S1) g e
@[scoped simp] theorem sl1_ok (mb mc : ME) (r : R) : sl1 mb mc (.ok r S) g e = sl2 r mc (mb g e S) g e := (rfl)
@[scoped simp] theorem r_mSlLH (ma mb mc : ME) : mSlLH ma mb mc g e S = sl1 mb mc (ma g e S) g e := by
  unfold mSlLH sl1 sl2; rfl
@[scoped simp] theorem r_view_d (x : D) : view S (.d x) = some x := (rfl)
@[scoped simp] theorem r_view_f (v : C) : view S (.f v) = some v.froz := (rfl)
@[scoped simp] theorem r_view_c (n : Nat) : view S (.c n) = (cellOf S n).map C.froz := (rfl)
@[scoped simp] theorem r_toD_d (x : D) : toD (.d x) S = .ok x S := (rfl)
@[scoped simp] theorem r_toD_f (v : C) : toD (.f v) S = .ok v.froz S := (rfl)
def toDc (o : Option C) (n : Nat) (S : Sto) : O D := match o with
  | some v => .ok v.froz (S.set n none)
  | none => .no
@[scoped simp] theorem r_toD_c (n : Nat) : toD (.c n) S = toDc (cellOf S n) n S := (rfl)
@[scoped simp] theorem toDc_some (v : C) (n : Nat) : toDc (some v) n S = .ok v.froz (S.set n none) := (rfl)
@[scoped simp] theorem r_toA_d (x : D) : toA (.d x) = .d x := (rfl)
@[scoped simp] theorem r_toA_f (v : C) : toA (.f v) = .d v.froz := (rfl)
@[scoped simp] theorem r_toA_c (n : Nat) : toA (.c n) = .c n := (rfl)
@[scoped simp] theorem r_froz_l (xs : List D) : C.froz (.l xs) = .lst xs := (rfl)
@[scoped simp] theorem r_froz_k (ks vs : List D) : C.froz (.k ks vs) = .dct ks vs := (rfl)
/-! what is walked -/
def seqO1 (o : Option (List D × Option (Nat × C))) (S : Sto) : O It := match o with
    | some (xs, fz) => .ok ⟨xs, fz⟩ (shut fz S)
    | none => .no
@[scoped simp] theorem seqO1_some (xs : List D) (fz : Option (Nat × C)) : seqO1 (some (xs, fz)) S = .ok ⟨xs, fz⟩ (shut fz S) := (rfl)
def seqOut (r : R) (S1 : Sto) : O It := match r with
  | .d (.str s) => .ok ⟨chars s, none⟩ S1
  | r => seqO1 (itOf r S1) S1
@[scoped simp] theorem seqOut_tup (xs : List D) : seqOut (.d (.tup xs)) S = .ok ⟨xs, none⟩ S := (rfl)
@[scoped simp] theorem seqOut_lst (xs : List D) : seqOut (.d (.lst xs)) S = .ok ⟨xs, none⟩ S := (rfl)
@[scoped simp] theorem seqOut_f (c : C) : seqOut (.f c) S = seqO1 (itOf (.f c) S) S := (rfl)
@[scoped simp] theorem seqOut_c (n : Nat) : seqOut (.c n) S = seqO1 (itOf (.c n) S) S := (rfl)
@[scoped simp] theorem itOf_f' (xs : List D) : itOf (.f (.l xs)) S = some (xs, none) := (rfl)
def itC (o : Option C) (n : Nat) : Option (List D × Option (Nat × C)) := match o with
    | some (.l xs) => some (xs, some (n, .l xs))
    | _ => none
@[scoped simp] theorem itOf_c' (n : Nat) : itOf (.c n) S = itC (cellOf S n) n := (rfl)
@[scoped simp] theorem itC_l (xs : List D) (n : Nat) : itC (some (.l xs)) n = some (xs, some (n, .l xs)) := (rfl)
def seqRun (o : O R) : O It := o.bind seqOut
@[scoped simp] theorem seqRun_ok (r : R) : seqRun (.ok r S) = seqOut r S := (rfl)
@[scoped simp] theorem r_miSeq (m : ME) : miSeq m g e S = seqRun (m g e S) := by
  unfold miSeq seqRun; rfl
def rng1Out (r : R) (S : Sto) : O It := match r with
  | .d (.int n) => if okR n ∧ n.toNat ≤ LIM then .ok ⟨rangeD 0 n, none⟩ S else .no
  | _ => .no
def rng1Run (o : O R) : O It := o.bind rng1Out
@[scoped simp] theorem rng1Run_ok (r : R) : rng1Run (.ok r S) = rng1Out r S := (rfl)
@[scoped simp] theorem r_miRange1 (m : ME) : miRange1 m g e S = rng1Run (m g e S) := (rfl)
def rng2Out (r1 r2 : R) (S2 : Sto) : O It := match r1, r2 with
  | .d (.int a), .d (.int b) => if okR a ∧ okR b ∧ (b - a).toNat ≤ LIM then .ok ⟨rangeD a b, none⟩ S2 else .no
  | _, _ => .no
def rng2b (r1 : R) (o : O R) : O It := o.bind fun r2 S2 => rng2Out r1 r2 S2
@[scoped simp] theorem rng2b_ok (r1 r2 : R) : rng2b r1 (.ok r2 S) = rng2Out r1 r2 S := (rfl)
def rng2a (o : O R) (m2 : ME) (g : Clos) (e : Env) : O It := o.bind fun r1 S1 => rng2b r1 (m2 g e S1)
@[scoped simp] theorem rng2a_ok (r1 : R) (m2 : ME) : rng2a (.ok r1 S) m2 g e = rng2b r1 (m2 g e S) := (rfl)
@[scoped simp] theorem r_miRange2 (m1 m2 : ME) : miRange2 m1 m2 g e S = rng2a (m1 g e S) m2 g e := (rfl)
def enumRun (o : O R) : O It := o.bind fun r S1 => (match itOf r S1 with
    | some (xs, fz) => .ok ⟨enumD xs, fz⟩ (shut fz S1)
    | none => .no)
def enumO (o : Option (List D × Option (Nat × C))) (S : Sto) : O It := match o with
    | some (xs, fz) => .ok ⟨enumD xs, fz⟩ (shut fz S)
    | none => .no
@[scoped simp] theorem enumO_some (xs : List D) (fz : Option (Nat × C)) : enumO (some (xs, fz)) S = .ok ⟨enumD xs, fz⟩ (shut fz S) := (rfl)
@[scoped simp] theorem enumRun_ok (r : R) : enumRun (.ok r S) = enumO (itOf r S) S := (rfl)
@[scoped simp] theorem r_miEnum (m : ME) : miEnum m g e S = enumRun (m g e S) := (rfl)
/-! statements -/
def seqS (o : OS) (ms : List MS) (g : Clos) : OS := match o with
  | .nx e S => mSeq ms g e S
  | o => o
@[scoped simp] theorem seqS_nx (ms : List MS) : seqS (.nx e S) ms g = mSeq ms g e S := (rfl)
@[scoped simp] theorem seqS_rt (r : R) (ms : List MS) : seqS (.rt r S) ms g = .rt r S := (rfl)
@[scoped simp] theorem seqS_bk (ms : List MS) : seqS (.bk e S) ms g = .bk e S := (rfl)
@[scoped simp] theorem seqS_ct (ms : List MS) : seqS (.ct e S) ms g = .ct e S := (rfl)
@[scoped simp] theorem seqS_ex (c : Str) (ms : List MS) : seqS (.ex c e S) ms g = .ex c e S := (rfl)
@[scoped simp] theorem seqS_ite_nil {c : Prop} [Decidable c] (a b : OS) : seqS (if c then a else b) [] g = if c then seqS a [] g else seqS b [] g := by split <;> rfl
@[scoped simp] theorem seqS_no (ms : List MS) : seqS .no ms g = .no := (rfl)
@[scoped simp] theorem r_mSeq_nil : mSeq [] g e S = .nx e S := (rfl)
@[scoped simp] theorem r_mSeq_cons (m : MS) (ms : List MS) : mSeq (m :: ms) g e S = seqS (m g e S) ms g := by
  rw [mSeq]; unfold seqS; cases m g e S <;> rfl
@[scoped simp] theorem r_mPass : mPass g e S = .nx e S := (rfl)
@[scoped simp] theorem r_mBrk : mBrk g e S = .bk e S := (rfl)
@[scoped simp] theorem r_mCnt : mCnt g e S = .ct e S := (rfl)
def exprRun (o : O R) (e : Env) : OS := o.bindS e fun _ S1 => .nx e S1
@[scoped simp] theorem exprRun_ok (r : R) : exprRun (.ok r S) e = .nx e S := (rfl)
@[scoped simp] theorem exprRun_ex (c : Str) : exprRun (.ex c S) e = .ex c e S := (rfl)
@[scoped simp] theorem r_mExpr (m : ME) : mExpr m g e S = exprRun (m g e S) e := (rfl)
def retRun (o : O R) (e : Env) : OS := o.bindS e fun r S1 => .rt r S1
@[scoped simp] theorem retRun_ok (r : R) : retRun (.ok r S) e = .rt r S := (rfl)
@[scoped simp] theorem retRun_ex (c : Str) : retRun (.ex c S) e = .ex c e S := (rfl)
@[scoped simp] theorem r_mRet (m : ME) : mRet m g e S = retRun (m g e S) e := (rfl)
@[scoped simp] theorem r_mRetN : mRetN g e S = .rt (.d .non) S := (rfl)
@[scoped simp] theorem r_mRaise (c : Str) : mRaise c g e S = .ex c e S := (rfl)
def ifRun (o : O Bool) (a b : MS) (g : Clos) (e : Env) : OS := o.bindS e fun k S1 => if k = true then a g e S1 else b g e S1
@[scoped simp] theorem ifRun_ok (k : Bool) (a b : MS) : ifRun (.ok k S) a b g e = if k = true then a g e S else b g e S := (rfl)
@[scoped simp] theorem ifRun_ex (c : Str) (a b : MS) : ifRun (.ex c S) a b g e = .ex c e S := (rfl)
@[scoped simp] theorem r_mIf (c : ME) (a b : MS) : mIf c a b g e S = ifRun (bRun (c g e S)) a b g e := by
  unfold mIf ifRun; rw [r_evB]; congr 1; funext c S1; cases c <;> rfl
def setRun (i : Nat) (o : O D) (e : Env) : OS := o.bindS e fun x S1 => .nx (e.set i (some (.d x))) S1
@[scoped simp] theorem setRun_ok (i : Nat) (x : D) : setRun i (.ok x S) e = .nx (e.set i (some (.d x))) S := (rfl)
@[scoped simp] theorem setRun_ex (i : Nat) (c : Str) : setRun i (.ex c S) e = .ex c e S := (rfl)
@[scoped simp] theorem r_mSet (i : Nat) (m : ME) : mSet i m g e S = setRun i (toD1 (m g e S)) e := (rfl)
def setCO (r : R) (a : Option (Option A)) (e : Env) (S : Sto) : OS := match r, a with
  | .f v, some (some (.c n)) => .nx e (S.set n (some v))
  | _, _ => .no
@[scoped simp] theorem setCO_f (v : C) (n : Nat) : setCO (.f v) (some (some (.c n))) e S = .nx e (S.set n (some v)) := (rfl)
def setCRun (i : Nat) (o : O R) (e : Env) : OS := o.bindS e fun r S1 => setCO r e[i]? e S1
@[scoped simp] theorem setCRun_ok (i : Nat) (r : R) : setCRun i (.ok r S) e = setCO r e[i]? e S := (rfl)
@[scoped simp] theorem r_mSetC (i : Nat) (m : ME) : mSetC i m g e S = setCRun i (m g e S) e := (rfl)
def envO (o : Option Env) (S : Sto) : OS := match o with
  | some e' => .nx e' S
  | none => .no
@[scoped simp] theorem envO_some : envO (some e) S = .nx e S := (rfl)
def setTRun (is : List Nat) (o : O D) (e : Env) : OS := o.bindS e fun x S1 => envO ((Tg.many is).put x e) S1
@[scoped simp] theorem setTRun_ok (is : List Nat) (x : D) : setTRun is (.ok x S) e = envO ((Tg.many is).put x e) S := (rfl)
@[scoped simp] theorem r_mSetT (is : List Nat) (m : ME) : mSetT is m g e S = setTRun is (toD1 (m g e S)) e := (rfl)
def parRun (is : List Nat) (o : O (List R)) (e : Env) : OS := o.bindS e fun rs S1 => envO (parPut is rs e) S1
@[scoped simp] theorem parRun_ok (is : List Nat) (rs : List R) : parRun is (.ok rs S) e = envO (parPut is rs e) S := (rfl)
@[scoped simp] theorem r_mPar (is : List Nat) (ms : List ME) : mPar is ms g e S = parRun is (evRs ms g e S) e := (rfl)
def shiftO (i n : Nat) (e : Env) (r : R) (o : Option C) (S : Sto) : OS := match r, o with
    | .f w, some v => .nx (e.set i (some (.d v.froz))) (S.set n (some w))
    | _, _ => .no
@[scoped simp] theorem shiftO_f (i n : Nat) (w v : C) : shiftO i n e (.f w) (some v) S = .nx (e.set i (some (.d v.froz))) (S.set n (some w)) := (rfl)
def shiftRun (i n : Nat) (o : O R) (e : Env) : OS := o.bindS e fun r S1 => shiftO i n e r (cellOf S1 n) S1
@[scoped simp] theorem shiftRun_ok (i n : Nat) (r : R) : shiftRun i n (.ok r S) e = shiftO i n e r (cellOf S n) S := (rfl)
def shiftA (i : Nat) (m : ME) (a : Option (Option A)) (g : Clos) (e : Env) (S : Sto) : OS := match a with
  | some (some (.c n)) => if (cellOf S n).isNone then .no else shiftRun i n (m g e S) e
  | _ => .no
@[scoped simp] theorem shiftA_c (i : Nat) (m : ME) (n : Nat) : shiftA i m (some (some (.c n))) g e S = if (cellOf S n).isNone then .no else shiftRun i n (m g e S) e := (rfl)
@[scoped simp] theorem r_mShift (i j : Nat) (m : ME) : mShift i j m g e S = shiftA i m e[j]? g e S := (rfl)
def lstO (o : Option C) : Bool := match o with
  | some (.l _) => true
  | _ => false
@[scoped simp] theorem lstO_l (xs : List D) : lstO (some (.l xs)) = true := (rfl)
def hasLO (a : Option (Option A)) (S : Sto) : Bool := match a with
  | some (some (.c n)) => lstO (cellOf S n)
  | _ => false
@[scoped simp] theorem hasLO_c (n : Nat) : hasLO (some (some (.c n))) S = lstO (cellOf S n) := (rfl)
@[scoped simp] theorem r_hasL (i : Nat) : hasL i e S = hasLO e[i]? S := (rfl)
def hasCO (a : Option (Option A)) (S : Sto) : Bool := match a with
  | some (some (.c n)) => (cellOf S n).isSome
  | _ => false
@[scoped simp] theorem hasCO_c (n : Nat) : hasCO (some (some (.c n))) S = (cellOf S n).isSome := (rfl)
@[scoped simp] theorem r_hasC (i : Nat) : hasC i e S = hasCO e[i]? S := (rfl)
def upd2 (o : Option C) (n : Nat) (e : Env) (S : Sto) : OS := match o with
  | some v' => .nx e (S.set n (some v'))
  | none => .no
@[scoped simp] theorem upd2_some (v : C) (n : Nat) : upd2 (some v) n e S = .nx e (S.set n (some v)) := (rfl)
def upd1 (o : Option C) (f : C → Option C) (n : Nat) (e : Env) (S : Sto) : OS := match o with
  | some v => upd2 (f v) n e S
  | none => .no
@[scoped simp] theorem upd1_some (v : C) (f : C → Option C) (n : Nat) : upd1 (some v) f n e S = upd2 (f v) n e S := (rfl)
def updO (a : Option (Option A)) (f : C → Option C) (e : Env) (S : Sto) : OS := match a with
  | some (some (.c n)) => upd1 (cellOf S n) f n e S
  | _ => .no
@[scoped simp] theorem updO_c (n : Nat) (f : C → Option C) : updO (some (some (.c n))) f e S = upd1 (cellOf S n) f n e S := (rfl)
@[scoped simp] theorem r_updC (i : Nat) (f : C → Option C) : updC i e S f = updO e[i]? f e S := by
  unfold updC updO
  cases e[i]? with
  | none => rfl
  | some a =>
    cases a with
    | none => rfl
    | some b =>
      cases b with
      | d x => rfl
      | c n =>
        unfold upd1
        cases h : cellOf S n with
        | none => simp only [h]
        | some v =>
          simp only [h]
          unfold upd2
          cases h2 : f v <;> simp only [h2]
def appC (x : D) (v : C) : Option C := match v with
    | .l xs => if xs.length < LIM then some (.l (xs ++ [x])) else none
    | _ => none
def extC (ys : List D) (v : C) : Option C := match v with
    | .l xs => if xs.length + ys.length ≤ LIM then some (.l (xs ++ ys)) else none
    | _ => none
def appRun (i : Nat) (o : O D) (e : Env) : OS := o.bindS e fun x S1 => updC i e S1 (appC x)
@[scoped simp] theorem appRun_ok (i : Nat) (x : D) : appRun i (.ok x S) e = updO e[i]? (appC x) e S := r_updC i (appC x)
@[scoped simp] theorem r_mAppend (i : Nat) (m : ME) : mAppend i m g e S = if hasLO e[i]? S = false then .no else appRun i (toD1 (m g e S)) e := (rfl)
def extO (i : Nat) (o : Option D) (e : Env) (S : Sto) : OS := match o with
  | some (.lst ys) => updC i e S (extC ys)
  | _ => .no
@[scoped simp] theorem extO_lst (i : Nat) (ys : List D) : extO i (some (.lst ys)) e S = updO e[i]? (extC ys) e S := r_updC i (extC ys)
def extRun (i : Nat) (o : O R) (e : Env) : OS := o.bindS e fun r S1 => extO i (view S1 r) e S1
@[scoped simp] theorem extRun_ok (i : Nat) (r : R) : extRun i (.ok r S) e = extO i (view S r) e S := (rfl)
@[scoped simp] theorem r_mExtend (i : Nat) (m : ME) : mExtend i m g e S = if hasLO e[i]? S = false then .no else extRun i (m g e S) e := by
  unfold mExtend; rw [r_hasL]; split
  · rfl
  · unfold extRun; congr 1
def revC (v : C) : Option C := match v with
  | .l xs => some (.l xs.reverse)
  | _ => none
@[scoped simp] theorem revC_l (xs : List D) : revC (.l xs) = some (.l xs.reverse) := (rfl)
@[scoped simp] theorem r_mReverse (i : Nat) : mReverse i g e S = updO e[i]? revC e S := r_updC i revC
def setIx2 (i : Nat) (put : D → D → C → Option C) (x : D) (o : O D) (e : Env) : OS := o.bindS e fun y S2 => updC i e S2 (put y x)
@[scoped simp] theorem setIx2_ok (i : Nat) (put : D → D → C → Option C) (x y : D) : setIx2 i put x (.ok y S) e = updO e[i]? (put y x) e S := r_updC i (put y x)
def setIx1 (i : Nat) (j : ME) (put : D → D → C → Option C) (o : O D) (g : Clos) (e : Env) : OS := o.bindS e fun x S1 => if hasC i e S1 = false then .no else setIx2 i put x (toD1 (j g e S1)) e
@[scoped simp] theorem setIx1_ok (i : Nat) (j : ME) (put : D → D → C → Option C) (x : D) : setIx1 i j put (.ok x S) g e = if hasCO e[i]? S = false then .no else setIx2 i put x (toD1 (j g e S)) e := (rfl)
@[scoped simp] theorem r_mSetIx (i : Nat) (j m : ME) (put : D → D → C → Option C) : mSetIx i j m put g e S = setIx1 i j put (toD1 (m g e S)) g e := (rfl)
def forO (tg : Tg) (wp : List Nat) (body : MS) (g : Clos) (e : Env) (I : It) (S1 : Sto) : OS := match I.fz with
  | none => forL tg wp body g I.xs e S1
  | some _ => .no
@[scoped simp] theorem forO_none (tg : Tg) (wp : List Nat) (body : MS) (xs : List D) : forO tg wp body g e ⟨xs, none⟩ S = forL tg wp body g xs e S := (rfl)
def forRun (tg : Tg) (wp : List Nat) (body : MS) (g : Clos) (o : O It) (e : Env) : OS := o.bindS e fun I S1 => forO tg wp body g e I S1
@[scoped simp] theorem forRun_ok (tg : Tg) (wp : List Nat) (body : MS) (I : It) : forRun tg wp body g (.ok I S) e = forO tg wp body g e I S := (rfl)
@[scoped simp] theorem r_mFor (it : MI) (tg : Tg) (wp : List Nat) (body : MS) : mFor it tg wp body g e S = forRun tg wp body g (it g e S) e := (rfl)
@[scoped simp] theorem r_mWhile (fuel : Nat) (wp : List Nat) (c : ME) (body : MS) : mWhile fuel wp c body g e S = whileL wp c body g fuel e S := (rfl)
@[scoped simp] theorem r_put_one (i : Nat) (x : D) : (Tg.one i).put x e = some (e.set i (some (.d x))) := (rfl)
@[scoped simp] theorem r_put_tup (is : List Nat) (xs : List D) : (Tg.many is).put (.tup xs) e = setAll is xs e := (rfl)
@[scoped simp] theorem r_put_lst (is : List Nat) (xs : List D) : (Tg.many is).put (.lst xs) e = setAll is xs e := (rfl)
@[scoped simp] theorem r_setAll_nil : setAll [] [] e = some e := (rfl)
@[scoped simp] theorem r_setAll_cons (i : Nat) (is : List Nat) (x : D) (xs : List D) : setAll (i :: is) (x :: xs) e = setAll is xs (e.set i (some (.d x))) := (rfl)
@[scoped simp] theorem r_wipe_nil : wipe e [] = e := (rfl)
@[scoped simp] theorem r_wipe_cons (v : Nat) (vs : List Nat) : wipe e (v :: vs) = (wipe e vs).set v none := (rfl)
@[scoped simp] theorem r_parPut_nil : parPut [] [] e = some e := (rfl)
@[scoped simp] theorem r_parPut_d (i : Nat) (is : List Nat) (x : D) (rs : List R) : parPut (i :: is) (.d x :: rs) e = parPut is rs (e.set i (some (.d x))) := (rfl)
@[scoped simp] theorem r_shut_none : shut none S = S := (rfl)
@[scoped simp] theorem r_shut_some (n : Nat) (c : C) : shut (some (n, c)) S = S.set n none := (rfl)
@[scoped simp] theorem r_thaw_none : thaw none S = S := (rfl)
@[scoped simp] theorem r_thaw_some (n : Nat) (c : C) : thaw (some (n, c)) S = S.set n (some c) := (rfl)
end
/-! ### the store behind what stood; the end of a def -/
theorem cellOf_app (S T : Sto) (k : Nat) : cellOf (S ++ T) (S.length + k) = cellOf T k := by
  simp only [cellOf]
  rw [List.getElem?_append_right (by omega)]
  simp
@[scoped simp] theorem cellOf_app0 (S T : Sto) : cellOf (S ++ T) S.length = cellOf T 0 := cellOf_app S T 0
@[scoped simp] theorem cellOf_app1 (S T : Sto) : cellOf (S ++ T) (S.length + 1) = cellOf T 1 := cellOf_app S T 1
@[scoped simp] theorem cellOf_app2 (S T : Sto) : cellOf (S ++ T) (S.length + 1 + 1) = cellOf T 2 := cellOf_app S T 2
@[scoped simp] theorem cellOf_zero (v : Option C) (T : Sto) : cellOf (v :: T) 0 = v := by simp [cellOf]
@[scoped simp] theorem cellOf_one (v w : Option C) (T : Sto) : cellOf (v :: w :: T) 1 = w := by simp [cellOf]
@[scoped simp] theorem cellOf_two (v w u : Option C) (T : Sto) : cellOf (v :: w :: u :: T) 2 = u := by simp [cellOf]
theorem set_app (S T : Sto) (k : Nat) (v : Option C) : (S ++ T).set (S.length + k) v = S ++ T.set k v := by
  rw [List.set_append_right _ _ (by omega)]; simp
@[scoped simp] theorem set_app0 (S T : Sto) (v : Option C) : (S ++ T).set S.length v = S ++ T.set 0 v := set_app S T 0 v
@[scoped simp] theorem set_app1 (S T : Sto) (v : Option C) : (S ++ T).set (S.length + 1) v = S ++ T.set 1 v := set_app S T 1 v
@[scoped simp] theorem set_app2 (S T : Sto) (v : Option C) : (S ++ T).set (S.length + 1 + 1) v = S ++ T.set 2 v := set_app S T 2 v
@[scoped simp] theorem take_app (S T : Sto) : (S ++ T).take S.length = S := List.take_left' rfl
def outC (o : Option C) (S : Sto) (n : Nat) : O R := match o with
        | some v => .ok (.f v) (S.take n)
        | none => .no
@[scoped simp] theorem outC_some (v : C) (S : Sto) (n : Nat) : outC (some v) S n = .ok (.f v) (S.take n) := (rfl)
@[scoped simp] theorem outOf_nx (n : Nat) (S : Sto) (e : Env) : outOf n (.nx e S) = .ok (.d .non) (S.take n) := (rfl)
@[scoped simp] theorem outOf_rt_d (n : Nat) (S : Sto) (x : D) : outOf n (.rt (.d x) S) = .ok (.d x) (S.take n) := (rfl)
@[scoped simp] theorem outOf_rt_f (n : Nat) (S : Sto) (v : C) : outOf n (.rt (.f v) S) = .ok (.f v) (S.take n) := (rfl)
@[scoped simp] theorem outOf_rt_c (n k : Nat) (S : Sto) : outOf n (.rt (.c k) S) = if n ≤ k then outC (cellOf S k) S n else .no := (rfl)
@[scoped simp] theorem outOf_ex (n : Nat) (S : Sto) (c : Str) (e : Env) : outOf n (.ex c e S) = .ex c (S.take n) := (rfl)
@[scoped simp] theorem r_mkFn (np : Nat) (muts : List Bool) (body : MS) (g : Clos) (as : List A) (S : Sto) : mkFn np muts body g as S = if as.length = np then
    outOf S.length (body g (as.map some ++ frame muts S.length) (S ++ List.replicate (muts.countP id) none))
  else .no := (rfl)
@[scoped simp] theorem r_frame_nil (n : Nat) : frame [] n = [] := (rfl)
@[scoped simp] theorem r_frame_t (r : List Bool) (n : Nat) : frame (true :: r) n = some (.c n) :: frame r (n + 1) := (rfl)
@[scoped simp] theorem r_frame_f (r : List Bool) (n : Nat) : frame (false :: r) n = none :: frame r n := (rfl)
@[scoped simp] theorem ite_ok_bl {c : Prop} [Decidable c] (x y : Bool) (S : Sto) : (if c then O.ok (R.d (.bl x)) S else O.ok (R.d (.bl y)) S) = O.ok (R.d (.bl (if c then x else y))) S := by split <;> rfl
/-! ### typed data -/
def dT {α : Type} (f : α → D) (xs : List α) : D := .tup (xs.map f)
def dL {α : Type} (f : α → D) (xs : List α) : D := .lst (xs.map f)
/-- a new list -/
def fL {α : Type} (f : α → D) (xs : List α) : R := .f (.l (xs.map f))
def cL {α : Type} (f : α → D) (xs : List α) : C := .l (xs.map f)
def dO : Option Int → D
  | none => .non
  | some i => .int i
abbrev tI (xs : List Int) : D := dT D.int xs
abbrev tH (xs : List (Option Int)) : D := dT dO xs
def dTr : Int × Int × Int → D := fun p => .tup [.int p.1, .int p.2.1, .int p.2.2]
def dPr : Int × Int → D := fun p => .tup [.int p.1, .int p.2]
theorem tI_tH (xs : List Int) : tI xs = tH (xs.map some) := by simp [dT, Function.comp_def, dO]
@[scoped simp] theorem dO_some (i : Int) : dO (some i) = .int i := (rfl)
@[scoped simp] theorem dO_none : dO none = .non := (rfl)
@[scoped simp] theorem dTr_mk (a b c : Int) : dTr (a, b, c) = .tup [.int a, .int b, .int c] := (rfl)
@[scoped simp] theorem dPr_mk (a b : Int) : dPr (a, b) = .tup [.int a, .int b] := (rfl)
@[scoped simp] theorem dT_nil {α : Type} (f : α → D) : dT f [] = .tup [] := (rfl)
@[scoped simp] theorem cL_froz {α : Type} (f : α → D) (xs : List α) : (cL f xs).froz = dL f xs := (rfl)
@[scoped simp] theorem view_fL {α : Type} (f : α → D) (xs : List α) (S : Sto) : view S (fL f xs) = some (dL f xs) := (rfl)
@[scoped simp] theorem toD_fL {α : Type} (f : α → D) (xs : List α) (S : Sto) : toD (fL f xs) S = .ok (dL f xs) S := (rfl)
@[scoped simp] theorem seqOut_dT {α : Type} (f : α → D) (xs : List α) (S : Sto) : seqOut (.d (dT f xs)) S = .ok ⟨xs.map f, none⟩ S := (rfl)
@[scoped simp] theorem seqOut_dL {α : Type} (f : α → D) (xs : List α) (S : Sto) : seqOut (.d (dL f xs)) S = .ok ⟨xs.map f, none⟩ S := (rfl)
@[scoped simp] theorem seqOut_fL {α : Type} (f : α → D) (xs : List α) (S : Sto) : seqOut (fL f xs) S = .ok ⟨xs.map f, none⟩ S := (rfl)
@[scoped simp] theorem setCO_fL {α : Type} (f : α → D) (xs : List α) (n : Nat) (e : Env) (S : Sto) : setCO (fL f xs) (some (some (.c n))) e S = .nx e (S.set n (some (cL f xs))) := (rfl)
@[scoped simp] theorem outOf_rt_fL {α : Type} (f : α → D) (xs : List α) (n : Nat) (S : Sto) : outOf n (.rt (fL f xs) S) = .ok (fL f xs) (S.take n) := (rfl)
@[scoped simp] theorem outC_cL {α : Type} (f : α → D) (xs : List α) (n : Nat) (S : Sto) : outC (some (cL f xs)) S n = .ok (fL f xs) (S.take n) := (rfl)
@[scoped simp] theorem lstO_cL {α : Type} (f : α → D) (xs : List α) : lstO (some (cL f xs)) = true := (rfl)
@[scoped simp] theorem itC_cL {α : Type} (f : α → D) (xs : List α) (n : Nat) : itC (some (cL f xs)) n = some (xs.map f, some (n, cL f xs)) := (rfl)
@[scoped simp] theorem revC_cL {α : Type} (f : α → D) (xs : List α) : revC (cL f xs) = some (cL f xs.reverse) := by simp [cL]
theorem appC_ok {α : Type} {f : α → D} {xs : List α} {y : α} (h : xs.length < 16777216) : appC (f y) (cL f xs) = some (cL f (xs ++ [y])) := by
  simp only [appC, cL, List.length_map]
  rw [if_pos (show xs.length < LIM from h)]; simp
theorem appC_l {xs : List D} {y : D} (h : xs.length < 16777216) : appC y (.l xs) = some (.l (xs ++ [y])) := if_pos (show xs.length < LIM from h)
theorem extC_ok {α : Type} {f : α → D} {xs ys : List α} (h : xs.length + ys.length ≤ 16777216) : extC (ys.map f) (cL f xs) = some (cL f (xs ++ ys)) := by
  simp only [extC, cL, List.length_map]
  rw [if_pos (show xs.length + ys.length ≤ LIM from h)]; simp
@[scoped simp] theorem extO_dL {α : Type} {f : α → D} (i : Nat) (ys : List α) (e : Env) (S : Sto) : extO i (some (dL f ys)) e S = updO e[i]? (extC (ys.map f)) e S := extO_lst i _
@[scoped simp] theorem toA_fL {α : Type} (f : α → D) (xs : List α) : toA (fL f xs) = .d (dL f xs) := (rfl)
/-! ### goodness, equality -/
@[scoped simp] theorem good_int (n : Nat) (i : Int) : good n (.int i) = true := by cases n <;> rfl
@[scoped simp] theorem good_bl (n : Nat) (i : Bool) : good n (.bl i) = true := by cases n <;> rfl
@[scoped simp] theorem good_non (n : Nat) : good n .non = true := by cases n <;> rfl
@[scoped simp] theorem good_str (n : Nat) (s : Str) : good n (.str s) = true := by cases n <;> rfl
@[scoped simp] theorem good_tup (n : Nat) (xs : List D) : good (n + 1) (.tup xs) = goodAll n xs := by rw [good]
@[scoped simp] theorem good_lst (n : Nat) (xs : List D) : good (n + 1) (.lst xs) = goodAll n xs := by rw [good]
@[scoped simp] theorem goodAll_nil (n : Nat) : goodAll n [] = true := by rw [goodAll]
@[scoped simp] theorem goodAll_cons (n : Nat) (x : D) (xs : List D) : goodAll n (x :: xs) = (good n x && goodAll n xs) := by rw [goodAll]
@[scoped simp] theorem eqv_int (i j : Int) : eqv (.int i) (.int j) = (i == j) := by rw [eqv]
@[scoped simp] theorem eqv_tup (xs ys : List D) : eqv (.tup xs) (.tup ys) = eqvAll xs ys := by rw [eqv]
@[scoped simp] theorem eqv_lst (xs ys : List D) : eqv (.lst xs) (.lst ys) = eqvAll xs ys := by rw [eqv]
@[scoped simp] theorem eqv_bl (i j : Bool) : eqv (.bl i) (.bl j) = (i == j) := by rw [eqv]
@[scoped simp] theorem eqv_non : eqv .non .non = true := by rw [eqv]
@[scoped simp] theorem eqv_str (a b : Str) : eqv (.str a) (.str b) = decide (a = b) := by rw [eqv]
@[scoped simp] theorem eqv_int_non (i : Int) : eqv (.int i) .non = false := by rw [eqv] <;> simp
@[scoped simp] theorem eqv_non_int (i : Int) : eqv .non (.int i) = false := by rw [eqv] <;> simp
@[scoped simp] theorem eqvAll_nil : eqvAll [] [] = true := by rw [eqvAll]
@[scoped simp] theorem eqvAll_cons (x y : D) (xs ys : List D) : eqvAll (x :: xs) (y :: ys) = (eqv x y && eqvAll xs ys) := by rw [eqvAll]
@[scoped simp] theorem eqvAll_nil_cons (y : D) (ys : List D) : eqvAll [] (y :: ys) = false := by rw [eqvAll] <;> simp
@[scoped simp] theorem eqvAll_cons_nil (y : D) (ys : List D) : eqvAll (y :: ys) [] = false := by rw [eqvAll] <;> simp
/-- data of a kind: how deep, equal just where the things are -/
class Dat {α : Type} (f : α → D) (k : outParam Nat) : Prop where
  good : ∀ (n : Nat) (x : α), k ≤ n → M.good n (f x) = true
  eqv : ∀ x y : α, (M.eqv (f x) (f y) = true ↔ x = y)
theorem Dat.eq {α : Type} {f : α → D} {k : Nat} [h : Dat f k] (x y : α) [Decidable (x = y)] : M.eqv (f x) (f y) = decide (x = y) := by
  have := h.eqv x y
  by_cases q : x = y
  · rw [this.mpr q, decide_eq_true q]
  · rw [decide_eq_false q]
    cases z : M.eqv (f x) (f y) with
    | true => exact absurd (this.mp z) q
    | false => rfl
instance : Dat D.int 0 := ⟨fun n x _ => good_int n x, fun x y => by simp⟩
instance : Dat D.bl 0 := ⟨fun n x _ => good_bl n x, fun x y => by simp⟩
instance : Dat D.str 0 := ⟨fun n x _ => good_str n x, fun x y => by simp⟩
instance : Dat dO 0 := ⟨fun n x _ => by cases x <;> simp, fun x y => by cases x <;> cases y <;> simp⟩
theorem good_pos {n : Nat} {k : Nat} (h : k + 1 ≤ n) : ∃ m, n = m + 1 ∧ k ≤ m := ⟨n - 1, by omega, by omega⟩
theorem goodAll_map {α : Type} {f : α → D} {k : Nat} [h : Dat f k] {n : Nat} (hn : k ≤ n) : ∀ xs : List α, goodAll n (xs.map f) = true
  | [] => by simp
  | x :: xs => by simp [h.good n x hn, goodAll_map hn xs]
theorem eqvAll_map {α : Type} {f : α → D} {k : Nat} [h : Dat f k] : ∀ xs ys : List α, eqvAll (xs.map f) (ys.map f) = true ↔ xs = ys
  | [], [] => by simp
  | [], y :: ys => by simp
  | x :: xs, [] => by simp
  | x :: xs, y :: ys => by simp [h.eqv x y, eqvAll_map xs ys]
instance {α : Type} {f : α → D} {k : Nat} [h : Dat f k] : Dat (dT f) (k + 1) := ⟨fun n x hn => by
    obtain ⟨m, rfl, hm⟩ := good_pos hn
    simp [dT, goodAll_map hm], fun x y => by simp [dT, eqvAll_map]⟩
instance {α : Type} {f : α → D} {k : Nat} [h : Dat f k] : Dat (dL f) (k + 1) := ⟨fun n x hn => by
    obtain ⟨m, rfl, hm⟩ := good_pos hn
    simp [dL, goodAll_map hm], fun x y => by simp [dL, eqvAll_map]⟩
instance : Dat dTr 1 := ⟨fun n x hn => by
    obtain ⟨m, rfl, hm⟩ := good_pos hn
    simp [dTr], fun x y => by
    obtain ⟨a, b, c⟩ := x
    obtain ⟨a', b', c'⟩ := y
    simp⟩
instance : Dat dPr 1 := ⟨fun n x hn => by
    obtain ⟨m, rfl, hm⟩ := good_pos hn
    simp [dPr], fun x y => by
    obtain ⟨a, b⟩ := x
    obtain ⟨a', b'⟩ := y
    simp⟩
@[scoped simp] theorem good_dT {α : Type} {f : α → D} {k : Nat} [h : Dat f k] (n : Nat) (xs : List α) : good (n + k + 1) (dT f xs) = true := (inferInstance : Dat (dT f) (k + 1)).good _ _ (by omega)
theorem good60 {α : Type} {f : α → D} {k : Nat} [h : Dat f k] (hk : k ≤ 60) (x : α) : good 60 (f x) = true := h.good _ _ hk
theorem opEq_dat {α : Type} {f : α → D} {k : Nat} [h : Dat f k] (hk : k ≤ 60) (x y : α) [Decidable (x = y)] : opEq [f x, f y] = rb (decide (x = y)) := by
  simp only [opEq, h.good 60 x hk, h.good 60 y hk, Bool.and_self, if_pos, Dat.eq]
theorem opNe_dat {α : Type} {f : α → D} {k : Nat} [h : Dat f k] (hk : k ≤ 60) (x y : α) [Decidable (x = y)] : opNe [f x, f y] = rb (decide (x ≠ y)) := by
  simp only [opNe, h.good 60 x hk, h.good 60 y hk, Bool.and_self, if_pos, Dat.eq]
  by_cases q : x = y <;> simp [q]
@[scoped simp] theorem opEq_int (i j : Int) : opEq [.int i, .int j] = rb (decide (i = j)) := opEq_dat (f := D.int) (by decide) i j
@[scoped simp] theorem opNe_int (i j : Int) : opNe [.int i, .int j] = rb (decide (i ≠ j)) := opNe_dat (f := D.int) (by decide) i j
@[scoped simp] theorem opEq_str (i j : Str) : opEq [.str i, .str j] = rb (decide (i = j)) := opEq_dat (f := D.str) (by decide) i j
@[scoped simp] theorem opNe_str (i j : Str) : opNe [.str i, .str j] = rb (decide (i ≠ j)) := opNe_dat (f := D.str) (by decide) i j
@[scoped simp] theorem opEq_bl (i j : Bool) : opEq [.bl i, .bl j] = rb (decide (i = j)) := opEq_dat (f := D.bl) (by decide) i j
@[scoped simp] theorem opNe_bl (i j : Bool) : opNe [.bl i, .bl j] = rb (decide (i ≠ j)) := opNe_dat (f := D.bl) (by decide) i j
@[scoped simp] theorem opEq_dO (i j : Option Int) : opEq [dO i, dO j] = rb (decide (i = j)) := opEq_dat (f := dO) (by decide) i j
@[scoped simp] theorem opNe_dO (i j : Option Int) : opNe [dO i, dO j] = rb (decide (i ≠ j)) := opNe_dat (f := dO) (by decide) i j
@[scoped simp] theorem opEq_dO_int (i : Option Int) (j : Int) : opEq [dO i, .int j] = rb (decide (i = some j)) := opEq_dO i (some j)
@[scoped simp] theorem opEq_dT {α : Type} [DecidableEq α] {f : α → D} [h : Dat f 0] (x y : List α) : opEq [dT f x, dT f y] = rb (decide (x = y)) := opEq_dat (f := dT f) (by decide) x y
@[scoped simp] theorem opNe_dT {α : Type} [DecidableEq α] {f : α → D} [h : Dat f 0] (x y : List α) : opNe [dT f x, dT f y] = rb (decide (x ≠ y)) := opNe_dat (f := dT f) (by decide) x y
@[scoped simp] theorem opEq_dT_nil {α : Type} [DecidableEq α] {f : α → D} [h : Dat f 0] (x : List α) : opEq [dT f x, .tup []] = rb (decide (x = [])) := opEq_dat (f := dT f) (by decide) x []
@[scoped simp] theorem opNe_dT_nil {α : Type} [DecidableEq α] {f : α → D} [h : Dat f 0] (x : List α) : opNe [dT f x, .tup []] = rb (decide (x ≠ [])) := opNe_dat (f := dT f) (by decide) x []
@[scoped simp] theorem opEq_dL_tr (x y : List (Int × Int × Int)) : opEq [dL dTr x, dL dTr y] = rb (decide (x = y)) := opEq_dat (f := dL dTr) (by decide) x y
@[scoped simp] theorem opNe_dL_tr (x y : List (Int × Int × Int)) : opNe [dL dTr x, dL dTr y] = rb (decide (x ≠ y)) := opNe_dat (f := dL dTr) (by decide) x y
@[scoped simp] theorem opEq_dL_rows (x y : List (List Int)) : opEq [dL (dT D.int) x, dL (dT D.int) y] = rb (decide (x = y)) := opEq_dat (f := dL (dT D.int)) (by decide) x y
@[scoped simp] theorem opNe_dL_rows (x y : List (List Int)) : opNe [dL (dT D.int) x, dL (dT D.int) y] = rb (decide (x ≠ y)) := opNe_dat (f := dL (dT D.int)) (by decide) x y
@[scoped simp] theorem opEq_dL_int (x y : List Int) : opEq [dL D.int x, dL D.int y] = rb (decide (x = y)) := opEq_dat (f := dL D.int) (by decide) x y
@[scoped simp] theorem opNe_dL_int (x y : List Int) : opNe [dL D.int x, dL D.int y] = rb (decide (x ≠ y)) := opNe_dat (f := dL D.int) (by decide) x y
@[scoped simp] theorem opEq_dL_nil {α : Type} [DecidableEq α] {f : α → D} {k : Nat} [h : Dat f k] (hk : k ≤ 50) (x : List α) : opEq [dL f x, .lst []] = rb (decide (x = [])) := opEq_dat (f := dL f) (by omega) x []
@[scoped simp] theorem opNe_dL_nil {α : Type} [DecidableEq α] {f : α → D} {k : Nat} [h : Dat f k] (hk : k ≤ 50) (x : List α) : opNe [dL f x, .lst []] = rb (decide (x ≠ [])) := opNe_dat (f := dL f) (by omega) x []
theorem isIn_map {α : Type} {f : α → D} {k : Nat} [h : Dat f k] (x : α) : ∀ ys : List α, isIn (f x) (ys.map f) = true ↔ x ∈ ys
  | [] => by simp [isIn]
  | y :: ys => by
    have := isIn_map (h := h) x ys
    unfold isIn at this ⊢
    simp only [List.map_cons, List.any_cons, Bool.or_eq_true, this, h.eqv, List.mem_cons]
    constructor
    · rintro (q | q)
      · exact .inl q.symm
      · exact .inr q
    · rintro (q | q)
      · exact .inl q.symm
      · exact .inr q
theorem isIn_dec {α : Type} {f : α → D} {k : Nat} [h : Dat f k] (x : α) (ys : List α) [Decidable (x ∈ ys)] : isIn (f x) (ys.map f) = decide (x ∈ ys) := by
  have := isIn_map (h := h) x ys
  by_cases q : x ∈ ys
  · rw [this.mpr q, decide_eq_true q]
  · rw [decide_eq_false q]; exact Bool.eq_false_iff.mpr fun z => q (this.mp z)
theorem opIn_dT {α : Type} {f : α → D} {k : Nat} [h : Dat f k] (hk : k ≤ 60) (x : α) (ys : List α) [Decidable (x ∈ ys)] : opIn [f x, dT f ys] = rb (decide (x ∈ ys)) := by
  simp only [dT, opIn, h.good 60 x hk, goodAll_map hk, Bool.and_self, if_pos, isIn_dec]
theorem opIn_dL {α : Type} {f : α → D} {k : Nat} [h : Dat f k] (hk : k ≤ 60) (x : α) (ys : List α) [Decidable (x ∈ ys)] : opIn [f x, dL f ys] = rb (decide (x ∈ ys)) := by
  simp only [dL, opIn, h.good 60 x hk, goodAll_map hk, Bool.and_self, if_pos, isIn_dec]
theorem opNotIn_dT {α : Type} {f : α → D} {k : Nat} [h : Dat f k] (hk : k ≤ 60) (x : α) (ys : List α) [Decidable (x ∈ ys)] : opNotIn [f x, dT f ys] = rb (decide (x ∉ ys)) := by
  simp only [dT, opNotIn, h.good 60 x hk, goodAll_map hk, Bool.and_self, if_pos, isIn_dec]
  by_cases q : x ∈ ys <;> simp [q]
theorem opNotIn_dL {α : Type} {f : α → D} {k : Nat} [h : Dat f k] (hk : k ≤ 60) (x : α) (ys : List α) [Decidable (x ∈ ys)] : opNotIn [f x, dL f ys] = rb (decide (x ∉ ys)) := by
  simp only [dL, opNotIn, h.good 60 x hk, goodAll_map hk, Bool.and_self, if_pos, isIn_dec]
  by_cases q : x ∈ ys <;> simp [q]
@[scoped simp] theorem opIn_int_tI (x : Int) (ys : List Int) : opIn [.int x, tI ys] = rb (decide (x ∈ ys)) := opIn_dT (f := D.int) (by decide) x ys
@[scoped simp] theorem opNotIn_int_tI (x : Int) (ys : List Int) : opNotIn [.int x, tI ys] = rb (decide (x ∉ ys)) := opNotIn_dT (f := D.int) (by decide) x ys
@[scoped simp] theorem opIn_int_lI (x : Int) (ys : List Int) : opIn [.int x, dL D.int ys] = rb (decide (x ∈ ys)) := opIn_dL (f := D.int) (by decide) x ys
@[scoped simp] theorem opNotIn_int_lI (x : Int) (ys : List Int) : opNotIn [.int x, dL D.int ys] = rb (decide (x ∉ ys)) := opNotIn_dL (f := D.int) (by decide) x ys
@[scoped simp] theorem opNotIn_non_tH (ys : List (Option Int)) : opNotIn [.non, tH ys] = rb (decide (none ∉ ys)) := opNotIn_dT (f := dO) (by decide) none ys
@[scoped simp] theorem opNotIn_non_tI (ys : List Int) : opNotIn [.non, tI ys] = rb true := by
  rw [tI_tH, opNotIn_non_tH]; simp
@[scoped simp] theorem opIn_int_tr (x : Int) (t : Int × Int × Int) : opIn [.int x, dTr t] = rb (decide (x = t.1 ∨ x = t.2.1 ∨ x = t.2.2)) := by
  have := opIn_int_tI x [t.1, t.2.1, t.2.2]
  simp only [dT, List.map_cons, List.map_nil, List.mem_cons, List.not_mem_nil, or_false] at this
  exact this
/-! ### indices -/
theorem atI_nat {α : Type} (xs : List α) (k : Nat) : atI xs (k : Int) = xs[k]? := by
  unfold atI ixN
  by_cases h : k < xs.length
  · rw [if_pos ⟨by omega, by omega⟩]; simp
  · rw [if_neg (by omega), if_neg (by omega), List.getElem?_eq_none (by omega)]
@[scoped simp] theorem atI_zero {α : Type} (x : α) (xs : List α) : atI (x :: xs) 0 = some x := by
  have := atI_nat (x :: xs) 0
  simpa using this
@[scoped simp] theorem atI_one {α : Type} (x y : α) (xs : List α) : atI (x :: y :: xs) 1 = some y := by
  have := atI_nat (x :: y :: xs) 1
  simpa using this
@[scoped simp] theorem atI_two {α : Type} (x y z : α) (xs : List α) : atI (x :: y :: z :: xs) 2 = some z := by
  have := atI_nat (x :: y :: z :: xs) 2
  simpa using this
@[scoped simp] theorem atI_three {α : Type} (x y z w : α) (xs : List α) : atI (x :: y :: z :: w :: xs) 3 = some w := by
  have := atI_nat (x :: y :: z :: w :: xs) 3
  simpa using this
/-- the thing at a place -/
def nth {α : Type} [Inhabited α] (xs : List α) (i : Int) : α := xs.getD i.toNat default
theorem atI_ok {α β : Type} [Inhabited α] (f : α → β) (xs : List α) {i : Int} (h0 : 0 ≤ i) (h1 : i < xs.length) : atI (xs.map f) i = some (f (nth xs i)) := by
  obtain ⟨k, rfl⟩ := Int.eq_ofNat_of_zero_le h0
  have hk : k < xs.length := by omega
  rw [atI_nat, List.getElem?_map, List.getElem?_eq_getElem hk, nth]
  simp [hk]
theorem nth_mem {α : Type} [Inhabited α] {xs : List α} {i : Int} (h0 : 0 ≤ i) (h1 : i < xs.length) : nth xs i ∈ xs := by
  obtain ⟨k, rfl⟩ := Int.eq_ofNat_of_zero_le h0
  have hk : k < xs.length := by omega
  simp [nth, hk]
theorem atI_last {α : Type} (xs : List α) (h : xs ≠ []) : atI xs (-1) = some (xs.getLast h) := by
  have hl : 0 < xs.length := List.length_pos_iff.mpr h
  unfold atI ixN
  rw [if_neg (by omega), if_pos ⟨by omega, by omega⟩]
  have : (-1 + (xs.length : Int)).toNat = xs.length - 1 := by omega
  simp only [this]
  rw [List.getElem?_eq_getElem (by omega), List.getLast_eq_getElem]
theorem opGet_dT {α : Type} [Inhabited α] {f : α → D} {xs : List α} {i : Int} (h0 : 0 ≤ i) (h1 : i < xs.length) : opGet [dT f xs, .int i] = some (.d (f (nth xs i))) := by
  simp only [dT, opGet, atI_ok f xs h0 h1, Option.map_some]
theorem opGet_dL {α : Type} [Inhabited α] {f : α → D} {xs : List α} {i : Int} (h0 : 0 ≤ i) (h1 : i < xs.length) : opGet [dL f xs, .int i] = some (.d (f (nth xs i))) := by
  simp only [dL, opGet, atI_ok f xs h0 h1, Option.map_some]
@[scoped simp] theorem opGet_tup (xs : List D) (i : Int) : opGet [.tup xs, .int i] = (atI xs i).map .d := (rfl)
@[scoped simp] theorem opGet_lst (xs : List D) (i : Int) : opGet [.lst xs, .int i] = (atI xs i).map .d := (rfl)
@[scoped simp] theorem opGet_tr0 (t : Int × Int × Int) : opGet [dTr t, .int 0] = some (.d (.int t.1)) := by simp [dTr]
@[scoped simp] theorem opGet_tr1 (t : Int × Int × Int) : opGet [dTr t, .int 1] = some (.d (.int t.2.1)) := by simp [dTr]
@[scoped simp] theorem opGet_tr2 (t : Int × Int × Int) : opGet [dTr t, .int 2] = some (.d (.int t.2.2)) := by simp [dTr]
/-! ### operations -/
theorem le_LIM {n : Nat} (h : n ≤ 16777216) : n ≤ LIM := h
theorem lt_LIM {n : Nat} (h : n < 16777216) : n < LIM := h
@[scoped simp] theorem opAdd_int (i j : Int) : opAdd [.int i, .int j] = ri (i + j) := (rfl)
@[scoped simp] theorem opSub_int (i j : Int) : opSub [.int i, .int j] = ri (i - j) := (rfl)
theorem opMul_int {i j : Int} (h : small i = true ∨ small j = true) : opMul [.int i, .int j] = ri (i * j) := by
  simp only [opMul]
  rw [if_pos]
  rcases h with h | h <;> simp [h]
theorem small_of {i : Int} (h0 : -1000000000 ≤ i) (h1 : i ≤ 1000000000000) : small i = true := by
  simp [small]; omega
theorem opMul_small {i j : Int} (h0 : 0 ≤ i) (h1 : i ≤ 1000000000000) : opMul [.int i, .int j] = ri (i * j) := opMul_int (.inl (small_of (by omega) h1))
theorem opMul_small2 {i j : Int} (h0 : 0 ≤ j) (h1 : j ≤ 1000000000000) : opMul [.int i, .int j] = ri (i * j) := opMul_int (.inr (small_of (by omega) h1))
theorem opDiv_int {i j : Int} (h0 : 0 < j) (h1 : j < 1073741824) : opDiv [.int i, .int j] = ri (i / j) := by simp only [opDiv]; rw [if_pos ⟨h0, h1⟩]
theorem opMod_int {i j : Int} (h0 : 0 < j) : opMod [.int i, .int j] = ri (i % j) := by simp only [opMod]; rw [if_pos h0]
@[scoped simp] theorem opLt_int (i j : Int) : opLt [.int i, .int j] = rb (decide (i < j)) := (rfl)
@[scoped simp] theorem opLe_int (i j : Int) : opLe [.int i, .int j] = rb (decide (i ≤ j)) := (rfl)
@[scoped simp] theorem opGt_int (i j : Int) : opGt [.int i, .int j] = rb (decide (j < i)) := (rfl)
@[scoped simp] theorem opGe_int (i j : Int) : opGe [.int i, .int j] = rb (decide (j ≤ i)) := (rfl)
@[scoped simp] theorem opInt_bl (b : Bool) : opInt [.bl b] = ri (if b then 1 else 0) := (rfl)
@[scoped simp] theorem opInt_int (i : Int) : opInt [.int i] = ri i := (rfl)
@[scoped simp] theorem opMax2_int (i j : Int) : opMax2 [.int i, .int j] = ri (max i j) := by
  simp only [opMax2]; congr 1; split <;> omega
@[scoped simp] theorem opMin2_int (i j : Int) : opMin2 [.int i, .int j] = ri (min i j) := by
  simp only [opMin2]; congr 1; split <;> omega
@[scoped simp] theorem opNeg_int (i : Int) : opNeg [.int i] = ri (-i) := (rfl)
@[scoped simp] theorem rb_eq (b : Bool) : rb b = some (.d (.bl b)) := (rfl)
@[scoped simp] theorem ri_eq (i : Int) : ri i = some (.d (.int i)) := (rfl)
@[scoped simp] theorem opIs_non (x : D) : opIs [x, .non] = rb (isNon x) := by cases x <;> rfl
@[scoped simp] theorem opIsNot_non (x : D) : opIsNot [x, .non] = rb (!isNon x) := by cases x <;> rfl
@[scoped simp] theorem opIs_bl (a b : Bool) : opIs [.bl a, .bl b] = rb (decide (a = b)) := (rfl)
@[scoped simp] theorem opIsNot_bl (a b : Bool) : opIsNot [.bl a, .bl b] = rb (!decide (a = b)) := (rfl)
@[scoped simp] theorem isNon_non : isNon .non = true := (rfl)
@[scoped simp] theorem isNon_int (i : Int) : isNon (.int i) = false := (rfl)
@[scoped simp] theorem isNon_str (i : Str) : isNon (.str i) = false := (rfl)
@[scoped simp] theorem isNon_bl (i : Bool) : isNon (.bl i) = false := (rfl)
@[scoped simp] theorem isNon_tup (i : List D) : isNon (.tup i) = false := (rfl)
@[scoped simp] theorem isNon_lst (i : List D) : isNon (.lst i) = false := (rfl)
@[scoped simp] theorem isNon_dT {α : Type} (f : α → D) (i : List α) : isNon (dT f i) = false := (rfl)
@[scoped simp] theorem isNon_dL {α : Type} (f : α → D) (i : List α) : isNon (dL f i) = false := (rfl)
@[scoped simp] theorem isNon_dTr (i : Int × Int × Int) : isNon (dTr i) = false := (rfl)
@[scoped simp] theorem isNon_dO (i : Option Int) : isNon (dO i) = i.isNone := by cases i <;> rfl
@[scoped simp] theorem opLen_dT {α : Type} (f : α → D) (xs : List α) : opLen [dT f xs] = ri xs.length := by simp [dT, opLen]
@[scoped simp] theorem opLen_dL {α : Type} (f : α → D) (xs : List α) : opLen [dL f xs] = ri xs.length := by simp [dL, opLen]
@[scoped simp] theorem opLen_tup (xs : List D) : opLen [.tup xs] = ri xs.length := (rfl)
@[scoped simp] theorem opLen_lst (xs : List D) : opLen [.lst xs] = ri xs.length := (rfl)
@[scoped simp] theorem opLen_rol (xs : List D) : opLen [.rol xs] = ri xs.length := (rfl)
@[scoped simp] theorem opTuple_dL {α : Type} (f : α → D) (xs : List α) : opTuple [dL f xs] = some (.d (dT f xs)) := (rfl)
@[scoped simp] theorem opTuple_dT {α : Type} (f : α → D) (xs : List α) : opTuple [dT f xs] = some (.d (dT f xs)) := (rfl)
@[scoped simp] theorem opTuple_lst (xs : List D) : opTuple [.lst xs] = some (.d (.tup xs)) := (rfl)
@[scoped simp] theorem opList_dT {α : Type} (f : α → D) (xs : List α) : opList [dT f xs] = some (fL f xs) := (rfl)
@[scoped simp] theorem opList_dL {α : Type} (f : α → D) (xs : List α) : opList [dL f xs] = some (fL f xs) := (rfl)
@[scoped simp] theorem opRev_dT {α : Type} (f : α → D) (xs : List α) : opRev [dT f xs] = some (.d (dT f xs.reverse)) := by simp [dT, opRev]
@[scoped simp] theorem opRev_dL {α : Type} (f : α → D) (xs : List α) : opRev [dL f xs] = some (fL f xs.reverse) := by simp [dL, fL, opRev]
theorem opAdd_dT {α : Type} {f : α → D} {xs ys : List α} (h : xs.length + ys.length ≤ 16777216) : opAdd [dT f xs, dT f ys] = some (.d (dT f (xs ++ ys))) := by
  simp only [dT, opAdd, List.length_map]
  rw [if_pos (le_LIM h), List.map_append]
theorem opAdd_dT1 {α : Type} {f : α → D} {xs : List α} {y : α} (h : xs.length ≤ 16777215) : opAdd [dT f xs, .tup [f y]] = some (.d (dT f (xs ++ [y]))) := opAdd_dT (f := f) (ys := [y]) (by simpa using h)
theorem opAdd_1dT {α : Type} {f : α → D} {xs : List α} {y : α} (h : xs.length ≤ 16777215) : opAdd [.tup [f y], dT f xs] = some (.d (dT f (y :: xs))) := opAdd_dT (f := f) (xs := [y]) (by simp; omega)
theorem opAdd_tI1 {xs : List Int} {y : Int} (h : xs.length ≤ 16777215) : opAdd [tI xs, .tup [.int y]] = some (.d (tI (xs ++ [y]))) := opAdd_dT1 h
theorem opAdd_1tI {xs : List Int} {y : Int} (h : xs.length ≤ 16777215) : opAdd [.tup [.int y], tI xs] = some (.d (tI (y :: xs))) := opAdd_1dT h
theorem opAdd_tH1 {xs : List (Option Int)} {y : Int} (h : xs.length ≤ 16777215) : opAdd [tH xs, .tup [.int y]] = some (.d (tH (xs ++ [some y]))) := opAdd_dT1 (y := some y) h
theorem opAdd_dL {α : Type} {f : α → D} {xs ys : List α} (h : xs.length + ys.length ≤ 16777216) : opAdd [dL f xs, dL f ys] = some (fL f (xs ++ ys)) := by
  simp only [dL, fL, opAdd, List.length_map]
  rw [if_pos (le_LIM h), List.map_append]
theorem opAdd_dL1 {α : Type} {f : α → D} {xs : List α} {y : α} (h : xs.length ≤ 16777215) : opAdd [dL f xs, .lst [f y]] = some (fL f (xs ++ [y])) := opAdd_dL (f := f) (ys := [y]) (by simpa using h)
theorem opAdd_lst {xs ys : List D} (h : xs.length + ys.length ≤ 16777216) : opAdd [.lst xs, .lst ys] = some (.f (.l (xs ++ ys))) := if_pos h
theorem opAdd_tup {xs ys : List D} (h : xs.length + ys.length ≤ 16777216) : opAdd [.tup xs, .tup ys] = some (.d (.tup (xs ++ ys))) := if_pos h
theorem cut_map {α β : Type} (f : α → β) (xs : List α) (lo hi : Option Int) : cut (xs.map f) lo hi = (cut xs lo hi).map f := by
  simp [cut, List.map_take, List.map_drop]
@[scoped simp] theorem sliceD_dT {α : Type} (f : α → D) (xs : List α) (lo hi : Option Int) : sliceD (dT f xs) lo hi = some (.d (dT f (cut xs lo hi))) := by simp [dT, sliceD, cut_map]
@[scoped simp] theorem sliceD_dL {α : Type} (f : α → D) (xs : List α) (lo hi : Option Int) : sliceD (dL f xs) lo hi = some (fL f (cut xs lo hi)) := by simp [dL, fL, sliceD, cut_map]
@[scoped simp] theorem opSlLo_eq (x : D) (i : Int) : opSlLo [x, .int i] = sliceD x (some i) none := (rfl)
@[scoped simp] theorem opSlHi_eq (x : D) (i : Int) : opSlHi [x, .int i] = sliceD x none (some i) := (rfl)
theorem cut_lo {α : Type} (xs : List α) {i : Int} (h : 0 ≤ i) : cut xs (some i) none = xs.drop i.toNat := by
  unfold cut clampI
  simp only []
  rw [if_neg (by omega)]
  by_cases hi : i.toNat ≤ xs.length
  · rw [Nat.min_eq_left hi, List.take_of_length_le (by simp)]
  · rw [Nat.min_eq_right (by omega), List.drop_of_length_le (Nat.le_refl _), List.drop_of_length_le (by omega)]; simp
theorem cut_hi {α : Type} (xs : List α) {i : Int} (h : 0 ≤ i) : cut xs none (some i) = xs.take i.toNat := by
  unfold cut clampI
  simp only []
  rw [if_neg (by omega)]
  simp only [List.drop_zero, Nat.sub_zero]
  by_cases hi : i.toNat ≤ xs.length
  · rw [Nat.min_eq_left hi]
  · rw [Nat.min_eq_right (by omega), List.take_of_length_le (Nat.le_refl _), List.take_of_length_le (by omega)]
theorem cut_lohi {α : Type} (xs : List α) {i j : Int} (h : 0 ≤ i) (hj : 0 ≤ j) : cut xs (some i) (some j) = (xs.drop i.toNat).take (j.toNat - i.toNat) := by
  unfold cut clampI
  simp only []
  rw [if_neg (by omega), if_neg (by omega)]
  apply List.ext_getElem?
  intro k
  simp only [List.getElem?_take, List.getElem?_drop]
  by_cases hi : i.toNat ≤ xs.length
  · rw [Nat.min_eq_left hi]
    by_cases hk : i.toNat + k < xs.length
    · have e : (k < min j.toNat xs.length - i.toNat) ↔ (k < j.toNat - i.toNat) := by omega
      simp only [e]
    · rw [List.getElem?_eq_none (by omega)]; simp
  · rw [Nat.min_eq_right (show xs.length ≤ i.toNat by omega), List.getElem?_eq_none (show xs.length ≤ xs.length + k by omega), List.getElem?_eq_none (show xs.length ≤ i.toNat + k by omega)]; simp
/-! ### kinds -/
@[scoped simp] theorem isKind_int (t : String) (i : Int) : isKind t (.int i) = some (t == "int") := (rfl)
@[scoped simp] theorem isKind_bl (t : String) (i : Bool) : isKind t (.bl i) = some (t == "bool" || t == "int") := (rfl)
@[scoped simp] theorem isKind_non (t : String) : isKind t .non = some false := (rfl)
@[scoped simp] theorem isKind_str (t : String) (i : Str) : isKind t (.str i) = some (t == "str") := (rfl)
@[scoped simp] theorem isKind_tup (t : String) (i : List D) : isKind t (.tup i) = some (t == "tuple") := (rfl)
@[scoped simp] theorem isKind_lst (t : String) (i : List D) : isKind t (.lst i) = some (t == "list") := (rfl)
@[scoped simp] theorem isKind_dct (t : String) (i j : List D) : isKind t (.dct i j) = some (t == "dict") := (rfl)
@[scoped simp] theorem isKind_dT {α : Type} (f : α → D) (t : String) (i : List α) : isKind t (dT f i) = some (t == "tuple") := (rfl)
@[scoped simp] theorem isKind_dL {α : Type} (f : α → D) (t : String) (i : List α) : isKind t (dL f i) = some (t == "list") := (rfl)
@[scoped simp] theorem isKind_dTr (t : String) (i : Int × Int × Int) : isKind t (dTr i) = some (t == "tuple") := (rfl)
@[scoped simp] theorem opIsK_eq (t : String) (x : D) : opIsK t [x] = (match isKind t x with
    | some b => rb b
    | none => none) := (rfl)
end MP

/-! PC: plain rules of cells, loops, comprehensions. -/
namespace MP
open M
open PySem (Str)
/-! ### cells -/
theorem cell_lt {S : Sto} {n : Nat} {c : C} (h : cellOf S n = some c) : n < S.length := by
  by_cases q : n < S.length
  · exact q
  · rw [cellOf, List.getElem?_eq_none (by omega)] at h; cases h
theorem cellOf_set_self {S : Sto} {n : Nat} (v : Option C) (h : n < S.length) : cellOf (S.set n v) n = v := by
  simp [cellOf, h]
@[scoped simp] theorem cellOf_set_same (S : Sto) (n : Nat) (v : Option C) : cellOf (S.set n v) n = if n < S.length then v else none := by
  split
  · rename_i h; exact cellOf_set_self v h
  · rename_i h; rw [cellOf, List.getElem?_eq_none (by simp; omega)]; rfl
theorem cellOf_set_ne {S : Sto} {n m : Nat} (v : Option C) (h : n ≠ m) : cellOf (S.set n v) m = cellOf S m := by
  simp [cellOf, List.getElem?_set_ne h]
theorem cellOf_appL {S T : Sto} {n : Nat} (h : n < S.length) : cellOf (S ++ T) n = cellOf S n := by
  simp [cellOf, List.getElem?_append_left h]
theorem set_appL {S T : Sto} {n : Nat} {v : Option C} (h : n < S.length) : (S ++ T).set n v = S.set n v ++ T := by
  rw [List.set_append_left _ _ h]
@[scoped simp] theorem set_set' (S : Sto) (n : Nat) (v w : Option C) : (S.set n v).set n w = S.set n w := List.set_set ..
@[scoped simp] theorem take_set_len (S : Sto) (n : Nat) (v : Option C) : (S.set n v).take S.length = S.set n v := List.take_of_length_le (by simp)
@[scoped simp] theorem take_set_app (S T : Sto) (n : Nat) (v : Option C) : (S.set n v ++ T).take S.length = S.set n v := by
  rw [List.take_append_of_le_length (by simp)]; simp
/-! ### ranges -/
def rng (a b : Int) : List Int := (List.range (b - a).toNat).map fun (k : Nat) => a + (k : Int)
theorem rangeD_eq (a b : Int) : rangeD a b = (rng a b).map D.int := by simp [rangeD, rng]
theorem mem_rng {a b x : Int} : x ∈ rng a b ↔ a ≤ x ∧ x < b := by
  unfold rng
  simp only [List.mem_map, List.mem_range]
  constructor
  · rintro ⟨k, hk, rfl⟩; omega
  · rintro ⟨h1, h2⟩; exact ⟨(x - a).toNat, by omega, by omega⟩
@[scoped simp] theorem rng_length (a b : Int) : (rng a b).length = (b - a).toNat := by simp [rng]
theorem rng_nil {a b : Int} (h : b ≤ a) : rng a b = [] := by
  have : (b - a).toNat = 0 := by omega
  simp [rng, this]
theorem rng_cons {a b : Int} (h : a < b) : rng a b = a :: rng (a + 1) b := by
  unfold rng
  have : (b - a).toNat = (b - (a + 1)).toNat + 1 := by omega
  rw [this, List.range_succ_eq_map]
  simp only [List.map_cons, List.map_map, Function.comp_def]
  congr 1
  · omega
  · apply List.map_congr_left; intro k _; omega
theorem rng_snoc {a b : Int} (h : a ≤ b) : rng a (b + 1) = rng a b ++ [b] := by
  unfold rng
  have : (b + 1 - a).toNat = (b - a).toNat + 1 := by omega
  rw [this, List.range_succ, List.map_append]
  congr 1
  simp; omega
theorem rng_nat (n : Nat) : rng 0 n = (List.range n).map fun (k : Nat) => (k : Int) := by simp [rng]
theorem okR_le {i : Int} (h0 : -1000000 ≤ i) (h1 : i ≤ 1000000) : okR i = true := by
  simp [okR]; omega
theorem miRange1_ok {m : ME} {g : Clos} {e : Env} {S S1 : Sto} {n : Int} (h : m g e S = .ok (.d (.int n)) S1) (h0 : -1000000 ≤ n) (h1 : n ≤ 1000000) :
    miRange1 m g e S = .ok ⟨(rng 0 n).map D.int, none⟩ S1 := by
  unfold miRange1
  rw [h, O.bind_ok]
  show (if _ then _ else _) = _
  rw [if_pos ⟨okR_le h0 h1, le_LIM (by omega)⟩, rangeD_eq]
theorem miRange2_ok {m1 m2 : ME} {g : Clos} {e : Env} {S S1 S2 : Sto} {a b : Int} (h : m1 g e S = .ok (.d (.int a)) S1) (h' : m2 g e S1 = .ok (.d (.int b)) S2) (h0 : -1000000 ≤ a) (h1 : a ≤ 1000000) (h2 : -1000000 ≤ b) (h3 : b ≤ 1000000) :
    miRange2 m1 m2 g e S = .ok ⟨(rng a b).map D.int, none⟩ S2 := by
  unfold miRange2
  rw [h, O.bind_ok, h', O.bind_ok]
  show (if _ then _ else _) = _
  rw [if_pos ⟨okR_le h0 h1, okR_le h2 h3, le_LIM (by omega)⟩, rangeD_eq]
theorem rng1Out_ok {S : Sto} {n : Int} (h0 : -1000000 ≤ n) (h1 : n ≤ 1000000) : rng1Out (.d (.int n)) S = .ok ⟨(rng 0 n).map D.int, none⟩ S := by
  show (if _ then _ else _) = _
  rw [if_pos ⟨okR_le h0 h1, le_LIM (by omega)⟩, rangeD_eq]
theorem rng2Out_ok {S : Sto} {a b : Int} (h0 : -1000000 ≤ a) (h1 : a ≤ 1000000) (h2 : -1000000 ≤ b) (h3 : b ≤ 1000000) : rng2Out (.d (.int a)) (.d (.int b)) S = .ok ⟨(rng a b).map D.int, none⟩ S := by
  show (if _ then _ else _) = _
  rw [if_pos ⟨okR_le h0 h1, okR_le h2 h3, le_LIM (by omega)⟩, rangeD_eq]
@[scoped simp] theorem itOf_dT {α : Type} (f : α → D) (xs : List α) (S : Sto) : itOf (.d (dT f xs)) S = some (xs.map f, none) := (rfl)
@[scoped simp] theorem itOf_dL {α : Type} (f : α → D) (xs : List α) (S : Sto) : itOf (.d (dL f xs)) S = some (xs.map f, none) := (rfl)
@[scoped simp] theorem itOf_fL {α : Type} (f : α → D) (xs : List α) (S : Sto) : itOf (fL f xs) S = some (xs.map f, none) := (rfl)
theorem miSeq_dT {α : Type} {f : α → D} {xs : List α} {m : ME} {g : Clos} {e : Env} {S S1 : Sto} (h : m g e S = .ok (.d (dT f xs)) S1) : miSeq m g e S = .ok ⟨xs.map f, none⟩ S1 := by
  unfold miSeq; rw [h, O.bind_ok]; rfl
theorem miSeq_dL {α : Type} {f : α → D} {xs : List α} {m : ME} {g : Clos} {e : Env} {S S1 : Sto} (h : m g e S = .ok (.d (dL f xs)) S1) : miSeq m g e S = .ok ⟨xs.map f, none⟩ S1 := by
  unfold miSeq; rw [h, O.bind_ok]; rfl
theorem miSeq_fL {α : Type} {f : α → D} {xs : List α} {m : ME} {g : Clos} {e : Env} {S S1 : Sto} (h : m g e S = .ok (fL f xs) S1) : miSeq m g e S = .ok ⟨xs.map f, none⟩ S1 := by
  unfold miSeq; rw [h, O.bind_ok]; rfl
theorem miSeq_tup {xs : List D} {m : ME} {g : Clos} {e : Env} {S S1 : Sto} (h : m g e S = .ok (.d (.tup xs)) S1) : miSeq m g e S = .ok ⟨xs, none⟩ S1 := by
  unfold miSeq; rw [h, O.bind_ok]; rfl
theorem miSeq_lst {xs : List D} {m : ME} {g : Clos} {e : Env} {S S1 : Sto} (h : m g e S = .ok (.d (.lst xs)) S1) : miSeq m g e S = .ok ⟨xs, none⟩ S1 := by
  unfold miSeq; rw [h, O.bind_ok]; rfl
theorem miSeq_f {xs : List D} {m : ME} {g : Clos} {e : Env} {S S1 : Sto} (h : m g e S = .ok (.f (.l xs)) S1) : miSeq m g e S = .ok ⟨xs, none⟩ S1 := by
  unfold miSeq; rw [h, O.bind_ok]; rfl
theorem miEnum_dT {α : Type} {f : α → D} {xs : List α} {m : ME} {g : Clos} {e : Env} {S S1 : Sto} (h : m g e S = .ok (.d (dT f xs)) S1) : miEnum m g e S = .ok ⟨xs.zipIdx.map fun p => .tup [.int (p.2 : Int), f p.1], none⟩ S1 := by
  unfold miEnum; rw [h, O.bind_ok]; simp [enumD, List.zipIdx_map, Function.comp_def]
/-! ### statements -/
theorem seq_nx {m : MS} {ms : List MS} {g : Clos} {e e' : Env} {S S' : Sto} {o : OS} (h : m g e S = .nx e' S') (h2 : mSeq ms g e' S' = o) : mSeq (m :: ms) g e S = o := by simp only [mSeq, h]; exact h2
theorem seq_rt {m : MS} {ms : List MS} {g : Clos} {e : Env} {S S' : Sto} {r : R} (h : m g e S = .rt r S') : mSeq (m :: ms) g e S = .rt r S' := by simp only [mSeq, h]
theorem seq_ex {m : MS} {ms : List MS} {g : Clos} {e e' : Env} {S S' : Sto} {c : Str} (h : m g e S = .ex c e' S') : mSeq (m :: ms) g e S = .ex c e' S' := by simp only [mSeq, h]
theorem if_tt {c : ME} {a b : MS} {g : Clos} {e : Env} {S S' : Sto} {o : OS} (h : c g e S = .ok (.d (.bl true)) S') (h2 : a g e S' = o) : mIf c a b g e S = o := by simp [mIf, h, h2]
theorem if_ff {c : ME} {a b : MS} {g : Clos} {e : Env} {S S' : Sto} {o : OS} (h : c g e S = .ok (.d (.bl false)) S') (h2 : b g e S' = o) : mIf c a b g e S = o := by simp [mIf, h, h2]
theorem ret_d {m : ME} {g : Clos} {e : Env} {S S' : Sto} {r : R} (h : m g e S = .ok r S') : mRet m g e S = .rt r S' := by simp [mRet, h]
theorem set_d {m : ME} {i : Nat} {g : Clos} {e : Env} {S S' : Sto} {x : D} (h : m g e S = .ok (.d x) S') : mSet i m g e S = .nx (e.set i (some (.d x))) S' := by simp [mSet, h]
theorem set_f {m : ME} {i : Nat} {g : Clos} {e : Env} {S S' : Sto} {c : C} (h : m g e S = .ok (.f c) S') : mSet i m g e S = .nx (e.set i (some (.d c.froz))) S' := by simp [mSet, h]
theorem set_fL {α : Type} {f : α → D} {xs : List α} {m : ME} {i : Nat} {g : Clos} {e : Env} {S S' : Sto} (h : m g e S = .ok (fL f xs) S') : mSet i m g e S = .nx (e.set i (some (.d (dL f xs)))) S' := by simp [mSet, h]
theorem set_ex {m : ME} {i : Nat} {g : Clos} {e : Env} {S S' : Sto} {c : Str} (h : m g e S = .ex c S') : mSet i m g e S = .ex c e S' := by simp [mSet, h]
theorem expr_ok {m : ME} {g : Clos} {e : Env} {S S' : Sto} {r : R} (h : m g e S = .ok r S') : mExpr m g e S = .nx e S' := by simp [mExpr, h]
theorem expr_ex {m : ME} {g : Clos} {e : Env} {S S' : Sto} {c : Str} (h : m g e S = .ex c S') : mExpr m g e S = .ex c e S' := by simp [mExpr, h]
theorem setT_ok {m : ME} {is : List Nat} {g : Clos} {e e' : Env} {S S' : Sto} {x : D} (h : evD m g e S = .ok x S') (hp : (Tg.many is).put x e = some e') : mSetT is m g e S = .nx e' S' := by
  unfold mSetT; rw [h, O.bindS_ok, hp]
theorem for_nx {it : MI} {tg : Tg} {wp : List Nat} {body : MS} {g : Clos} {e : Env} {S S1 : Sto} {xs : List D} {o : OS} (h : it g e S = .ok ⟨xs, none⟩ S1) (h2 : forL tg wp body g xs e S1 = o) : mFor it tg wp body g e S = o := by
  unfold mFor; rw [h]; exact h2
theorem fn_of {np : Nat} {muts : List Bool} {m : MS} {g : Clos} {as : List A} {S S0 : Sto} {env : Env} {o : OS} {q : O R} (hl : as.length = np) (he : as.map some ++ frame muts S.length = env) (hs : S ++ List.replicate (muts.countP id) none = S0) (h : m g env S0 = o) (ho : outOf S.length o = q) : mkFn np muts m g as S = q := by
  unfold mkFn; rw [if_pos hl, he, hs, h, ho]
/-! ### loops -/
/-- what holds behind each beginning of what is walked -/
theorem forL_pre {α : Type} (inj : α → D) {tg : Tg} {wp : List Nat} {body : MS} {g : Clos} (Inv : List α → Env → Sto → Prop) : ∀ (xs done : List α) (e : Env) (S : Sto), Inv done (wipe e wp) S →
    (∀ pre a post e S, done ++ xs = pre ++ a :: post → Inv pre e S → ∃ e1 e2 S2, tg.put (inj a) e = some e1 ∧ (body g e1 S = .nx e2 S2 ∨ body g e1 S = .ct e2 S2) ∧ Inv (pre ++ [a]) (wipe e2 wp) S2) →
    ∃ e2 S2, forL tg wp body g (xs.map inj) e S = .nx e2 S2 ∧ Inv (done ++ xs) e2 S2
  | [], done, e, S, hi, _ => ⟨_, S, rfl, by simpa using hi⟩
  | x :: xs, done, e, S, hi, h => by
    obtain ⟨e1, e2, S2, h1, h2, h3⟩ := h done x xs _ S rfl hi
    obtain ⟨e3, S3, h4, h5⟩ := forL_pre inj Inv xs (done ++ [x]) e2 S2 h3 fun pre a post e S q hj => h pre a post e S (by rw [← q]; simp) hj
    refine ⟨e3, S3, ?_, by simpa using h5⟩
    simp only [List.map_cons, forL, h1]
    rcases h2 with h2 | h2 <;> rw [h2] <;> exact h4
/-- the same, told by functions of the beginning -/
theorem forL_eq {α : Type} (inj : α → D) {tg : Tg} {wp : List Nat} {body : MS} {g : Clos} (E : List α → Env) (T : List α → Sto) (xs : List α) (e : Env) (he : wipe e wp = E [])
    (h : ∀ pre a post, xs = pre ++ a :: post → ∃ e1 e2, tg.put (inj a) (E pre) = some e1 ∧ (body g e1 (T pre) = .nx e2 (T (pre ++ [a])) ∨ body g e1 (T pre) = .ct e2 (T (pre ++ [a]))) ∧ wipe e2 wp = E (pre ++ [a])) :
    forL tg wp body g (xs.map inj) e (T []) = .nx (E xs) (T xs) := by
  obtain ⟨e2, S2, h1, h2, h3⟩ := forL_pre inj (fun pre e S => e = E pre ∧ S = T pre) xs [] e (T []) ⟨he, rfl⟩ fun pre a post e S q ⟨q1, q2⟩ => by
    subst q1 q2
    obtain ⟨e1, e2, h1, h2, h3⟩ := h pre a post q
    exact ⟨e1, e2, _, h1, h2, h3, rfl⟩
  rw [h1, h2, h3]; rfl
/-- a loop that puts to a list, item by item -/
theorem forL_accT {α β : Type} (inj : α → D) {tg : Tg} {wp : List Nat} {body : MS} {g : Clos} (en : Env) (st : List β → Sto) (F : α → List β) (xs : List α) (acc : List β) (e : Env) (he : wipe e wp = en)
    (hl : acc.length + (xs.flatMap F).length ≤ 16777216)
    (h : ∀ a acc, a ∈ xs → acc.length + (F a).length ≤ 16777216 → ∃ e1 e2, tg.put (inj a) en = some e1 ∧ (body g e1 (st acc) = .nx e2 (st (acc ++ F a)) ∨ body g e1 (st acc) = .ct e2 (st (acc ++ F a))) ∧ wipe e2 wp = en) :
    forL tg wp body g (xs.map inj) e (st acc) = .nx en (st (acc ++ xs.flatMap F)) := by
  have := forL_eq inj (g := g) (tg := tg) (wp := wp) (body := body) (fun _ => en) (fun pre => st (acc ++ pre.flatMap F)) xs e he fun pre a post q => by
    obtain ⟨e1, e2, h1, h2, h3⟩ := h a (acc ++ pre.flatMap F) (by rw [q]; simp) (by
      rw [q] at hl
      simp only [List.flatMap_append, List.flatMap_cons, List.length_append] at hl ⊢
      omega)
    refine ⟨e1, e2, h1, ?_, h3⟩
    simpa [List.flatMap_append] using h2
  simpa using this
/-- a loop that looks for the first item of which p holds -/
theorem forL_find {α : Type} (inj : α → D) {tg : Tg} {wp : List Nat} {body : MS} {g : Clos} {en : Env} {S : Sto} (p : α → Bool) (r : α → R) : ∀ (xs : List α) (e : Env), wipe e wp = en →
    (∀ a ∈ xs, ∃ e1, tg.put (inj a) en = some e1 ∧ if p a = true then body g e1 S = .rt (r a) S else ∃ e2, (body g e1 S = .nx e2 S ∨ body g e1 S = .ct e2 S) ∧ wipe e2 wp = en) →
    forL tg wp body g (xs.map inj) e S = match xs.find? p with | some a => .rt (r a) S | none => .nx en S
  | [], e, he, _ => by simp [forL, he]
  | x :: xs, e, he, h => by
    obtain ⟨e1, h1, h2⟩ := h x (List.mem_cons_self ..)
    simp only [List.map_cons, forL, he, h1, List.find?_cons]
    cases q : p x with
    | true =>
      rw [if_pos q] at h2
      simp [h2]
    | false =>
      rw [if_neg (by simp [q])] at h2
      obtain ⟨e2, h2, h3⟩ := h2
      have ih := forL_find inj p r xs e2 h3 fun y hy => h y (List.mem_cons_of_mem _ hy)
      rcases h2 with h2 | h2 <;> simp only [h2, ih]
/-- a loop that ends the def at an item of which p holds, always by the same answer -/
theorem forL_any {α : Type} (inj : α → D) {tg : Tg} {wp : List Nat} {body : MS} {g : Clos} {en : Env} {S : Sto} (p : α → Bool) (r : R) (xs : List α) (e : Env) (he : wipe e wp = en)
    (h : ∀ a ∈ xs, ∃ e1, tg.put (inj a) en = some e1 ∧ if p a = true then body g e1 S = .rt r S else ∃ e2, (body g e1 S = .nx e2 S ∨ body g e1 S = .ct e2 S) ∧ wipe e2 wp = en) :
    forL tg wp body g (xs.map inj) e S = if xs.any p = true then .rt r S else .nx en S := by
  rw [forL_find inj p (fun _ => r) xs e he h]
  cases q : xs.find? p with
  | some a =>
    have : xs.any p = true := List.any_eq_true.mpr ⟨a, List.mem_of_find?_eq_some q, List.find?_some q⟩
    simp [this]
  | none =>
    have : ¬ xs.any p = true := by
      intro z
      obtain ⟨a, h1, h2⟩ := List.any_eq_true.mp z
      exact absurd h2 (List.find?_eq_none.mp q a h1)
    simp [this]
/-- a loop that ends the def at an item of which P holds, by the test itself -/
theorem forL_if {α : Type} (inj : α → D) {tg : Tg} {wp : List Nat} {body : MS} {g : Clos} {en : Env} {S : Sto} (P : α → Prop) [DecidablePred P] (r : R) (xs : List α) (e : Env) (he : wipe e wp = en)
    (h : ∀ a ∈ xs, ∃ e1 e2, tg.put (inj a) en = some e1 ∧ body g e1 S = (if P a then .rt r S else .nx e2 S) ∧ wipe e2 wp = en) :
    forL tg wp body g (xs.map inj) e S = if xs.any (fun a => decide (P a)) = true then .rt r S else .nx en S :=
  forL_any inj (fun a => decide (P a)) r xs e he fun a ha => by
    obtain ⟨e1, e2, h1, h2, h3⟩ := h a ha
    refine ⟨e1, h1, ?_⟩
    by_cases c : P a
    · simp [c, h2]
    · simp [c, h2, h3]
/-- a body's end: nothing is told, what is forgotten is forgotten -/
def EndB (o : OS) (wp : List Nat) (Q : Env → Sto → Prop) : Prop := ∃ e S, (o = .nx e S ∨ o = .ct e S) ∧ Q (wipe e wp) S
@[scoped simp] theorem EndB_nx (e : Env) (S : Sto) (wp : List Nat) (Q : Env → Sto → Prop) : EndB (.nx e S) wp Q ↔ Q (wipe e wp) S := by
  constructor
  · rintro ⟨e', S', h | h, q⟩
    · cases h; exact q
    · cases h
  · exact fun q => ⟨e, S, .inl rfl, q⟩
@[scoped simp] theorem EndB_ct (e : Env) (S : Sto) (wp : List Nat) (Q : Env → Sto → Prop) : EndB (.ct e S) wp Q ↔ Q (wipe e wp) S := by
  constructor
  · rintro ⟨e', S', h | h, q⟩
    · cases h
    · cases h; exact q
  · exact fun q => ⟨e, S, .inr rfl, q⟩
/-- an invariant of a loop -/
theorem forL_end {α : Type} (inj : α → D) {tg : Tg} {wp : List Nat} {body : MS} {g : Clos} (Inv : Env → Sto → Prop) : ∀ (xs : List α) (e : Env) (S : Sto), Inv (wipe e wp) S →
    (∀ a ∈ xs, ∀ e S, Inv e S → ∃ e1, tg.put (inj a) e = some e1 ∧ EndB (body g e1 S) wp Inv) →
    ∃ e2 S2, forL tg wp body g (xs.map inj) e S = .nx e2 S2 ∧ Inv e2 S2 := by
  intro xs e S h0 h
  obtain ⟨e2, S2, h1, h2⟩ := forL_pre inj (g := g) (tg := tg) (wp := wp) (body := body) (fun _ e S => Inv e S) xs [] e S h0 fun pre a post e S q hi => by
    obtain ⟨e1, h1, e2, S2, h2, h3⟩ := h a (by simp at q; rw [q]; simp) e S hi
    exact ⟨e1, e2, S2, h1, h2, h3⟩
  exact ⟨e2, S2, h1, h2⟩
/-- a while loop by a state that falls -/
theorem whileL_st {σ : Type} {wp : List Nat} {c : ME} {body : MS} {g : Clos} (E : σ → Env) (T : σ → Sto) (b : σ → Bool) (f : σ → σ) (P : σ → Prop) (μ : σ → Nat)
    (hc : ∀ s, P s → c g (E s) (T s) = .ok (.d (.bl (b s))) (T s))
    (hf : ∀ s, P s → b s = true → P (f s) ∧ μ (f s) < μ s ∧ ∃ e2, (body g (E s) (T s) = .nx e2 (T (f s)) ∨ body g (E s) (T s) = .ct e2 (T (f s))) ∧ wipe e2 wp = E (f s)) :
    ∀ (n : Nat) (s : σ) (e : Env), wipe e wp = E s → P s → μ s < n → ∃ k, whileL wp c body g n e (T s) = .nx (E (Nat.repeat f k s)) (T (Nat.repeat f k s)) ∧ P (Nat.repeat f k s) ∧ b (Nat.repeat f k s) = false
  | 0, s, e, _, _, h => absurd h (by omega)
  | n + 1, s, e, he, hp, hn => by
    have h1 : evB c g (wipe e wp) (T s) = .ok (b s) (T s) := by rw [he, r_evB, hc s hp]; rfl
    cases hb : b s with
    | false =>
      refine ⟨0, ?_, hp, hb⟩
      unfold whileL
      rw [h1, hb, O.bindS_ok, he]
      rfl
    | true =>
      obtain ⟨p1, p2, e2, p3, p4⟩ := hf s hp hb
      obtain ⟨k, q1, q2, q3⟩ := whileL_st E T b f P μ hc hf n (f s) e2 p4 p1 (by omega)
      have ek : ∀ k, Nat.repeat f (k + 1) s = Nat.repeat f k (f s) := by
        intro k
        induction k with
        | zero => rfl
        | succ k ih => show f (Nat.repeat f (k + 1) s) = f (Nat.repeat f k (f s)); rw [ih]
      refine ⟨k + 1, ?_, by rw [ek]; exact q2, by rw [ek]; exact q3⟩
      rw [ek]
      unfold whileL
      rw [h1, hb, O.bindS_ok, he]
      rcases p3 with p3 | p3
      · show (match body g (E s) (T s) with
          | .nx e2 S2 => whileL wp c body g n e2 S2
          | .ct e2 S2 => whileL wp c body g n e2 S2
          | .bk e2 S2 => .nx (wipe e2 wp) S2
          | o => o) = _
        rw [p3]; exact q1
      · show (match body g (E s) (T s) with
          | .nx e2 S2 => whileL wp c body g n e2 S2
          | .ct e2 S2 => whileL wp c body g n e2 S2
          | .bk e2 S2 => .nx (wipe e2 wp) S2
          | o => o) = _
        rw [p3]; exact q1
/-! ### comprehensions -/
theorem wipe_one (e : Env) (i : Nat) : wipe e [i] = e.set i none := (rfl)
theorem lc_typed {α β : Type} (inj : α → D) (out : β → D) {it : MI} {tg : Tg} {own : List Nat} {cond : Option ME} {elt : ME} {g : Clos} {e : Env} {S S1 : Sto} {fz : Option (Nat × C)} (xs : List α) (p : α → Bool) (f : α → β)
    (hm : it g e S = .ok ⟨xs.map inj, fz⟩ S1)
    (h : ∀ x ∈ xs, ∃ e', tg.put (inj x) (wipe e own) = some e' ∧ evC cond g e' S1 = .ok (p x) S1 ∧ (p x = true → evD elt g e' S1 = .ok (out (f x)) S1)) :
    mLc it tg own cond elt g e S = .ok (fL out ((xs.filter p).map f)) (thaw fz S1) := by
  have key : ∀ ys : List α, (∀ y ∈ ys, y ∈ xs) → lcL tg own cond elt g e (ys.map inj) S1 = .ok (((ys.filter p).map f).map out) S1 := by
    intro ys
    induction ys with
    | nil => intro _; simp [lcL]
    | cons y ys ih =>
      intro hy
      obtain ⟨e', h1, h2, h3⟩ := h y (hy y (by simp))
      have ih := ih fun z hz => hy z (by simp [hz])
      cases hp : p y with
      | true =>
        have h3 := h3 hp
        simp only [List.map_cons, lcL, h1, h2, hp, O.bind_ok, h3, ih, List.filter_cons_of_pos hp]
      | false =>
        simp only [List.map_cons, lcL, h1, h2, hp, O.bind_ok, ih, List.filter_cons_of_neg (show ¬ p y = true by simp [hp])]
  have key := key xs fun _ h => h
  unfold mLc
  rw [hm, O.bind_ok, key]
  rfl
@[scoped simp] theorem filter_tt {α : Type} (xs : List α) : xs.filter (fun _ => true) = xs := List.filter_eq_self.mpr (by simp)
theorem lc_map {α β : Type} (inj : α → D) (out : β → D) {it : MI} {tg : Tg} {own : List Nat} {elt : ME} {g : Clos} {e : Env} {S : Sto} (xs : List α) (f : α → β)
    (hm : it g e S = .ok ⟨xs.map inj, none⟩ S)
    (h : ∀ x ∈ xs, ∃ e', tg.put (inj x) (wipe e own) = some e' ∧ evD elt g e' S = .ok (out (f x)) S) :
    mLc it tg own none elt g e S = .ok (fL out (xs.map f)) S := by
  have := lc_typed inj out (cond := none) (S1 := S) (fz := none) xs (fun _ => true) f hm fun x hx => by
    obtain ⟨e', h1, h2⟩ := h x hx
    exact ⟨e', h1, rfl, fun _ => h2⟩
  rw [this]; simp
/-- .. over a list that is changed -/
theorem lc_mapC {α β : Type} (inj : α → D) (out : β → D) {it : MI} {tg : Tg} {own : List Nat} {elt : ME} {g : Clos} {e : Env} {S S1 : Sto} {n : Nat} {c : C} (xs : List α) (f : α → β)
    (hm : it g e S = .ok ⟨xs.map inj, some (n, c)⟩ S1)
    (h : ∀ x ∈ xs, ∃ e', tg.put (inj x) (wipe e own) = some e' ∧ evD elt g e' S1 = .ok (out (f x)) S1) :
    mLc it tg own none elt g e S = .ok (fL out (xs.map f)) (S1.set n (some c)) := by
  have := lc_typed inj out (cond := none) (S1 := S1) (fz := some (n, c)) xs (fun _ => true) f hm fun x hx => by
    obtain ⟨e', h1, h2⟩ := h x hx
    exact ⟨e', h1, rfl, fun _ => h2⟩
  rw [this]; simp
/-- all items of which P holds -/
theorem lc_filter {α : Type} (inj : α → D) {it : MI} {tg : Tg} {own : List Nat} {cond elt : ME} {g : Clos} {e : Env} {S : Sto} (xs : List α) (P : α → Prop) [DecidablePred P]
    (hm : it g e S = .ok ⟨xs.map inj, none⟩ S)
    (h : ∀ x ∈ xs, ∃ e', tg.put (inj x) (wipe e own) = some e' ∧ evB cond g e' S = .ok (decide (P x)) S ∧ evD elt g e' S = .ok (inj x) S) :
    mLc it tg own (some cond) elt g e S = .ok (fL inj (xs.filter fun x => decide (P x))) S := by
  have := lc_typed inj inj (cond := some cond) (S1 := S) (fz := none) xs (fun x => decide (P x)) id hm fun x hx => by
    obtain ⟨e', h1, h2, h3⟩ := h x hx
    exact ⟨e', h1, h2, fun _ => h3⟩
  rw [this]; simp
/-- those of which P holds, as f says -/
theorem lc_fm {α β : Type} (inj : α → D) (out : β → D) {it : MI} {tg : Tg} {own : List Nat} {cond elt : ME} {g : Clos} {e : Env} {S : Sto} (xs : List α) (P : α → Prop) [DecidablePred P] (f : α → β)
    (hm : it g e S = .ok ⟨xs.map inj, none⟩ S)
    (h : ∀ x ∈ xs, ∃ e', tg.put (inj x) (wipe e own) = some e' ∧ evB cond g e' S = .ok (decide (P x)) S ∧ (P x → evD elt g e' S = .ok (out (f x)) S)) :
    mLc it tg own (some cond) elt g e S = .ok (fL out ((xs.filter fun x => decide (P x)).map f)) S := by
  have := lc_typed inj out (cond := some cond) (S1 := S) (fz := none) xs (fun x => decide (P x)) f hm fun x hx => by
    obtain ⟨e', h1, h2, h3⟩ := h x hx
    exact ⟨e', h1, h2, fun q => h3 (of_decide_eq_true q)⟩
  rw [this]; simp
end MP

/-! PE: plain rules of errors, lambdas, methods; products. -/
namespace MP
open M
open PySem (Str)
theorem tx_inj {a b : String} : PySem.Str.ofString a = PySem.Str.ofString b ↔ a = b := by
  constructor
  · intro h
    rw [PySem.Str.ofString_eq_toList, PySem.Str.ofString_eq_toList] at h
    have h2 : (a.toList.map Char.toNat) = (b.toList.map Char.toNat) := by
      have := congrArg PySem.Str.cps h
      simpa using this
    have h3 : a.toList = b.toList := by
      have inj : ∀ x y : List Char, x.map Char.toNat = y.map Char.toNat → x = y := by
        intro x
        induction x with
        | nil => intro y e; cases y with
          | nil => rfl
          | cons c cs => simp at e
        | cons c cs ih => intro y e; cases y with
          | nil => simp at e
          | cons d ds =>
            simp only [List.map_cons, List.cons.injEq] at e
            rw [ih ds e.2, Char.toNat_inj.mp e.1]
      exact inj _ _ h2
    exact String.toList_inj.mp h3
  · rintro rfl; rfl
@[scoped simp] theorem tx_eq (a b : String) : (PySem.Str.ofString a = PySem.Str.ofString b) = (a = b) := propext tx_inj
def refOut (errs : List Str) (R : D → Sto → O M.R) (o : O M.R) : O M.R := match o with
  | .ok _ S1 => R .non S1
  | .ex c S1 => if errs.contains c then R (.exc c) S1 else .no
  | .no => .no
@[scoped simp] theorem r_mRef (errs : List Str) (R : D → Sto → O M.R) (mb : ME) (g : Clos) (e : Env) (S : Sto) : mRef errs R mb g e S = refOut errs R (mb g e S) := by
  unfold mRef refOut; cases mb g e S <;> rfl
@[scoped simp] theorem refOut_ok (errs : List Str) (R : D → Sto → O M.R) (r : M.R) (S : Sto) : refOut errs R (.ok r S) = R .non S := (rfl)
@[scoped simp] theorem refOut_ex (errs : List Str) (R : D → Sto → O M.R) (c : Str) (S : Sto) : refOut errs R (.ex c S) = if errs.contains c then R (.exc c) S else .no := (rfl)
@[scoped simp] theorem opIsE_non (errs : List Str) (cls : Str) : opIsE errs cls [.non] = rb false := (rfl)
@[scoped simp] theorem opIsE_exc (errs : List Str) (cls c : Str) : opIsE errs cls [.exc c] = if errs.contains c then rb (decide (c = cls) || decide (cls = tx "HueError") || decide (cls = tx "ValueError")) else none := (rfl)
@[scoped simp] theorem isNon_exc (c : Str) : isNon (.exc c) = false := (rfl)
def methOut (f : List D → Option M.R) (r : M.R) (o : O M.R) : O M.R := o.bind fun r2 S2 => (match view S2 r, view S2 r2 with
    | some x, some y => (match f [x, y] with
      | some q => .ok q S2
      | none => .no)
    | _, _ => .no)
@[scoped simp] theorem methOut_ok (f : List D → Option M.R) (r r2 : M.R) (S : Sto) : methOut f r (.ok r2 S) = opOut f (consO (view S r) (consO (view S r2) (some []))) S := by
  unfold methOut; rw [O.bind_ok]
  cases view S r with
  | none => rfl
  | some x => cases view S r2 <;> rfl
def methRun (t : String) (f : List D → Option M.R) (o : O M.R) (ma : ME) (g : Clos) (e : Env) : O M.R := o.bind fun r S1 => if (view S1 r).bind (isKind t) = some true then methOut f r (ma g e S1) else .no
@[scoped simp] theorem methRun_ok (t : String) (f : List D → Option M.R) (r : M.R) (ma : ME) (g : Clos) (e : Env) (S : Sto) : methRun t f (.ok r S) ma g e = if (view S r).bind (isKind t) = some true then methOut f r (ma g e S) else .no := (rfl)
@[scoped simp] theorem r_mMeth (t : String) (f : List D → Option M.R) (mo ma : ME) (g : Clos) (e : Env) (S : Sto) : mMeth t f mo ma g e S = methRun t f (mo g e S) ma g e := (rfl)
@[scoped simp] theorem calm_ok {α : Type} (a : α) (S : Sto) : (O.ok a S).calm = .ok a S := (rfl)
theorem opCountL_bl (xs : List Bool) (b : Bool) : opCountL [.lst (xs.map D.bl), .bl b] = ri (xs.countP (· == b)) := by
  have e : (fun y => eqv y (D.bl b)) ∘ D.bl = (· == b) := by funext x; simp
  have gd := goodAll_map (f := D.bl) (n := 60) (by omega) xs
  simp only [opCountL, good_bl, gd, Bool.and_self, if_pos, List.countP_map, e]
theorem opIndexL_bl (xs : List Bool) (b : Bool) {j : Nat} (h : xs.findIdx? (· == b) = some j) : opIndexL [.lst (xs.map D.bl), .bl b] = ri j := by
  have e : (fun y => eqv y (D.bl b)) ∘ D.bl = (· == b) := by funext x; simp
  have gd := goodAll_map (f := D.bl) (n := 60) (by omega) xs
  simp only [opIndexL, good_bl, gd, Bool.and_self, if_pos, List.findIdx?_map, e, h]
/-! ### products -/
def rept {α : Type} (xs : List α) (k : Int) : List α := (List.replicate k.toNat xs).flatten
theorem rep_map {α : Type} (f : α → D) (xs : List α) (n : Nat) : rep (xs.map f) n = ((List.replicate n xs).flatten).map f := by
  simp [M.rep, List.map_flatten, List.map_replicate]
theorem opMul_dT {α : Type} {f : α → D} {xs : List α} {k : Int} (h : xs.length ≤ 1000) (h0 : -1000 ≤ k) (h1 : k ≤ 1000) : opMul [dT f xs, .int k] = some (.d (dT f (rept xs k))) := by
  simp only [dT, opMul, List.length_map]
  rw [if_pos ⟨h, h1, h0⟩, rep_map]; rfl
theorem opMul_tup {xs : List D} {k : Int} (h : xs.length ≤ 1000) (h0 : -1000 ≤ k) (h1 : k ≤ 1000) : opMul [.tup xs, .int k] = some (.d (.tup (rep xs k.toNat))) := by
  simp only [opMul]
  rw [if_pos ⟨h, h1, h0⟩]
theorem opMul_non {k : Int} (h0 : -1000 ≤ k) (h1 : k ≤ 1000) : opMul [.tup [.non], .int k] = some (.d (tH (List.replicate k.toNat none))) := by
  rw [opMul_tup (by simp) h0 h1]
  congr 3
  have := rep_map dO [none] k.toNat
  simp only [List.map_cons, List.map_nil, dO_none] at this
  rw [this]
  congr 1
  induction k.toNat with
  | zero => rfl
  | succ n ih => simp [List.replicate_succ, ih]
theorem rept_length {α : Type} (xs : List α) (k : Int) : (rept xs k).length = k.toNat * xs.length := by simp [rept]
theorem rept_get {α : Type} (xs : List α) : ∀ (n j : Nat), j < n * xs.length → (List.replicate n xs).flatten[j]? = xs[j % xs.length]?
  | 0, j, h => by simp at h
  | n + 1, j, h => by
    rw [List.replicate_succ, List.flatten_cons]
    by_cases hj : j < xs.length
    · rw [List.getElem?_append_left hj, Nat.mod_eq_of_lt hj]
    · rw [List.getElem?_append_right (by omega), rept_get xs n (j - xs.length) (by rw [Nat.succ_mul] at h; omega), ← Nat.mod_eq_sub_mod (by omega)]
/-! ### kinds of things -/
/-- no def, no lambda, no error -/
def plainD : D → Bool
  | .fn _ => false
  | .clo _ => false
  | .exc _ => false
  | _ => true
def isFromD (x : D) (a b : Int) : Bool := match x with
  | .int i => decide (a ≤ i ∧ i ≤ b)
  | _ => false
@[scoped simp] theorem isFromD_int (i a b : Int) : isFromD (.int i) a b = decide (a ≤ i ∧ i ≤ b) := (rfl)
@[scoped simp] theorem isFromD_bl (i : Bool) (a b : Int) : isFromD (.bl i) a b = false := (rfl)
@[scoped simp] theorem isFromD_non (a b : Int) : isFromD .non a b = false := (rfl)
@[scoped simp] theorem isFromD_str (s : Str) (a b : Int) : isFromD (.str s) a b = false := (rfl)
@[scoped simp] theorem isFromD_tup (s : List D) (a b : Int) : isFromD (.tup s) a b = false := (rfl)
@[scoped simp] theorem isFromD_lst (s : List D) (a b : Int) : isFromD (.lst s) a b = false := (rfl)
@[scoped simp] theorem isFromD_dT {α : Type} (f : α → D) (s : List α) (a b : Int) : isFromD (dT f s) a b = false := (rfl)
/-! ### items by Python's places from -1 on -/
def nthP {α : Type} [Inhabited α] (xs : List α) (i : Int) : α := if i = -1 then xs.getLastD default else nth xs i
theorem atI_okP {α β : Type} [Inhabited α] (f : α → β) {xs : List α} {i : Int} (h : xs ≠ []) (h0 : -1 ≤ i) (h1 : i < xs.length) : atI (xs.map f) i = some (f (nthP xs i)) := by
  unfold nthP
  by_cases e : i = -1
  · rw [if_pos e, e, atI_last _ (by simpa using h), List.getLast_map]
    congr 2
    rw [List.getLastD_eq_getLast?, List.getLast?_eq_some_getLast h]; rfl
  · rw [if_neg e, atI_ok f xs (by omega) h1]
theorem opGet_dTP {α : Type} [Inhabited α] {f : α → D} {xs : List α} {i : Int} (h : xs ≠ []) (h0 : -1 ≤ i) (h1 : i < xs.length) : opGet [dT f xs, .int i] = some (.d (f (nthP xs i))) := by
  simp only [dT, opGet, atI_okP f h h0 h1, Option.map_some]
@[scoped simp] theorem opNe_non2 : opNe [.non, .non] = rb false := (rfl)
@[scoped simp] theorem opEq_non2 : opEq [.non, .non] = rb true := (rfl)
def parC3 (i j : Nat) (e : Env) (r r2 : M.R) (a : Option (Option A)) (S2 : Sto) : OS := match r, r2, a with
  | .f v, .d x, some (some (.c n)) => .nx (e.set j (some (.d x))) (S2.set n (some v))
  | _, _, _ => .no
def parC2 (i j : Nat) (e : Env) (r : M.R) (o : O M.R) : OS := o.bindS e fun r2 S2 => parC3 i j e r r2 e[i]? S2
def parC1 (i j : Nat) (e : Env) (g : Clos) (mb : ME) (o : O M.R) : OS := o.bindS e fun r S1 => parC2 i j e r (mb g e S1)
@[scoped simp] theorem r_mParC (i j : Nat) (ma mb : ME) (g : Clos) (e : Env) (S : Sto) : mParC i j ma mb g e S = parC1 i j e g mb (ma g e S) := (rfl)
@[scoped simp] theorem parC1_ok (i j : Nat) (e : Env) (g : Clos) (mb : ME) (r : M.R) (S : Sto) : parC1 i j e g mb (.ok r S) = parC2 i j e r (mb g e S) := (rfl)
@[scoped simp] theorem parC2_ok (i j : Nat) (e : Env) (r r2 : M.R) (S : Sto) : parC2 i j e r (.ok r2 S) = parC3 i j e r r2 e[i]? S := (rfl)
@[scoped simp] theorem parC3_ok (i j : Nat) (e : Env) (v : C) (x : D) (n : Nat) (S : Sto) : parC3 i j e (.f v) (.d x) (some (some (.c n))) S = .nx (e.set j (some (.d x))) (S.set n (some v)) := (rfl)
end MP

namespace MP
open M
open PySem (Str)
/-! ### what is drawn -/
/-- a state from which numbers are drawn -/
structure DS where
  a : Int
  b : Int
  ha : 0 ≤ a
  hb : 0 ≤ b
  hb2 : b < 2147483647
def stC (s : DS) : C := .l [.int s.a, .int s.b]
theorem emodB (x : Int) {k : Int} (hk : 0 < k) : 0 ≤ x % k ∧ x % k < k := ⟨Int.emod_nonneg _ (by omega), Int.emod_lt_of_pos _ hk⟩
theorem take_ex (s : DS) {m : Int} (h0 : 0 < m) (h1 : m < 1073741824) :
    ∃ (r : Int) (s' : DS), (∀ (g : Clos) (n : Nat) (S : Sto), cellOf S n = some (stC s) → sem__law_take g [.c n, .d (.int m)] S = .ok (.d (.int r)) (S.set n (some (stC s')))) ∧ 0 ≤ r ∧ r < m := by
  obtain ⟨a, b, ha, hb, hb2⟩ := s
  by_cases q : m ≤ a
  · refine ⟨a % m, ⟨a / m, b, Int.ediv_nonneg ha (by omega), hb, hb2⟩, ?_, (emodB a h0).1, (emodB a h0).2⟩
    intro g n S hc
    simp only [stC] at hc
    have hn := cell_lt hc
    simp [sem__law_take, m__law_take, hc, q, opMod_int h0, opDiv_int h0 h1, updC, putL, ixN, outOf, stC]
  · have s2 := emodB (b * 48271 + 29) (k := 2147483647) (by omega)
    have d1 := opMod_int (i := b * 48271 + 29) (j := 2147483647) (by omega)
    have m1 : opMul [.int b, .int 48271] = ri (b * 48271) := opMul_small hb (by omega)
    obtain ⟨z, ez⟩ : ∃ z, z = (b * 48271 + 29) % 2147483647 := ⟨_, rfl⟩
    simp only [← ez] at d1 s2
    have s4 := emodB (z * z + 39373 * z + 7) (k := 2147483629) (by omega)
    have d2 := opMod_int (i := z * z + 39373 * z + 7) (j := 2147483629) (by omega)
    have m2 : opMul [.int z, .int z] = ri (z * z) := opMul_small s2.1 (by omega)
    have m3 : opMul [.int 39373, .int z] = ri (39373 * z) := opMul_small (by omega) (by omega)
    obtain ⟨w, ew⟩ : ∃ w, w = (z * z + 39373 * z + 7) % 2147483629 := ⟨_, rfl⟩
    simp only [← ew] at d2 s4
    have m4 : opMul [.int w, .int w] = ri (w * w) := opMul_small s4.1 (by omega)
    have m5 : opMul [.int 16807, .int w] = ri (16807 * w) := opMul_small (by omega) (by omega)
    have d3 := opMod_int (i := w * w + 16807 * w) (j := 2147483587) (by omega)
    have d4 := opDiv_int (i := (w * w + 16807 * w) % 2147483587) (j := 8) (by omega) (by omega)
    have d5 := opMod_int (i := (w * w + 16807 * w) % 2147483587 / 8) h0
    refine ⟨(w * w + 16807 * w) % 2147483587 / 8 % m, ⟨a, z, ha, s2.1, s2.2⟩, ?_, (emodB _ h0).1, (emodB _ h0).2⟩
    intro g n S hc
    simp only [stC] at hc
    have hn := cell_lt hc
    simp [sem__law_take, m__law_take, hc, hn, q, m1, d1, m2, m3, d2, m4, m5, d3, d4, d5, updC, putL, ixN, outOf, stC, cellOf_set_self]
theorem set_idem (S : Sto) (n : Nat) (v w : Option C) : (S.set n v).set n w = S.set n w := List.set_set ..
theorem set_same {S : Sto} {n : Nat} {c : C} (h : cellOf S n = some c) : S.set n (some c) = S := by
  have hn := cell_lt h
  apply List.ext_getElem?
  intro k
  by_cases q : n = k
  · subst q
    rw [List.getElem?_set_self hn]
    unfold cellOf at h
    cases z : S[n]? with
    | none => rw [z] at h; cases h
    | some v => rw [z] at h; simp at h; rw [h]
  · rw [List.getElem?_set_ne q]
/-- a loop in which numbers are drawn -/
theorem forL_uni {σ α : Type} (inj : α → D) {tg : Tg} {wp : List Nat} {body : MS} (dr : σ → DS) (L : σ → Sto) (E : σ → Nat → Nat → Env) (P : σ → Nat → Prop) : ∀ (xs : List α) (k0 : Nat)
    (_ : ∀ s k a, xs[k]? = some a → P s (k0 + k) → ∃ s', P s' (k0 + k + 1) ∧ ∀ (g : Clos) (n : Nat) (S : Sto), cellOf S n = some (stC (dr s)) → ∃ e1 e2, tg.put (inj a) (E s n S.length) = some e1 ∧ (body g e1 (S ++ L s) = .nx e2 (S.set n (some (stC (dr s'))) ++ L s') ∨ body g e1 (S ++ L s) = .ct e2 (S.set n (some (stC (dr s'))) ++ L s')) ∧ wipe e2 wp = E s' n S.length)
    (s0 : σ), P s0 k0 → ∃ s', P s' (k0 + xs.length) ∧ ∀ (g : Clos) (n : Nat) (S : Sto) (e : Env), cellOf S n = some (stC (dr s0)) → wipe e wp = E s0 n S.length → forL tg wp body g (xs.map inj) e (S ++ L s0) = .nx (E s' n S.length) (S.set n (some (stC (dr s'))) ++ L s')
  | [], k0, _, s0, hp => ⟨s0, hp, fun g n S e hc he => by simp [forL, he, set_same hc]⟩
  | x :: xs, k0, h, s0, hp => by
    obtain ⟨s1, p1, h1⟩ := h s0 0 x rfl hp
    obtain ⟨s2, p2, h2⟩ := forL_uni inj dr L E P xs (k0 + 1) (fun s k a hk hp => by
      obtain ⟨s', q1, q2⟩ := h s (k + 1) a (by simpa using hk) (by rwa [show k0 + (k + 1) = k0 + 1 + k by omega])
      exact ⟨s', by rwa [show k0 + 1 + k + 1 = k0 + (k + 1) + 1 by omega], q2⟩) s1 p1
    refine ⟨s2, by rw [List.length_cons, show k0 + (xs.length + 1) = k0 + 1 + xs.length by omega]; exact p2, fun g n S e hc he => ?_⟩
    obtain ⟨e1, e2, w1, w2, w3⟩ := h1 g n S hc
    have hn := cell_lt hc
    have h3 := h2 g n (S.set n (some (stC (dr s1)))) e2 (cellOf_set_self _ hn) (by rw [List.length_set]; exact w3)
    rw [set_idem, List.length_set] at h3
    simp only [List.map_cons, forL, he, w1]
    rcases w2 with w2 | w2 <;> rw [w2] <;> exact h3
/-- .. that has no list of its own -/
theorem forL_uni0 {σ α : Type} (inj : α → D) {tg : Tg} {wp : List Nat} {body : MS} (dr : σ → DS) (E : σ → Nat → Env) (P : σ → Nat → Prop) (xs : List α)
    (h : ∀ s k a, xs[k]? = some a → P s k → ∃ s', P s' (k + 1) ∧ ∀ (g : Clos) (n : Nat) (S : Sto), cellOf S n = some (stC (dr s)) → ∃ e1 e2, tg.put (inj a) (E s n) = some e1 ∧ (body g e1 S = .nx e2 (S.set n (some (stC (dr s')))) ∨ body g e1 S = .ct e2 (S.set n (some (stC (dr s'))))) ∧ wipe e2 wp = E s' n)
    (s0 : σ) (hp : P s0 0) : ∃ s', P s' xs.length ∧ ∀ (g : Clos) (n : Nat) (S : Sto) (e : Env), cellOf S n = some (stC (dr s0)) → wipe e wp = E s0 n → forL tg wp body g (xs.map inj) e S = .nx (E s' n) (S.set n (some (stC (dr s')))) := by
  obtain ⟨s', p, q⟩ := forL_uni inj dr (fun _ => []) (fun s n _ => E s n) P xs 0 (by simpa using h) s0 hp
  exact ⟨s', by simpa using p, fun g n S e hc he => by simpa using q g n S e hc he⟩
theorem get_rng {a b : Int} {k : Nat} {x : Int} (h : (rng a b)[k]? = some x) : x = a + k ∧ a + k < b := by
  unfold rng at h
  rw [List.getElem?_map] at h
  by_cases hi : k < (b - a).toNat
  · rw [List.getElem?_range hi] at h; simp at h; omega
  · rw [List.getElem?_eq_none (by simpa using hi)] at h; cases h
theorem is_whole_int (g : Clos) (i : Int) (S : Sto) : sem_is_whole g [.d (.int i)] S = .ok (.d (.bl true)) S := by
  simp [sem_is_whole, m_is_whole]
@[simp] theorem is_from_int (g : Clos) (i a b : Int) (S : Sto) : sem_is_from g [.d (.int i), .d (.int a), .d (.int b)] S = .ok (.d (.bl (decide (a ≤ i ∧ i ≤ b)))) S := by
  by_cases h : a ≤ i <;> simp [sem_is_from, m_is_from, is_whole_int, h]
/-- each has a hue -/
def InH (h : Int) (xs : List Int) : Prop := ∀ x ∈ xs, 0 ≤ x ∧ x < h
theorem InH.append {h : Int} {xs ys : List Int} (a : InH h xs) (b : InH h ys) : InH h (xs ++ ys) := fun x q => (List.mem_append.mp q).elim (a x) (b x)
theorem InH.take {h : Int} {xs : List Int} (a : InH h xs) (k : Nat) : InH h (xs.take k) := fun x q => a x (List.mem_of_mem_take q)
theorem InH.drop {h : Int} {xs : List Int} (a : InH h xs) (k : Nat) : InH h (xs.drop k) := fun x q => a x (List.mem_of_mem_drop q)
theorem InH.rev {h : Int} {xs : List Int} (a : InH h xs) : InH h xs.reverse := fun x q => a x (by simpa using q)
theorem InH.cons {h : Int} {x : Int} {xs : List Int} (h0 : 0 ≤ x) (h1 : x < h) (a : InH h xs) : InH h (x :: xs) := fun y q => by
  rcases List.mem_cons.mp q with q | q
  · rw [q]; exact ⟨h0, h1⟩
  · exact a y q
theorem InH.nil {h : Int} : InH h [] := fun x q => by cases q
/-- a half row -/
def InHH (h : Int) (xs : List (Option Int)) : Prop := ∀ x, some x ∈ xs → 0 ≤ x ∧ x < h
theorem boolsOf_map {α : Type} (f : α → Bool) : ∀ xs : List α, boolsOf ((xs.map f).map D.bl) = some (xs.map f)
  | [] => rfl
  | x :: xs => by simp only [List.map_cons, boolsOf, boolsOf_map f xs]
@[simp] theorem opAll_dL (xs : List Bool) : opAll [dL D.bl xs] = rb (xs.all id) := by
  have : boolsOf (xs.map D.bl) = some xs := by
    have := boolsOf_map id xs
    simpa using this
  simp [dL, opAll, this]
@[simp] theorem opAny_dL (xs : List Bool) : opAny [dL D.bl xs] = rb (xs.any id) := by
  have : boolsOf (xs.map D.bl) = some xs := by
    have := boolsOf_map id xs
    simpa using this
  simp [dL, opAny, this]
theorem cell_at_ok (g : Clos) (ns : List Int) (k : Int) (S : Sto) (hk : 0 ≤ k) : ∃ i, sem__law_cell_at g [.d (.rol (ns.map D.int)), .d (.int k)] S = .ok (.d (.int i)) S := by
  by_cases h : k < ns.length
  · have h3 := atI_ok D.int ns hk h
    exact ⟨nth ns k, by simp [sem__law_cell_at, m__law_cell_at, opGet, h, h3]⟩
  · exact ⟨0, by simp [sem__law_cell_at, m__law_cell_at, h]⟩
theorem opPow_1018 : opPow [.int 10, .int 18] = ri (1000000000000000000) := by simp [opPow]
theorem state_ok (g : Clos) (ns : List Int) (k : Int) (S : Sto) (hk : 0 ≤ k) : ∃ s : DS, sem__law_state g [.d (.rol (ns.map D.int)), .d (.int k)] S = .ok (.f (stC s)) S := by
  obtain ⟨i, hi⟩ := cell_at_ok g ns k S hk
  have b := emodB i (k := 2147483647) (by omega)
  refine ⟨⟨max 0 (i - 1000000000000000000), i % 2147483647, by omega, b.1, b.2⟩, ?_⟩
  have d := opMod_int (i := i) (j := 2147483647) (by omega)
  simp [sem__law_state, m__law_state, hi, opPow_1018, d, stC]
/-- one of the two rules -/
def IsRule (r : Str) : Prop := r = tx "any" ∨ r = tx "unlike"
theorem emod_in {x h : Int} (h1 : 1 ≤ h) : 0 ≤ x % h ∧ x % h < h := emodB x (by omega)
theorem flatMap_le {α β : Type} {F : α → List β} {k : Nat} : ∀ {xs : List α}, (∀ a ∈ xs, (F a).length ≤ k) → (xs.flatMap F).length ≤ xs.length * k
  | [], _ => by simp
  | x :: xs, h => by
    rw [List.flatMap_cons, List.length_append, List.length_cons, Nat.add_mul]
    have := h x (List.mem_cons_self ..)
    have := flatMap_le fun a ha => h a (List.mem_cons_of_mem _ ha)
    omega
def uOf (r : Str) : Int := if r = tx "unlike" then 1 else 0
theorem uOf_any : uOf (tx "any") = 0 := by simp [uOf]
theorem uOf_unlike : uOf (tx "unlike") = 1 := by simp [uOf]
theorem uOf_range (r : Str) : 0 ≤ uOf r ∧ uOf r ≤ 1 := by unfold uOf; split <;> omega
theorem must_rule_ok (g : Clos) (r : Str) (S : Sto) (h : IsRule r) : sem_must_rule g [.d (.str r)] S = .ok (.d .non) S := by
  have n1 : opNotIn [.str (tx "any"), .tup [.str (tx "any"), .str (tx "unlike")]] = rb false := by rfl
  have n2 : opNotIn [.str (tx "unlike"), .tup [.str (tx "any"), .str (tx "unlike")]] = rb false := by rfl
  rcases h with rfl | rfl
  · simp [sem_must_rule, m_must_rule, n1]
  · simp [sem_must_rule, m_must_rule, n2]
theorem is_from_D (g : Clos) (x : D) (a b : Int) (S : Sto) (hx : plainD x = true) : sem_is_from g [.d x, .d (.int a), .d (.int b)] S = .ok (.d (.bl (isFromD x a b))) S := by
  cases x with
  | int i => simp
  | fn _ => simp [plainD] at hx
  | clo _ => simp [plainD] at hx
  | exc _ => simp [plainD] at hx
  | rol xs => simp [sem_is_from, m_is_from, sem_is_whole, m_is_whole, isKind, isFromD]
  | _ => simp [sem_is_from, m_is_from, sem_is_whole, m_is_whole, isFromD]
theorem must_number_D (g : Clos) (x : D) (a b : Int) (S : Sto) (hx : plainD x = true) : sem_must_number g [.d x, .d (.int a), .d (.int b)] S = if isFromD x a b = true then .ok (.d .non) S else .ex (tx "NoNumber") S := by
  by_cases h : isFromD x a b = true
  · simp [sem_must_number, m_must_number, is_from_D g x a b S hx, h]
  · simp [sem_must_number, m_must_number, is_from_D g x a b S hx, h]
theorem rng_split {a b c : Int} (h1 : a ≤ b) (h2 : b ≤ c) : rng a c = rng a b ++ rng b c := by
  obtain ⟨k, rfl⟩ : ∃ k : Nat, c = b + k := ⟨(c - b).toNat, by omega⟩
  clear h2
  induction k with
  | zero => simp [rng_nil]
  | succ k ih =>
    rw [show b + ((k + 1 : Nat) : Int) = (b + k) + 1 by omega, rng_snoc (by omega), ih, rng_snoc (by omega), List.append_assoc]
theorem map_block {α : Type} (f : Int → α) (zs : List α) (a b : Int) (hb : b = a + zs.length) (h : ∀ (i : Nat) (hi : i < zs.length), f (a + i) = zs[i]) : (rng a b).map f = zs := by
  subst hb
  apply List.ext_getElem
  · simp; omega
  · intro i h1 h2
    have e : (rng a (a + zs.length))[i]'(by simpa using h1) = a + i := by simp [rng]
    rw [List.getElem_map, e]
    exact h i h2
theorem nth_nat {α : Type} [Inhabited α] {xs : List α} {i : Nat} (h : i < xs.length) : nth xs (i : Int) = xs[i] := by
  unfold nth; rw [Int.toNat_natCast, List.getD_eq_getElem?_getD, List.getElem?_eq_getElem h, Option.getD_some]
/-- all sums within n -/
def sumsW (n u : Int) : List (Int × Int × Int) := (rng 1 (n + 1)).flatMap fun a => (rng (a + u) (n + 1 - a)).map fun b => (a, b, a + b)
theorem mem_sumsW {n u a b c : Int} : (a, b, c) ∈ sumsW n u ↔ 1 ≤ a ∧ a ≤ n ∧ a + u ≤ b ∧ a + b ≤ n ∧ c = a + b := by
  unfold sumsW
  simp only [List.mem_flatMap, List.mem_map, mem_rng, Prod.mk.injEq]
  constructor
  · rintro ⟨x, hx, y, hy, rfl, rfl, rfl⟩; omega
  · rintro ⟨h1, h2, h3, h4, rfl⟩; exact ⟨a, by omega, b, by omega, rfl, rfl, rfl⟩
/-- the hue of a sum, if there is one -/
def hueAt (h : List (Option Int)) (t : Int × Int × Int) : Option Int := if nth h (t.1 - 1) = nth h (t.2.2 - 1) ∧ nth h (t.2.1 - 1) = nth h (t.2.2 - 1) then nth h (t.2.2 - 1) else none
/-- all clashes -/
def allC (h : List (Option Int)) (u : Int) : List (Int × Int × Int) := (sumsW h.length u).filter fun t => (hueAt h t).isSome
theorem lexL_anti' : ∀ xs ys : List Int, lexL xs ys = false → lexL ys xs = false → xs = ys
  | [], [], _, _ => rfl
  | [], _ :: _, h, _ => by unfold lexL at h; cases h
  | _ :: _, [], _, h => by unfold lexL at h; cases h
  | x :: xs, y :: ys, h1, h2 => by
    unfold lexL at h1 h2
    by_cases e : x = y
    · rw [if_pos e] at h1
      rw [if_pos e.symm] at h2
      rw [e, lexL_anti' xs ys h1 h2]
    · rw [if_neg e, decide_eq_false_iff_not] at h1
      rw [if_neg (fun z => e z.symm), decide_eq_false_iff_not] at h2
      omega
theorem lexL_asym' : ∀ xs ys : List Int, lexL xs ys = true → lexL ys xs = false
  | _, [], h => by unfold lexL at h; cases h
  | [], _ :: _, h => by unfold lexL; rfl
  | x :: xs, y :: ys, h => by
    unfold lexL at h ⊢
    by_cases e : x = y
    · rw [if_pos e] at h
      rw [if_pos e.symm]; exact lexL_asym' xs ys h
    · rw [if_neg e, decide_eq_true_iff] at h
      rw [if_neg (fun z => e z.symm), decide_eq_false_iff_not]; omega
theorem lexL_tr' : ∀ xs ys zs : List Int, lexL ys xs = false → lexL zs ys = false → lexL zs xs = false
  | [], ys, zs, _, _ => by cases zs <;> unfold lexL <;> rfl
  | x :: xs, [], zs, h, _ => by unfold lexL at h; cases h
  | x :: xs, y :: ys, [], _, h => by unfold lexL at h; cases h
  | x :: xs, y :: ys, z :: zs, h1, h2 => by
    unfold lexL at h1 h2 ⊢
    by_cases e1 : y = x
    · by_cases e2 : z = y
      · rw [if_pos e1] at h1
        rw [if_pos e2] at h2
        rw [if_pos (e2.trans e1)]
        exact lexL_tr' xs ys zs h1 h2
      · rw [if_neg e2, decide_eq_false_iff_not] at h2
        rw [if_neg (by omega), decide_eq_false_iff_not]; omega
    · rw [if_neg e1, decide_eq_false_iff_not] at h1
      by_cases e2 : z = y
      · rw [if_neg (by omega), decide_eq_false_iff_not]; omega
      · rw [if_neg e2, decide_eq_false_iff_not] at h2
        rw [if_neg (by omega), decide_eq_false_iff_not]; omega
def toL (t : Int × Int × Int) : List Int := [t.1, t.2.1, t.2.2]
def trLt (s t : Int × Int × Int) : Prop := s.1 < t.1 ∨ (s.1 = t.1 ∧ s.2.1 < t.2.1)
theorem trLt_le {s t : Int × Int × Int} (h : trLt s t) : leL (toL s) (toL t) = true := by
  obtain ⟨a, b, c⟩ := s
  obtain ⟨x, y, z⟩ := t
  unfold trLt at h
  dsimp only at h
  simp only [leL, toL, lexL]
  rcases h with h | ⟨rfl, h⟩
  · rw [if_neg (by omega)]
    simp; omega
  · rw [if_pos rfl, if_neg (by omega)]
    simp; omega
theorem intsOf_tr (t : Int × Int × Int) (ts : List (Int × Int × Int)) : intsOf ((t :: ts).map dTr) = none := by
  obtain ⟨a, b, c⟩ := t
  simp [intsOf]
theorem rowsOf_tr : ∀ ts : List (Int × Int × Int), rowsOf (ts.map dTr) = some (ts.map toL)
  | [] => rfl
  | t :: ts => by
    have ih := rowsOf_tr ts
    obtain ⟨a, b, c⟩ := t
    simp only [List.map_cons, dTr_mk, rowsOf, intsOf, ih]
    rfl
/-- what sorting gives: the one sorted list of the same things -/
theorem sort_eq {rs qs : List (List Int)} (hp : rs.Perm qs) (hs : qs.Pairwise fun a b => leL a b = true) : rs.mergeSort leL = qs := by
  refine List.Perm.eq_of_pairwise (le := fun a b => leL a b = true) (fun a b _ _ q1 q2 => ?_) (List.pairwise_mergeSort ?_ ?_ rs) hs ((List.mergeSort_perm ..).trans hp)
  · unfold leL at q1 q2
    exact lexL_anti' a b (by simpa using q2) (by simpa using q1)
  · intro a b c h1 h2
    unfold leL at h1 h2 ⊢
    have := lexL_tr' a b c (by simpa using h1) (by simpa using h2)
    rw [this]; rfl
  · intro a b
    unfold leL
    cases h : lexL a b with
    | false => simp
    | true => rw [lexL_asym' _ _ h]; rfl
theorem opSorted_tr {ts us : List (Int × Int × Int)} (hp : ts.Perm us) (hs : us.Pairwise trLt) : opSorted [.lst (ts.map dTr)] = some (fL dTr us) := by
  cases ts with
  | nil =>
    have : us = [] := hp.symm.eq_nil
    subst this
    simp [opSorted, intsOf, fL]
  | cons t ts =>
    have e : ((t :: ts).map toL).mergeSort leL = us.map toL := sort_eq (hp.map _) (List.pairwise_map.mpr (hs.imp trLt_le))
    simp only [opSorted, intsOf_tr, rowsOf_tr, e]
    simp only [fL, List.map_map]
    rfl
theorem rng_lt (a b : Int) : (rng a b).Pairwise (· < ·) := by
  unfold rng
  refine List.pairwise_map.mpr (List.pairwise_lt_range.imp ?_)
  intro i j h; omega
theorem in_if {α : Type} {c : Prop} [Decidable c] {t x : α} (h : x ∈ if c then [t] else []) : c ∧ x = t := by
  by_cases q : c
  · rw [if_pos q] at h; exact ⟨q, List.mem_singleton.mp h⟩
  · rw [if_neg q] at h; cases h
theorem pw_if {α : Type} {R : α → α → Prop} {c : Prop} [Decidable c] {t : α} : (if c then [t] else []).Pairwise R := by
  by_cases q : c
  · rw [if_pos q]; exact List.pairwise_singleton ..
  · rw [if_neg q]; exact List.Pairwise.nil
theorem rng_at {a b x : Int} {pre post : List Int} (h : rng a b = pre ++ x :: post) : x = a + pre.length := by
  have h1 : (rng a b)[pre.length]? = some x := by rw [h]; simp
  have hl : pre.length < (rng a b).length := by rw [h]; simp
  rw [List.getElem?_eq_getElem hl] at h1
  simp only [rng, List.getElem_map, List.getElem_range, Option.some.injEq] at h1
  omega
theorem intsOf_map : ∀ ns : List Int, intsOf (ns.map D.int) = some ns
  | [] => rfl
  | n :: ns => by simp only [List.map_cons, intsOf, intsOf_map ns]
/-- a pair of an int and a tuple of ints -/
def dP (p : Int × List Int) : D := .tup [.int p.1, .tup (p.2.map .int)]
theorem pairsOf_map : ∀ ps : List (Int × List Int), pairsOf (ps.map dP) = some ps
  | [] => rfl
  | p :: ps => by simp only [List.map_cons, dP, pairsOf, intsOf_map, pairsOf_map ps]
theorem opSortedP_ok (ps : List (Int × List Int)) : opSortedP [dL dP ps] = some (fL dP (ps.mergeSort leP)) := by
  show (match pairsOf (ps.map dP) with
    | some rs => some (R.f (.l ((rs.mergeSort leP).map fun (r : Int × List Int) => D.tup [.int r.1, .tup (r.2.map .int)])))
    | none => none) = _
  rw [pairsOf_map]; rfl
/-- all rising tuples of numbers up to n -/
def subs : Nat → List (List Int)
  | 0 => [[]]
  | n + 1 => subs n ++ (subs n).map fun s => s ++ [(n : Int) + 1]
theorem subs_len : ∀ n : Nat, (subs n).length = 2 ^ n ∧ ∀ s ∈ subs n, s.length ≤ n ∧ ∀ z ∈ s, 1 ≤ z ∧ z ≤ n
  | 0 => by simp [subs]
  | n + 1 => by
    obtain ⟨i1, i2⟩ := subs_len n
    refine ⟨by simp [subs, i1]; omega, fun s hs => ?_⟩
    simp only [subs, List.mem_append, List.mem_map] at hs
    rcases hs with hs | ⟨t, ht, rfl⟩
    · have := i2 s hs
      exact ⟨by omega, fun z hz => by have := this.2 z hz; omega⟩
    · have := i2 t ht
      refine ⟨by simp; omega, fun z hz => ?_⟩
      rcases List.mem_append.mp hz with hz | hz
      · have := this.2 z hz; omega
      · rw [List.mem_singleton.mp hz]; omega
def allSome (n : Nat) : List (List Int) := (((subs n).map fun s => ((s.length : Int), s)).mergeSort leP).map (·.2)
theorem mem_allSome {n : Nat} {s : List Int} : s ∈ allSome n ↔ s ∈ subs n := by
  unfold allSome
  simp only [List.mem_map, List.mem_mergeSort]
  constructor
  · rintro ⟨p, ⟨t, ht, rfl⟩, rfl⟩; exact ht
  · intro h; exact ⟨_, ⟨s, h, rfl⟩, rfl⟩
theorem sortT_perm {xs ys : List Int} (hp : xs.Perm ys) (hs : ys.Pairwise (· < ·)) : xs.mergeSort (fun a b => decide (a ≤ b)) = ys := by
  refine List.Perm.eq_of_pairwise (le := fun a b => a ≤ b) (fun a b _ _ h1 h2 => by omega) ?_ (hs.imp fun {a b} h => by omega) ((List.mergeSort_perm xs _).trans hp)
  have := List.pairwise_mergeSort (le := fun a b : Int => decide (a ≤ b)) (fun a b c h1 h2 => by simp at *; omega) (fun a b => by simp; omega) xs
  exact this.imp fun {a b} h => by simpa using h
theorem intsOf_int : ∀ xs : List Int, intsOf (xs.map D.int) = some xs
  | [] => rfl
  | x :: xs => by simp [intsOf, intsOf_int xs]
theorem opSortedT_ok {xs ys : List Int} (hp : xs.Perm ys) (hs : ys.Pairwise (· < ·)) (hl : xs.length < 64) : opSortedT [tI xs] = some (fL D.int ys) := by
  simp only [dT, opSortedT, intsOf_int, if_pos hl, sortT_perm hp hs]; rfl
theorem opSortedT_int {xs : List Int} (hl : xs.length < 64) : opSortedT [tI xs] = some (fL D.int (xs.mergeSort fun a b => decide (a ≤ b))) := by
  simp only [dT, opSortedT, intsOf_int, if_pos hl]; rfl
theorem perm_in {h : Int} {ord : List Int} (hp : ord.Perm (rng 0 h)) : ∀ x ∈ ord, 0 ≤ x ∧ x < h := fun x hx => mem_rng.mp (hp.mem_iff.mp hx)
theorem perm_len {h : Int} {ord : List Int} (h0 : 0 ≤ h) (hp : ord.Perm (rng 0 h)) : (ord.length : Int) = h := by
  have := hp.length_eq
  rw [rng_length] at this; omega
def renL (ord : List Int) (half : List (Option Int)) : List (Option Int) := half.map fun o => o.map fun q => nth ord q
theorem from_lc (g : Clos) (ys : List D) (h : Int) (i k : Nat) (e : Env) (S : Sto) (hy : ∀ y ∈ ys, plainD y = true) (he : e[i]? = some (some (.d (.tup ys)))) (hh : ∀ x, (e.set k (some (.d x)))[0]? = some (some (.d (.int h)))) (hk : ∀ x : D, (e.set k (some (.d x)))[k]? = some (some (.d x))) (hw : ∀ x : D, (e.set k none).set k (some (.d x)) = e.set k (some (.d x))) : mLc (miSeq (mVar i)) (.one k) [k] none (mCall sem_is_from [mVar k, mK (.int 0), mOp opSub [mVar 0, mK (.int 1)]]) g e S = .ok (fL D.bl (ys.map fun y => isFromD y 0 (h - 1))) S := by
  have lc := lc_map (it := miSeq (mVar i)) (tg := .one k) (own := [k]) (elt := mCall sem_is_from [mVar k, mK (.int 0), mOp opSub [mVar 0, mK (.int 1)]]) (g := g) (e := e) (S := S) id D.bl ys (fun y => isFromD y 0 (h - 1)) (by simp (disch := first | omega | (simp <;> omega) | fail) [appC_ok, appC_l, extC_ok, opAdd_dT, opAdd_dL, opAdd_tI1, opAdd_1tI, opAdd_tH1, opAdd_dL1, opGet_dT, opGet_dL, opMod_int, opDiv_int, opMul_small, opMul_small2, rng1Out_ok, rng2Out_ok, cut_lo, cut_hi, cut_lohi, he]) (by
    intro y hy'
    have f := fun T => is_from_D g y 0 (h - 1) T (hy y hy')
    exact ⟨_, rfl, by simp (disch := first | omega | (simp <;> omega) | fail) [appC_ok, appC_l, extC_ok, opAdd_dT, opAdd_dL, opAdd_tI1, opAdd_1tI, opAdd_tH1, opAdd_dL1, opGet_dT, opGet_dL, opMod_int, opDiv_int, opMul_small, opMul_small2, rng1Out_ok, rng2Out_ok, cut_lo, cut_hi, cut_lohi, hw, hh, hk, f]⟩)
  exact lc
theorem int_plain (xs : List Int) : ∀ y ∈ xs.map D.int, plainD y = true := fun y hy => by
  obtain ⟨z, _, rfl⟩ := List.mem_map.mp hy; rfl
theorem all_from {h : Int} {ord : List Int} (hi : ∀ x ∈ ord, 0 ≤ x ∧ x < h) : ((ord.map D.int).map fun y => isFromD y 0 (h - 1)).all id = true := by
  simp only [List.all_map, List.all_eq_true]
  intro x hx
  have := hi x hx
  simp; omega
/-- no order -/
def BadOrd (h : Int) (x : D) : Prop := isKind "tuple" x = some false ∨ (∃ ys, x = .tup ys ∧ (∀ y ∈ ys, plainD y = true) ∧ ((ys.length : Int) ≠ h ∨ (ys.map fun y => isFromD y 0 (h - 1)).all id = false)) ∨ ∃ zs : List Int, x = tI zs ∧ (zs.length : Int) = h ∧ InH h zs ∧ ¬ zs.Nodup
theorem rng_nodup (a b : Int) : (rng a b).Nodup := (rng_lt a b).imp fun {a b} q e => by omega
def callF2 (ms : List ME) (g : Clos) (e : Env) (S : Sto) (o : Option Fn) : O M.R := match o with
  | some F => mCall F ms g e S
  | none => .no
theorem callF2_some (ms : List ME) (g : Clos) (e : Env) (S : Sto) (F : Fn) : callF2 ms g e S (some F) = mCall F ms g e S := rfl
def callF1 (tb : List (Str × Fn)) (ms : List ME) (g : Clos) (e : Env) (S : Sto) (a : Option (Option A)) : O M.R := match a with
  | some (some (.d (.fn f))) => callF2 ms g e S (lookF tb f)
  | _ => .no
theorem callF1_fn (tb : List (Str × Fn)) (ms : List ME) (g : Clos) (e : Env) (S : Sto) (f : Str) : callF1 tb ms g e S (some (some (.d (.fn f)))) = callF2 ms g e S (lookF tb f) := rfl
theorem r_mCallF (tb : List (Str × Fn)) (i : Nat) (ms : List ME) (g : Clos) (e : Env) (S : Sto) : mCallF tb i ms g e S = callF1 tb ms g e S e[i]? := by
  unfold mCallF callF1 callF2
  generalize e[i]? = o
  cases o with
  | none => rfl
  | some a => cases a with
    | none => rfl
    | some b => cases b with
      | d x => cases x <;> rfl
      | _ => rfl
/-! names that hold defs, or lambdas with parameters -/
def callFC1 (tb : List (Str × Fn)) (lt : List Fn) (ms : List ME) (g : Clos) (e : Env) (S : Sto) (a : Option (Option A)) : O M.R := match a with
  | some (some (.d (.fn f))) => callF2 ms g e S (lookF tb f)
  | some (some (.d (.clo k))) => callF2 ms g e S lt[k]?
  | _ => .no
theorem callFC1_fn (tb : List (Str × Fn)) (lt : List Fn) (ms : List ME) (g : Clos) (e : Env) (S : Sto) (f : Str) : callFC1 tb lt ms g e S (some (some (.d (.fn f)))) = callF2 ms g e S (lookF tb f) := rfl
theorem callFC1_clo (tb : List (Str × Fn)) (lt : List Fn) (ms : List ME) (g : Clos) (e : Env) (S : Sto) (k : Nat) : callFC1 tb lt ms g e S (some (some (.d (.clo k)))) = callF2 ms g e S lt[k]? := rfl
theorem r_mCallFC (tb : List (Str × Fn)) (lt : List Fn) (i : Nat) (ms : List ME) (g : Clos) (e : Env) (S : Sto) : mCallFC tb lt i ms g e S = callFC1 tb lt ms g e S e[i]? := by
  unfold mCallFC callFC1 callF2
  generalize e[i]? = o
  cases o with
  | none => rfl
  | some a => cases a with
    | none => rfl
    | some b => cases b with
      | d x => cases x <;> rfl
      | _ => rfl
theorem noCloS_set {S : Sto} {n : Nat} {v : Option C} (h : noCloS S = true) (hv : noCloO v = true) : noCloS (S.set n v) = true := by
  unfold noCloS at h ⊢
  rw [List.all_eq_true] at h ⊢
  intro c hc
  rcases List.mem_or_eq_of_mem_set hc with hc | rfl
  · exact h c hc
  · exact hv
theorem noClos_map {α : Type} {f : α → D} (hf : ∀ a, noClo (f a) = true) : ∀ xs : List α, noClos (xs.map f) = true
  | [] => rfl
  | x :: xs => by rw [List.map_cons, noClos, hf x, noClos_map hf xs]; rfl
theorem lock_ok {np : Nat} {muts : List Bool} {m : MS} {g : Clos} {as : List A} {S S' : Sto} {r : M.R} (h : mkFn np muts m g as S = .ok r S') (ha : as.all noCloA = true) (hS : noCloS S = true) (hr : noCloR r = true) (hS' : noCloS S' = true) : mkFnK np muts m g as S = .ok r S' := by
  unfold mkFnK
  rw [if_pos (by rw [ha, hS]; rfl), h]
  unfold lockO
  simp only
  rw [if_pos (by rw [hr, hS']; rfl)]
/-! free lots: the program's -/
theorem must_lotsF (g : Clos) (n : Int) (r : Str) (S : Sto) (n0 : 0 ≤ n) (n1 : n ≤ 14) (hr : IsRule r) : sem_must_lots g [.d (.int n), .d (.str r)] S = .ok (.d .non) S := by
  have mn := fun T => must_number_D g (.int n) 0 14 T rfl
  simp only [isFromD_int, if_pos (show decide (0 ≤ n ∧ n ≤ 14) = true by simp; omega)] at mn
  have mr := fun T => must_rule_ok g r T hr
  simp (disch := first | omega | (simp <;> omega) | fail) [appC_ok, appC_l, extC_ok, opAdd_dT, opAdd_dL, opAdd_tI1, opAdd_1tI, opAdd_tH1, opAdd_dL1, opGet_dT, opGet_dL, opMod_int, opDiv_int, opMul_small, opMul_small2, rng1Out_ok, rng2Out_ok, cut_lo, cut_hi, cut_lohi, sem_must_lots, m_must_lots, mn, mr]
theorem rowsOf0_tF : ∀ rs : List (List Int), rowsOf0 (rs.map (dT D.int)) = some rs
  | [] => rfl
  | r :: rs => by simp only [List.map_cons, dT, rowsOf0, intsOf_map, rowsOf0_tF rs]
theorem opSortedL0F (rs : List (List Int)) : opSortedL0 [dL (dT D.int) rs] = some (fL (dT D.int) (rs.mergeSort leL)) := by
  simp only [dL, opSortedL0, rowsOf0_tF]; rfl
/-- a number greater than all of a lot may come -/
def mayB (lot : List Int) (x : Int) (r : Str) : Bool := !lot.any fun a => decide (x - a ∈ lot ∧ (r = tx "any" ∨ a ≠ x - a))
theorem may_come_ok (g : Clos) (lot : List Int) (x : Int) (r : Str) (S : Sto) : sem_may_come g [.d (tI lot), .d (.int x), .d (.str r)] S = .ok (.d (.bl (mayB lot x r))) S := by
  have L := forL_if D.int (tg := .one 3) (wp := [3, 4]) (body := lb_may_come_1) (g := g) (S := S) (en := [some (.d (tI lot)), some (.d (.int x)), some (.d (.str r)), none, none])
    (fun a => x - a ∈ lot ∧ (r = tx "any" ∨ a ≠ x - a)) (.d (.bl false)) lot [some (.d (tI lot)), some (.d (.int x)), some (.d (.str r)), none, none] rfl (by
      intro a ha
      by_cases c1 : x - a ∈ lot
      · by_cases c2 : r = tx "any"
        · exact ⟨_, [some (.d (tI lot)), some (.d (.int x)), some (.d (.str r)), none, none], rfl, by simp (disch := first | omega | (simp <;> omega) | fail) [appC_ok, appC_l, extC_ok, opAdd_dT, opAdd_dL, opAdd_tI1, opAdd_1tI, opAdd_tH1, opAdd_dL1, opGet_dT, opGet_dL, opMod_int, opDiv_int, opMul_small, opMul_small2, rng1Out_ok, rng2Out_ok, cut_lo, cut_hi, cut_lohi, lb_may_come_1, eq_true c1, eq_true c2] <;> rfl, rfl⟩
        · by_cases c3 : a = x - a
          · exact ⟨_, _, rfl, by simp (disch := first | omega | (simp <;> omega) | fail) [appC_ok, appC_l, extC_ok, opAdd_dT, opAdd_dL, opAdd_tI1, opAdd_1tI, opAdd_tH1, opAdd_dL1, opGet_dT, opGet_dL, opMod_int, opDiv_int, opMul_small, opMul_small2, rng1Out_ok, rng2Out_ok, cut_lo, cut_hi, cut_lohi, lb_may_come_1, eq_true c1, eq_false c2, eq_true c3] <;> rfl, rfl⟩
          · exact ⟨_, [some (.d (tI lot)), some (.d (.int x)), some (.d (.str r)), none, none], rfl, by simp (disch := first | omega | (simp <;> omega) | fail) [appC_ok, appC_l, extC_ok, opAdd_dT, opAdd_dL, opAdd_tI1, opAdd_1tI, opAdd_tH1, opAdd_dL1, opGet_dT, opGet_dL, opMod_int, opDiv_int, opMul_small, opMul_small2, rng1Out_ok, rng2Out_ok, cut_lo, cut_hi, cut_lohi, lb_may_come_1, eq_true c1, eq_false c2, eq_false c3] <;> rfl, rfl⟩
      · exact ⟨_, _, rfl, by simp (disch := first | omega | (simp <;> omega) | fail) [appC_ok, appC_l, extC_ok, opAdd_dT, opAdd_dL, opAdd_tI1, opAdd_1tI, opAdd_tH1, opAdd_dL1, opGet_dT, opGet_dL, opMod_int, opDiv_int, opMul_small, opMul_small2, rng1Out_ok, rng2Out_ok, cut_lo, cut_hi, cut_lohi, lb_may_come_1, eq_false c1] <;> rfl, rfl⟩)
  cases c : lot.any fun a => decide (x - a ∈ lot ∧ (r = tx "any" ∨ a ≠ x - a)) with
  | true =>
    rw [c, if_pos rfl] at L
    have m : mayB lot x r = false := by unfold mayB; rw [c]; rfl
    simp (disch := first | omega | (simp <;> omega) | fail) [appC_ok, appC_l, extC_ok, opAdd_dT, opAdd_dL, opAdd_tI1, opAdd_1tI, opAdd_tH1, opAdd_dL1, opGet_dT, opGet_dL, opMod_int, opDiv_int, opMul_small, opMul_small2, rng1Out_ok, rng2Out_ok, cut_lo, cut_hi, cut_lohi, sem_may_come, m_may_come, L, m]
  | false =>
    rw [c, if_neg (by simp)] at L
    have m : mayB lot x r = true := by unfold mayB; rw [c]; rfl
    simp (disch := first | omega | (simp <;> omega) | fail) [appC_ok, appC_l, extC_ok, opAdd_dT, opAdd_dL, opAdd_tI1, opAdd_1tI, opAdd_tH1, opAdd_dL1, opGet_dT, opGet_dL, opMod_int, opDiv_int, opMul_small, opMul_small2, rng1Out_ok, rng2Out_ok, cut_lo, cut_hi, cut_lohi, sem_may_come, m_may_come, L, m]
def freeS (r : Str) (L : List (List Int)) (x : Int) : List (List Int) := L ++ (L.filter fun lot => mayB lot x r).map fun lot => lot ++ [x]
def freeU (n : Nat) (r : Str) : List (List Int) := (rng 1 (n + 1)).foldl (freeS r) [[]]
theorem freeS_len (r : Str) : ∀ (xs : List Int) (L : List (List Int)) (k m : Nat), L.length ≤ k → (∀ lot ∈ L, lot.length ≤ m) → (xs.foldl (freeS r) L).length ≤ k * 2 ^ xs.length ∧ ∀ lot ∈ xs.foldl (freeS r) L, lot.length ≤ m + xs.length
  | [], L, k, m, h1, h2 => ⟨by simpa using h1, by simpa using h2⟩
  | x :: xs, L, k, m, h1, h2 => by
    have ih := freeS_len r xs (freeS r L x) (k * 2) (m + 1) (by
      unfold freeS
      rw [List.length_append, List.length_map]
      have := List.length_filter_le (fun lot => mayB lot x r) L
      omega) (by
      intro lot hl
      unfold freeS at hl
      rcases List.mem_append.mp hl with h | h
      · have := h2 lot h; omega
      · obtain ⟨w, hw, rfl⟩ := List.mem_map.mp h
        have := h2 w (List.mem_filter.mp hw).1
        simp; omega)
    rw [List.foldl_cons, List.length_cons]
    refine ⟨?_, fun lot hl => ?_⟩
    · have e : k * 2 ^ (xs.length + 1) = k * 2 * 2 ^ xs.length := by rw [Nat.pow_succ, Nat.mul_comm (2 ^ xs.length) 2, Nat.mul_assoc]
      rw [e]; exact ih.1
    · have := ih.2 lot hl; omega
theorem all_free_ok (g : Clos) (n : Nat) (r : Str) (S : Sto) (hn : n ≤ 14) : sem_all_free g [.d (.int n), .d (.str r)] S = .ok (fL (dT D.int) ((freeU n r).mergeSort leL)) S := by
  have L := forL_eq D.int (tg := .one 3) (wp := [3]) (body := lb_all_free_1) (g := g) (fun pre => [some (.d (.int n)), some (.d (.str r)), some (.d (dL (dT D.int) (pre.foldl (freeS r) [[]]))), none, none]) (fun _ => S) (rng 1 (n + 1)) [some (.d (.int n)), some (.d (.str r)), some (.d (dL (dT D.int) [[]])), none, none] rfl (by
    intro pre a post e
    have hl : pre.length + 1 ≤ 14 := by
      have := congrArg List.length e
      rw [rng_length] at this
      simp at this; omega
    obtain ⟨b1, b2⟩ := freeS_len r pre [[]] 1 0 (by simp) (by simp)
    have p14 : 2 ^ pre.length ≤ 2 ^ 13 := Nat.pow_le_pow_right (by omega) (by omega)
    rw [List.foldl_append]
    generalize pre.foldl (freeS r) [[]] = M at b1 b2 ⊢
    have lc : ∀ T, mLc (miSeq (mVar 2)) (.one 4) [4] (some (mCall sem_may_come [mVar 4, mVar 3, mVar 1])) (mOp opAdd [mVar 4, mTup [mVar 3]]) g [some (.d (.int n)), some (.d (.str r)), some (.d (dL (dT D.int) M)), some (.d (.int a)), none] T = .ok (fL (dT D.int) ((M.filter fun lot => mayB lot a r).map fun lot => lot ++ [a])) T := fun T => by
      have e1 : (M.filter fun lot => mayB lot a r) = M.filter fun lot => decide (mayB lot a r = true) := by simp
      rw [e1]
      refine lc_fm (dT D.int) (dT D.int) M (fun lot => mayB lot a r = true) (fun lot => lot ++ [a]) (by simp (disch := first | omega | (simp <;> omega) | fail) [appC_ok, appC_l, extC_ok, opAdd_dT, opAdd_dL, opAdd_tI1, opAdd_1tI, opAdd_tH1, opAdd_dL1, opGet_dT, opGet_dL, opMod_int, opDiv_int, opMul_small, opMul_small2, rng1Out_ok, rng2Out_ok, cut_lo, cut_hi, cut_lohi]) fun lot hm => ?_
      have mc := fun T => may_come_ok g lot a r T
      have := b2 lot hm
      have a1 := opAdd_tI1 (xs := lot) (y := a) (by omega)
      exact ⟨_, rfl, by simp (disch := first | omega | (simp <;> omega) | fail) [appC_ok, appC_l, extC_ok, opAdd_dT, opAdd_dL, opAdd_tI1, opAdd_1tI, opAdd_tH1, opAdd_dL1, opGet_dT, opGet_dL, opMod_int, opDiv_int, opMul_small, opMul_small2, rng1Out_ok, rng2Out_ok, cut_lo, cut_hi, cut_lohi, mc], fun _ => by simp (disch := first | omega | (simp <;> omega) | fail) [appC_ok, appC_l, extC_ok, opAdd_dT, opAdd_dL, opAdd_tI1, opAdd_1tI, opAdd_tH1, opAdd_dL1, opGet_dT, opGet_dL, opMod_int, opDiv_int, opMul_small, opMul_small2, rng1Out_ok, rng2Out_ok, cut_lo, cut_hi, cut_lohi, a1]⟩
    have ad : opAdd [dL (dT D.int) M, dL (dT D.int) ((M.filter fun lot => mayB lot a r).map fun lot => lot ++ [a])] = some (fL (dT D.int) (freeS r M a)) := opAdd_dL (by
      rw [List.length_map]
      have := List.length_filter_le (fun lot => mayB lot a r) M
      omega)
    exact ⟨_, _, rfl, .inl (by simp (disch := first | omega | (simp <;> omega) | fail) [appC_ok, appC_l, extC_ok, opAdd_dT, opAdd_dL, opAdd_tI1, opAdd_1tI, opAdd_tH1, opAdd_dL1, opGet_dT, opGet_dL, opMod_int, opDiv_int, opMul_small, opMul_small2, rng1Out_ok, rng2Out_ok, cut_lo, cut_hi, cut_lohi, lb_all_free_1, lc, ad]; rfl), rfl⟩)
  have e0 : dL (dT D.int) [([] : List Int)] = .lst [.tup []] := rfl
  rw [e0] at L
  have e1 : (rng 1 ((n : Int) + 1)).foldl (freeS r) [[]] = freeU n r := rfl
  rw [e1] at L
  have so := opSortedL0F (freeU n r)
  simp (disch := first | omega | (simp <;> omega) | fail) [appC_ok, appC_l, extC_ok, opAdd_dT, opAdd_dL, opAdd_tI1, opAdd_1tI, opAdd_tH1, opAdd_dL1, opGet_dT, opGet_dL, opMod_int, opDiv_int, opMul_small, opMul_small2, rng1Out_ok, rng2Out_ok, cut_lo, cut_hi, cut_lohi, sem_all_free, m_all_free, L, so]
theorem freeU_len (n : Nat) (r : Str) : (freeU n r).length ≤ 2 ^ n ∧ ∀ lot ∈ freeU n r, lot.length ≤ n := by
  have h := freeS_len r (rng 1 (n + 1)) [[]] 1 0 (by simp) (by simp)
  have e : (rng 1 ((n : Int) + 1)).length = n := by rw [rng_length]; omega
  rw [e, Nat.one_mul, Nat.zero_add] at h
  exact h
/-- no sum within a lot -/
def FreeL (r : Str) (lot : List Int) : Prop := ∀ a ∈ lot, ∀ b ∈ lot, a + b ∈ lot → r ≠ tx "any" ∧ a = b
/-- rising, from l to m -/
def RisL (l m : Int) (lot : List Int) : Prop := lot.Pairwise (· < ·) ∧ ∀ x ∈ lot, l ≤ x ∧ x ≤ m
theorem mayB_iff {lot : List Int} {x : Int} {r : Str} : mayB lot x r = true ↔ ∀ a ∈ lot, x - a ∈ lot → r ≠ tx "any" ∧ a = x - a := by
  unfold mayB
  rw [Bool.not_eq_true', List.any_eq_false]
  constructor
  · intro h a ha hx
    have := h a ha
    simp only [decide_eq_true_eq] at this
    refine ⟨fun z => this ⟨hx, .inl z⟩, Classical.byContradiction fun z => this ⟨hx, .inr z⟩⟩
  · intro h a ha
    simp only [decide_eq_true_eq]
    rintro ⟨hx, z⟩
    have := h a ha hx
    rcases z with z | z
    · exact this.1 z
    · exact z this.2
theorem ris_snoc {l m : Int} {lot : List Int} (h1 : l ≤ m + 1) : RisL l (m + 1) lot ↔ RisL l m lot ∨ ∃ w, RisL l m w ∧ lot = w ++ [m + 1] := by
  constructor
  · rintro ⟨hp, hb⟩
    rcases List.eq_nil_or_concat lot with rfl | ⟨w, x, rfl⟩
    · exact .inl ⟨List.Pairwise.nil, by simp⟩
    · rw [List.concat_eq_append] at hp hb ⊢
      have hp2 := List.pairwise_append.mp hp
      have hx := hb x (by simp)
      have hw : ∀ y ∈ w, l ≤ y ∧ y < x := fun y hy => ⟨(hb y (by simp [hy])).1, hp2.2.2 y hy x (by simp)⟩
      by_cases c : x = m + 1
      · subst c
        exact .inr ⟨w, ⟨hp2.1, fun y hy => ⟨(hw y hy).1, by have := (hw y hy).2; omega⟩⟩, rfl⟩
      · refine .inl ⟨hp, fun y hy => ?_⟩
        rcases List.mem_append.mp hy with hy | hy
        · have := hw y hy; omega
        · rw [List.mem_singleton.mp hy]; omega
  · rintro (⟨hp, hb⟩ | ⟨w, ⟨hp, hb⟩, rfl⟩)
    · exact ⟨hp, fun x hx => by have := hb x hx; omega⟩
    · refine ⟨List.pairwise_append.mpr ⟨hp, List.pairwise_singleton .., fun a ha b hb' => ?_⟩, fun x hx => ?_⟩
      · rw [List.mem_singleton.mp hb']
        have := hb a ha; omega
      · rcases List.mem_append.mp hx with hx | hx
        · have := hb x hx; omega
        · rw [List.mem_singleton.mp hx]; omega
theorem free_snoc {r : Str} {w : List Int} {x : Int} (hw : RisL 1 (x - 1) w) (hx : 1 ≤ x) : FreeL r (w ++ [x]) ↔ FreeL r w ∧ mayB w x r = true := by
  rw [mayB_iff]
  have lt : ∀ y ∈ w, 1 ≤ y ∧ y < x := fun y hy => by have := hw.2 y hy; omega
  have nx : x ∉ w := fun z => by have := lt x z; omega
  constructor
  · intro h
    refine ⟨fun a ha b hb hs => h a (by simp [ha]) b (by simp [hb]) (by simp [hs]), fun a ha hd => ?_⟩
    have := h a (by simp [ha]) (x - a) (by simp [hd]) (by rw [show a + (x - a) = x by omega]; simp)
    exact this
  · rintro ⟨h1, h2⟩ a ha b hb hs
    have big : ∀ y ∈ w ++ [x], 1 ≤ y ∧ y ≤ x := fun y hy => by
      rcases List.mem_append.mp hy with hy | hy
      · have := lt y hy; omega
      · rw [List.mem_singleton.mp hy]; omega
    have ba := big a ha
    have bb := big b hb
    have bs := big _ hs
    have ha : a ∈ w := by
      rcases List.mem_append.mp ha with ha | ha
      · exact ha
      · have := List.mem_singleton.mp ha; omega
    have hb : b ∈ w := by
      rcases List.mem_append.mp hb with hb | hb
      · exact hb
      · have := List.mem_singleton.mp hb; omega
    rcases List.mem_append.mp hs with hs | hs
    · exact h1 a ha b hb hs
    · have e := List.mem_singleton.mp hs
      have e2 : x - a = b := by omega
      have := h2 a ha (by rw [e2]; exact hb)
      rw [e2] at this
      exact this
theorem freeU_succ (n : Nat) (r : Str) : freeU (n + 1) r = freeS r (freeU n r) (n + 1) := by
  unfold freeU
  rw [show ((n + 1 : Nat) : Int) + 1 = ((n : Int) + 1) + 1 by omega, rng_snoc (by omega), List.foldl_append]
  rfl
theorem freeU_mem (r : Str) : ∀ (n : Nat) (lot : List Int), lot ∈ freeU n r ↔ RisL 1 n lot ∧ FreeL r lot
  | 0, lot => by
    have e : freeU 0 r = [[]] := rfl
    rw [e, List.mem_singleton]
    constructor
    · rintro rfl
      exact ⟨⟨List.Pairwise.nil, by simp⟩, fun a ha => by cases ha⟩
    · rintro ⟨⟨_, h⟩, _⟩
      cases lot with
      | nil => rfl
      | cons x xs => have := h x (by simp); omega
  | n + 1, lot => by
    rw [freeU_succ]
    unfold freeS
    have cast : ((n + 1 : Nat) : Int) = (n : Int) + 1 := by omega
    rw [cast, List.mem_append, List.mem_map, ris_snoc (by omega), freeU_mem r n lot]
    constructor
    · rintro (⟨h1, h2⟩ | ⟨w, hw, rfl⟩)
      · exact ⟨.inl h1, h2⟩
      · obtain ⟨h1, h2⟩ := List.mem_filter.mp hw
        have h1 := (freeU_mem r n w).mp h1
        have h2 : mayB w (n + 1) r = true := h2
        exact ⟨.inr ⟨w, h1.1, rfl⟩, (free_snoc (by rw [show (n : Int) + 1 - 1 = n by omega]; exact h1.1) (by omega)).mpr ⟨h1.2, h2⟩⟩
    · rintro ⟨h1 | ⟨w, hw, rfl⟩, h2⟩
      · exact .inl ⟨h1, h2⟩
      · obtain ⟨h3, h4⟩ := (free_snoc (by rw [show (n : Int) + 1 - 1 = n by omega]; exact hw) (by omega)).mp h2
        exact .inr ⟨w, List.mem_filter.mpr ⟨(freeU_mem r n w).mpr ⟨hw, h3⟩, h4⟩, rfl⟩
theorem freeU_nodup (r : Str) : ∀ n : Nat, (freeU n r).Nodup
  | 0 => by
    have e : freeU 0 r = [[]] := rfl
    rw [e]; simp
  | n + 1 => by
    rw [freeU_succ]
    unfold freeS
    refine List.nodup_append.mpr ⟨freeU_nodup r n, ?_, fun a ha b hb e => ?_⟩
    · refine List.pairwise_map.mpr (List.Pairwise.imp (fun {a b} h z => h (List.append_cancel_right z)) ((freeU_nodup r n).filter _))
    · subst e
      obtain ⟨w, hw, rfl⟩ := List.mem_map.mp hb
      have := (((freeU_mem r n _).mp ha).1.2 ((n : Int) + 1) (by simp)).2
      omega
/-- all free lots, rising -/
def freeF (n : Nat) (r : Str) : List (List Int) := (freeU n r).mergeSort leL
theorem leL_trans (a b c : List Int) (h1 : leL a b = true) (h2 : leL b c = true) : leL a c = true := by
  unfold leL at h1 h2 ⊢
  have := lexL_tr' a b c (by simpa using h1) (by simpa using h2)
  rw [this]; rfl
theorem leL_total (a b : List Int) : (leL a b || leL b a) = true := by
  unfold leL
  cases h : lexL a b with
  | false => simp
  | true => rw [lexL_asym' _ _ h]; rfl
theorem freeF_sort (n : Nat) (r : Str) : (freeF n r).mergeSort leL = freeF n r := sort_eq (List.Perm.refl _) (List.pairwise_mergeSort leL_trans leL_total _)
theorem freeF_mem {n : Nat} {r : Str} {lot : List Int} : lot ∈ freeF n r ↔ RisL 1 n lot ∧ FreeL r lot := by
  unfold freeF
  rw [List.mem_mergeSort, freeU_mem]
theorem freeF_nodup (n : Nat) (r : Str) : (freeF n r).Nodup := (List.mergeSort_perm ..).nodup_iff.mpr (freeU_nodup r n)
theorem freeF_len (n : Nat) (r : Str) : (freeF n r).length ≤ 2 ^ n ∧ ∀ lot ∈ freeF n r, lot.length ≤ n := by
  have h := freeU_len n r
  unfold freeF
  exact ⟨by rw [List.length_mergeSort]; exact h.1, fun lot hl => h.2 lot (List.mem_mergeSort.mp hl)⟩
theorem freeF_eq {n : Nat} {r : Str} {L : List (List Int)} (h1 : ∀ lot, lot ∈ L ↔ RisL 1 n lot ∧ FreeL r lot) (h2 : L.Nodup) : L.mergeSort leL = freeF n r := by
  refine sort_eq ?_ (List.pairwise_mergeSort leL_trans leL_total _)
  exact ((List.perm_ext_iff_of_nodup h2 (freeF_nodup n r)).mpr fun lot => (h1 lot).trans freeF_mem.symm)
theorem free_many_ok (g : Clos) (n : Nat) (r : Str) (S : Sto) (hn : n ≤ 14) (hr : IsRule r) : sem_free_many g [.d (.int n), .d (.str r)] S = .ok (.d (.int (freeF n r).length)) S := by
  have ml := fun T => must_lotsF g n r T (by omega) (by omega) hr
  have af := fun T => all_free_ok g n r T hn
  have e : (freeU n r).mergeSort leL = freeF n r := rfl
  rw [e] at af
  simp (disch := first | omega | (simp <;> omega) | fail) [appC_ok, appC_l, extC_ok, opAdd_dT, opAdd_dL, opAdd_tI1, opAdd_1tI, opAdd_tH1, opAdd_dL1, opGet_dT, opGet_dL, opMod_int, opDiv_int, opMul_small, opMul_small2, rng1Out_ok, rng2Out_ok, cut_lo, cut_hi, cut_lohi, sem_free_many, m_free_many, ml, af]
theorem freeF_ne (n : Nat) (r : Str) : freeF n r ≠ [] := fun z => by
  have : ([] : List Int) ∈ freeF n r := freeF_mem.mpr ⟨⟨List.Pairwise.nil, by simp⟩, fun a ha => by cases ha⟩
  rw [z] at this; cases this
def mxL : List Int → Int
  | [] => 0
  | x :: xs => maxL x xs
theorem opMaxL_dL {M : List Int} (h : M ≠ []) : opMaxL [dL D.int M] = ri (mxL M) := by
  cases M with
  | nil => exact absurd rfl h
  | cons x xs => simp [opMaxL, dL, intsOf, intsOf_map, mxL]
def lensF (n : Nat) (r : Str) : List Int := (freeF n r).map fun lot => (lot.length : Int)
def mostF (n : Nat) (r : Str) : List (List Int) := (freeF n r).filter fun lot => decide ((lot.length : Int) = mxL (lensF n r))
theorem lens_ne (n : Nat) (r : Str) : lensF n r ≠ [] := fun z => freeF_ne n r (List.map_eq_nil_iff.mp z)
theorem most_free_ok (g : Clos) (n : Nat) (r : Str) (S : Sto) (hn : n ≤ 14) (hr : IsRule r) : sem_most_free g [.d (.int n), .d (.str r)] S = .ok (fL (dT D.int) (mostF n r)) S := by
  have ml := fun T => must_lotsF g n r T (by omega) (by omega) hr
  have af := fun T => all_free_ok g n r T hn
  have e : (freeU n r).mergeSort leL = freeF n r := rfl
  rw [e] at af
  have mx := opMaxL_dL (lens_ne n r)
  have lc1 : ∀ x T, mLc (miSeq (mVar 2)) (.one 4) [4] none (mOp opLen [mVar 4]) g [some (.d (.int n)), some (.d (.str r)), some (.d (dL (dT D.int) (freeF n r))), x, none] T = .ok (fL D.int (lensF n r)) T := fun x T => by
    refine lc_map (dT D.int) D.int (freeF n r) (fun lot => (lot.length : Int)) (by simp (disch := first | omega | (simp <;> omega) | fail) [appC_ok, appC_l, extC_ok, opAdd_dT, opAdd_dL, opAdd_tI1, opAdd_1tI, opAdd_tH1, opAdd_dL1, opGet_dT, opGet_dL, opMod_int, opDiv_int, opMul_small, opMul_small2, rng1Out_ok, rng2Out_ok, cut_lo, cut_hi, cut_lohi]) fun lot hm => ⟨_, rfl, by simp (disch := first | omega | (simp <;> omega) | fail) [appC_ok, appC_l, extC_ok, opAdd_dT, opAdd_dL, opAdd_tI1, opAdd_1tI, opAdd_tH1, opAdd_dL1, opGet_dT, opGet_dL, opMod_int, opDiv_int, opMul_small, opMul_small2, rng1Out_ok, rng2Out_ok, cut_lo, cut_hi, cut_lohi]⟩
  have lc2 : ∀ T, mLc (miSeq (mVar 2)) (.one 4) [4] (some (mOp opEq [mOp opLen [mVar 4], mVar 3])) (mVar 4) g [some (.d (.int n)), some (.d (.str r)), some (.d (dL (dT D.int) (freeF n r))), some (.d (.int (mxL (lensF n r)))), none] T = .ok (fL (dT D.int) (mostF n r)) T := fun T => by
    refine lc_filter (dT D.int) (freeF n r) (fun lot => (lot.length : Int) = mxL (lensF n r)) (by simp (disch := first | omega | (simp <;> omega) | fail) [appC_ok, appC_l, extC_ok, opAdd_dT, opAdd_dL, opAdd_tI1, opAdd_1tI, opAdd_tH1, opAdd_dL1, opGet_dT, opGet_dL, opMod_int, opDiv_int, opMul_small, opMul_small2, rng1Out_ok, rng2Out_ok, cut_lo, cut_hi, cut_lohi]) fun lot hm => ⟨_, rfl, by simp (disch := first | omega | (simp <;> omega) | fail) [appC_ok, appC_l, extC_ok, opAdd_dT, opAdd_dL, opAdd_tI1, opAdd_1tI, opAdd_tH1, opAdd_dL1, opGet_dT, opGet_dL, opMod_int, opDiv_int, opMul_small, opMul_small2, rng1Out_ok, rng2Out_ok, cut_lo, cut_hi, cut_lohi], by simp (disch := first | omega | (simp <;> omega) | fail) [appC_ok, appC_l, extC_ok, opAdd_dT, opAdd_dL, opAdd_tI1, opAdd_1tI, opAdd_tH1, opAdd_dL1, opGet_dT, opGet_dL, opMod_int, opDiv_int, opMul_small, opMul_small2, rng1Out_ok, rng2Out_ok, cut_lo, cut_hi, cut_lohi]⟩
  simp (disch := first | omega | (simp <;> omega) | fail) [appC_ok, appC_l, extC_ok, opAdd_dT, opAdd_dL, opAdd_tI1, opAdd_1tI, opAdd_tH1, opAdd_dL1, opGet_dT, opGet_dL, opMod_int, opDiv_int, opMul_small, opMul_small2, rng1Out_ok, rng2Out_ok, cut_lo, cut_hi, cut_lohi, sem_most_free, m_most_free, ml, af, lc1, mx, lc2]
/-! the dict of the free lots -/
theorem pairsT_map : ∀ L : List (List Int), pairsT (L.map fun lot => .tup [tI lot, .bl true]) = some L
  | [] => rfl
  | lot :: L => by
    have ih := pairsT_map L
    simp only [dT] at ih
    simp only [List.map_cons, dT, pairsT, intsOf_map, ih]
theorem putR_nodup : ∀ (L acc : List (List Int)), (acc ++ L).Nodup → L.foldl putR acc = acc ++ L
  | [], acc, _ => by simp
  | r :: L, acc, h => by
    have h1 : r ∉ acc := fun z => by
      have := (List.nodup_append.mp h).2.2 r z r (by simp)
      exact this rfl
    have e : putR acc r = acc ++ [r] := by unfold putR; rw [if_neg h1]
    rw [List.foldl_cons, e, putR_nodup L (acc ++ [r]) (by simpa using h)]
    simp
def okLL (L : List (List Int)) : Prop := L.all okRow = true ∧ L.Nodup
theorem opDictT_ok {L : List (List Int)} (h : okLL L) : opDictT [dL (fun lot => .tup [tI lot, .bl true]) L] = some (.d (.clo (encLL L))) := by
  simp only [dL, opDictT, pairsT_map]
  rw [if_pos h.1, putR_nodup L [] (by simpa using h.2)]
  rfl
theorem opInT_ok {L : List (List Int)} (h : okLL L) (lot : List Int) : opInT [tI lot, .clo (encLL L)] = rb (decide (lot ∈ L)) := by
  simp only [dT, opInT, intsOf_map]
  rw [unLL_enc h.1]
theorem opSortedDT_ok {L : List (List Int)} (h : okLL L) : opSortedDT [.clo (encLL L)] = some (fL (dT D.int) (L.mergeSort leL)) := by
  simp only [opSortedDT]
  rw [unLL_enc h.1]
  rfl
theorem freeF_ok {n : Nat} (hn : n ≤ 14) (r : Str) : okLL (freeF n r) := by
  refine ⟨List.all_eq_true.mpr fun lot hl => ?_, freeF_nodup n r⟩
  have := (freeF_mem.mp hl).1.2
  unfold okRow
  refine List.all_eq_true.mpr fun x hx => ?_
  have := this x hx
  simp; omega
/-! the lots to which no number can be put -/
def putS (lot : List Int) (x : Int) : List Int := (lot ++ [x]).mergeSort fun a b => decide (a ≤ b)
def restL (n : Nat) (lot : List Int) : List Int := (rng 1 (n + 1)).filter fun x => decide (x ∉ lot)
def fullF (n : Nat) (r : Str) : List (List Int) := (freeF n r).filter fun lot => decide (∀ x ∈ restL n lot, putS lot x ∉ freeF n r)
theorem full_free_ok (g : Clos) (n : Nat) (r : Str) (S : Sto) (hn : n ≤ 14) (hr : IsRule r) (hS : noCloS S = true) : sem_full_free g [.d (.int n), .d (.str r)] S = .ok (fL (dT D.int) (fullF n r)) S := by
  have ml := fun T => must_lotsF g n r T (by omega) (by omega) hr
  have af := fun T => all_free_ok g n r T hn
  have e : (freeU n r).mergeSort leL = freeF n r := rfl
  rw [e] at af
  have ok := freeF_ok hn r
  have od := opDictT_ok ok
  have os := opSortedDT_ok ok
  rw [freeF_sort] at os
  obtain ⟨bl1, bl2⟩ := freeF_len n r
  have p14 : 2 ^ n ≤ 2 ^ 14 := Nat.pow_le_pow_right (by omega) hn
  have lc1 : ∀ T, mLc (miSeq (mCall sem_all_free [mVar 0, mVar 1])) (.one 3) [3] none (mTup [mVar 3, mK (.bl true)]) g [some (.d (.int n)), some (.d (.str r)), none, none, some (.c S.length), none, none] T = .ok (fL (fun lot => .tup [tI lot, .bl true]) (freeF n r)) T := fun T => by
    have := lc_map (it := miSeq (mCall sem_all_free [mVar 0, mVar 1])) (tg := .one 3) (own := [3]) (elt := mTup [mVar 3, mK (.bl true)]) (g := g) (e := [some (.d (.int n)), some (.d (.str r)), none, none, some (.c S.length), none, none]) (S := T) (dT D.int) (fun lot => D.tup [tI lot, .bl true]) (freeF n r) (fun lot => lot) (by simp (disch := first | omega | (simp <;> omega) | fail) [appC_ok, appC_l, extC_ok, opAdd_dT, opAdd_dL, opAdd_tI1, opAdd_1tI, opAdd_tH1, opAdd_dL1, opGet_dT, opGet_dL, opMod_int, opDiv_int, opMul_small, opMul_small2, rng1Out_ok, rng2Out_ok, cut_lo, cut_hi, cut_lohi, af]) fun lot hm => ⟨_, rfl, by simp (disch := first | omega | (simp <;> omega) | fail) [appC_ok, appC_l, extC_ok, opAdd_dT, opAdd_dL, opAdd_tI1, opAdd_1tI, opAdd_tH1, opAdd_dL1, opGet_dT, opGet_dL, opMod_int, opDiv_int, opMul_small, opMul_small2, rng1Out_ok, rng2Out_ok, cut_lo, cut_hi, cut_lohi]⟩
    rw [this]; simp
  have L := forL_accT (β := List Int) (dT D.int) (tg := .one 3) (wp := [3, 5]) (body := lb_full_free_1) (g := g) [some (.d (.int n)), some (.d (.str r)), some (.d (.clo (encLL (freeF n r)))), none, some (.c S.length), none, none] (fun acc => S ++ [some (cL (dT D.int) acc)])
    (fun lot => if ∀ x ∈ restL n lot, putS lot x ∉ freeF n r then [lot] else []) (freeF n r) [] [some (.d (.int n)), some (.d (.str r)), some (.d (.clo (encLL (freeF n r)))), none, some (.c S.length), none, none] rfl (by
      refine Nat.le_trans (Nat.add_le_add_left (flatMap_le (k := 1) fun lot _ => ?_) _) ?_
      · split <;> simp
      · simp only [List.length_nil]; omega) (by
      intro lot acc hl hacc
      have ll := bl2 lot hl
      have lc2 : ∀ T, mLc (miRange2 (mK (.int 1)) (mOp opAdd [mVar 0, mK (.int 1)])) (.one 6) [6] (some (mOp opNotIn [mVar 6, mVar 3])) (mVar 6) g [some (.d (.int n)), some (.d (.str r)), some (.d (.clo (encLL (freeF n r)))), some (.d (tI lot)), some (.c S.length), none, none] T = .ok (fL D.int (restL n lot)) T := fun T => by
        refine lc_filter D.int (rng 1 (n + 1)) (fun x => x ∉ lot) (by simp (disch := first | omega | (simp <;> omega) | fail) [appC_ok, appC_l, extC_ok, opAdd_dT, opAdd_dL, opAdd_tI1, opAdd_1tI, opAdd_tH1, opAdd_dL1, opGet_dT, opGet_dL, opMod_int, opDiv_int, opMul_small, opMul_small2, rng1Out_ok, rng2Out_ok, cut_lo, cut_hi, cut_lohi]) fun x hx => ⟨_, rfl, by simp (disch := first | omega | (simp <;> omega) | fail) [appC_ok, appC_l, extC_ok, opAdd_dT, opAdd_dL, opAdd_tI1, opAdd_1tI, opAdd_tH1, opAdd_dL1, opGet_dT, opGet_dL, opMod_int, opDiv_int, opMul_small, opMul_small2, rng1Out_ok, rng2Out_ok, cut_lo, cut_hi, cut_lohi], by simp (disch := first | omega | (simp <;> omega) | fail) [appC_ok, appC_l, extC_ok, opAdd_dT, opAdd_dL, opAdd_tI1, opAdd_1tI, opAdd_tH1, opAdd_dL1, opGet_dT, opGet_dL, opMod_int, opDiv_int, opMul_small, opMul_small2, rng1Out_ok, rng2Out_ok, cut_lo, cut_hi, cut_lohi]⟩
      have lc3 : ∀ T, mLc (miSeq (mVar 5)) (.one 6) [6] none (mOp opInT [mOp opTuple [mOp opSortedT [mOp opAdd [mVar 3, mTup [mVar 6]]]], mVar 2]) g [some (.d (.int n)), some (.d (.str r)), some (.d (.clo (encLL (freeF n r)))), some (.d (tI lot)), some (.c S.length), some (.d (dL D.int (restL n lot))), none] T = .ok (fL D.bl ((restL n lot).map fun x => decide (putS lot x ∈ freeF n r))) T := fun T => by
        refine lc_map D.int D.bl (restL n lot) (fun x => decide (putS lot x ∈ freeF n r)) (by simp (disch := first | omega | (simp <;> omega) | fail) [appC_ok, appC_l, extC_ok, opAdd_dT, opAdd_dL, opAdd_tI1, opAdd_1tI, opAdd_tH1, opAdd_dL1, opGet_dT, opGet_dL, opMod_int, opDiv_int, opMul_small, opMul_small2, rng1Out_ok, rng2Out_ok, cut_lo, cut_hi, cut_lohi]) fun x hx => ?_
        have a1 := opAdd_tI1 (xs := lot) (y := x) (by omega)
        have so := opSortedT_int (xs := lot ++ [x]) (by simp; omega)
        have es : ((lot ++ [x]).mergeSort fun a b => decide (a ≤ b)) = putS lot x := rfl
        rw [es] at so
        have oi := opInT_ok ok (putS lot x)
        exact ⟨_, rfl, by simp (disch := first | omega | (simp <;> omega) | fail) [appC_ok, appC_l, extC_ok, opAdd_dT, opAdd_dL, opAdd_tI1, opAdd_1tI, opAdd_tH1, opAdd_dL1, opGet_dT, opGet_dL, opMod_int, opDiv_int, opMul_small, opMul_small2, rng1Out_ok, rng2Out_ok, cut_lo, cut_hi, cut_lohi, a1, so, oi]⟩
      have oa : opAny [dL D.bl ((restL n lot).map fun x => decide (putS lot x ∈ freeF n r))] = rb (decide (¬ ∀ x ∈ restL n lot, putS lot x ∉ freeF n r)) := by
        rw [opAny_dL]
        congr 1
        rw [Bool.eq_iff_iff, List.any_eq_true, decide_eq_true_iff]
        constructor
        · rintro ⟨b, hb, hb2⟩ z
          obtain ⟨x, hx, rfl⟩ := List.mem_map.mp hb
          exact z x hx (of_decide_eq_true hb2)
        · intro z
          obtain ⟨x, hx⟩ := Classical.not_forall.mp z
          obtain ⟨hx, h2⟩ := Classical.not_imp.mp hx
          exact ⟨_, List.mem_map.mpr ⟨x, hx, rfl⟩, decide_eq_true (Classical.not_not.mp h2)⟩
      by_cases c : ∀ x ∈ restL n lot, putS lot x ∉ freeF n r
      · rw [if_pos c] at hacc ⊢
        have ap : appC (tI lot) (cL (dT D.int) acc) = some (cL (dT D.int) (acc ++ [lot])) := appC_ok (f := dT D.int) (by simp at hacc; omega)
        have oa2 : opAny [dL D.bl ((restL n lot).map fun x => decide (putS lot x ∈ freeF n r))] = rb false := by rw [oa, decide_eq_false fun z => z c]
        exact ⟨_, _, rfl, .inl (by simp (disch := first | omega | (simp <;> omega) | fail) [appC_ok, appC_l, extC_ok, opAdd_dT, opAdd_dL, opAdd_tI1, opAdd_1tI, opAdd_tH1, opAdd_dL1, opGet_dT, opGet_dL, opMod_int, opDiv_int, opMul_small, opMul_small2, rng1Out_ok, rng2Out_ok, cut_lo, cut_hi, cut_lohi, lb_full_free_1, lc2, lc3, oa2, ap] <;> rfl), rfl⟩
      · rw [if_neg c, List.append_nil]
        have oa2 : opAny [dL D.bl ((restL n lot).map fun x => decide (putS lot x ∈ freeF n r))] = rb true := by rw [oa, decide_eq_true c]
        exact ⟨_, _, rfl, .inl (by simp (disch := first | omega | (simp <;> omega) | fail) [appC_ok, appC_l, extC_ok, opAdd_dT, opAdd_dL, opAdd_tI1, opAdd_1tI, opAdd_tH1, opAdd_dL1, opGet_dT, opGet_dL, opMod_int, opDiv_int, opMul_small, opMul_small2, rng1Out_ok, rng2Out_ok, cut_lo, cut_hi, cut_lohi, lb_full_free_1, lc2, lc3, oa2] <;> rfl), rfl⟩)
  have ef : (freeF n r).flatMap (fun lot => if ∀ x ∈ restL n lot, putS lot x ∉ freeF n r then [lot] else []) = fullF n r := by
    unfold fullF
    generalize freeF n r = M
    have : ∀ M2 : List (List Int), M2.flatMap (fun lot => if ∀ x ∈ restL n lot, putS lot x ∉ M then [lot] else []) = M2.filter fun lot => decide (∀ x ∈ restL n lot, putS lot x ∉ M) := by
      intro M2
      induction M2 with
      | nil => rfl
      | cons a M2 ih =>
        rw [List.flatMap_cons, ih, List.filter_cons]
        by_cases c : ∀ x ∈ restL n a, putS a x ∉ M
        · rw [if_pos c, if_pos (decide_eq_true c)]; rfl
        · rw [if_neg c, if_neg (by rw [decide_eq_false c]; simp)]; rfl
    exact this M
  rw [ef, List.nil_append] at L
  have e0 : (cL (dT D.int) ([] : List (List Int))) = .l [] := rfl
  rw [e0] at L
  have nc : ∀ M : List (List Int), noClos (M.map (dT D.int)) = true := by
    intro M
    induction M with
    | nil => rfl
    | cons a M ih =>
      simp only [List.map_cons, noClos, ih, Bool.and_true]
      have : ∀ a : List Int, noClos (a.map D.int) = true := by
        intro a
        induction a with
        | nil => rfl
        | cons x a ih => simp only [List.map_cons, noClos, noClo, ih, Bool.and_true]
      show noClos (a.map D.int) = true
      exact this a
  have nr : noCloR (.f (cL (dT D.int) (fullF n r))) = true := nc (fullF n r)
  simp (disch := first | omega | (simp <;> omega) | fail) [appC_ok, appC_l, extC_ok, opAdd_dT, opAdd_dL, opAdd_tI1, opAdd_1tI, opAdd_tH1, opAdd_dL1, opGet_dT, opGet_dL, opMod_int, opDiv_int, opMul_small, opMul_small2, rng1Out_ok, rng2Out_ok, cut_lo, cut_hi, cut_lohi, sem_full_free, mkFnK, noCloA, noClo, hS, m_full_free, ml, lc1, od, os, L, lockO, nr]
  rfl
/-! free lots: the law's -/
def lessB (lot : List Int) (x : Int) (r : Str) : Bool := decide ((lot.filter fun y => decide (y + x ∈ lot)) = [] ∧ (r = tx "unlike" ∨ 2 * x ∉ lot))
def downS (r : Str) (L : List (List Int)) (x : Int) : List (List Int) := L ++ (L.filter fun lot => lessB lot x r).map fun lot => x :: lot
def rdn (n : Nat) : List Int := (List.range n).map fun (i : Nat) => (n : Int) - (i : Int)
theorem miDown_ok {g : Clos} {e : Env} {S : Sto} {m1 m2 : ME} {n : Nat} (h1 : m1 g e S = .ok (.d (.int n)) S) (h2 : m2 g e S = .ok (.d (.int 0)) S) (hn : n ≤ 1000) : miDown m1 m2 g e S = .ok ⟨(rdn n).map D.int, none⟩ S := by
  have e1 := okR_le (i := n) (by omega) (by omega)
  have e2 := okR_le (i := 0) (by omega) (by omega)
  have e3 : rangeDown n 0 = (rdn n).map D.int := by
    unfold rangeDown rdn
    rw [List.map_map, show ((n : Int) - 0).toNat = n by omega]
    rfl
  have e4 : ((n : Int) - 0).toNat ≤ LIM := le_LIM (by omega)
  unfold miDown
  rw [h1, O.bind_ok, h2, O.bind_ok]
  show (if _ then _ else _) = _
  rw [if_pos ⟨e1, e2, e4⟩, e3]
theorem downS_len (r : Str) : ∀ (xs : List Int) (L : List (List Int)) (k m : Nat), L.length ≤ k → (∀ lot ∈ L, lot.length ≤ m) → (xs.foldl (downS r) L).length ≤ k * 2 ^ xs.length ∧ ∀ lot ∈ xs.foldl (downS r) L, lot.length ≤ m + xs.length
  | [], L, k, m, h1, h2 => ⟨by simpa using h1, by simpa using h2⟩
  | x :: xs, L, k, m, h1, h2 => by
    have ih := downS_len r xs (downS r L x) (k * 2) (m + 1) (by
      unfold downS
      rw [List.length_append, List.length_map]
      have := List.length_filter_le (fun lot => lessB lot x r) L
      omega) (by
      intro lot hl
      unfold downS at hl
      rcases List.mem_append.mp hl with h | h
      · have := h2 lot h; omega
      · obtain ⟨w, hw, rfl⟩ := List.mem_map.mp h
        have := h2 w (List.mem_filter.mp hw).1
        simp; omega)
    rw [List.foldl_cons, List.length_cons]
    refine ⟨?_, fun lot hl => ?_⟩
    · have e : k * 2 ^ (xs.length + 1) = k * 2 * 2 ^ xs.length := by rw [Nat.pow_succ, Nat.mul_comm (2 ^ xs.length) 2, Nat.mul_assoc]
      rw [e]; exact ih.1
    · have := ih.2 lot hl; omega
theorem ris_cons {l m : Int} {lot : List Int} (h1 : l ≤ m) : RisL l m lot ↔ RisL (l + 1) m lot ∨ ∃ w, RisL (l + 1) m w ∧ lot = l :: w := by
  constructor
  · rintro ⟨hp, hb⟩
    cases lot with
    | nil => exact .inl ⟨List.Pairwise.nil, by simp⟩
    | cons x w =>
      have hp2 := List.pairwise_cons.mp hp
      have hx := hb x (by simp)
      have hw : ∀ y ∈ w, x < y ∧ y ≤ m := fun y hy => ⟨hp2.1 y hy, (hb y (by simp [hy])).2⟩
      by_cases c : x = l
      · subst c
        exact .inr ⟨w, ⟨hp2.2, fun y hy => by have := hw y hy; omega⟩, rfl⟩
      · refine .inl ⟨hp, fun y hy => ?_⟩
        rcases List.mem_cons.mp hy with rfl | hy
        · omega
        · have := hw y hy; omega
  · rintro (⟨hp, hb⟩ | ⟨w, ⟨hp, hb⟩, rfl⟩)
    · exact ⟨hp, fun x hx => by have := hb x hx; omega⟩
    · refine ⟨List.pairwise_cons.mpr ⟨fun y hy => by have := hb y hy; omega, hp⟩, fun x hx => ?_⟩
      rcases List.mem_cons.mp hx with rfl | hx
      · omega
      · have := hb x hx; omega
theorem lessB_iff {lot : List Int} {x : Int} {r : Str} : lessB lot x r = true ↔ (∀ y ∈ lot, y + x ∉ lot) ∧ (r = tx "unlike" ∨ 2 * x ∉ lot) := by
  unfold lessB
  rw [decide_eq_true_iff, List.filter_eq_nil_iff]
  simp only [decide_eq_true_eq]
theorem free_cons {r : Str} (hr : IsRule r) {w : List Int} {x m : Int} (hw : RisL (x + 1) m w) (hx : 1 ≤ x) : FreeL r (x :: w) ↔ FreeL r w ∧ lessB w x r = true := by
  rw [lessB_iff]
  have gt : ∀ y ∈ w, x < y := fun y hy => by have := hw.2 y hy; omega
  have un : r = tx "unlike" ↔ r ≠ tx "any" := by
    rcases hr with rfl | rfl
    · simp
    · simp
  constructor
  · intro h
    refine ⟨fun a ha b hb hs => h a (by simp [ha]) b (by simp [hb]) (by simp [hs]), fun y hy hs => ?_, ?_⟩
    · have := (h y (by simp [hy]) x (by simp) (by simp [hs])).2
      have := gt y hy
      omega
    · by_cases c : r = tx "unlike"
      · exact .inl c
      · refine .inr fun z => ?_
        have := (h x (by simp) x (by simp) (by rw [show x + x = 2 * x by omega]; simp [z])).1
        exact c (un.mpr this)
  · rintro ⟨h1, h2, h3⟩ a ha b hb hs
    have ge : ∀ y ∈ x :: w, x ≤ y := fun y hy => by
      rcases List.mem_cons.mp hy with rfl | hy
      · omega
      · have := gt y hy; omega
    have ga := ge a ha
    have gb := ge b hb
    have hs2 : a + b ∈ w := by
      rcases List.mem_cons.mp hs with h | h
      · omega
      · exact h
    rcases List.mem_cons.mp ha with rfl | ha3
    · rcases List.mem_cons.mp hb with rfl | hb3
      · rcases h3 with h3 | h3
        · exact ⟨un.mp h3, rfl⟩
        · exact absurd (by rw [show 2 * b = b + b by omega]; exact hs2) h3
      · exact absurd (by rw [Int.add_comm]; exact hs2) (h2 b hb3)
    · rcases List.mem_cons.mp hb with rfl | hb3
      · exact absurd hs2 (h2 a ha3)
      · exact h1 a ha3 b hb3 hs2
theorem rdn_pre {n : Nat} {pre post : List Int} {a : Int} (h : rdn n = pre ++ a :: post) : a = (n : Int) - (pre.length : Int) ∧ pre.length < n := by
  have hl := congrArg List.length h
  unfold rdn at hl
  simp at hl
  have h2 : (rdn n)[pre.length]? = some a := by rw [h]; simp
  unfold rdn at h2
  rw [List.getElem?_map] at h2
  obtain ⟨i, hi, e⟩ := Option.map_eq_some_iff.mp h2
  rw [List.getElem?_range (by omega)] at hi
  cases hi
  exact ⟨e.symm, by omega⟩
theorem down_mem {n : Nat} {r : Str} (hr : IsRule r) : ∀ (k : Nat), k ≤ n → ∀ lot, lot ∈ ((rdn n).take k).foldl (downS r) [[]] ↔ RisL ((n : Int) - k + 1) n lot ∧ FreeL r lot
  | 0, _, lot => by
    rw [List.take_zero, List.foldl_nil, List.mem_singleton]
    constructor
    · rintro rfl
      exact ⟨⟨List.Pairwise.nil, by simp⟩, fun a ha => by cases ha⟩
    · rintro ⟨⟨_, h⟩, _⟩
      cases lot with
      | nil => rfl
      | cons x xs => have := h x (by simp); omega
  | k + 1, hk, lot => by
    have ih := down_mem (n := n) hr k (by omega)
    have e : (rdn n).take (k + 1) = (rdn n).take k ++ [(n : Int) - k] := by
      rw [List.take_add_one]
      congr 1
      unfold rdn
      rw [List.getElem?_map, List.getElem?_range (by omega)]
      rfl
    rw [e, List.foldl_append]
    generalize ((rdn n).take k).foldl (downS r) [[]] = M at ih
    show lot ∈ downS r M ((n : Int) - k) ↔ _
    unfold downS
    have cast : (n : Int) - ((k + 1 : Nat) : Int) + 1 = (n : Int) - k := by omega
    rw [cast, List.mem_append, List.mem_map, ris_cons (by omega), ih lot]
    have x1 : 1 ≤ (n : Int) - k := by omega
    constructor
    · rintro (⟨h1, h2⟩ | ⟨w, hw, rfl⟩)
      · exact ⟨.inl h1, h2⟩
      · obtain ⟨h1, h2⟩ := List.mem_filter.mp hw
        have h1 := (ih w).mp h1
        exact ⟨.inr ⟨w, h1.1, rfl⟩, (free_cons hr h1.1 x1).mpr ⟨h1.2, h2⟩⟩
    · rintro ⟨h1 | ⟨w, hw, rfl⟩, h2⟩
      · exact .inl ⟨h1, h2⟩
      · obtain ⟨h3, h4⟩ := (free_cons hr hw x1).mp h2
        exact .inr ⟨w, List.mem_filter.mpr ⟨(ih w).mpr ⟨hw, h3⟩, h4⟩, rfl⟩
theorem down_nodup {n : Nat} {r : Str} (hr : IsRule r) : ∀ (k : Nat), k ≤ n → (((rdn n).take k).foldl (downS r) [[]]).Nodup
  | 0, _ => by simp
  | k + 1, hk => by
    have ih := down_nodup (n := n) hr k (by omega)
    have im := down_mem (n := n) hr k (by omega)
    have e : (rdn n).take (k + 1) = (rdn n).take k ++ [(n : Int) - k] := by
      rw [List.take_add_one]
      congr 1
      unfold rdn
      rw [List.getElem?_map, List.getElem?_range (by omega)]
      rfl
    rw [e, List.foldl_append]
    generalize ((rdn n).take k).foldl (downS r) [[]] = M at ih im
    show (downS r M ((n : Int) - k)).Nodup
    unfold downS
    refine List.nodup_append.mpr ⟨ih, ?_, fun a ha b hb e => ?_⟩
    · refine List.pairwise_map.mpr (List.Pairwise.imp (fun {a b} h z => h (List.cons.inj z).2) (ih.filter _))
    · subst e
      obtain ⟨w, hw, rfl⟩ := List.mem_map.mp hb
      have := (((im _).mp ha).1.2 ((n : Int) - k) (by simp)).1
      omega
theorem down_sort {n : Nat} {r : Str} (hr : IsRule r) : ((rdn n).foldl (downS r) [[]]).mergeSort leL = freeF n r := by
  have e : (rdn n).take n = rdn n := List.take_of_length_le (by simp [rdn])
  have m := down_mem hr n (Nat.le_refl n)
  have d := down_nodup hr n (Nat.le_refl n)
  rw [e] at m d
  refine freeF_eq (fun lot => ?_) d
  rw [m lot, show (n : Int) - n + 1 = 1 by omega]
theorem law_free_ok (g : Clos) (n : Nat) (r : Str) (S : Sto) (hn : n ≤ 14) (hr : IsRule r) : sem__law_free g [.d (.int n), .d (.str r)] S = .ok (fL (dT D.int) (freeF n r)) S := by
  have it : miDown (mVar 0) (mK (.int 0)) g [some (.d (.int n)), some (.d (.str r)), some (.d (.lst [.tup []])), none, some (.c S.length), none, none, none] (S ++ [none]) = .ok ⟨(rdn n).map D.int, none⟩ (S ++ [none]) := miDown_ok (by simp (disch := first | omega | (simp <;> omega) | fail) [appC_ok, appC_l, extC_ok, opAdd_dT, opAdd_dL, opAdd_tI1, opAdd_1tI, opAdd_tH1, opAdd_dL1, opGet_dT, opGet_dL, opMod_int, opDiv_int, opMul_small, opMul_small2, rng1Out_ok, rng2Out_ok, cut_lo, cut_hi, cut_lohi]) (by simp (disch := first | omega | (simp <;> omega) | fail) [appC_ok, appC_l, extC_ok, opAdd_dT, opAdd_dL, opAdd_tI1, opAdd_1tI, opAdd_tH1, opAdd_dL1, opGet_dT, opGet_dL, opMod_int, opDiv_int, opMul_small, opMul_small2, rng1Out_ok, rng2Out_ok, cut_lo, cut_hi, cut_lohi]) (by omega)
  obtain ⟨e2, T2, q1, rfl, w, rfl⟩ := forL_pre D.int (tg := .one 3) (wp := [3, 5, 6]) (body := lb__law_free_1) (g := g) (fun pre e T => e = [some (.d (.int n)), some (.d (.str r)), some (.d (dL (dT D.int) (pre.foldl (downS r) [[]]))), none, some (.c S.length), none, none, none] ∧ ∃ w, T = S ++ [w]) (rdn n) [] [some (.d (.int n)), some (.d (.str r)), some (.d (.lst [.tup []])), none, some (.c S.length), none, none, none] (S ++ [none]) ⟨rfl, _, rfl⟩ (by
    rintro pre a post e T eq ⟨rfl, w, rfl⟩
    rw [List.nil_append] at eq
    obtain ⟨ea, hl⟩ := rdn_pre eq
    obtain ⟨b1, b2⟩ := downS_len r pre [[]] 1 0 (by simp) (by simp)
    have p14 : 2 ^ pre.length ≤ 2 ^ 13 := Nat.pow_le_pow_right (by omega) (by omega)
    rw [List.foldl_append]
    generalize pre.foldl (downS r) [[]] = M at b1 b2 ⊢
    have L := forL_accT (β := List Int) (dT D.int) (tg := .one 5) (wp := [5, 6]) (body := lb__law_free_2) (g := g) [some (.d (.int n)), some (.d (.str r)), some (.d (dL (dT D.int) M)), some (.d (.int a)), some (.c S.length), none, none, none] (fun acc => S ++ [some (cL (dT D.int) acc)])
      (fun lot => if lessB lot a r = true then [a :: lot] else []) M [] [some (.d (.int n)), some (.d (.str r)), some (.d (dL (dT D.int) M)), some (.d (.int a)), some (.c S.length), none, none, none] rfl (by
        refine Nat.le_trans (Nat.add_le_add_left (flatMap_le (k := 1) fun lot _ => ?_) _) ?_
        · split <;> simp
        · simp only [List.length_nil]; omega) (by
        intro lot acc hm hacc
        have ll := b2 lot hm
        have lc : ∀ T, mLc (miSeq (mVar 5)) (.one 7) [7] (some (mOp opIn [mOp opAdd [mVar 7, mVar 3], mVar 5])) (mVar 7) g [some (.d (.int n)), some (.d (.str r)), some (.d (dL (dT D.int) M)), some (.d (.int a)), some (.c S.length), some (.d (tI lot)), none, none] T = .ok (fL D.int (lot.filter fun y => decide (y + a ∈ lot))) T := fun T => by
          refine lc_filter D.int lot (fun y => y + a ∈ lot) (by simp (disch := first | omega | (simp <;> omega) | fail) [appC_ok, appC_l, extC_ok, opAdd_dT, opAdd_dL, opAdd_tI1, opAdd_1tI, opAdd_tH1, opAdd_dL1, opGet_dT, opGet_dL, opMod_int, opDiv_int, opMul_small, opMul_small2, rng1Out_ok, rng2Out_ok, cut_lo, cut_hi, cut_lohi]) fun y hy => ⟨_, rfl, by simp (disch := first | omega | (simp <;> omega) | fail) [appC_ok, appC_l, extC_ok, opAdd_dT, opAdd_dL, opAdd_tI1, opAdd_1tI, opAdd_tH1, opAdd_dL1, opGet_dT, opGet_dL, opMod_int, opDiv_int, opMul_small, opMul_small2, rng1Out_ok, rng2Out_ok, cut_lo, cut_hi, cut_lohi], by simp (disch := first | omega | (simp <;> omega) | fail) [appC_ok, appC_l, extC_ok, opAdd_dT, opAdd_dL, opAdd_tI1, opAdd_1tI, opAdd_tH1, opAdd_dL1, opGet_dT, opGet_dL, opMod_int, opDiv_int, opMul_small, opMul_small2, rng1Out_ok, rng2Out_ok, cut_lo, cut_hi, cut_lohi]⟩
        have en := opEq_dL_nil (f := D.int) (by omega) (lot.filter fun y => decide (y + a ∈ lot))
        have mu := opMul_small (i := 2) (j := a) (by omega) (by omega)
        have a1 := opAdd_1tI (xs := lot) (y := a) (by omega)
        by_cases c1 : (lot.filter fun y => decide (y + a ∈ lot)) = []
        · by_cases c2 : r = tx "unlike"
          · have lb : lessB lot a r = true := by unfold lessB; exact decide_eq_true ⟨c1, .inl c2⟩
            rw [lb, if_pos rfl] at hacc ⊢
            have ap : appC (tI (a :: lot)) (cL (dT D.int) acc) = some (cL (dT D.int) (acc ++ [a :: lot])) := appC_ok (f := dT D.int) (by simp at hacc; omega)
            rw [decide_eq_true c1] at en
            exact ⟨_, _, rfl, .inl (by simp (disch := first | omega | (simp <;> omega) | fail) [appC_ok, appC_l, extC_ok, opAdd_dT, opAdd_dL, opAdd_tI1, opAdd_1tI, opAdd_tH1, opAdd_dL1, opGet_dT, opGet_dL, opMod_int, opDiv_int, opMul_small, opMul_small2, rng1Out_ok, rng2Out_ok, cut_lo, cut_hi, cut_lohi, lb__law_free_2, lc, en, eq_true c2, a1, ap] <;> rfl), rfl⟩
          · by_cases c3 : 2 * a ∈ lot
            · have lb : lessB lot a r = false := by unfold lessB; exact decide_eq_false fun z => z.2.elim c2 fun w => w c3
              rw [lb, if_neg (by simp), List.append_nil]
              rw [decide_eq_true c1] at en
              exact ⟨_, _, rfl, .inl (by simp (disch := first | omega | (simp <;> omega) | fail) [appC_ok, appC_l, extC_ok, opAdd_dT, opAdd_dL, opAdd_tI1, opAdd_1tI, opAdd_tH1, opAdd_dL1, opGet_dT, opGet_dL, opMod_int, opDiv_int, opMul_small, opMul_small2, rng1Out_ok, rng2Out_ok, cut_lo, cut_hi, cut_lohi, lb__law_free_2, lc, en, eq_false c2, mu, eq_true c3] <;> rfl), rfl⟩
            · have lb : lessB lot a r = true := by unfold lessB; exact decide_eq_true ⟨c1, .inr c3⟩
              rw [lb, if_pos rfl] at hacc ⊢
              have ap : appC (tI (a :: lot)) (cL (dT D.int) acc) = some (cL (dT D.int) (acc ++ [a :: lot])) := appC_ok (f := dT D.int) (by simp at hacc; omega)
              rw [decide_eq_true c1] at en
              exact ⟨_, _, rfl, .inl (by simp (disch := first | omega | (simp <;> omega) | fail) [appC_ok, appC_l, extC_ok, opAdd_dT, opAdd_dL, opAdd_tI1, opAdd_1tI, opAdd_tH1, opAdd_dL1, opGet_dT, opGet_dL, opMod_int, opDiv_int, opMul_small, opMul_small2, rng1Out_ok, rng2Out_ok, cut_lo, cut_hi, cut_lohi, lb__law_free_2, lc, en, eq_false c2, mu, eq_false c3, a1, ap] <;> rfl), rfl⟩
        · have lb : lessB lot a r = false := by unfold lessB; exact decide_eq_false fun z => c1 z.1
          rw [lb, if_neg (by simp), List.append_nil]
          rw [decide_eq_false c1] at en
          exact ⟨_, _, rfl, .inl (by simp (disch := first | omega | (simp <;> omega) | fail) [appC_ok, appC_l, extC_ok, opAdd_dT, opAdd_dL, opAdd_tI1, opAdd_1tI, opAdd_tH1, opAdd_dL1, opGet_dT, opGet_dL, opMod_int, opDiv_int, opMul_small, opMul_small2, rng1Out_ok, rng2Out_ok, cut_lo, cut_hi, cut_lohi, lb__law_free_2, lc, en] <;> rfl), rfl⟩)
    have ef : M.flatMap (fun lot => if lessB lot a r = true then [a :: lot] else []) = (M.filter fun lot => lessB lot a r).map fun lot => a :: lot := by
      clear L b1 b2
      induction M with
      | nil => rfl
      | cons x M ih =>
        rw [List.flatMap_cons, ih, List.filter_cons]
        by_cases c : lessB x a r = true
        · rw [if_pos c, if_pos c]; rfl
        · rw [if_neg c, if_neg c]; rfl
    rw [ef, List.nil_append] at L
    have e0 : (cL (dT D.int) ([] : List (List Int))) = .l [] := rfl
    rw [e0] at L
    have ad : opAdd [dL (dT D.int) M, dL (dT D.int) ((M.filter fun lot => lessB lot a r).map fun lot => a :: lot)] = some (fL (dT D.int) (downS r M a)) := opAdd_dL (by
      rw [List.length_map]
      have := List.length_filter_le (fun lot => lessB lot a r) M
      omega)
    exact ⟨_, _, _, rfl, .inl (by simp (disch := first | omega | (simp <;> omega) | fail) [appC_ok, appC_l, extC_ok, opAdd_dT, opAdd_dL, opAdd_tI1, opAdd_1tI, opAdd_tH1, opAdd_dL1, opGet_dT, opGet_dL, opMod_int, opDiv_int, opMul_small, opMul_small2, rng1Out_ok, rng2Out_ok, cut_lo, cut_hi, cut_lohi, lb__law_free_1, L, ad]; exact ⟨rfl, rfl⟩), rfl, _, rfl⟩)
  rw [List.nil_append] at q1
  have so := opSortedL0F ((rdn n).foldl (downS r) [[]])
  rw [down_sort hr] at so
  simp (disch := first | omega | (simp <;> omega) | fail) [appC_ok, appC_l, extC_ok, opAdd_dT, opAdd_dL, opAdd_tI1, opAdd_1tI, opAdd_tH1, opAdd_dL1, opGet_dT, opGet_dL, opMod_int, opDiv_int, opMul_small, opMul_small2, rng1Out_ok, rng2Out_ok, cut_lo, cut_hi, cut_lohi, sem__law_free, m__law_free, it, q1, so]
theorem frz_rt {i n : Nat} {c : C} {m : MS} {g : Clos} {e : Env} {S S' : Sto} {r : M.R} (he : e[i]? = some (some (.c n))) (hc : cellOf S n = some c) (hm : m g (e.set i (some (.d c.froz))) (S.set n none) = .rt r S') : mFrz i m g e S = .rt r S' := by
  unfold mFrz
  rw [he]
  simp only [hc, hm, unfrz]
theorem noClos_rows (M : List (List Int)) : noClos (M.map (dT D.int)) = true := noClos_map (f := dT D.int) (fun a => (noClos_map (f := D.int) (fun _ => rfl) a : noClos (a.map D.int) = true)) M
theorem noCloS_app {S T : Sto} (h1 : noCloS S = true) (h2 : noCloS T = true) : noCloS (S ++ T) = true := by
  unfold noCloS at *
  rw [List.all_append, h1, h2]; rfl
theorem turn_ok (g : Clos) (n : Nat) (r : Str) (S : Sto) (hn : n ≤ 14) (f : Str) (F : Fn) (M : List (List Int)) (v : Option C) (hM : M.length ≤ 16384) (hf : lookF [(tx "most_free", sem_most_free), (tx "full_free", sem_full_free)] f = some F) (hF : (∀ v', noCloO v' = true → F g [.d (.int n), .d (.str r)] (S ++ [none, v']) = .ok (fL (dT D.int) M) (S ++ [none, v']))) (hv : noCloO v = true) :
    ∃ v', noCloO v' = true ∧ forL (.one 13) [13] lb__law_lists_right_3 g ((rng 0 2).map D.int) [some (.d (.int n)), some (.d (.str r)), some (.d (dL (dT D.int) (freeF n r))), some (.d (.clo (encLL (freeF n r)))), none, some (.d (.int (mxL (lensF n r)))), some (.d (dL (dT D.int) (fullF n r))), none, none, none, some (.d (.int (freeF n r).length)), some (.d (.fn f)), some (.d (dL (dT D.int) M)), none, some (.c (S.length + 1))] (S ++ [none, v]) =
        .nx [some (.d (.int n)), some (.d (.str r)), some (.d (dL (dT D.int) (freeF n r))), some (.d (.clo (encLL (freeF n r)))), none, some (.d (.int (mxL (lensF n r)))), some (.d (dL (dT D.int) (fullF n r))), none, none, none, some (.d (.int (freeF n r).length)), some (.d (.fn f)), some (.d (dL (dT D.int) M)), none, some (.c (S.length + 1))] (S ++ [none, v']) := by
  obtain ⟨e2, T2, h1, rfl, v', hv', rfl⟩ := forL_pre D.int (tg := .one 13) (wp := [13]) (body := lb__law_lists_right_3) (g := g)
    (fun pre e T => e = [some (.d (.int n)), some (.d (.str r)), some (.d (dL (dT D.int) (freeF n r))), some (.d (.clo (encLL (freeF n r)))), none, some (.d (.int (mxL (lensF n r)))), some (.d (dL (dT D.int) (fullF n r))), none, none, none, some (.d (.int (freeF n r).length)), some (.d (.fn f)), some (.d (dL (dT D.int) M)), none, some (.c (S.length + 1))] ∧ ∃ v', noCloO v' = true ∧ T = S ++ [none, v'])
    (rng 0 2) [] [some (.d (.int n)), some (.d (.str r)), some (.d (dL (dT D.int) (freeF n r))), some (.d (.clo (encLL (freeF n r)))), none, some (.d (.int (mxL (lensF n r)))), some (.d (dL (dT D.int) (fullF n r))), none, none, none, some (.d (.int (freeF n r).length)), some (.d (.fn f)), some (.d (dL (dT D.int) M)), none, some (.c (S.length + 1))] (S ++ [none, v]) ⟨rfl, v, hv, rfl⟩ (by
      rintro pre a post e T eq ⟨rfl, v', hv', rfl⟩
      have hF := hF v' hv'
      have ap : appC (.tup []) (cL (dT D.int) M) = some (cL (dT D.int) (M ++ [[]])) := appC_ok (f := dT D.int) (y := []) (by omega)
      have re : revC (cL (dT D.int) (M ++ [[]])) = some (cL (dT D.int) (M ++ [[]]).reverse) := by
        show some (C.l ((M ++ [[]]).map (dT D.int)).reverse) = _
        rw [← List.map_reverse]
        rfl
      refine ⟨_, _, _, rfl, .inl (by simp (disch := first | omega | (simp <;> omega) | fail) [appC_ok, appC_l, extC_ok, opAdd_dT, opAdd_dL, opAdd_tI1, opAdd_1tI, opAdd_tH1, opAdd_dL1, opGet_dT, opGet_dL, opMod_int, opDiv_int, opMul_small, opMul_small2, rng1Out_ok, rng2Out_ok, cut_lo, cut_hi, cut_lohi, lb__law_lists_right_3, r_mCallF, callF1_fn, hf, callF2_some, hF, ap, re] <;> first | rfl | exact ⟨rfl, rfl⟩), rfl, some (cL (dT D.int) (M ++ [[]]).reverse), noClos_rows _, rfl⟩)
  exact ⟨v', hv', h1⟩

theorem lists_right_ok (g : Clos) (n : Nat) (r : Str) (S : Sto) (hn : n ≤ 14) (hr : IsRule r) (hS : noCloS S = true) : sem__law_lists_right g [.d (.int n), .d (.str r)] S = .ok (.d (.bl true)) S := by
  have lf := fun T => law_free_ok g n r T hn hr
  have fm := fun T => free_many_ok g n r T hn hr
  have ok := freeF_ok hn r
  have od := opDictT_ok ok
  obtain ⟨bl1, bl2⟩ := freeF_len n r
  have p14 : 2 ^ n ≤ 2 ^ 14 := Nat.pow_le_pow_right (by omega) hn
  have mx := opMaxL_dL (lens_ne n r)
  have lc1 : ∀ T, mLc (miSeq (mVar 2)) (.one 4) [4] none (mTup [mVar 4, mK (.bl true)]) g [some (.d (.int n)), some (.d (.str r)), some (.d (dL (dT D.int) (freeF n r))), none, none, none, some (.c S.length), none, none, none, none, none, none, none, some (.c (S.length + 1))] T = .ok (fL (fun lot => .tup [tI lot, .bl true]) (freeF n r)) T := fun T => by
    have := lc_map (it := miSeq (mVar 2)) (tg := .one 4) (own := [4]) (elt := mTup [mVar 4, mK (.bl true)]) (g := g) (e := [some (.d (.int n)), some (.d (.str r)), some (.d (dL (dT D.int) (freeF n r))), none, none, none, some (.c S.length), none, none, none, none, none, none, none, some (.c (S.length + 1))]) (S := T) (dT D.int) (fun lot => D.tup [tI lot, .bl true]) (freeF n r) (fun lot => lot) (by simp (disch := first | omega | (simp <;> omega) | fail) [appC_ok, appC_l, extC_ok, opAdd_dT, opAdd_dL, opAdd_tI1, opAdd_1tI, opAdd_tH1, opAdd_dL1, opGet_dT, opGet_dL, opMod_int, opDiv_int, opMul_small, opMul_small2, rng1Out_ok, rng2Out_ok, cut_lo, cut_hi, cut_lohi]) fun lot hm => ⟨_, rfl, by simp (disch := first | omega | (simp <;> omega) | fail) [appC_ok, appC_l, extC_ok, opAdd_dT, opAdd_dL, opAdd_tI1, opAdd_1tI, opAdd_tH1, opAdd_dL1, opGet_dT, opGet_dL, opMod_int, opDiv_int, opMul_small, opMul_small2, rng1Out_ok, rng2Out_ok, cut_lo, cut_hi, cut_lohi]⟩
    rw [this]; simp
  have lc2 : ∀ x T, mLc (miSeq (mVar 2)) (.one 4) [4] none (mOp opLen [mVar 4]) g [some (.d (.int n)), some (.d (.str r)), some (.d (dL (dT D.int) (freeF n r))), x, none, none, some (.c S.length), none, none, none, none, none, none, none, some (.c (S.length + 1))] T = .ok (fL D.int (lensF n r)) T := fun x T => by
    refine lc_map (dT D.int) D.int (freeF n r) (fun lot => (lot.length : Int)) (by simp (disch := first | omega | (simp <;> omega) | fail) [appC_ok, appC_l, extC_ok, opAdd_dT, opAdd_dL, opAdd_tI1, opAdd_1tI, opAdd_tH1, opAdd_dL1, opGet_dT, opGet_dL, opMod_int, opDiv_int, opMul_small, opMul_small2, rng1Out_ok, rng2Out_ok, cut_lo, cut_hi, cut_lohi]) fun lot hm => ⟨_, rfl, by simp (disch := first | omega | (simp <;> omega) | fail) [appC_ok, appC_l, extC_ok, opAdd_dT, opAdd_dL, opAdd_tI1, opAdd_1tI, opAdd_tH1, opAdd_dL1, opGet_dT, opGet_dL, opMod_int, opDiv_int, opMul_small, opMul_small2, rng1Out_ok, rng2Out_ok, cut_lo, cut_hi, cut_lohi]⟩
  obtain ⟨e2, T2, q1, ⟨w4, rfl⟩, rfl⟩ := forL_pre (dT D.int) (tg := .one 4) (wp := [7]) (body := lb__law_lists_right_1) (g := g)
    (fun pre e T => (∃ w4, e = [some (.d (.int n)), some (.d (.str r)), some (.d (dL (dT D.int) (freeF n r))), some (.d (.clo (encLL (freeF n r)))), w4, some (.d (.int (mxL (lensF n r)))), some (.c S.length), none, none, none, none, none, none, none, some (.c (S.length + 1))]) ∧ T = S ++ [some (cL (dT D.int) (pre.filter fun lot => decide (∀ x ∈ restL n lot, putS lot x ∉ freeF n r))), none])
    (freeF n r) [] [some (.d (.int n)), some (.d (.str r)), some (.d (dL (dT D.int) (freeF n r))), some (.d (.clo (encLL (freeF n r)))), none, some (.d (.int (mxL (lensF n r)))), some (.c S.length), none, none, none, none, none, none, none, some (.c (S.length + 1))] (S ++ [some (.l []), none]) ⟨⟨none, rfl⟩, rfl⟩ (by
      rintro pre lot post e T eq ⟨⟨w4, rfl⟩, rfl⟩
      rw [List.nil_append] at eq
      have hl : lot ∈ freeF n r := by rw [eq]; simp
      have ll := bl2 lot hl
      have pl : pre.length < 2 ^ n := by
        have := congrArg List.length eq
        simp at this; omega
      have hacc : (pre.filter fun lot => decide (∀ x ∈ restL n lot, putS lot x ∉ freeF n r)).length < 16777216 := by
        have := List.length_filter_le (fun lot => decide (∀ x ∈ restL n lot, putS lot x ∉ freeF n r)) pre
        omega
      rw [List.filter_append, List.filter_cons, List.filter_nil]
      generalize pre.filter (fun lot => decide (∀ x ∈ restL n lot, putS lot x ∉ freeF n r)) = acc at hacc ⊢
      have lc3 : ∀ T, mLc (miRange2 (mK (.int 1)) (mOp opAdd [mVar 0, mK (.int 1)])) (.one 8) [8] (some (mOp opNotIn [mVar 8, mVar 4])) (mOp opTuple [mOp opSortedT [mOp opAdd [mVar 4, mTup [mVar 8]]]]) g [some (.d (.int n)), some (.d (.str r)), some (.d (dL (dT D.int) (freeF n r))), some (.d (.clo (encLL (freeF n r)))), some (.d (tI lot)), some (.d (.int (mxL (lensF n r)))), some (.c S.length), none, none, none, none, none, none, none, some (.c (S.length + 1))] T = .ok (fL (dT D.int) ((restL n lot).map (putS lot))) T := fun T => by
        unfold restL
        refine lc_fm D.int (dT D.int) (rng 1 (n + 1)) (fun x => x ∉ lot) (putS lot) (by simp (disch := first | omega | (simp <;> omega) | fail) [appC_ok, appC_l, extC_ok, opAdd_dT, opAdd_dL, opAdd_tI1, opAdd_1tI, opAdd_tH1, opAdd_dL1, opGet_dT, opGet_dL, opMod_int, opDiv_int, opMul_small, opMul_small2, rng1Out_ok, rng2Out_ok, cut_lo, cut_hi, cut_lohi]) fun x hx => ?_
        have a1 := opAdd_tI1 (xs := lot) (y := x) (by omega)
        have so := opSortedT_int (xs := lot ++ [x]) (by simp; omega)
        have es : ((lot ++ [x]).mergeSort fun a b => decide (a ≤ b)) = putS lot x := rfl
        rw [es] at so
        exact ⟨_, rfl, by simp (disch := first | omega | (simp <;> omega) | fail) [appC_ok, appC_l, extC_ok, opAdd_dT, opAdd_dL, opAdd_tI1, opAdd_1tI, opAdd_tH1, opAdd_dL1, opGet_dT, opGet_dL, opMod_int, opDiv_int, opMul_small, opMul_small2, rng1Out_ok, rng2Out_ok, cut_lo, cut_hi, cut_lohi], fun _ => by simp (disch := first | omega | (simp <;> omega) | fail) [appC_ok, appC_l, extC_ok, opAdd_dT, opAdd_dL, opAdd_tI1, opAdd_1tI, opAdd_tH1, opAdd_dL1, opGet_dT, opGet_dL, opMod_int, opDiv_int, opMul_small, opMul_small2, rng1Out_ok, rng2Out_ok, cut_lo, cut_hi, cut_lohi, a1, so]⟩
      have lc4 : ∀ T, mLc (miSeq (mVar 7)) (.one 9) [9] (some (mOp opInT [mVar 9, mVar 3])) (mVar 9) g [some (.d (.int n)), some (.d (.str r)), some (.d (dL (dT D.int) (freeF n r))), some (.d (.clo (encLL (freeF n r)))), some (.d (tI lot)), some (.d (.int (mxL (lensF n r)))), some (.c S.length), some (.d (dL (dT D.int) ((restL n lot).map (putS lot)))), none, none, none, none, none, none, some (.c (S.length + 1))] T = .ok (fL (dT D.int) (((restL n lot).map (putS lot)).filter fun z => decide (z ∈ freeF n r))) T := fun T => by
        refine lc_filter (dT D.int) ((restL n lot).map (putS lot)) (fun z => z ∈ freeF n r) (by simp (disch := first | omega | (simp <;> omega) | fail) [appC_ok, appC_l, extC_ok, opAdd_dT, opAdd_dL, opAdd_tI1, opAdd_1tI, opAdd_tH1, opAdd_dL1, opGet_dT, opGet_dL, opMod_int, opDiv_int, opMul_small, opMul_small2, rng1Out_ok, rng2Out_ok, cut_lo, cut_hi, cut_lohi]) fun z hz => ?_
        have oi := opInT_ok ok z
        exact ⟨_, rfl, by simp (disch := first | omega | (simp <;> omega) | fail) [appC_ok, appC_l, extC_ok, opAdd_dT, opAdd_dL, opAdd_tI1, opAdd_1tI, opAdd_tH1, opAdd_dL1, opGet_dT, opGet_dL, opMod_int, opDiv_int, opMul_small, opMul_small2, rng1Out_ok, rng2Out_ok, cut_lo, cut_hi, cut_lohi, oi], by simp (disch := first | omega | (simp <;> omega) | fail) [appC_ok, appC_l, extC_ok, opAdd_dT, opAdd_dL, opAdd_tI1, opAdd_1tI, opAdd_tH1, opAdd_dL1, opGet_dT, opGet_dL, opMod_int, opDiv_int, opMul_small, opMul_small2, rng1Out_ok, rng2Out_ok, cut_lo, cut_hi, cut_lohi]⟩
      have en := opEq_dL_nil (f := dT D.int) (by omega) (((restL n lot).map (putS lot)).filter fun z => decide (z ∈ freeF n r))
      have iff : (((restL n lot).map (putS lot)).filter fun z => decide (z ∈ freeF n r)) = [] ↔ ∀ x ∈ restL n lot, putS lot x ∉ freeF n r := by
        rw [List.filter_eq_nil_iff]
        constructor
        · intro h x hx z
          exact h _ (List.mem_map.mpr ⟨x, hx, rfl⟩) (decide_eq_true z)
        · intro h z hz
          obtain ⟨x, hx, rfl⟩ := List.mem_map.mp hz
          rw [decide_eq_true_iff]
          exact h x hx
      by_cases c : ∀ x ∈ restL n lot, putS lot x ∉ freeF n r
      · rw [if_pos (decide_eq_true c)]
        rw [decide_eq_true (iff.mpr c)] at en
        have ap : appC (tI lot) (cL (dT D.int) acc) = some (cL (dT D.int) (acc ++ [lot])) := appC_ok (f := dT D.int) hacc
        exact ⟨_, _, _, rfl, .inl (by simp (disch := first | omega | (simp <;> omega) | fail) [appC_ok, appC_l, extC_ok, opAdd_dT, opAdd_dL, opAdd_tI1, opAdd_1tI, opAdd_tH1, opAdd_dL1, opGet_dT, opGet_dL, opMod_int, opDiv_int, opMul_small, opMul_small2, rng1Out_ok, rng2Out_ok, cut_lo, cut_hi, cut_lohi, lb__law_lists_right_1, lc3, lc4, en, ap] <;> first | rfl | exact ⟨rfl, rfl⟩), ⟨_, rfl⟩, rfl⟩
      · rw [if_neg (by rw [decide_eq_false c]; simp), List.append_nil]
        rw [decide_eq_false fun z => c (iff.mp z)] at en
        exact ⟨_, _, _, rfl, .inl (by simp (disch := first | omega | (simp <;> omega) | fail) [appC_ok, appC_l, extC_ok, opAdd_dT, opAdd_dL, opAdd_tI1, opAdd_1tI, opAdd_tH1, opAdd_dL1, opGet_dT, opGet_dL, opMod_int, opDiv_int, opMul_small, opMul_small2, rng1Out_ok, rng2Out_ok, cut_lo, cut_hi, cut_lohi, lb__law_lists_right_1, lc3, lc4, en] <;> first | rfl | exact ⟨rfl, rfl⟩), ⟨_, rfl⟩, rfl⟩)
  rw [List.nil_append] at q1
  have ef : ((freeF n r).filter fun lot => decide (∀ x ∈ restL n lot, putS lot x ∉ freeF n r)) = fullF n r := rfl
  rw [ef] at q1
  have lc5 : ∀ a b T, mLc (miSeq (mVar 2)) (.one 4) [4] (some (mOp opEq [mOp opLen [mVar 4], mVar 5])) (mVar 4) g [some (.d (.int n)), some (.d (.str r)), some (.d (dL (dT D.int) (freeF n r))), some (.d (.clo (encLL (freeF n r)))), a, some (.d (.int (mxL (lensF n r)))), some (.d (dL (dT D.int) (fullF n r))), none, none, none, b, none, none, none, some (.c (S.length + 1))] T = .ok (fL (dT D.int) (mostF n r)) T := fun a b T => by
    refine lc_filter (dT D.int) (freeF n r) (fun lot => (lot.length : Int) = mxL (lensF n r)) (by simp (disch := first | omega | (simp <;> omega) | fail) [appC_ok, appC_l, extC_ok, opAdd_dT, opAdd_dL, opAdd_tI1, opAdd_1tI, opAdd_tH1, opAdd_dL1, opGet_dT, opGet_dL, opMod_int, opDiv_int, opMul_small, opMul_small2, rng1Out_ok, rng2Out_ok, cut_lo, cut_hi, cut_lohi]) fun lot hm => ⟨_, rfl, by simp (disch := first | omega | (simp <;> omega) | fail) [appC_ok, appC_l, extC_ok, opAdd_dT, opAdd_dL, opAdd_tI1, opAdd_1tI, opAdd_tH1, opAdd_dL1, opGet_dT, opGet_dL, opMod_int, opDiv_int, opMul_small, opMul_small2, rng1Out_ok, rng2Out_ok, cut_lo, cut_hi, cut_lohi], by simp (disch := first | omega | (simp <;> omega) | fail) [appC_ok, appC_l, extC_ok, opAdd_dT, opAdd_dL, opAdd_tI1, opAdd_1tI, opAdd_tH1, opAdd_dL1, opGet_dT, opGet_dL, opMod_int, opDiv_int, opMul_small, opMul_small2, rng1Out_ok, rng2Out_ok, cut_lo, cut_hi, cut_lohi]⟩
  have n0 : noCloO (none : Option C) = true := rfl
  have lm : (mostF n r).length ≤ 2 ^ n := Nat.le_trans (List.length_filter_le ..) bl1
  have lfu : (fullF n r).length ≤ 2 ^ n := Nat.le_trans (List.length_filter_le ..) bl1
  obtain ⟨v1, hv1, t1⟩ := turn_ok g n r S hn (tx "most_free") sem_most_free (mostF n r) none (by omega) rfl (fun v' _ => most_free_ok g n r _ hn hr) n0
  obtain ⟨v2, hv2, t2⟩ := turn_ok g n r S hn (tx "full_free") sem_full_free (fullF n r) v1 (by omega) (by simp [lookF]) (fun v' hv' => full_free_ok g n r _ hn hr (noCloS_app hS (by show (noCloO none && (noCloO v' && true)) = true; rw [hv']; rfl))) hv1
  have fz : mFrz 6 (mSeq [mFor (miSeq (mList [mTup [mK (.fn (tx "most_free")), mLc (miSeq (mVar 2)) (.one 4) [4] (some (mOp opEq [mOp opLen [mVar 4], mVar 5])) (mVar 4)], mTup [mK (.fn (tx "full_free")), mVar 6]])) (.many [11, 12]) [4, 11, 12, 13] lb__law_lists_right_2, mRet (mK (.bl true))]) g
      [some (.d (.int n)), some (.d (.str r)), some (.d (dL (dT D.int) (freeF n r))), some (.d (.clo (encLL (freeF n r)))), w4, some (.d (.int (mxL (lensF n r)))), some (.c S.length), none, none, none, some (.d (.int (freeF n r).length)), none, none, none, some (.c (S.length + 1))] (S ++ [some (cL (dT D.int) (fullF n r)), none]) = .rt (.d (.bl true)) (S ++ [none, v2]) := by
    refine frz_rt (n := S.length) (c := cL (dT D.int) (fullF n r)) rfl (by simp) ?_
    simp (disch := first | omega | (simp <;> omega) | fail) [appC_ok, appC_l, extC_ok, opAdd_dT, opAdd_dL, opAdd_tI1, opAdd_1tI, opAdd_tH1, opAdd_dL1, opGet_dT, opGet_dL, opMod_int, opDiv_int, opMul_small, opMul_small2, rng1Out_ok, rng2Out_ok, cut_lo, cut_hi, cut_lohi, lc5, forL, lb__law_lists_right_2, t1, t2]
  have e0 : (cL (dT D.int) ([] : List (List Int))) = .l [] := rfl
  refine lock_ok ?_ rfl hS rfl hS
  simp (disch := first | omega | (simp <;> omega) | fail) [appC_ok, appC_l, extC_ok, opAdd_dT, opAdd_dL, opAdd_tI1, opAdd_1tI, opAdd_tH1, opAdd_dL1, opGet_dT, opGet_dL, opMod_int, opDiv_int, opMul_small, opMul_small2, rng1Out_ok, rng2Out_ok, cut_lo, cut_hi, cut_lohi, m__law_lists_right, lf, lc1, od, lc2, mx, q1, fm, fz]
theorem odd12 (o : Int) (h0 : 0 ≤ o) (h1 : o < 4) : ∃ m, atI [D.int 12, .int 12, .int 12, .int 15] o = some (.int m) ∧ 0 < m ∧ m ≤ 15 := by
  have : o = 0 ∨ o = 1 ∨ o = 2 ∨ o = 3 := by omega
  rcases this with rfl | rfl | rfl | rfl
  · exact ⟨12, atI_zero _ _, by omega, by omega⟩
  · exact ⟨12, atI_one _ _ _, by omega, by omega⟩
  · exact ⟨12, atI_two _ _ _ _, by omega, by omega⟩
  · exact ⟨15, atI_three _ _ _ _ _, by omega, by omega⟩
theorem law_turn (g : Clos) (ns : List Int) (k : Int) (hk : 0 ≤ k) (v : Option C) : EndB (lb_law_1 g [some (.d (.rol (ns.map D.int))), some (.d (.int k)), some (.c 0), none, none] [v]) [1, 3, 4]
    fun e T => e = [some (.d (.rol (ns.map D.int))), none, some (.c 0), none, none] ∧ ∃ v, noCloS [v] = true ∧ T = [v] := by
  obtain ⟨s, hs⟩ := state_ok g ns k [v] hk
  obtain ⟨o, s1, t1, o0, o1⟩ := take_ex s (m := 4) (by omega) (by omega)
  obtain ⟨m, hm, m0, m1⟩ := odd12 o o0 o1
  obtain ⟨n, s2, t2, n0, n1⟩ := take_ex s1 (m := m) m0 (by omega)
  obtain ⟨n, rfl⟩ := Int.eq_ofNat_of_zero_le n0
  obtain ⟨ru, s3, t3, r0, r1⟩ := take_ex s2 (m := 2) (by omega) (by omega)
  obtain ⟨r, hru, hr⟩ : ∃ r : Str, atI [D.str (tx "any"), D.str (tx "unlike")] ru = some (.str r) ∧ IsRule r := by
    have : ru = 0 ∨ ru = 1 := by omega
    rcases this with rfl | rfl
    · exact ⟨_, atI_zero _ _, .inl rfl⟩
    · exact ⟨_, atI_one _ _ _, .inr rfl⟩
  have nc : noCloS [some (stC s3)] = true := by simp [noCloS, noCloO, noCloC, stC, noClos, noClo]
  have lr := lists_right_ok g n r [some (stC s3)] (by omega) hr nc
  simp (disch := first | omega | (simp <;> omega) | fail) [appC_ok, appC_l, extC_ok, opAdd_dT, opAdd_dL, opAdd_tI1, opAdd_1tI, opAdd_tH1, opAdd_dL1, opGet_dT, opGet_dL, opMod_int, opDiv_int, opMul_small, opMul_small2, rng1Out_ok, rng2Out_ok, cut_lo, cut_hi, cut_lohi, lb_law_1, hs, t1, hm, t2, t3, hru, lr]
  exact nc
theorem sound_law (ns : List Int) (h : ns.length ≤ 63) : sem_law G0 [.d (.rol (ns.map D.int))] [] = .ok (.d (.bl true)) [] := by
  obtain ⟨e2, S2, h1, rfl, v, hv, rfl⟩ := forL_end D.int (tg := .one 1) (wp := [1, 3, 4]) (body := lb_law_1) (g := G0)
    (fun e T => e = [some (.d (.rol (ns.map D.int))), none, some (.c 0), none, none] ∧ ∃ v, noCloS [v] = true ∧ T = [v])
    (rng 0 (max 1 (min (ns.length : Int) 2))) [some (.d (.rol (ns.map D.int))), none, some (.c 0), none, none] [none] ⟨rfl, _, rfl, rfl⟩ (by
      rintro a ha e S ⟨rfl, v, _, rfl⟩
      exact ⟨_, rfl, law_turn G0 ns a (mem_rng.mp ha).1 v⟩)
  have nv : noCloS [v] = true := hv
  have r1 := lists_right_ok G0 0 (tx "any") [v] (by omega) (.inl rfl) nv
  have r2 := lists_right_ok G0 7 (tx "any") [v] (by omega) (.inl rfl) nv
  have r3 := lists_right_ok G0 7 (tx "unlike") [v] (by omega) (.inr rfl) nv
  have c0 : ((0 : Nat) : Int) = 0 := rfl
  have c7 : ((7 : Nat) : Int) = 7 := rfl
  rw [c0] at r1
  rw [c7] at r2 r3
  simp (disch := first | omega | (simp <;> omega) | fail) [appC_ok, appC_l, extC_ok, opAdd_dT, opAdd_dL, opAdd_tI1, opAdd_1tI, opAdd_tH1, opAdd_dL1, opGet_dT, opGet_dL, opMod_int, opDiv_int, opMul_small, opMul_small2, rng1Out_ok, rng2Out_ok, cut_lo, cut_hi, cut_lohi, sem_law, m_law, h1, r1, r2, r3]
end MP
/-! Mini3: rewriting rules of the small language, loops by folds. -/
namespace M
open PySem (Str)
section
variable {g : Clos} {e : Env} {S : Sto}
@[simp] theorem evC_none : evC none g e S = .ok true S := rfl
@[simp] theorem evC_some (m : ME) : evC (some m) g e S = evB m g e S := rfl
@[simp] theorem mK_eq (x : D) : mK x g e S = .ok (.d x) S := rfl
theorem mVar_d {i : Nat} {x : D} (h : e[i]? = some (some (.d x))) : mVar i g e S = .ok (.d x) S := by simp [mVar, h]
theorem mVar_c {i n : Nat} {c : C} (h : e[i]? = some (some (.c n))) (hc : cellOf S n = some c) : mVar i g e S = .ok (.c n) S := by simp [mVar, h, hc]
@[simp] theorem mVar_zero_d (x : D) (r : Env) : mVar 0 g (some (.d x) :: r) S = .ok (.d x) S := rfl
@[simp] theorem mVar_zero_c (n : Nat) (r : Env) : mVar 0 g (some (.c n) :: r) S = (if (cellOf S n).isSome then .ok (.c n) S else .no) := by simp [mVar]
@[simp] theorem mVar_succ (i : Nat) (a : Option A) (r : Env) : mVar (i + 1) g (a :: r) S = mVar i g r S := by simp [mVar]
@[simp] theorem evRs_nil : evRs [] g e S = .ok [] S := rfl
@[simp] theorem evRs_cons (m : ME) (ms : List ME) : evRs (m :: ms) g e S = (m g e S).bind fun r S1 => (evRs ms g e S1).bind fun rs S2 => .ok (r :: rs) S2 := rfl
@[simp] theorem evDs_nil : evDs [] g e S = .ok [] S := rfl
@[simp] theorem evDs_cons (m : ME) (ms : List ME) : evDs (m :: ms) g e S = (m g e S).bind fun r S1 => (toD r S1).bind fun x S2 => (evDs ms g e S2).bind fun xs S3 => .ok (x :: xs) S3 := rfl
@[simp] theorem evD_eq (m : ME) : evD m g e S = (m g e S).bind fun r S1 => toD r S1 := rfl
@[simp] theorem views_nil : views S [] = some [] := rfl
@[simp] theorem views_cons (r : R) (rs : List R) : views S (r :: rs) = match view S r with
    | some x => (match views S rs with
      | some xs => some (x :: xs)
      | none => none)
    | none => none := rfl
@[simp] theorem mOp_eq (f : List D → Option R) (ms : List ME) : mOp f ms g e S = (evRs ms g e S).bind fun rs S1 => match views S1 rs with
  | some xs => (match f xs with
    | some r => .ok r S1
    | none => .no)
  | none => .no := rfl
@[simp] theorem mTup_eq (ms : List ME) : mTup ms g e S = (evDs ms g e S).bind fun xs S1 => .ok (.d (.tup xs)) S1 := rfl
@[simp] theorem mList_eq (ms : List ME) : mList ms g e S = (evDs ms g e S).bind fun xs S1 => .ok (.f (.l xs)) S1 := rfl
@[simp] theorem mDict0_eq : mDict0 g e S = .ok (.f (.k [] [])) S := rfl
@[simp] theorem asB_bl (b : Bool) : asB (.d (.bl b)) = some b := rfl
@[simp] theorem evB_eq (m : ME) : evB m g e S = (m g e S).bind fun r S1 => match asB r with
  | some b => .ok b S1
  | none => .no := rfl
@[simp] theorem mAnd_eq (a b : ME) : mAnd a b g e S = (evB a g e S).bind fun c S1 => match c with
  | true => b g e S1
  | false => .ok (.d (.bl false)) S1 := rfl
@[simp] theorem mOr_eq (a b : ME) : mOr a b g e S = (evB a g e S).bind fun c S1 => match c with
  | true => .ok (.d (.bl true)) S1
  | false => b g e S1 := rfl
@[simp] theorem mNot_eq (a : ME) : mNot a g e S = (evB a g e S).bind fun c S1 => .ok (.d (.bl (!c))) S1 := rfl
@[simp] theorem mIfE_eq (c a b : ME) : mIfE c a b g e S = (evB c g e S).bind fun k S1 => match k with
  | true => a g e S1
  | false => b g e S1 := rfl
@[simp] theorem mChain_eq (f f' : List D → Option R) (a b c : ME) : mChain f f' a b c g e S = (a g e S).bind fun r1 S1 => (b g e S1).bind fun r2 S2 =>
  match view S2 r1, view S2 r2 with
  | some x, some y => (match f [x, y] with
    | some (.d (.bl true)) => (c g e S2).bind fun r3 S3 => (match view S3 r2, view S3 r3 with
      | some y', some z => (match f' [y', z] with
        | some r => .ok r S3
        | none => .no)
      | _, _ => .no)
    | some (.d (.bl false)) => .ok (.d (.bl false)) S2
    | _ => .no)
  | _, _ => .no := rfl
@[simp] theorem mCall_eq (F : Fn) (ms : List ME) : mCall F ms g e S = (evRs ms g e S).bind fun rs S1 => F g (rs.map toA) S1 := rfl
@[simp] theorem miSeq_eq (m : ME) : miSeq m g e S = (m g e S).bind fun r S1 => match r with
  | .d (.str s) => .ok ⟨chars s, none⟩ S1
  | r => (match itOf r S1 with
    | some (xs, fz) => .ok ⟨xs, fz⟩ (shut fz S1)
    | none => .no) := rfl
@[simp] theorem itOf_tup (xs : List D) : itOf (.d (.tup xs)) S = some (xs, none) := rfl
@[simp] theorem itOf_lst (xs : List D) : itOf (.d (.lst xs)) S = some (xs, none) := rfl
@[simp] theorem itOf_f (xs : List D) : itOf (.f (.l xs)) S = some (xs, none) := rfl
@[simp] theorem miRange1_eq (m : ME) : miRange1 m g e S = (m g e S).bind fun r S1 => match r with
  | .d (.int n) => if okR n ∧ n.toNat ≤ LIM then .ok ⟨rangeD 0 n, none⟩ S1 else .no
  | _ => .no := rfl
@[simp] theorem miRange2_eq (m1 m2 : ME) : miRange2 m1 m2 g e S = (m1 g e S).bind fun r1 S1 => (m2 g e S1).bind fun r2 S2 => match r1, r2 with
  | .d (.int a), .d (.int b) => if okR a ∧ okR b ∧ (b - a).toNat ≤ LIM then .ok ⟨rangeD a b, none⟩ S2 else .no
  | _, _ => .no := rfl
@[simp] theorem mLc_eq (it : MI) (tg : Tg) (own : List Nat) (cond : Option ME) (elt : ME) : mLc it tg own cond elt g e S = (it g e S).bind fun I S1 =>
  ((lcL tg own cond elt g e I.xs S1).calm).bind fun ys S2 => .ok (.f (.l ys)) (thaw I.fz S2) := rfl
@[simp] theorem mSlLH_eq (ma mb mc : ME) : mSlLH ma mb mc g e S = (ma g e S).bind fun r1 S1 => (mb g e S1).bind fun r2 S2 => match r2 with
  | .d (.int i) => (mc g e S2).bind fun r3 S3 => (match r3, view S3 r1 with
    | .d (.int j), some x => (match sliceD x (some i) (some j) with
      | some r => .ok r S3
      | none => .no)
    | _, _ => .no)
  | _ => .no := rfl
@[simp] theorem mSeq_nil : mSeq [] g e S = .nx e S := rfl
@[simp] theorem mSeq_cons (m : MS) (ms : List MS) : mSeq (m :: ms) g e S = match m g e S with
    | .nx e' S' => mSeq ms g e' S'
    | o => o := rfl
@[simp] theorem mPass_eq : mPass g e S = .nx e S := rfl
@[simp] theorem mBrk_eq : mBrk g e S = .bk e S := rfl
@[simp] theorem mCnt_eq : mCnt g e S = .ct e S := rfl
@[simp] theorem mExpr_eq (m : ME) : mExpr m g e S = (m g e S).bindS e fun _ S1 => .nx e S1 := rfl
@[simp] theorem mRet_eq (m : ME) : mRet m g e S = (m g e S).bindS e fun r S1 => .rt r S1 := rfl
@[simp] theorem mRetN_eq : mRetN g e S = .rt (.d .non) S := rfl
@[simp] theorem mRaise_eq (c : Str) : mRaise c g e S = .ex c e S := rfl
@[simp] theorem mIf_eq (c : ME) (a b : MS) : mIf c a b g e S = (evB c g e S).bindS e fun k S1 => match k with
  | true => a g e S1
  | false => b g e S1 := rfl
@[simp] theorem mSet_eq (i : Nat) (m : ME) : mSet i m g e S = (evD m g e S).bindS e fun x S1 => .nx (e.set i (some (.d x))) S1 := rfl
@[simp] theorem mSetC_eq (i : Nat) (m : ME) : mSetC i m g e S = (m g e S).bindS e fun r S1 => match r, e[i]? with
  | .f v, some (some (.c n)) => .nx e (S1.set n (some v))
  | _, _ => .no := rfl
@[simp] theorem mSetT_eq (is : List Nat) (m : ME) : mSetT is m g e S = (evD m g e S).bindS e fun x S1 => match (Tg.many is).put x e with
  | some e' => .nx e' S1
  | none => .no := rfl
@[simp] theorem mPar_eq (is : List Nat) (ms : List ME) : mPar is ms g e S = (evRs ms g e S).bindS e fun rs S1 => match parPut is rs e with
  | some e' => .nx e' S1
  | none => .no := rfl
@[simp] theorem hasL_eq (i : Nat) : hasL i e S = match e[i]? with
  | some (some (.c n)) => (match cellOf S n with
    | some (.l _) => true
    | _ => false)
  | _ => false := rfl
@[simp] theorem mAppend_eq (i : Nat) (m : ME) : mAppend i m g e S = if hasL i e S = false then .no else (evD m g e S).bindS e fun x S1 => updC i e S1 fun v => match v with
  | .l xs => if xs.length < LIM then some (.l (xs ++ [x])) else none
  | _ => none := rfl
@[simp] theorem mExtend_eq (i : Nat) (m : ME) : mExtend i m g e S = if hasL i e S = false then .no else (m g e S).bindS e fun r S1 => match view S1 r with
  | some (.lst ys) => updC i e S1 fun v => (match v with
    | .l xs => if xs.length + ys.length ≤ LIM then some (.l (xs ++ ys)) else none
    | _ => none)
  | _ => .no := rfl
@[simp] theorem mShift_eq (i j : Nat) (m : ME) : mShift i j m g e S = match e[j]? with
  | some (some (.c n)) => if (cellOf S n).isNone then .no else (m g e S).bindS e fun r S1 => (match r, cellOf S1 n with
    | .f w, some v => .nx (e.set i (some (.d v.froz))) (S1.set n (some w))
    | _, _ => .no)
  | _ => .no := rfl
@[simp] theorem mSetIx_eq (i : Nat) (j m : ME) (put : D → D → C → Option C) : mSetIx i j m put g e S = (evD m g e S).bindS e fun x S1 => if hasC i e S1 = false then .no else (evD j g e S1).bindS e fun y S2 =>
  updC i e S2 (put y x) := rfl
@[simp] theorem hasC_eq (i : Nat) : hasC i e S = match e[i]? with
  | some (some (.c n)) => (cellOf S n).isSome
  | _ => false := rfl
@[simp] theorem mFor_eq (it : MI) (tg : Tg) (wp : List Nat) (body : MS) : mFor it tg wp body g e S = (it g e S).bindS e fun I S1 => match I.fz with
  | none => forL tg wp body g I.xs e S1
  | some _ => .no := rfl
@[simp] theorem put_one (i : Nat) (x : D) : (Tg.one i).put x e = some (e.set i (some (.d x))) := rfl
@[simp] theorem put_many_tup (is : List Nat) (xs : List D) : (Tg.many is).put (.tup xs) e = setAll is xs e := rfl
@[simp] theorem setAll_nil : setAll [] [] e = some e := rfl
@[simp] theorem setAll_cons (i : Nat) (is : List Nat) (x : D) (xs : List D) : setAll (i :: is) (x :: xs) e = setAll is xs (e.set i (some (.d x))) := rfl
@[simp] theorem wipe_nil : wipe e [] = e := rfl
@[simp] theorem wipe_cons (v : Nat) (vs : List Nat) : wipe e (v :: vs) = (wipe e vs).set v none := rfl
@[simp] theorem parPut_nil : parPut [] [] e = some e := rfl
@[simp] theorem parPut_d (i : Nat) (is : List Nat) (x : D) (rs : List R) : parPut (i :: is) (.d x :: rs) e = parPut is rs (e.set i (some (.d x))) := rfl
end
/-! ### the store behind what stood -/
theorem cellOf_app (S T : Sto) (k : Nat) : cellOf (S ++ T) (S.length + k) = cellOf T k := by
  simp only [cellOf]
  rw [List.getElem?_append_right (by omega)]
  simp
@[simp] theorem cellOf_app0 (S T : Sto) : cellOf (S ++ T) S.length = cellOf T 0 := cellOf_app S T 0
@[simp] theorem cellOf_app1 (S T : Sto) : cellOf (S ++ T) (S.length + 1) = cellOf T 1 := cellOf_app S T 1
@[simp] theorem cellOf_app2 (S T : Sto) : cellOf (S ++ T) (S.length + 2) = cellOf T 2 := cellOf_app S T 2
@[simp] theorem cellOf_zero (v : Option C) (T : Sto) : cellOf (v :: T) 0 = v := by simp [cellOf]
@[simp] theorem cellOf_succ (v : Option C) (T : Sto) (k : Nat) : cellOf (v :: T) (k + 1) = cellOf T k := by simp [cellOf]
theorem set_app (S T : Sto) (k : Nat) (v : Option C) : (S ++ T).set (S.length + k) v = S ++ T.set k v := by
  rw [List.set_append_right _ _ (by omega)]; simp
@[simp] theorem set_app0 (S T : Sto) (v : Option C) : (S ++ T).set S.length v = S ++ T.set 0 v := set_app S T 0 v
@[simp] theorem set_app1 (S T : Sto) (v : Option C) : (S ++ T).set (S.length + 1) v = S ++ T.set 1 v := set_app S T 1 v
@[simp] theorem set_app2 (S T : Sto) (v : Option C) : (S ++ T).set (S.length + 2) v = S ++ T.set 2 v := set_app S T 2 v
@[simp] theorem take_app (S T : Sto) : (S ++ T).take S.length = S := List.take_left' rfl
@[simp] theorem outOf_nx (S T : Sto) (e : Env) : outOf S.length (.nx e (S ++ T)) = .ok (.d .non) S := by simp [outOf]
@[simp] theorem outOf_nx0 (S : Sto) (e : Env) : outOf S.length (.nx e S) = .ok (.d .non) S := by simp [outOf]
@[simp] theorem outOf_rt_d (S T : Sto) (x : D) : outOf S.length (.rt (.d x) (S ++ T)) = .ok (.d x) S := by simp [outOf]
@[simp] theorem outOf_rt_d0 (S : Sto) (x : D) : outOf S.length (.rt (.d x) S) = .ok (.d x) S := by simp [outOf]
@[simp] theorem outOf_rt_f (S T : Sto) (v : C) : outOf S.length (.rt (.f v) (S ++ T)) = .ok (.f v) S := by simp [outOf]
@[simp] theorem outOf_rt_f0 (S : Sto) (v : C) : outOf S.length (.rt (.f v) S) = .ok (.f v) S := by simp [outOf]
@[simp] theorem outOf_rt_c0 (S : Sto) (v : C) (T : Sto) : outOf S.length (.rt (.c S.length) (S ++ some v :: T)) = .ok (.f v) S := by simp [outOf]
@[simp] theorem outOf_rt_c1 (S : Sto) (v : C) (u : Option C) (T : Sto) : outOf S.length (.rt (.c (S.length + 1)) (S ++ u :: some v :: T)) = .ok (.f v) S := by simp [outOf]
@[simp] theorem outOf_ex (S T : Sto) (c : Str) (e : Env) : outOf S.length (.ex c e (S ++ T)) = .ex c S := by simp [outOf]
@[simp] theorem outOf_ex0 (S : Sto) (c : Str) (e : Env) : outOf S.length (.ex c e S) = .ex c S := by simp [outOf]
@[simp] theorem mkFn_eq (np : Nat) (muts : List Bool) (body : MS) (g : Clos) (as : List A) (S : Sto) : mkFn np muts body g as S = if as.length = np then
    outOf S.length (body g (as.map some ++ frame muts S.length) (S ++ List.replicate (muts.countP id) none))
  else .no := rfl
@[simp] theorem frame_nil (n : Nat) : frame [] n = [] := rfl
@[simp] theorem frame_t (r : List Bool) (n : Nat) : frame (true :: r) n = some (.c n) :: frame r (n + 1) := rfl
@[simp] theorem frame_f (r : List Bool) (n : Nat) : frame (false :: r) n = none :: frame r n := rfl

/-! ### loops -/
theorem forL_fold {β : Type} {tg : Tg} {wp : List Nat} {body : MS} {g : Clos} (en : β → Env) (st : β → Sto) (f : β → D → β) (P : β → Prop) :
    ∀ (xs : List D) (b : β) (e : Env), wipe e wp = en b → P b →
      (∀ b' x, x ∈ xs → P b' → ∃ e1 e2, tg.put x (en b') = some e1 ∧ body g e1 (st b') = .nx e2 (st (f b' x)) ∧ wipe e2 wp = en (f b' x) ∧ P (f b' x)) →
      forL tg wp body g xs e (st b) = .nx (en (xs.foldl f b)) (st (xs.foldl f b)) ∧ P (xs.foldl f b)
  | [], b, e, he, hp, _ => by simp [forL, he, hp]
  | x :: xs, b, e, he, hp, h => by
    obtain ⟨e1, e2, h1, h2, h3, h4⟩ := h b x (List.mem_cons_self) hp
    simp only [forL, he, h1, h2, List.foldl_cons]
    exact forL_fold en st f P xs (f b x) e2 h3 h4 fun b' y hy => h b' y (List.mem_cons_of_mem _ hy)
/-- a loop that puts to a list, item by item -/
theorem forL_acc {tg : Tg} {wp : List Nat} {body : MS} {g : Clos} (en : Env) (st : List D → Sto) (f : D → List D) (P : List D → Prop) (xs : List D) (acc : List D) (e : Env) (he : wipe e wp = en) (hp : P acc)
    (h : ∀ acc x, x ∈ xs → P acc → ∃ e1 e2, tg.put x en = some e1 ∧ body g e1 (st acc) = .nx e2 (st (acc ++ f x)) ∧ wipe e2 wp = en ∧ P (acc ++ f x)) :
    forL tg wp body g xs e (st acc) = .nx en (st (acc ++ xs.flatMap f)) ∧ P (acc ++ xs.flatMap f) := by
  have key : ∀ (xs : List D) (acc : List D), xs.foldl (fun a x => a ++ f x) acc = acc ++ xs.flatMap f := by
    intro xs
    induction xs with
    | nil => intro acc; simp
    | cons x xs ih => intro acc; simp [ih]
  have := forL_fold (fun _ => en) st (fun a x => a ++ f x) P xs acc e he hp h
  rwa [key] at this
/-- a comprehension that changes no store -/
theorem lcL_map {tg : Tg} {own : List Nat} {cond : Option ME} {elt : ME} {g : Clos} {e : Env} {S : Sto} (p : D → Bool) (f : D → D) :
    ∀ (xs : List D), (∀ x ∈ xs, ∃ e', tg.put x (wipe e own) = some e' ∧ evC cond g e' S = .ok (p x) S ∧ (p x = true → evD elt g e' S = .ok (f x) S)) →
      lcL tg own cond elt g e xs S = .ok ((xs.filter p).map f) S
  | [], _ => by simp [lcL]
  | x :: xs, h => by
    obtain ⟨e', h1, h2, h3⟩ := h x (List.mem_cons_self)
    have ih := lcL_map (tg := tg) (own := own) (cond := cond) (elt := elt) (g := g) (e := e) (S := S) p f xs fun y hy => h y (List.mem_cons_of_mem _ hy)
    cases hp : p x with
    | true =>
      have h3' := h3 hp
      simp only [lcL, h1, h2, hp, O.bind_ok, h3', ih, List.filter_cons_of_pos hp, List.map_cons]
    | false =>
      have hn : ¬ p x = true := by simp [hp]
      simp only [lcL, h1, h2, hp, O.bind_ok, ih, List.filter_cons_of_neg hn]
end M

set_option maxHeartbeats 4000000
/-! Sound1: how the data of the small language lie in the heap; what a step keeps. -/
namespace M
open PySem L2
open PySem (Str)

theorem LIM_eq : LIM = sizeLine := by rw [sizeLine_eq]; rfl

/-- what a frame has that does not change -/
structure Fx where
  K : PySem.W.Frag
  mg : Str → Option Value
  κ : Nat → V → Hp → Prop
  T : List (Addr × Str)
  n0 : Nat
  ml : List Nat
  g : Clos

/-- what may be changed by a store -/
def isMut : HO → Bool
  | .lst _ => true
  | .dK _ => true
  | .dT _ => true
  | .tbl _ => true
  | _ => false
def Keeps (H H' : Hp) : Prop := ∀ a o, isMut o = false → H a = some o → H' a = some o
/-- an object of the class at c, an exception that was caught -/
def ExcO (a c : Addr) : HO := .ext fun h => ∃ oe, h.get? a = some oe ∧ oe.cls = .ref c ∧ oe.dict = none ∧ ∃ vs, oe.data = .fields vs
structure Stab (F : Fx) : Prop where
  mv : ∀ k v H H', F.κ k v H → Keeps H H' → F.κ k v H'
  nn : ∀ k v H, F.κ k v H → v ≠ .non

def keyD : D → Option Key
  | .int i => some (.inl i)
  | .str s => some (.inr s)
  | _ => none
def keyT : D → Option (List Key)
  | .tup xs => xs.mapM keyD
  | _ => none
/-- the keys of a dict at a, its values vs -/
def DctAt (H : Hp) (a : Addr) (ks : List D) (vs : List V) : Prop :=
  (∃ ps : List (Key × V), H a = some (.dK ps) ∧ ks.map keyD = ps.map (fun p => some p.1) ∧ vs = ps.map (·.2)) ∨
    ∃ ps : List (List Key × V), H a = some (.dT ps) ∧ ks.map keyT = ps.map (fun p => some p.1) ∧ vs = ps.map (·.2) ∧ ps ≠ []
/-- a list of the text as it was written -/
def KLst (K : PySem.W.Frag) (a : Addr) (vs : List V) : Prop := SqL K (fun _ => none) a vs
theorem KLst.seq {K : PySem.W.Frag} {a : Addr} {vs : List V} (h : KLst K a vs) (H : Hp) : SqL K H a vs := by
  rcases h with (h | ⟨o, h⟩) | h
  · cases h
  · cases h
  · exact .inr h
mutual
def Rep (F : Fx) (X : Addr → Prop) (H : Hp) : D → V → Prop
  | .non, v => v = .non
  | .bl b, v => v = .bl b
  | .int i, v => v = .int i
  | .str s, v => v = .str s ∧ txtOk s = true
  | .tup xs, v => ∃ a vs, v = .ref a ∧ SqT F.K H a vs ∧ vs.length ≤ LIM ∧ Reps F X H xs vs
  | .lst xs, v => ∃ a vs, v = .ref a ∧ H a = some (.lst vs) ∧ ¬ X a ∧ vs.length ≤ LIM ∧ Reps F X H xs vs
  | .dct ks xs, v => ∃ a vs, v = .ref a ∧ DctAt H a ks vs ∧ ¬ X a ∧ vs.length ≤ LIM ∧ Reps F X H xs vs
  | .rol xs, v => ∃ a vs, v = .ref a ∧ ((∃ o, H a = some (.frz o (.lst vs))) ∨ KLst F.K a vs ∨ H a = some (.lst vs) ∧ ¬ X a) ∧ vs.length ≤ LIM ∧ Reps F X H xs vs
  | .fn f, v => ∃ a, v = .ref a ∧ F.mg f = some (.ref a)
  | .clo k, v => F.κ k v H
  | .exc c, v => ∃ a cl, v = .ref a ∧ F.mg c = some (.ref cl) ∧ H a = some (ExcO a cl)
def Reps (F : Fx) (X : Addr → Prop) (H : Hp) : List D → List V → Prop
  | [], vs => vs = []
  | x :: xs, vs => ∃ v r, vs = v :: r ∧ Rep F X H x v ∧ Reps F X H xs r
end
theorem DctAt.to {H H' : Hp} {a : Addr} {ks : List D} {vs : List V} (h : DctAt H a ks vs) (k : ∀ o, H a = some o → H' a = some o) : DctAt H' a ks vs := by
  rcases h with ⟨ps, h, r⟩ | ⟨ps, h, r⟩
  · exact .inl ⟨ps, k _ h, r⟩
  · exact .inr ⟨ps, k _ h, r⟩
theorem DctAt.at_ {H : Hp} {a : Addr} {ks : List D} {vs : List V} (h : DctAt H a ks vs) : ∃ o, H a = some o ∧ isMut o = true ∧ (∀ ps, o ≠ .tbl ps) := by
  rcases h with ⟨ps, h, r⟩ | ⟨ps, h, r⟩
  · exact ⟨_, h, rfl, fun _ z => by cases z⟩
  · exact ⟨_, h, rfl, fun _ z => by cases z⟩

section
variable {F : Fx} {X Y : Addr → Prop} {H H' : Hp}
theorem Reps.length : ∀ {xs : List D} {vs : List V}, Reps F X H xs vs → vs.length = xs.length
  | [], _, h => by rw [Reps] at h; subst h; rfl
  | x :: xs, _, h => by
    rw [Reps] at h
    obtain ⟨v, r, rfl, _, h2⟩ := h
    simp [Reps.length h2]
theorem Reps.nil : Reps F X H [] [] := by rw [Reps]
theorem Reps.cons {x : D} {xs : List D} {v : V} {vs : List V} (h1 : Rep F X H x v) (h2 : Reps F X H xs vs) : Reps F X H (x :: xs) (v :: vs) := by
  rw [Reps]; exact ⟨v, vs, rfl, h1, h2⟩
theorem Reps.get : ∀ {xs : List D} {vs : List V} {i : Nat} {x : D}, Reps F X H xs vs → xs[i]? = some x → ∃ v, vs[i]? = some v ∧ Rep F X H x v
  | [], _, _, _, _, e => by simp at e
  | y :: ys, _, 0, x, h, e => by
    rw [Reps] at h
    obtain ⟨v, r, rfl, h1, _⟩ := h
    simp at e; subst e
    exact ⟨v, rfl, h1⟩
  | y :: ys, _, i + 1, x, h, e => by
    rw [Reps] at h
    obtain ⟨v, r, rfl, _, h2⟩ := h
    obtain ⟨w, e1, h3⟩ := Reps.get h2 (i := i) (x := x) (by simpa using e)
    exact ⟨w, by simpa using e1, h3⟩
theorem Reps.getV {xs : List D} {vs : List V} {i : Nat} {v : V} (h : Reps F X H xs vs) (e : vs[i]? = some v) : ∃ x, xs[i]? = some x ∧ Rep F X H x v := by
  have hl := h.length
  have hi : i < vs.length := (List.getElem?_eq_some_iff.mp e).1
  have : ∃ x, xs[i]? = some x := ⟨xs[i]'(by omega), by simp⟩
  obtain ⟨x, ex⟩ := this
  obtain ⟨w, e1, h1⟩ := h.get ex
  rw [e] at e1; cases e1
  exact ⟨x, ex, h1⟩
theorem Reps.append : ∀ {xs ys : List D} {vs ws : List V}, Reps F X H xs vs → Reps F X H ys ws → Reps F X H (xs ++ ys) (vs ++ ws)
  | [], _, _, _, h, h' => by rw [Reps] at h; subst h; exact h'
  | x :: xs, ys, _, ws, h, h' => by
    rw [Reps] at h
    obtain ⟨v, r, rfl, h1, h2⟩ := h
    exact Reps.cons h1 (Reps.append h2 h')
theorem Reps.set : ∀ {xs : List D} {vs : List V} {x : D} {v : V} (i : Nat), Reps F X H xs vs → Rep F X H x v → Reps F X H (xs.set i x) (vs.set i v)
  | [], _, _, _, _, h, _ => by rw [Reps] at h; subst h; exact Reps.nil
  | y :: ys, _, x, v, 0, h, h' => by
    rw [Reps] at h
    obtain ⟨w, r, rfl, _, h2⟩ := h
    exact Reps.cons h' h2
  | y :: ys, _, x, v, i + 1, h, h' => by
    rw [Reps] at h
    obtain ⟨w, r, rfl, h1, h2⟩ := h
    exact Reps.cons h1 (Reps.set i h2 h')
theorem Reps.eraseIdx : ∀ {xs : List D} {vs : List V} (i : Nat), Reps F X H xs vs → Reps F X H (xs.eraseIdx i) (vs.eraseIdx i)
  | [], _, _, h => by rw [Reps] at h; subst h; exact Reps.nil
  | y :: ys, _, 0, h => by
    rw [Reps] at h
    obtain ⟨w, r, rfl, _, h2⟩ := h
    exact h2
  | y :: ys, _, i + 1, h => by
    rw [Reps] at h
    obtain ⟨w, r, rfl, h1, h2⟩ := h
    exact Reps.cons h1 (Reps.eraseIdx i h2)
theorem Reps.take : ∀ {xs : List D} {vs : List V} (i : Nat), Reps F X H xs vs → Reps F X H (xs.take i) (vs.take i)
  | _, _, 0, _ => by simp; exact Reps.nil
  | [], _, i + 1, h => by rw [Reps] at h; subst h; exact Reps.nil
  | y :: ys, _, i + 1, h => by
    rw [Reps] at h
    obtain ⟨w, r, rfl, h1, h2⟩ := h
    exact Reps.cons h1 (Reps.take i h2)
theorem Reps.drop : ∀ {xs : List D} {vs : List V} (i : Nat), Reps F X H xs vs → Reps F X H (xs.drop i) (vs.drop i)
  | _, _, 0, h => by simpa using h
  | [], _, i + 1, h => by rw [Reps] at h; subst h; exact Reps.nil
  | y :: ys, _, i + 1, h => by
    rw [Reps] at h
    obtain ⟨w, r, rfl, h1, h2⟩ := h
    exact Reps.drop i h2
theorem Reps.reverse : ∀ {xs : List D} {vs : List V}, Reps F X H xs vs → Reps F X H xs.reverse vs.reverse
  | [], _, h => by rw [Reps] at h; subst h; exact Reps.nil
  | y :: ys, _, h => by
    rw [Reps] at h
    obtain ⟨w, r, rfl, h1, h2⟩ := h
    simp only [List.reverse_cons]
    exact Reps.append (Reps.reverse h2) (Reps.cons h1 Reps.nil)
theorem Reps.flat : ∀ {xs : List D} {vs : List V} (k : Nat), Reps F X H xs vs → Reps F X H (rep xs k) (List.replicate k vs).flatten
  | xs, vs, 0, h => by simp [M.rep]; exact Reps.nil
  | xs, vs, k + 1, h => by
    have := Reps.flat k h
    simp only [M.rep, List.replicate_succ, List.flatten_cons] at this ⊢
    exact Reps.append h this

theorem SqT.keeps {K : PySem.W.Frag} {a : Addr} {vs : List V} (h : SqT K H a vs) (k : Keeps H H') : SqT K H' a vs := by
  rcases h with (h | ⟨o, h⟩) | h
  · exact .inl (.inl (k _ _ rfl h))
  · exact .inl (.inr ⟨o, k _ _ rfl h⟩)
  · exact .inr h

mutual
/-- another heap, other lists that are changed -/
theorem Rep.move (st : Stab F) (k : Keeps H H') (hx : ∀ a o, (∀ ps, o ≠ HO.tbl ps) → ¬ X a → H a = some o → H' a = some o ∧ ¬ Y a) : ∀ {x : D} {v : V}, Rep F X H x v → Rep F Y H' x v
  | .non, _, h => by simpa only [Rep] using h
  | .bl _, _, h => by simpa only [Rep] using h
  | .int _, _, h => by simpa only [Rep] using h
  | .str _, _, h => by simpa only [Rep] using h
  | .tup xs, _, h => by
    simp only [Rep] at h ⊢
    obtain ⟨a, vs, e, h1, h2, h3⟩ := h
    exact ⟨a, vs, e, SqT.keeps h1 k, h2, Reps.move st k hx h3⟩
  | .lst xs, _, h => by
    simp only [Rep] at h ⊢
    obtain ⟨a, vs, e, h1, h2, h3, h4⟩ := h
    obtain ⟨q1, q2⟩ := hx a _ (fun _ z => by cases z) h2 h1
    exact ⟨a, vs, e, q1, q2, h3, Reps.move st k hx h4⟩
  | .dct ks xs, _, h => by
    simp only [Rep] at h ⊢
    obtain ⟨a, vs, e, h1, h2, h3, h4⟩ := h
    obtain ⟨o, ho, _, ht⟩ := h1.at_
    obtain ⟨q1, q2⟩ := hx a o ht h2 ho
    exact ⟨a, vs, e, h1.to fun o' q => by rw [ho] at q; cases q; exact q1, q2, h3, Reps.move st k hx h4⟩
  | .rol xs, _, h => by
    simp only [Rep] at h ⊢
    obtain ⟨a, vs, e, h1, h3, h4⟩ := h
    refine ⟨a, vs, e, ?_, h3, Reps.move st k hx h4⟩
    rcases h1 with ⟨o, h1⟩ | h1 | ⟨h1, h2⟩
    · exact .inl ⟨o, k _ _ rfl h1⟩
    · exact .inr (.inl h1)
    · exact .inr (.inr (hx a _ (fun _ z => by cases z) h2 h1))
  | .fn _, _, h => by simpa only [Rep] using h
  | .clo _, _, h => by
    simp only [Rep] at h ⊢
    exact st.mv _ _ _ _ h k
  | .exc _, _, h => by
    simp only [Rep] at h ⊢
    obtain ⟨a, cl, e, h1, h2⟩ := h
    exact ⟨a, cl, e, h1, k _ _ rfl h2⟩
theorem Reps.move (st : Stab F) (k : Keeps H H') (hx : ∀ a o, (∀ ps, o ≠ HO.tbl ps) → ¬ X a → H a = some o → H' a = some o ∧ ¬ Y a) : ∀ {xs : List D} {vs : List V}, Reps F X H xs vs → Reps F Y H' xs vs
  | [], _, h => by simpa only [Reps] using h
  | x :: xs, _, h => by
    simp only [Reps] at h ⊢
    obtain ⟨v, r, e, h1, h2⟩ := h
    exact ⟨v, r, e, Rep.move st k hx h1, Reps.move st k hx h2⟩
end
theorem Rep.mono (st : Stab F) {x : D} {v : V} (h : Rep F X H x v) (hx : ∀ a, Y a → X a) : Rep F Y H x v :=
  h.move st (fun _ _ _ q => q) fun a o _ n q => ⟨q, fun y => n (hx a y)⟩
theorem Reps.mono (st : Stab F) {xs : List D} {vs : List V} (h : Reps F X H xs vs) (hx : ∀ a, Y a → X a) : Reps F Y H xs vs :=
  h.move st (fun _ _ _ q => q) fun a o _ n q => ⟨q, fun y => n (hx a y)⟩
/-- addresses at which nothing stood may be excluded besides -/
theorem Rep.more (st : Stab F) {x : D} {v : V} (h : Rep F X H x v) (hx : ∀ a, Y a → X a ∨ H a = none) : Rep F Y H x v :=
  h.move st (fun _ _ _ q => q) fun a o _ n q => ⟨q, fun y => (hx a y).elim n fun z => by rw [q] at z; cases z⟩
theorem Reps.more (st : Stab F) {xs : List D} {vs : List V} (h : Reps F X H xs vs) (hx : ∀ a, Y a → X a ∨ H a = none) : Reps F Y H xs vs :=
  h.move st (fun _ _ _ q => q) fun a o _ n q => ⟨q, fun y => (hx a y).elim n fun z => by rw [q] at z; cases z⟩
end

/-- a list or a dict at a -/
def CellAt (F : Fx) (X : Addr → Prop) (H : Hp) (a : Addr) : C → Prop
  | .l xs => ∃ vs, H a = some (.lst vs) ∧ vs.length ≤ LIM ∧ Reps F X H xs vs
  | .k ks xs => ∃ vs, DctAt H a ks vs ∧ vs.length ≤ LIM ∧ Reps F X H xs vs
theorem CellAt.at_ {F : Fx} {X : Addr → Prop} {H : Hp} {a : Addr} {c : C} (h : CellAt F X H a c) : ∃ o, H a = some o ∧ isMut o = true ∧ ∀ ps, o ≠ .tbl ps := by
  cases c with
  | l xs => obtain ⟨vs, h, _⟩ := h; exact ⟨_, h, rfl, fun _ z => by cases z⟩
  | k ks xs => obtain ⟨vs, h, _⟩ := h; obtain ⟨o, e, m, t⟩ := h.at_; exact ⟨o, e, m, t⟩
theorem CellAt.move {F : Fx} {X Y : Addr → Prop} {H H' : Hp} {a : Addr} {c : C} (st : Stab F) (h : CellAt F X H a c) (ha : ∀ o, H a = some o → H' a = some o) (k : Keeps H H') (hx : ∀ a o, (∀ ps, o ≠ HO.tbl ps) → ¬ X a → H a = some o → H' a = some o ∧ ¬ Y a) : CellAt F Y H' a c := by
  cases c with
  | l xs => obtain ⟨vs, h1, h2, h3⟩ := h; exact ⟨vs, ha _ h1, h2, h3.move st k hx⟩
  | k ks xs => obtain ⟨vs, h1, h2, h3⟩ := h; exact ⟨vs, h1.to ha, h2, h3.move st k hx⟩
theorem CellAt.froz {F : Fx} {X : Addr → Prop} {H : Hp} {a : Addr} {c : C} (h : CellAt F X H a c) (hx : ¬ X a) : Rep F X H c.froz (.ref a) := by
  cases c with
  | l xs => obtain ⟨vs, h1, h2, h3⟩ := h; simp only [C.froz, Rep]; exact ⟨a, vs, rfl, h1, hx, h2, h3⟩
  | k ks xs => obtain ⟨vs, h1, h2, h3⟩ := h; simp only [C.froz, Rep]; exact ⟨a, vs, rfl, h1, hx, h2, h3⟩

/-- cells that are not to be met in data -/
def Ex (B : Addr → Prop) (ρ : Nat → Addr) (S : Sto) (a : Addr) : Prop := B a ∨ ∃ n, cellOf S n ≠ none ∧ ρ n = a

/-- the tables of code objects -/
structure Tb (T : List (Addr × Str)) (H : Hp) : Prop where
  tabs : LamX.Tabs T H
theorem Tb.new {T : List (Addr × Str)} {H : Hp} {p : Addr} {o : HO} (t : Tb T H) (hp : H p = none) : Tb T (upd H p o) :=
  ⟨t.tabs.ext fun b u q => by rw [upd_ne (ne_of_none q hp)]; exact q⟩
theorem Tb.put {T : List (Addr × Str)} {H : Hp} {p : Addr} {vs ws : List V} (t : Tb T H) (hp : H p = some (.lst ws)) : Tb T (upd H p (.lst vs)) := by
  have e1 : ∀ b o, H b = some o → (∀ ws, o ≠ .lst ws) → upd H p (.lst vs) b = some o := fun b o q nn => by
    have : b ≠ p := fun z => by rw [z, hp] at q; cases q; exact nn _ rfl
    rw [upd_ne this]; exact q
  refine ⟨fun q hq => ?_⟩
  obtain ⟨ps, q1, q2⟩ := t.tabs q hq
  exact ⟨ps, e1 _ _ q1 (fun _ z => by cases z), q2.1, fun ps' cv hc => by
    obtain ⟨c, e2, e3⟩ := q2.2 ps' cv hc
    exact ⟨c, e2, e1 _ _ e3 (fun _ z => by cases z)⟩⟩
/-- nothing stands at a, but a table perhaps -/
def Nw (H : Hp) (a : Addr) : Prop := ∀ o, H a = some o → ∃ ps, o = .tbl ps
theorem Nw.of {H : Hp} {a : Addr} (h : H a = none) : Nw H a := fun o q => by rw [h] at q; cases q
theorem Nw.no {H : Hp} {a : Addr} {o : HO} (h : Nw H a) (q : H a = some o) (t : ∀ ps, o ≠ .tbl ps) : False := let ⟨ps, e⟩ := h o q; t ps e

/-- a frame's names, the store, in the heap -/
structure Sim (F : Fx) (B : Addr → Prop) (ρ : Nat → Addr) (e : Env) (S : Sto) (σ : L2.St) (H : Hp) : Prop where
  len : σ.length = e.length
  slot : ∀ (i : Nat) (x : D), e[i]? = some (some (A.d x)) → ∃ v, σ[i]? = some (some v) ∧ Rep F (Ex B ρ S) H x v
  slotC : ∀ (i n : Nat), e[i]? = some (some (A.c n)) → n < S.length ∧ (cellOf S n ≠ none → σ[i]? = some (some (V.ref (ρ n))))
  cell : ∀ (n : Nat) (c : C), cellOf S n = some c → CellAt F (Ex B ρ S) H (ρ n) c
  inj : ∀ n m, cellOf S n ≠ none → cellOf S m ≠ none → ρ n = ρ m → n = m
  nb : ∀ n, cellOf S n ≠ none → ¬ B (ρ n)
  bt : ∀ a, B a → ¬ Nw H a
  uq : ∀ (i : Nat), i ∈ F.ml → ∀ (n : Nat), e[i]? = some (some (A.c n)) → F.n0 ≤ n ∧ ∀ (j : Nat), j ≠ i → e[j]? ≠ some (some (A.c n))
  tb : Tb F.T H

/-- what an expression keeps -/
structure ExtE (ρ : Nat → Addr) (S : Sto) (H : Hp) (S' : Sto) (H' : Hp) : Prop where
  len : S'.length = S.length
  live : ∀ n, cellOf S' n ≠ none → cellOf S n ≠ none
  fr : ∀ a o, (∀ n, cellOf S n ≠ none → ρ n ≠ a) → (∀ ps, o ≠ .tbl ps) → H a = some o → H' a = some o
  tr : ∀ a, Nw H' a → Nw H a
/-- what a statement keeps -/
structure Ext (n0 : Nat) (ρ : Nat → Addr) (S : Sto) (H : Hp) (ρ' : Nat → Addr) (S' : Sto) (H' : Hp) : Prop where
  len : S'.length = S.length
  low : ∀ n, n < n0 → ρ' n = ρ n
  live : ∀ n, cellOf S' n ≠ none → (cellOf S n ≠ none ∧ ρ' n = ρ n) ∨ (n0 ≤ n ∧ Nw H (ρ' n))
  fr : ∀ a o, (∀ n, cellOf S n ≠ none → ρ n ≠ a) → (∀ ps, o ≠ .tbl ps) → H a = some o → H' a = some o
  tr : ∀ a, Nw H' a → Nw H a
section
variable {F : Fx} {B B' : Addr → Prop} {ρ ρ' ρ'' : Nat → Addr} {e : Env} {S S' S'' : Sto} {σ : L2.St} {H H' H'' : Hp} {n0 : Nat}
theorem ExtE.refl : ExtE ρ S H S H := ⟨rfl, fun _ h => h, fun _ _ _ _ h => h, fun _ h => h⟩
theorem ExtE.trans (h : ExtE ρ S H S' H') (h' : ExtE ρ S' H' S'' H'') : ExtE ρ S H S'' H'' :=
  ⟨h'.len.trans h.len, fun n q => h.live n (h'.live n q), fun a o n t q => h'.fr a o (fun m q => n m (h.live m q)) t (h.fr a o n t q), fun a q => h.tr a (h'.tr a q)⟩
theorem ExtE.ext (h : ExtE ρ S H S' H') : Ext n0 ρ S H ρ S' H' := ⟨h.len, fun _ _ => rfl, fun n q => .inl ⟨h.live n q, rfl⟩, h.fr, h.tr⟩
theorem Ext.refl : Ext n0 ρ S H ρ S H := ExtE.refl.ext
theorem Ext.trans (h : Ext n0 ρ S H ρ' S' H') (h' : Ext n0 ρ' S' H' ρ'' S'' H'') : Ext n0 ρ S H ρ'' S'' H'' := by
  refine ⟨h'.len.trans h.len, fun n q => (h'.low n q).trans (h.low n q), fun n q => ?_, fun a o n t q => h'.fr a o (fun m q2 => ?_) t (h.fr a o n t q), fun a q => h.tr a (h'.tr a q)⟩
  · rcases h'.live n q with ⟨q1, q2⟩ | ⟨q1, q2⟩
    · rcases h.live n q1 with ⟨q3, q4⟩ | ⟨q3, q4⟩
      · exact .inl ⟨q3, q2.trans q4⟩
      · exact .inr ⟨q3, by rw [q2]; exact q4⟩
    · exact .inr ⟨q1, h.tr _ q2⟩
  · rcases h.live m q2 with ⟨q3, q4⟩ | ⟨q3, q4⟩
    · rw [q4]; exact n m q3
    · intro z; exact (z ▸ q4).no q t
theorem ExtE.none_ (h : ExtE ρ S H S' H') {a : Addr} (q : Nw H' a) : Nw H a := h.tr a q
theorem Ext.none_ (h : Ext n0 ρ S H ρ' S' H') {a : Addr} (q : Nw H' a) : Nw H a := h.tr a q
/-- what the cells say of the heap -/
theorem Sim.keeps (s : Sim F B ρ e S σ H) (x : Ext n0 ρ S H ρ' S' H') : Keeps H H' := fun a o m q => x.fr a o (fun n hn z => by
  cases hc : cellOf S n with
  | none => exact hn hc
  | some c =>
    obtain ⟨o', e', m', _⟩ := (s.cell n c hc).at_
    rw [z, q] at e'; cases e'
    rw [m] at m'; cases m') (fun ps z => by subst z; cases m) q
theorem Sim.frame (s : Sim F B ρ e S σ H) (x : Ext n0 ρ S H ρ' S' H') (hb : ∀ a, B' a → B a ∨ Nw H a) :
    ∀ a o, (∀ ps, o ≠ .tbl ps) → ¬ Ex B ρ S a → H a = some o → H' a = some o ∧ ¬ Ex B' ρ' S' a := fun a o t n q => by
  refine ⟨x.fr a o (fun m hm z => n (.inr ⟨m, hm, z⟩)) t q, ?_⟩
  rintro (z | ⟨m, hm, z⟩)
  · rcases hb a z with z | z
    · exact n (.inl z)
    · exact z.no q t
  · rcases x.live m hm with ⟨q1, q2⟩ | ⟨_, q2⟩
    · exact n (.inr ⟨m, q1, by rw [← q2]; exact z⟩)
    · exact (z ▸ q2).no q t
end
end M

/-! Sound2: denotations as readings. -/
namespace M
open PySem L2
open PySem (Str)

def PostO {α : Type} (o : O α) (N : α → Sto → Prop) (X : Str → Sto → Prop) : Prop := match o with
  | .ok a S => N a S
  | .ex c S => X c S
  | .no => False
theorem PostO.bind {α β : Type} {o : O α} {f : α → Sto → O β} {N : β → Sto → Prop} {X : Str → Sto → Prop} (h : PostO (o.bind f) N X) : PostO o (fun a S => PostO (f a S) N X) X := by
  cases o <;> exact h
theorem PostO.imp {α : Type} {o : O α} {N N' : α → Sto → Prop} {X X' : Str → Sto → Prop} (h : PostO o N X) (hn : ∀ a S, N a S → N' a S) (hx : ∀ c S, X c S → X' c S) : PostO o N' X' := by
  cases o with
  | ok a S => exact hn _ _ h
  | ex c S => exact hx _ _ h
  | no => exact h

def addR (B : Addr → Prop) (r : R) (v : V) : Addr → Prop := match r with
  | .f _ => fun a => B a ∨ v = .ref a
  | _ => B
theorem addR_le {B : Addr → Prop} {r : R} {v : V} : ∀ a, B a → addR B r v a := fun a h => by
  cases r with
  | f c => exact .inl h
  | d x => exact h
  | c n => exact h
def RepR (F : Fx) (B : Addr → Prop) (ρ : Nat → Addr) (S : Sto) (H0 H : Hp) (r : R) (v : V) : Prop := match r with
  | .d x => Rep F (Ex B ρ S) H x v
  | .f c => ∃ a, v = .ref a ∧ Nw H0 a ∧ ¬ Ex B ρ S a ∧ CellAt F (Ex (fun b => B b ∨ v = .ref b) ρ S) H a c
  | .c n => n < S.length ∧ (cellOf S n ≠ none → v = .ref (ρ n))
/-- as it may be read: a list in hand may be one that is changed -/
def RepV (F : Fx) (X : Addr → Prop) (H : Hp) (x : D) (v : V) : Prop := match x with
  | .lst xs => ∃ a vs, v = .ref a ∧ H a = some (.lst vs) ∧ vs.length ≤ LIM ∧ Reps F X H xs vs
  | .dct ks xs => ∃ a vs, v = .ref a ∧ DctAt H a ks vs ∧ vs.length ≤ LIM ∧ Reps F X H xs vs
  | x => Rep F X H x v

section
variable {F : Fx} {B B' : Addr → Prop} {ρ ρ' : Nat → Addr} {e : Env} {S S' S1 S2 : Sto} {σ : L2.St} {H H' H0 H1 H2 : Hp} {X Y : Addr → Prop} {x : D} {v : V} {r : R}
theorem Ex.mono (h : ∀ a, B a → B' a) : ∀ a, Ex B ρ S a → Ex B' ρ S a := fun a q => q.imp (h a) id
theorem Ex.live (h : ∀ n, cellOf S' n ≠ none → cellOf S n ≠ none) : ∀ a, Ex B ρ S' a → Ex B ρ S a := fun a q => q.imp id fun ⟨n, h1, h2⟩ => ⟨n, h n h1, h2⟩
theorem Rep.toV (h : Rep F X H x v) : RepV F X H x v := by
  cases x with
  | lst xs => simp only [Rep] at h; obtain ⟨a, vs, h1, h2, _, h3⟩ := h; exact ⟨a, vs, h1, h2, h3⟩
  | dct ks xs => simp only [Rep] at h; obtain ⟨a, vs, h1, h2, _, h3⟩ := h; exact ⟨a, vs, h1, h2, h3⟩
  | _ => exact h
theorem CellAt.toV {a : Addr} {c : C} (h : CellAt F X H a c) : RepV F X H c.froz (.ref a) := by
  cases c with
  | l xs => obtain ⟨vs, h1, h2⟩ := h; exact ⟨a, vs, rfl, h1, h2⟩
  | k ks xs => obtain ⟨vs, h1, h2⟩ := h; exact ⟨a, vs, rfl, h1, h2⟩
/-- fewer excluded addresses -/
theorem Sim.mono (st : Stab F) (s : Sim F B' ρ e S σ H) (h : ∀ a, B a → B' a) : Sim F B ρ e S σ H where
  len := s.len
  slot := fun i x q => let ⟨v, h1, h2⟩ := s.slot i x q; ⟨v, h1, h2.mono st (Ex.mono h)⟩
  slotC := s.slotC
  cell := fun n c q => (s.cell n c q).move st (fun _ q => q) (fun _ _ _ q => q) fun a o _ n q => ⟨q, fun y => n (Ex.mono h a y)⟩
  inj := s.inj
  nb := fun n q z => s.nb n q (h _ z)
  bt := fun a q => s.bt a (h a q)
  uq := s.uq
  tb := s.tb
theorem RepR.mono (st : Stab F) (h : RepR F B' ρ S H0 H r v) (hb : ∀ a, B a → B' a) : RepR F B ρ S H0 H r v := by
  cases r with
  | d x => exact Rep.mono st h (Ex.mono hb)
  | f c =>
    obtain ⟨a, h1, h2, h3, h4⟩ := h
    exact ⟨a, h1, h2, fun z => h3 (Ex.mono hb a z), h4.move st (fun _ q => q) (fun _ _ _ q => q) fun a o _ n q => ⟨q, fun y => n (Ex.mono (fun b z => z.imp (hb b) id) a y)⟩⟩
  | c n => exact h
/-- data carried over what an expression does -/
theorem Sim.repE (st : Stab F) (s : Sim F B' ρ e S σ H) (x2 : ExtE ρ S H S' H') (hb : ∀ a, B a → B' a) {x : D} {v : V} (h : Rep F (Ex B ρ S) H x v) : Rep F (Ex B ρ S') H' x v := by
  refine Rep.move st (s.keeps (n0 := 0) x2.ext) ?_ h
  intro a o t n q
  exact ⟨x2.fr a o (fun m hm z => n (.inr ⟨m, hm, z⟩)) t q, fun y => n (Ex.live x2.live a y)⟩
theorem Sim.cellE (st : Stab F) (s : Sim F B' ρ e S σ H) (x2 : ExtE ρ S H S' H') {a : Addr} {c : C} (ha : ¬ Ex B ρ S a) {Bf : Addr → Prop} (h : CellAt F (Ex Bf ρ S) H a c) : CellAt F (Ex Bf ρ S') H' a c := by
  obtain ⟨o, e1, _, t⟩ := h.at_
  refine h.move st (fun o' q => x2.fr a o' (fun m hm z => ha (.inr ⟨m, hm, z⟩)) (by rw [e1] at q; cases q; exact t) q) (s.keeps (n0 := 0) x2.ext) ?_
  intro a o t n q
  exact ⟨x2.fr a o (fun m hm z => n (.inr ⟨m, hm, z⟩)) t q, fun y => n (Ex.live x2.live a y)⟩
theorem RepR.moveE (st : Stab F) (s : Sim F B' ρ e S σ H) (x2 : ExtE ρ S H S' H') (hb : ∀ a, B a → B' a) (h : RepR F B ρ S H0 H r v) : RepR F B ρ S' H0 H' r v := by
  cases r with
  | d x => exact s.repE st x2 hb h
  | f c =>
    obtain ⟨a, h1, h2, h3, h4⟩ := h
    exact ⟨a, h1, h2, fun z => h3 (Ex.live x2.live a z), s.cellE st x2 h3 h4⟩
  | c n =>
    obtain ⟨h1, h2⟩ := h
    exact ⟨by rw [x2.len]; exact h1, fun q => h2 (x2.live n q)⟩
theorem RepR.since (h : RepR F B ρ S H1 H r v) (hn : ∀ a, Nw H1 a → Nw H0 a) : RepR F B ρ S H0 H r v := by
  cases r with
  | d x => exact h
  | f c =>
    obtain ⟨a, h1, h2, h3, h4⟩ := h
    exact ⟨a, h1, hn a h2, h3, h4⟩
  | c n => exact h
theorem RepR.view (st : Stab F) (s : Sim F B' ρ e S σ H) (hb : ∀ a, B a → B' a) (h : RepR F B ρ S H0 H r v) (hv : view S r = some x) : RepV F (Ex B ρ S) H x v := by
  cases r with
  | d y => cases hv; exact Rep.toV h
  | f c =>
    obtain ⟨a, h1, h2, h3, h4⟩ := h
    cases hv
    subst h1
    exact (h4.move st (Y := Ex B ρ S) (fun _ q => q) (fun _ _ _ q => q) fun a o _ n q => ⟨q, fun y => n (Ex.mono (fun b z => .inl z) a y)⟩).toV
  | c n =>
    obtain ⟨h1, h2⟩ := h
    rw [view_c] at hv
    cases hc : cellOf S n with
    | none => rw [hc] at hv; cases hv
    | some c =>
      rw [hc] at hv; cases hv
      rw [h2 (by rw [hc]; simp)]
      exact ((s.cell n c hc).move st (Y := Ex B ρ S) (fun _ q => q) (fun _ _ _ q => q) fun a o _ n q => ⟨q, fun y => n (Ex.mono hb a y)⟩).toV

/-! ### denotations -/
def XP (F : Fx) (W : WX) (B : Addr → Prop) (ρ : Nat → Addr) (e : Env) (σ : L2.St) (S : Sto) (H : Hp) (c : Str) (S' : Sto) : Prop :=
  ∀ H', Sim F B ρ e S' σ H' → ExtE ρ S H S' H' → ∀ cl, F.mg c = some (.ref cl) → W (.ref cl) none σ H'
def NP (F : Fx) (B : Addr → Prop) (ρ : Nat → Addr) (e : Env) (σ : L2.St) (S : Sto) (H : Hp) (Q : VK) (r : R) (S' : Sto) : Prop :=
  ∀ v H', Sim F (addR B r v) ρ e S' σ H' → ExtE ρ S H S' H' → RepR F B ρ S' H H' r v → Q v H'
/-- an expression's denotation as a reading -/
def TrE (F : Fx) (W : WX) (m : ME) : TE := fun σ H Q => ∃ B ρ e S, Sim F B ρ e S σ H ∧ PostO (m F.g e S) (NP F B ρ e σ S H Q) (XP F W B ρ e σ S H)
/-- .. as a test -/
def TrB (F : Fx) (W : WX) (m : ME) : TT := fun σ H Q => ∃ B ρ e S, Sim F B ρ e S σ H ∧
  PostO (evB m F.g e S) (fun b S' => ∀ H', Sim F B ρ e S' σ H' → ExtE ρ S H S' H' → Q b H') (XP F W B ρ e σ S H)
theorem XP.after {W : WX} (st : Stab F) {c : Str} (h : XP F W B ρ e σ S0 H0 c S') (hb : ∀ a, B a → B' a) (x : ExtE ρ S0 H0 S H) : XP F W B' ρ e σ S H c S' :=
  fun H' s' x' cl hc => h H' (s'.mono st hb) (x.trans x') cl hc
/-- an expression ahead of what follows -/
theorem stepE {α : Type} {W : WX} (st : Stab F) {m : ME} {f : R → Sto → O α} {N : α → Sto → Prop} {Xx : Str → Sto → Prop} {Q : VK} (s : Sim F B ρ e S σ H) (hp : PostO ((m F.g e S).bind f) N Xx) (hx : ∀ c S', Xx c S' → XP F W B ρ e σ S H c S')
    (k : ∀ r S1 v H1, Sim F (addR B r v) ρ e S1 σ H1 → ExtE ρ S H S1 H1 → RepR F B ρ S1 H H1 r v → PostO (f r S1) N Xx → Q v H1) : TrE F W m σ H Q :=
  ⟨B, ρ, e, S, s, hp.bind.imp (fun r S1 h v H1 s1 x1 r1 => k r S1 v H1 s1 x1 r1 h) fun c S1 h => hx c S1 h⟩
theorem stepB {α : Type} {W : WX} (st : Stab F) {m : ME} {f : Bool → Sto → O α} {N : α → Sto → Prop} {Xx : Str → Sto → Prop} {Q : Bool → Hp → Prop} (s : Sim F B ρ e S σ H) (hp : PostO ((evB m F.g e S).bind f) N Xx) (hx : ∀ c S', Xx c S' → XP F W B ρ e σ S H c S')
    (k : ∀ b S1 H1, Sim F B ρ e S1 σ H1 → ExtE ρ S H S1 H1 → PostO (f b S1) N Xx → Q b H1) : TrB F W m σ H Q :=
  ⟨B, ρ, e, S, s, hp.bind.imp (fun b S1 h H1 s1 x1 => k b S1 H1 s1 x1 h) fun c S1 h => hx c S1 h⟩
end

theorem PE_imp {X : Cx} {e : Expr} {t t' : TE} (h : PE X e t) (i : ∀ σ H Q, t' σ H Q → t σ H Q) : PE X e t' := ⟨fun pins s σ H Q I w => h.run pins s σ H Q I (i σ H Q w)⟩
theorem PT_imp {X : Cx} {e : Expr} {t t' : TT} (h : PT X e t) (i : ∀ σ H Q, t' σ H Q → t σ H Q) : PT X e t' := ⟨fun pins s σ H Q I w => h.run pins s σ H Q I (i σ H Q w)⟩
theorem PE_or {X : Cx} {e : Expr} {t t' : TE} (h : PE X e t) (h' : PE X e t') : PE X e (fun σ H Q => t σ H Q ∨ t' σ H Q) := ⟨fun pins s σ H Q I w => w.elim (h.run pins s σ H Q I) (h'.run pins s σ H Q I)⟩
end M

/-! Sound3: names, constants, arguments, new objects, tests. -/
namespace M
open PySem L2
open PySem (Str)
section
variable {F : Fx} {B B' : Addr → Prop} {ρ ρ' : Nat → Addr} {e : Env} {S S' S1 S2 : Sto} {σ : L2.St} {H H' H0 H1 H2 : Hp} {Y : Addr → Prop} {x : D} {v : V} {r : R} {p : Addr} {o : HO}
/-- a new object is laid -/
theorem keeps_upd (hp : H p = none) : ∀ b u, H b = some u → upd H p o b = some u := fun b u q => by rw [upd_ne (ne_of_none q hp)]; exact q
theorem ExtE.alloc (hp : H p = none) : ExtE ρ S H S (upd H p o) := ⟨rfl, fun _ q => q, fun a u _ _ q => keeps_upd hp a u q, fun a q o' z => q o' (keeps_upd hp a o' z)⟩
theorem reps_alloc (st : Stab F) (hp : H p = none) {xs : List D} {vs : List V} (h : Reps F (Ex B ρ S) H xs vs) (hY : ∀ a, Y a → Ex B ρ S a ∨ a = p) : Reps F Y (upd H p o) xs vs :=
  Reps.move st (fun a u _ q => keeps_upd hp a u q) (fun a u _ n q => ⟨keeps_upd hp a u q, fun y => (hY a y).elim n fun z => by rw [z, hp] at q; cases q⟩) h
theorem Sim.alloc (st : Stab F) (s : Sim F B ρ e S σ H) (hp : H p = none) (ho : ∀ ps, o ≠ HO.tbl ps := by intro _ z; cases z) : Sim F (fun a => B a ∨ V.ref p = .ref a) ρ e S σ (upd H p o) := by
  have exs : ∀ a, Ex (fun a => B a ∨ V.ref p = .ref a) ρ S a → Ex B ρ S a ∨ a = p := by
    rintro a ((z | z) | z)
    · exact .inl (.inl z)
    · injection z with z; exact .inr z.symm
    · exact .inl (.inr z)
  have mv : ∀ a u, (∀ ps, u ≠ HO.tbl ps) → ¬ Ex B ρ S a → H a = some u → upd H p o a = some u ∧ ¬ Ex (fun a => B a ∨ V.ref p = .ref a) ρ S a := fun a u _ n q =>
    ⟨keeps_upd hp a u q, fun y => (exs a y).elim n fun z => by rw [z, hp] at q; cases q⟩
  refine ⟨s.len, fun i x q => ?_, s.slotC, fun n c q => ?_, s.inj, fun n q => ?_, fun a q => ?_, s.uq, s.tb.new hp⟩
  · obtain ⟨v, h1, h2⟩ := s.slot i x q
    exact ⟨v, h1, h2.move st (fun a u _ q => keeps_upd hp a u q) mv⟩
  · exact (s.cell n c q).move st (keeps_upd hp _) (fun a u _ q => keeps_upd hp a u q) mv
  · rintro (z | z)
    · exact s.nb n q z
    · injection z with z
      cases hc : cellOf S n with
      | none => exact q hc
      | some c =>
        obtain ⟨o', e', _⟩ := (s.cell n c hc).at_
        rw [← z, hp] at e'; cases e'
  · rcases q with q | q
    · exact fun w => s.bt a q fun o' z => w o' (keeps_upd hp a o' z)
    · injection q with q
      subst q
      exact fun w => w.no upd_same ho
/-- a new tuple: the result is data -/
theorem Sim.newTup {Q : VK} (st : Stab F) (s : Sim F B ρ e S σ H) {xs : List D} {vs : List V} (hl : vs.length ≤ LIM) (h : Reps F (Ex B ρ S) H xs vs)
    (k : ∀ v H', Sim F (addR B (.d (.tup xs)) v) ρ e S σ H' → ExtE ρ S H S H' → RepR F B ρ S H H' (.d (.tup xs)) v → Q v H') (p : Addr) (hp : H p = none) : Q (.ref p) (upd H p (.tup vs)) := by
  refine k _ _ ((s.alloc st hp).mono st fun a q => .inl q) (ExtE.alloc hp) ?_
  show Rep F _ _ (.tup xs) _
  rw [Rep]
  exact ⟨p, vs, rfl, SqT.of upd_same, hl, reps_alloc st hp h fun a q => .inl q⟩
theorem Sim.newLst {Q : VK} (st : Stab F) (s : Sim F B ρ e S σ H) {xs : List D} {vs : List V} (hl : vs.length ≤ LIM) (h : Reps F (Ex B ρ S) H xs vs)
    (k : ∀ v H', Sim F (addR B (.f (.l xs)) v) ρ e S σ H' → ExtE ρ S H S H' → RepR F B ρ S H H' (.f (.l xs)) v → Q v H') (p : Addr) (hp : H p = none) : Q (.ref p) (upd H p (.lst vs)) := by
  refine k _ _ (s.alloc st hp) (ExtE.alloc hp) ⟨p, rfl, Nw.of hp, ?_, vs, upd_same, hl, reps_alloc st hp h ?_⟩
  · rintro (z | ⟨n, q, z⟩)
    · exact s.bt p z (Nw.of hp)
    · cases hc : cellOf S n with
      | none => exact q hc
      | some c =>
        obtain ⟨o', e', _⟩ := (s.cell n c hc).at_
        rw [z, hp] at e'; cases e'
  · rintro a ((z | z) | z)
    · exact .inl (.inl z)
    · injection z with z; exact .inr z.symm
    · exact .inl (.inr z)
/-- data without a new object -/
theorem Sim.same {Q : VK} (s : Sim F B ρ e S σ H) {x : D} {v : V} (h : Rep F (Ex B ρ S) H x v)
    (k : ∀ v H', Sim F (addR B (.d x) v) ρ e S σ H' → ExtE ρ S H S H' → RepR F B ρ S H H' (.d x) v → Q v H') : Q v H := k v H s ExtE.refl h
/-- a list that was in hand is let go -/
theorem cellOf_set (S : Sto) (n m : Nat) (v : Option C) : cellOf (S.set n v) m = if m = n ∧ n < S.length then v else cellOf S m := by
  unfold cellOf
  by_cases h : n = m
  · subst h
    by_cases hl : n < S.length
    · rw [List.getElem?_set_self hl, if_pos ⟨rfl, hl⟩]; rfl
    · rw [if_neg (fun z => hl z.2), List.getElem?_eq_none (by simpa using hl), List.getElem?_eq_none (by omega)]
  · rw [List.getElem?_set_ne h, if_neg (fun z => h z.1.symm)]
theorem cellOf_kill {S : Sto} {n m : Nat} : cellOf (S.set n none) m ≠ none → cellOf S m ≠ none ∧ m ≠ n := by
  rw [cellOf_set]
  split
  · exact fun h => absurd rfl h
  · rename_i hh
    refine fun h => ⟨h, fun z => ?_⟩
    subst z
    by_cases hl : m < S.length
    · exact hh ⟨rfl, hl⟩
    · exact h (by unfold cellOf; rw [List.getElem?_eq_none (by omega)]; rfl)
theorem ExtE.kill {n : Nat} : ExtE ρ S H (S.set n none) H := ⟨List.length_set, fun _ q => (cellOf_kill q).1, fun _ _ _ _ q => q, fun _ q => q⟩
theorem Sim.kill (st : Stab F) (s : Sim F B ρ e S σ H) {n : Nat} : Sim F B ρ e (S.set n none) σ H := by
  have lv : ∀ m, cellOf (S.set n none) m ≠ none → cellOf S m ≠ none := fun m q => (cellOf_kill q).1
  refine ⟨s.len, fun i x q => ?_, fun i m q => ⟨by rw [List.length_set]; exact (s.slotC i m q).1, fun z => (s.slotC i m q).2 (lv m z)⟩, fun m c q => ?_, fun a b h1 h2 => s.inj a b (lv a h1) (lv b h2), fun m q => s.nb m (lv m q), s.bt, s.uq, s.tb⟩
  · obtain ⟨v, h1, h2⟩ := s.slot i x q
    exact ⟨v, h1, h2.mono st (Ex.live lv)⟩
  · have hm : cellOf S m = some c := by
      have hn := cellOf_kill (S := S) (n := n) (m := m) (by rw [q]; simp)
      rw [cellOf_set, if_neg fun z => hn.2 z.1] at q
      exact q
    exact (s.cell m c hm).move st (fun _ q => q) (fun _ _ _ q => q) fun a u _ n' q => ⟨q, fun y => n' (Ex.live lv a y)⟩
/-- the address of a cell that is closed is no cell's -/
theorem Sim.killed (s : Sim F B ρ e S σ H) {n : Nat} {c : C} (hc : cellOf S n = some c) : ¬ Ex B ρ (S.set n none) (ρ n) := by
  rintro (z | ⟨m, q, z⟩)
  · exact s.nb n (by rw [hc]; simp) z
  · obtain ⟨q1, q2⟩ := cellOf_kill q
    exact q2 (s.inj m n q1 (by rw [hc]; simp) z)
/-- a result becomes data -/
theorem toD_ok (st : Stab F) (hb : ∀ a, B a → B' a) (s : Sim F (addR B r v) ρ e S σ H) (h : RepR F B ρ S H0 H r v) {N : D → Sto → Prop} {Xx : Str → Sto → Prop} (hp : PostO (toD r S) N Xx) :
    ∃ x S', toD r S = .ok x S' ∧ Sim F B ρ e S' σ H ∧ ExtE ρ S H S' H ∧ Rep F (Ex B ρ S') H x v ∧ N x S' := by
  cases r with
  | d x => exact ⟨x, S, rfl, s, ExtE.refl, h, hp⟩
  | f c =>
    obtain ⟨a, h1, h2, h3, h4⟩ := h
    subst h1
    refine ⟨c.froz, S, rfl, s.mono st fun a q => .inl q, ExtE.refl, ?_, hp⟩
    exact (h4.move st (Y := Ex B ρ S) (fun _ q => q) (fun _ _ _ q => q) fun b o _ n q => ⟨q, fun y => n (Ex.mono (fun b z => .inl z) b y)⟩).froz h3
  | c n =>
    obtain ⟨h1, h2⟩ := h
    have s : Sim F B ρ e S σ H := s
    cases hc : cellOf S n with
    | none => simp only [toD, hc] at hp; exact hp.elim
    | some c =>
      simp only [toD, hc] at hp ⊢
      refine ⟨c.froz, S.set n none, rfl, s.kill st, ExtE.kill, ?_, hp⟩
      rw [h2 (by rw [hc]; simp)]
      have lv : ∀ m, cellOf (S.set n none) m ≠ none → cellOf S m ≠ none := fun m q => (cellOf_kill q).1
      exact ((s.cell n c hc).move st (Y := Ex B ρ (S.set n none)) (fun _ q => q) (fun _ _ _ q => q) fun a u _ n' q => ⟨q, fun y => n' (Ex.live lv a y)⟩).froz (s.killed hc)
end

/-! ### lists of expressions -/
/-- results in a row -/
def RepRs (F : Fx) (B : Addr → Prop) (ρ : Nat → Addr) (S : Sto) (H0 H : Hp) : List R → List V → Prop
  | [], vs => vs = []
  | r :: rs, vs => ∃ v w, vs = v :: w ∧ RepR F B ρ S H0 H r v ∧ RepRs F B ρ S H0 H rs w
def TrA (F : Fx) (W : WX) (ms : List ME) : TA := fun σ H Q => ∃ B ρ e S, Sim F B ρ e S σ H ∧
  PostO (evRs ms F.g e S) (fun rs S' => ∀ vs H', Sim F B ρ e S' σ H' → ExtE ρ S H S' H' → RepRs F B ρ S' H H' rs vs → Q vs H') (XP F W B ρ e σ S H)
def TrD (F : Fx) (W : WX) (ms : List ME) : TA := fun σ H Q => ∃ B ρ e S, Sim F B ρ e S σ H ∧
  PostO (evDs ms F.g e S) (fun xs S' => ∀ vs H', Sim F B ρ e S' σ H' → ExtE ρ S H S' H' → Reps F (Ex B ρ S') H' xs vs → Q vs H') (XP F W B ρ e σ S H)
section
variable {F : Fx} {W : WX} {X : Cx} {B B' : Addr → Prop} {ρ ρ' : Nat → Addr} {e : Env} {S S' S1 S2 : Sto} {σ : L2.St} {H H' H0 H1 H2 : Hp} {Y : Addr → Prop} {x : D} {v : V} {r : R} {p : Addr} {o : HO}
theorem PA_imp {es : List Expr} {t t' : TA} (h : PA X es t) (i : ∀ σ H Q, t' σ H Q → t σ H Q) : PA X es t' := ⟨fun pos pins s σ H Q I w => h.run pos pins s σ H Q I (i σ H Q w)⟩
theorem RepRs.moveE (st : Stab F) (s : Sim F B' ρ e S σ H) (x2 : ExtE ρ S H S' H') (hb : ∀ a, B a → B' a) : ∀ {rs : List R} {vs : List V}, RepRs F B ρ S H0 H rs vs → RepRs F B ρ S' H0 H' rs vs
  | [], _, h => h
  | r :: rs, _, h => by
    obtain ⟨v, w, e, h1, h2⟩ := h
    exact ⟨v, w, e, h1.moveE st s x2 hb, RepRs.moveE st s x2 hb h2⟩
theorem RepRs.since (hn : ∀ a, Nw H1 a → Nw H0 a) : ∀ {rs : List R} {vs : List V}, RepRs F B ρ S H1 H rs vs → RepRs F B ρ S H0 H rs vs
  | [], _, h => h
  | r :: rs, _, h => by
    obtain ⟨v, w, e, h1, h2⟩ := h
    exact ⟨v, w, e, h1.since hn, RepRs.since hn h2⟩
theorem RepRs.mono (st : Stab F) (hb : ∀ a, B a → B' a) : ∀ {rs : List R} {vs : List V}, RepRs F B' ρ S H0 H rs vs → RepRs F B ρ S H0 H rs vs
  | [], _, h => h
  | r :: rs, _, h => by
    obtain ⟨v, w, e, h1, h2⟩ := h
    exact ⟨v, w, e, h1.mono st hb, RepRs.mono st hb h2⟩
theorem RepRs.views (st : Stab F) (s : Sim F B ρ e S σ H) : ∀ {rs : List R} {vs : List V} {xs : List D}, RepRs F B ρ S H0 H rs vs → views S rs = some xs → Paired (RepV F (Ex B ρ S) H) xs vs
  | [], _, xs, h, hv => by
    rw [RepRs] at h; subst h
    simp at hv; subst hv
    exact .nil
  | r :: rs, _, xs, h, hv => by
    obtain ⟨v, w, rfl, h1, h2⟩ := h
    rw [views_cons] at hv
    cases e1 : view S r with
    | none => rw [e1] at hv; cases hv
    | some x =>
      rw [e1] at hv
      cases e2 : M.views S rs with
      | none => simp [e2] at hv
      | some ys =>
        simp [e2] at hv
        subst hv
        exact .cons (h1.view st s (fun _ q => q) e1) (RepRs.views st s h2 e2)
theorem ta_nil : PA X [] (TrA F W []) := PA_imp pa_nil fun σ H Q h => by
  obtain ⟨B, ρ, e, S, s, hp⟩ := h
  exact hp [] H s ExtE.refl rfl
theorem ta_cons {a : Expr} {as : List Expr} {m : ME} {ms : List ME} (st : Stab F) (ha : PE X a (TrE F W m)) (hr : PA X as (TrA F W ms)) (hs : starEach (a :: as) X.env = (false, eval a X.env) :: starEach as X.env) : PA X (a :: as) (TrA F W (m :: ms)) :=
  PA_imp (pa_cons ha hr hs) fun σ H Q h => by
    obtain ⟨B, ρ, e, S, s, hp⟩ := h
    refine stepE st s hp (fun c S' q => q) fun r S1 v H1 s1 x1 r1 hp => ?_
    refine ⟨addR B r v, ρ, e, S1, s1, hp.bind.imp (fun rs S2 h vs H2 s2 x2 r2 => ?_) fun c S2 q => q.after st addR_le x1⟩
    refine h _ H2 (s2.mono st addR_le) (x1.trans x2) ⟨v, vs, rfl, r1.moveE st s1 x2 addR_le, ?_⟩
    exact RepRs.mono st addR_le (RepRs.since (fun a q => x1.none_ q) r2)
theorem td_nil : PA X [] (TrD F W []) := PA_imp pa_nil fun σ H Q h => by
  obtain ⟨B, ρ, e, S, s, hp⟩ := h
  exact hp [] H s ExtE.refl Reps.nil
theorem td_cons {a : Expr} {as : List Expr} {m : ME} {ms : List ME} (st : Stab F) (ha : PE X a (TrE F W m)) (hr : PA X as (TrD F W ms)) (hs : starEach (a :: as) X.env = (false, eval a X.env) :: starEach as X.env) : PA X (a :: as) (TrD F W (m :: ms)) :=
  PA_imp (pa_cons ha hr hs) fun σ H Q h => by
    obtain ⟨B, ρ, e, S, s, hp⟩ := h
    refine stepE st s hp (fun c S' q => q) fun r S1 v H1 s1 x1 r1 hp => ?_
    obtain ⟨x, S2, e2, s2, x2, h2, hp⟩ := toD_ok st (fun _ q => q) s1 r1 hp.bind
    refine ⟨B, ρ, e, S2, s2, hp.bind.imp (fun xs S3 h vs H3 s3 x3 r3 => ?_) fun c S2 q => q.after st (fun _ q => q) (x1.trans x2)⟩
    exact h _ H3 s3 ((x1.trans x2).trans x3) (.cons (s2.repE st x3 (fun _ q => q) h2) r3)

/-! ### names, constants -/
theorem te_var {i : Nat} {y : Str} {pos : Pos} (hN : X.N[i]? = some y) (hv : Vis X.env.scope y) (hd : (y == ("__debug__" : Str)) = false) (hcd : (y == ("__classdict__" : Str)) = false) : PE X (.Name y pos) (TrE F W (mVar i)) :=
  PE_imp (pe_var hN hv hd hcd) fun σ H Q h => by
    obtain ⟨B, ρ, e, S, s, hp⟩ := h
    unfold mVar at hp
    split at hp
    · rename_i x he
      obtain ⟨v, h1, h2⟩ := s.slot i x he
      exact ⟨v, h1, hp v H s ExtE.refl h2⟩
    · rename_i n he
      obtain ⟨h1, h2⟩ := s.slotC i n he
      split at hp
      · rename_i hc
        refine ⟨_, h2 (by intro z; rw [z] at hc; simp at hc), hp _ H s ExtE.refl ⟨h1, fun _ => rfl⟩⟩
      · exact hp.elim
    · exact hp.elim
theorem te_const {a : Expr} {x : D} {v : V} (h : PE X a (tC v)) (hr : ∀ Y H, Rep F Y H x v) : PE X a (TrE F W (mK x)) :=
  PE_imp h fun σ H Q h => by
    obtain ⟨B, ρ, e, S, s, hp⟩ := h
    exact hp v H s ExtE.refl (hr _ _)

/-! ### displays -/
theorem evDs_len {g : Clos} : ∀ (ms : List ME) (S : Sto) (xs : List D) (S' : Sto), evDs ms g e S = .ok xs S' → xs.length = ms.length
  | [], S, xs, S', q => by cases q; rfl
  | m :: ms, S, xs, S', q => by
    simp only [evDs_cons] at q
    cases h1 : m g e S with
    | ok r S1 =>
      simp only [h1, O.bind_ok] at q
      cases h2 : toD r S1 with
      | ok x S2 =>
        simp only [h2, O.bind_ok] at q
        cases h3 : evDs ms g e S2 with
        | ok ys S3 =>
          simp only [h3, O.bind_ok] at q
          cases q
          simp [evDs_len ms _ _ _ h3]
        | ex c S' => simp [h3] at q
        | no => simp [h3] at q
      | ex c S' => simp [h2] at q
      | no => simp [h2] at q
    | ex c S' => simp [h1] at q
    | no => simp [h1] at q
/-- behind a display's items -/
theorem TrD.imp {ms : List ME} {f : List D → Sto → O R} {Q : List V → Hp → Prop} {N : R → Sto → Prop} (hp : PostO ((evDs ms F.g e S).bind f) N (XP F W B ρ e σ S H)) (s : Sim F B ρ e S σ H)
    (k : ∀ xs S' vs H', xs.length = ms.length → Sim F B ρ e S' σ H' → ExtE ρ S H S' H' → Reps F (Ex B ρ S') H' xs vs → PostO (f xs S') N (XP F W B ρ e σ S H) → Q vs H') : TrD F W ms σ H Q := by
  refine ⟨B, ρ, e, S, s, ?_⟩
  have hp := hp.bind
  cases ev : evDs ms F.g e S with
  | no => rw [ev] at hp; exact hp.elim
  | ex c S' => rw [ev] at hp; exact hp
  | ok xs S' =>
    rw [ev] at hp
    exact fun vs H' s' x' r' => k xs S' vs H' (evDs_len ms S xs S' ev) s' x' r' hp
theorem te_tup {es : List Expr} {k : Nat} {pos : Pos} {ms : List ME} (st : Stab F) (h : PA X es (TrD F W ms)) (hl : ms.length ≤ 1000) : PE X (.Tuple es k pos) (TrE F W (mTup ms)) :=
  PE_imp (pe_tup h) fun σ H Q hh => by
    obtain ⟨B, ρ, e, S, s, hp⟩ := hh
    refine TrD.imp hp s fun xs S' vs H' hxl s' x' r' hp => ?_
    have hz : vs.length ≤ LIM := by rw [r'.length, hxl]; exact Nat.le_trans hl (by decide)
    refine ⟨by rw [← LIM_eq]; exact hz, fun p hq => ?_⟩
    exact s'.newTup st hz r' (fun v H2 s2 x2 r2 => hp v H2 s2 (x'.trans x2) (r2.since fun a q => x'.none_ q)) p hq
theorem te_lst {es : List Expr} {pos : Pos} {ms : List ME} (st : Stab F) (h : PA X es (TrD F W ms)) (hl : ms.length ≤ 1000) : PE X (.List es pos) (TrE F W (mList ms)) :=
  PE_imp (pe_lst h) fun σ H Q hh => by
    obtain ⟨B, ρ, e, S, s, hp⟩ := hh
    refine TrD.imp hp s fun xs S' vs H' hxl s' x' r' hp => ?_
    have hz : vs.length ≤ LIM := by rw [r'.length, hxl]; exact Nat.le_trans hl (by decide)
    refine ⟨by rw [← LIM_eq]; exact hz, fun p hq => ?_⟩
    exact s'.newLst st hz r' (fun v H2 s2 x2 r2 => hp v H2 s2 (x'.trans x2) (r2.since fun a q => x'.none_ q)) p hq

/-! ### operations by values -/
/-- what is wanted behind an operation that leaves the store -/
def Want (F : Fx) (B : Addr → Prop) (ρ : Nat → Addr) (e : Env) (S : Sto) (σ : L2.St) (H : Hp) (r : R) (Q : VK) : Prop :=
  ∀ v H', Sim F (addR B r v) ρ e S σ H' → ExtE ρ S H S H' → RepR F B ρ S H H' r v → Q v H'
def Op2 (F : Fx) (f : List D → Option R) (rr : R2) : Prop := ∀ (B : Addr → Prop) (ρ : Nat → Addr) (e : Env) (S : Sto) (σ : L2.St) (H : Hp) (x y : D) (v w : V) (r : R) (Q : VK),
  Sim F B ρ e S σ H → RepV F (Ex B ρ S) H x v → RepV F (Ex B ρ S) H y w → f [x, y] = some r → Want F B ρ e S σ H r Q → rr v w H Q
def Op1 (F : Fx) (f : List D → Option R) (rr : V → Hp → VK → Prop) : Prop := ∀ (B : Addr → Prop) (ρ : Nat → Addr) (e : Env) (S : Sto) (σ : L2.St) (H : Hp) (x : D) (v : V) (r : R) (Q : VK),
  Sim F B ρ e S σ H → RepV F (Ex B ρ S) H x v → f [x] = some r → Want F B ρ e S σ H r Q → rr v H Q
def OpN (F : Fx) (f : List D → Option R) (rr : List V → Hp → VK → Prop) : Prop := ∀ (B : Addr → Prop) (ρ : Nat → Addr) (e : Env) (S : Sto) (σ : L2.St) (H : Hp) (xs : List D) (vs : List V) (r : R) (Q : VK),
  Sim F B ρ e S σ H → Paired (RepV F (Ex B ρ S) H) xs vs → f xs = some r → Want F B ρ e S σ H r Q → rr vs H Q
theorem mOp_ok {f : List D → Option R} {ms : List ME} {N : R → Sto → Prop} {Xx : Str → Sto → Prop} (hp : PostO (mOp f ms F.g e S) N Xx) :
    PostO (evRs ms F.g e S) (fun rs S1 => ∃ xs r, views S1 rs = some xs ∧ f xs = some r ∧ N r S1) Xx := by
  refine (PostO.bind (o := evRs ms F.g e S) hp).imp (fun rs S1 h => ?_) fun _ _ q => q
  cases e1 : views S1 rs with
  | none => simp only [e1] at h; exact h.elim
  | some xs =>
    simp only [e1] at h
    cases e2 : f xs with
    | none => simp only [e2] at h; exact h.elim
    | some r => simp only [e2] at h; exact ⟨xs, r, rfl, e2, h⟩
/-- arguments, then an operation -/
theorem ta_op {f : List D → Option R} {ms : List ME} {rr : List V → Hp → VK → Prop} (st : Stab F) (ho : OpN F f rr) {Q : VK} (h : TrE F W (mOp f ms) σ H Q) : TrA F W ms σ H fun vs H1 => rr vs H1 Q := by
  obtain ⟨B, ρ, e, S, s, hp⟩ := h
  refine ⟨B, ρ, e, S, s, (mOp_ok hp).imp (fun rs S1 ⟨xs, r, h1, h2, h3⟩ vs H1 s1 x1 r1 => ?_) fun _ _ q => q⟩
  exact ho B ρ e S1 σ H1 xs vs r Q s1 (RepRs.views st s1 r1 h1) h2 fun v' H' s' x' r' => h3 v' H' s' (x1.trans x') (r'.since fun a q => x1.none_ q)
theorem te_bin {f : List D → Option R} {rr : R2} {ma mb : ME} (st : Stab F) (ho : Op2 F f rr) {Q : VK} (h : TrE F W (mOp f [ma, mb]) σ H Q) : tOp rr (TrE F W ma) (TrE F W mb) σ H Q := by
  obtain ⟨B, ρ, e, S, s, hp⟩ := h
  have hp := mOp_ok hp
  simp only [evRs_cons, evRs_nil, O.bind_ok, O.bind_bind] at hp
  refine stepE st s hp (fun c S' q => q) fun r S1 v H1 s1 x1 r1 hp => ?_
  refine stepE st s1 hp (fun c S' q => q.after st addR_le x1) fun r2 S2 w H2 s2 x2 r2' hp => ?_
  obtain ⟨xs, q, h1, h2, h3⟩ := hp
  rw [views_cons] at h1
  have s2' := s2.mono st (B := B) fun a q => addR_le a (addR_le a q)
  cases e1 : view S2 r with
  | none => rw [e1] at h1; cases h1
  | some x =>
    cases e2 : view S2 r2 with
    | none => simp [e1, e2] at h1
    | some y =>
      simp [e1, e2] at h1
      subst h1
      have k1 := (r1.moveE st s1 x2 addR_le).view st s2' (fun _ q => q) e1
      have k2 := (r2'.mono st (B := B) addR_le).view st s2' (fun _ q => q) e2
      exact ho B ρ e S2 σ H2 x y v w q Q s2' k1 k2 h2 fun v' H' s' x' r' => h3 v' H' s' ((x1.trans x2).trans x') (r'.since fun a q => x1.none_ (x2.none_ q))
theorem te_un {f : List D → Option R} {rr : V → Hp → VK → Prop} {ma : ME} (st : Stab F) (ho : Op1 F f rr) {Q : VK} (h : TrE F W (mOp f [ma]) σ H Q) : tUn rr (TrE F W ma) σ H Q := by
  obtain ⟨B, ρ, e, S, s, hp⟩ := h
  have hp := mOp_ok hp
  simp only [evRs_cons, evRs_nil, O.bind_ok, O.bind_bind] at hp
  refine stepE st s hp (fun c S' q => q) fun r S1 v H1 s1 x1 r1 hp => ?_
  obtain ⟨xs, q, h1, h2, h3⟩ := hp
  rw [views_cons] at h1
  have s1' := s1.mono st (B := B) addR_le
  cases e1 : view S1 r with
  | none => rw [e1] at h1; cases h1
  | some x =>
    simp [e1] at h1
    subst h1
    exact ho B ρ e S1 σ H1 x v q Q s1' (r1.view st s1' (fun _ q => q) e1) h2 fun v' H' s' x' r' => h3 v' H' s' (x1.trans x') (r'.since fun a q => x1.none_ q)
end
end M

/-! Sound4: the built-in operations, by values. -/
namespace M
open PySem L2
open PySem (Str)
section
variable {F : Fx} {W : WX} {X : Cx} {B B' : Addr → Prop} {ρ ρ' : Nat → Addr} {e : Env} {S S' S1 S2 : Sto} {σ : L2.St} {H H' H0 H1 H2 : Hp} {Y : Addr → Prop} {x : D} {v w : V} {r : R} {p : Addr} {o : HO} {Q : VK}
theorem RepV.int {i : Int} (h : RepV F Y H (.int i) v) : v = .int i := by simpa only [RepV, Rep] using h
theorem RepV.bl {i : Bool} (h : RepV F Y H (.bl i) v) : v = .bl i := by simpa only [RepV, Rep] using h
theorem RepV.non (h : RepV F Y H .non v) : v = .non := by simpa only [RepV, Rep] using h
theorem RepV.str {i : Str} (h : RepV F Y H (.str i) v) : v = .str i ∧ txtOk i = true := by simpa only [RepV, Rep] using h
theorem RepV.tup {xs : List D} (h : RepV F Y H (.tup xs) v) : ∃ a vs, v = .ref a ∧ SqT F.K H a vs ∧ vs.length ≤ LIM ∧ Reps F Y H xs vs := by simpa only [RepV, Rep] using h
theorem RepV.lst {xs : List D} (h : RepV F Y H (.lst xs) v) : ∃ a vs, v = .ref a ∧ H a = some (.lst vs) ∧ vs.length ≤ LIM ∧ Reps F Y H xs vs := by simpa only [RepV] using h
theorem RepV.rol {xs : List D} (h : RepV F Y H (.rol xs) v) : ∃ a vs, v = .ref a ∧ SqL F.K H a vs ∧ vs.length ≤ LIM ∧ Reps F Y H xs vs := by
  simp only [RepV, Rep] at h
  obtain ⟨a, vs, e, h1, h2⟩ := h
  refine ⟨a, vs, e, ?_, h2⟩
  rcases h1 with ⟨o, h1⟩ | h1 | ⟨h1, _⟩
  · exact .inl (.inr ⟨o, h1⟩)
  · exact h1.seq H
  · exact .inl (.inl h1)
theorem Want.int (s : Sim F B ρ e S σ H) {i : Int} (k : Want F B ρ e S σ H (.d (.int i)) Q) : Q (.int i) H := k _ H s ExtE.refl (by simp only [RepR, Rep])
theorem Want.bl (s : Sim F B ρ e S σ H) {i : Bool} (k : Want F B ρ e S σ H (.d (.bl i)) Q) : Q (.bl i) H := k _ H s ExtE.refl (by simp only [RepR, Rep])
theorem Want.str (s : Sim F B ρ e S σ H) {i : Str} (k : Want F B ρ e S σ H (.d (.str i)) Q) (hi : txtOk i = true) : Q (.str i) H := k _ H s ExtE.refl (by simp [RepR, Rep, hi])
theorem Want.dat (s : Sim F B ρ e S σ H) (k : Want F B ρ e S σ H (.d x) Q) (h : Rep F (Ex B ρ S) H x v) : Q v H := k _ H s ExtE.refl h
theorem txtOk_len {x : Str} (h : txtOk x = true) : x.length ≤ sizeLine := by
  unfold txtOk at h
  simp only [Bool.and_eq_true, decide_eq_true_eq] at h
  rw [← LIM_eq]
  exact h.2
theorem txtOk_all {x : Str} (h : txtOk x = true) : ∀ c ∈ x.cps.toList, c < 0x110000 := by
  unfold txtOk at h
  simp only [Bool.and_eq_true, List.all_eq_true, decide_eq_true_eq] at h
  exact h.1
theorem txtOk_mk {x : Str} (h1 : ∀ c ∈ x.cps.toList, c < 0x110000) (h2 : x.cps.size ≤ LIM) : txtOk x = true := by
  unfold txtOk
  simp only [Bool.and_eq_true, List.all_eq_true, decide_eq_true_eq]
  exact ⟨h1, h2⟩

/-! ### + -/
def rAdd (K : PySem.W.Frag) : R2 := fun x y H Q => (rI0 fun i j => .int (i + j)) x y H Q ∨ rCatA K x y H Q ∨ rCat x y H Q ∨ ∃ i j, x = .str i ∧ y = .str j ∧ i.length + j.length ≤ sizeLine ∧ Q (.str (i ++ j)) H
theorem or_add : OpR X (binaryOp .Add) (rAdd X.K) := op_add.or (op_catA.or (op_cat.or op_add_str))
theorem op2_add (st : Stab F) : Op2 F opAdd (rAdd F.K) := by
  intro B ρ e S σ H x y v w r Q s hx hy hf k
  unfold opAdd at hf
  split at hf
  · rename_i i j q
    cases q
    cases hf
    exact .inl ⟨i, j, hx.int, hy.int, k.int s⟩
  · rename_i xs ys q
    cases q
    split at hf
    · rename_i hz
      cases hf
      obtain ⟨a, vs, rfl, h1, h2, h3⟩ := hx.tup
      obtain ⟨b, ws, rfl, h4, h5, h6⟩ := hy.tup
      have hl : vs.length + ws.length ≤ LIM := by rw [h3.length, h6.length]; exact hz
      refine .inr (.inl ⟨a, b, vs, ws, rfl, rfl, h1, h4, by rw [← LIM_eq]; exact hl, fun e1 => ?_, fun e1 e2 => ?_, fun e1 e2 p hp => ?_⟩)
      · subst e1
        have : xs = [] := List.eq_nil_of_length_eq_zero (by have := h3.length; simpa using this.symm)
        subst this
        exact k.dat s (by rw [Rep]; exact ⟨b, ws, rfl, h4, h5, by simpa using h6⟩)
      · subst e2
        have : ys = [] := List.eq_nil_of_length_eq_zero (by have := h6.length; simpa using this.symm)
        subst this
        exact k.dat s (by rw [Rep]; exact ⟨a, vs, rfl, h1, h2, by simpa using h3⟩)
      · exact s.newTup st (by simpa using hl) (h3.append h6) k p hp
    · cases hf
  · rename_i xs ys q
    cases q
    split at hf
    · rename_i hz
      cases hf
      obtain ⟨a, vs, rfl, h1, h2, h3⟩ := hx.lst
      obtain ⟨b, ws, rfl, h4, h5, h6⟩ := hy.lst
      have hl : vs.length + ws.length ≤ LIM := by rw [h3.length, h6.length]; exact hz
      refine .inr (.inr (.inl ⟨a, b, vs, ws, rfl, rfl, h1, h4, by rw [← LIM_eq]; exact hl, fun p hp => ?_⟩))
      exact s.newLst st (by simpa using hl) (h3.append h6) k p hp
    · cases hf
  · rename_i a b q
    cases q
    split at hf
    · rename_i hz
      cases hf
      obtain ⟨rfl, h1⟩ := hx.str
      obtain ⟨rfl, h2⟩ := hy.str
      refine .inr (.inr (.inr ⟨a, b, rfl, rfl, by rw [← LIM_eq]; exact hz, ?_⟩))
      refine k.str s (txtOk_mk (fun c hc => ?_) (by simpa using hz))
      have hc' : c ∈ a.cps.toList ++ b.cps.toList := by simpa using hc
      rcases List.mem_append.mp hc' with q | q
      · exact txtOk_all h1 c q
      · exact txtOk_all h2 c q
    · cases hf
  · cases hf
theorem te_add {a b : Expr} {ma mb : ME} {pos : Pos} (st : Stab F) (hK : X.K = F.K) (ha : PE X a (TrE F W ma)) (hb : PE X b (TrE F W mb)) : PE X (.BinOp a .Add b pos) (TrE F W (mOp opAdd [ma, mb])) :=
  PE_imp (pe_op or_add ha hb) fun σ H Q h => te_bin st (hK ▸ op2_add st) h

/-! ### other arithmetic -/
theorem op2_sub : Op2 F opSub (rI0 fun i j => .int (i - j)) := by
  intro B ρ e S σ H x y v w r Q s hx hy hf k
  unfold opSub at hf
  split at hf
  · rename_i i j q
    cases q
    cases hf
    exact ⟨i, j, hx.int, hy.int, k.int s⟩
  · cases hf
theorem te_sub {a b : Expr} {ma mb : ME} {pos : Pos} (st : Stab F) (ha : PE X a (TrE F W ma)) (hb : PE X b (TrE F W mb)) : PE X (.BinOp a .Sub b pos) (TrE F W (mOp opSub [ma, mb])) :=
  PE_imp (pe_op op_sub ha hb) fun σ H Q h => te_bin st op2_sub h
theorem op2_div : Op2 F opDiv (rI CDiv fun i j => .int (i / j)) := by
  intro B ρ e S σ H x y v w r Q s hx hy hf k
  unfold opDiv at hf
  split at hf
  · rename_i i j q
    cases q
    split at hf
    · rename_i hj
      cases hf
      exact ⟨i, j, hx.int, hy.int, hj, k.int s⟩
    · cases hf
  · cases hf
theorem te_div {a b : Expr} {ma mb : ME} {pos : Pos} (st : Stab F) (ha : PE X a (TrE F W ma)) (hb : PE X b (TrE F W mb)) : PE X (.BinOp a .FloorDiv b pos) (TrE F W (mOp opDiv [ma, mb])) :=
  PE_imp (pe_op op_fdiv ha hb) fun σ H Q h => te_bin st op2_div h
theorem op2_mod : Op2 F opMod (rI (fun _ j => 0 < j) fun i j => .int (i % j)) := by
  intro B ρ e S σ H x y v w r Q s hx hy hf k
  unfold opMod at hf
  split at hf
  · rename_i i j q
    cases q
    split at hf
    · rename_i hj
      cases hf
      exact ⟨i, j, hx.int, hy.int, hj, k.int s⟩
    · cases hf
  · cases hf
theorem te_mod {a b : Expr} {ma mb : ME} {pos : Pos} (st : Stab F) (ha : PE X a (TrE F W ma)) (hb : PE X b (TrE F W mb)) : PE X (.BinOp a .Mod b pos) (TrE F W (mOp opMod [ma, mb])) :=
  PE_imp (pe_op op_mod ha hb) fun σ H Q h => te_bin st op2_mod h
theorem op2_pow : Op2 F opPow (rI CPow fun i j => .int (i ^ j.toNat)) := by
  intro B ρ e S σ H x y v w r Q s hx hy hf k
  unfold opPow at hf
  split at hf
  · rename_i i j q
    cases q
    split at hf
    · rename_i hj
      cases hf
      exact ⟨i, j, hx.int, hy.int, hj, k.int s⟩
    · cases hf
  · cases hf
theorem te_pow {a b : Expr} {ma mb : ME} {pos : Pos} (st : Stab F) (ha : PE X a (TrE F W ma)) (hb : PE X b (TrE F W mb)) : PE X (.BinOp a .Pow b pos) (TrE F W (mOp opPow [ma, mb])) :=
  PE_imp (pe_op op_pow ha hb) fun σ H Q h => te_bin st op2_pow h
theorem op1_neg : Op1 F opNeg (rU fun i => .int (-i)) := by
  intro B ρ e S σ H x v r Q s hx hf k
  unfold opNeg at hf
  split at hf
  · rename_i i q
    cases q
    cases hf
    exact ⟨i, hx.int, k.int s⟩
  · cases hf
theorem te_neg {a : Expr} {ma : ME} {pos : Pos} (st : Stab F) (ha : PE X a (TrE F W ma)) : PE X (.UnaryOp .USub a pos) (TrE F W (mOp opNeg [ma])) :=
  PE_imp (pe_un un_neg ha) fun σ H Q h => te_un st op1_neg h

/-! ### comparisons of numbers -/
theorem op2_le : Op2 F opLe (rI0 fun i j => .bl (decide (i ≤ j))) := by
  intro B ρ e S σ H x y v w r Q s hx hy hf k
  unfold opLe at hf
  split at hf
  · rename_i i j q
    cases q
    cases hf
    exact ⟨i, j, hx.int, hy.int, k.bl s⟩
  · cases hf
theorem op2_gt : Op2 F opGt (rI0 fun i j => .bl (decide (j < i))) := by
  intro B ρ e S σ H x y v w r Q s hx hy hf k
  unfold opGt at hf
  split at hf
  · rename_i i j q
    cases q
    cases hf
    exact ⟨i, j, hx.int, hy.int, k.bl s⟩
  · cases hf
theorem op2_ge : Op2 F opGe (rI0 fun i j => .bl (decide (j ≤ i))) := by
  intro B ρ e S σ H x y v w r Q s hx hy hf k
  unfold opGe at hf
  split at hf
  · rename_i i j q
    cases q
    cases hf
    exact ⟨i, j, hx.int, hy.int, k.bl s⟩
  · cases hf
theorem intsOf_reps : ∀ {xs : List D} {is : List Int} {vs : List V}, intsOf xs = some is → Reps F Y H xs vs → vs = is.map V.int
  | [], is, vs, h, r => by
    rw [Reps] at r; subst r
    simp [intsOf] at h; subst h; rfl
  | x :: xs, is, vs, h, r => by
    rw [Reps] at r
    obtain ⟨v, q, rfl, r1, r2⟩ := r
    cases x with
    | int i =>
      simp only [intsOf] at h
      cases e1 : intsOf xs with
      | none => simp [e1] at h
      | some js =>
        simp [e1] at h
        subst h
        rw [intsOf_reps e1 r2]
        rw [Rep] at r1; subst r1
        rfl
    | _ => simp [intsOf] at h
theorem lexLt_eq : ∀ (xs ys : List Int), M.lexLt xs ys = HT.lexLt xs ys
  | [], [] => rfl
  | [], _ :: _ => rfl
  | _ :: _, [] => rfl
  | x :: xs, y :: ys => by
    show (if x = y then M.lexLt xs ys else decide (x < y)) = (if x = y then HT.lexLt xs ys else decide (x < y))
    rw [lexLt_eq xs ys]
def rLt (K : PySem.W.Frag) : R2 := fun x y H Q => (rI0 fun i j => .bl (decide (i < j))) x y H Q ∨ rLtT K x y H Q
theorem op2_lt : Op2 F opLt (rLt F.K) := by
  intro B ρ e S σ H x y v w r Q s hx hy hf k
  unfold opLt at hf
  split at hf
  · rename_i i j q
    cases q
    cases hf
    exact .inl ⟨i, j, hx.int, hy.int, k.bl s⟩
  · rename_i xs ys q
    cases q
    split at hf
    · rename_i is js e1 e2
      cases hf
      obtain ⟨a, vs, rfl, h1, h2, h3⟩ := hx.tup
      obtain ⟨b, ws, rfl, h4, h5, h6⟩ := hy.tup
      have z1 := intsOf_reps e1 h3
      have z2 := intsOf_reps e2 h6
      subst z1 z2
      refine .inr ⟨a, b, is, js, rfl, rfl, h1, h4, ?_⟩
      rw [← lexLt_eq]
      exact k.bl s
    · cases hf
  · cases hf

/-! ### == of data -/
mutual
def toPy : D → PyData
  | .bl b => .bool b
  | .int i => .int i
  | .str s => .str s
  | .tup xs => .tuple (toPys xs)
  | .lst xs => .list (toPys xs)
  | _ => .none
def toPys : List D → List PyData
  | [] => []
  | x :: xs => toPy x :: toPys xs
end
mutual
theorem rep_dp : ∀ (n : Nat) (x : D) (v : V), good n x = true → Rep F Y H x v → Dp F.K H v (toPy x)
  | _, .non, v, _, h => by rw [Rep] at h; subst h; exact .non
  | _, .bl b, v, _, h => by rw [Rep] at h; subst h; exact .bl b
  | _, .int i, v, _, h => by rw [Rep] at h; subst h; exact .int i
  | _, .str z, v, _, h => by rw [Rep] at h; obtain ⟨rfl, _⟩ := h; exact .str z
  | 0, .tup xs, v, g, _ => by simp [good] at g
  | n + 1, .tup xs, v, g, h => by
    rw [Rep] at h
    obtain ⟨a, vs, rfl, h1, _, h2⟩ := h
    exact .tup h1 (reps_dp n xs vs (by simpa [good] using g) h2)
  | 0, .lst xs, v, g, _ => by simp [good] at g
  | n + 1, .lst xs, v, g, h => by
    rw [Rep] at h
    obtain ⟨a, vs, rfl, h1, _, _, h2⟩ := h
    exact .lst (SqL.of h1) (reps_dp n xs vs (by simpa [good] using g) h2)
  | n, .dct _ _, v, g, _ => by cases n <;> simp [good] at g
  | n, .rol _, v, g, _ => by cases n <;> simp [good] at g
  | n, .fn _, v, g, _ => by cases n <;> simp [good] at g
  | n, .clo _, v, g, _ => by cases n <;> simp [good] at g
  | n, .exc _, v, g, _ => by cases n <;> simp [good] at g
theorem reps_dp : ∀ (n : Nat) (xs : List D) (vs : List V), goodAll n xs = true → Reps F Y H xs vs → DpAll F.K H vs (toPys xs)
  | _, [], vs, _, h => by rw [Reps] at h; subst h; exact .nil
  | n, x :: xs, vs, g, h => by
    rw [Reps] at h
    obtain ⟨v, r, rfl, h1, h2⟩ := h
    simp only [goodAll, Bool.and_eq_true] at g
    exact .cons (rep_dp n x v g.1 h1) (reps_dp n xs r g.2 h2)
end
theorem repV_dp {n : Nat} (g : good n x = true) (h : RepV F Y H x v) : Dp F.K H v (toPy x) := by
  cases x with
  | lst xs =>
    obtain ⟨a, vs, rfl, h1, _, h2⟩ := h.lst
    cases n with
    | zero => simp [good] at g
    | succ n => exact .lst (SqL.of h1) (reps_dp n xs vs (by simpa [good] using g) h2)
  | dct ks xs => cases n <;> simp [good] at g
  | _ => exact rep_dp (Y := Y) n _ v g h
theorem strOk_of {z : Str} (h : txtOk z = true) : PyData.strOk z = true := by
  unfold PyData.strOk
  rw [Array.all_eq_true]
  intro i hi
  exact decide_eq_true (txtOk_all h _ (Array.getElem_mem_toList hi))
mutual
theorem rep_lay : ∀ (n : Nat) (x : D) (v : V), good n x = true → Rep F Y H x v → (toPy x).canLay0 = true ∧ (toPy x).depth ≤ n
  | _, .non, v, _, h => by simp [toPy, PyData.canLay0, PyData.depth]
  | _, .bl b, v, _, h => by simp [toPy, PyData.canLay0, PyData.depth]
  | _, .int i, v, _, h => by simp [toPy, PyData.canLay0, PyData.depth]
  | _, .str z, v, _, h => by rw [Rep] at h; simp [toPy, PyData.canLay0, PyData.depth, strOk_of h.2]
  | 0, .tup xs, v, g, _ => by simp [good] at g
  | n + 1, .tup xs, v, g, h => by
    rw [Rep] at h
    obtain ⟨a, vs, rfl, h1, _, h2⟩ := h
    have := reps_lay n xs vs (by simpa [good] using g) h2
    simp only [toPy, PyData.canLay0, PyData.depth]
    exact ⟨this.1, Nat.succ_le_succ this.2⟩
  | 0, .lst xs, v, g, _ => by simp [good] at g
  | n + 1, .lst xs, v, g, h => by
    rw [Rep] at h
    obtain ⟨a, vs, rfl, h1, _, _, h2⟩ := h
    have := reps_lay n xs vs (by simpa [good] using g) h2
    simp only [toPy, PyData.canLay0, PyData.depth]
    exact ⟨this.1, Nat.succ_le_succ this.2⟩
  | n, .dct _ _, v, g, _ => by cases n <;> simp [good] at g
  | n, .rol _, v, g, _ => by cases n <;> simp [good] at g
  | n, .fn _, v, g, _ => by cases n <;> simp [good] at g
  | n, .clo _, v, g, _ => by cases n <;> simp [good] at g
  | n, .exc _, v, g, _ => by cases n <;> simp [good] at g
theorem reps_lay : ∀ (n : Nat) (xs : List D) (vs : List V), goodAll n xs = true → Reps F Y H xs vs → PyData.canLayAll0 (toPys xs) = true ∧ PyData.depthAll (toPys xs) ≤ n
  | _, [], vs, _, h => by simp [toPys, PyData.canLayAll0, PyData.depthAll]
  | n, x :: xs, vs, g, h => by
    rw [Reps] at h
    obtain ⟨v, r, rfl, h1, h2⟩ := h
    simp only [goodAll, Bool.and_eq_true] at g
    have i1 := rep_lay n x v g.1 h1
    have i2 := reps_lay n xs r g.2 h2
    simp only [toPys, PyData.canLayAll0, PyData.depthAll, i1.1, i2.1]
    exact ⟨rfl, Nat.max_le.mpr ⟨i1.2, i2.2⟩⟩
end
theorem repV_shaped (g : good 60 x = true) (h : RepV F Y H x v) : SeqAt.shaped (toPy x) = true := by
  have key : (toPy x).canLay0 = true ∧ (toPy x).depth ≤ 60 := by
    cases x with
    | lst xs =>
      obtain ⟨a, vs, rfl, h1, _, h2⟩ := h.lst
      have := reps_lay 59 xs vs (by simpa [good] using g) h2
      simp only [toPy, PyData.canLay0, PyData.depth]
      exact ⟨this.1, Nat.succ_le_succ this.2⟩
    | dct ks xs => simp [good] at g
    | _ => exact rep_lay (F := F) (Y := Y) (H := H) 60 _ v g h
  unfold SeqAt.shaped
  rw [key.1, decide_eq_true (Nat.le_trans key.2 (by decide))]
  rfl
mutual
theorem eqv_py : ∀ (n m : Nat) (x y : D), good n x = true → good m y = true → PyData.eqv (toPy x) (toPy y) = M.eqv x y
  | n, m, .non, y, _, g2 => by cases y <;> first | rfl | (cases m <;> simp [good] at g2) | simp [toPy, PyData.eqv, M.eqv]
  | n, m, .bl b, y, _, g2 => by cases y <;> first | rfl | (cases m <;> simp [good] at g2) | simp [toPy, PyData.eqv, M.eqv]
  | n, m, .int b, y, _, g2 => by cases y <;> first | rfl | (cases m <;> simp [good] at g2) | simp [toPy, PyData.eqv, M.eqv]
  | n, m, .str b, y, _, g2 => by
    cases y <;> first
      | rfl
      | (simp only [toPy, PyData.eqv, M.eqv]; rw [Bool.eq_iff_iff]; simp; done)
      | (cases m <;> simp [good] at g2)
      | simp [toPy, PyData.eqv, M.eqv]
  | 0, _, .tup xs, _, g, _ => by simp [good] at g
  | n + 1, m, .tup xs, y, g, g2 => by
    cases y with
    | tup ys =>
      cases m with
      | zero => simp [good] at g2
      | succ m =>
        simp only [toPy, PyData.eqv, M.eqv]
        exact eqvAll_py n m xs ys (by simpa [good] using g) (by simpa [good] using g2)
    | _ => first | rfl | (cases m <;> simp [good] at g2) | simp [toPy, PyData.eqv, M.eqv]
  | 0, _, .lst xs, _, g, _ => by simp [good] at g
  | n + 1, m, .lst xs, y, g, g2 => by
    cases y with
    | lst ys =>
      cases m with
      | zero => simp [good] at g2
      | succ m =>
        simp only [toPy, PyData.eqv, M.eqv]
        exact eqvAll_py n m xs ys (by simpa [good] using g) (by simpa [good] using g2)
    | _ => first | rfl | (cases m <;> simp [good] at g2) | simp [toPy, PyData.eqv, M.eqv]
  | n, _, .dct _ _, _, g, _ => by cases n <;> simp [good] at g
  | n, _, .rol _, _, g, _ => by cases n <;> simp [good] at g
  | n, _, .fn _, _, g, _ => by cases n <;> simp [good] at g
  | n, _, .clo _, _, g, _ => by cases n <;> simp [good] at g
  | n, _, .exc _, _, g, _ => by cases n <;> simp [good] at g
theorem eqvAll_py : ∀ (n m : Nat) (xs ys : List D), goodAll n xs = true → goodAll m ys = true → PyData.eqvAll (toPys xs) (toPys ys) = M.eqvAll xs ys
  | n, m, [], [], _, _ => by simp [toPys, PyData.eqvAll, M.eqvAll]
  | n, m, [], y :: ys, _, _ => by simp [toPys, PyData.eqvAll, M.eqvAll]
  | n, m, x :: xs, [], _, _ => by simp [toPys, PyData.eqvAll, M.eqvAll]
  | n, m, x :: xs, y :: ys, g1, g2 => by
    simp only [goodAll, Bool.and_eq_true] at g1 g2
    simp only [toPys, PyData.eqvAll, M.eqvAll]
    rw [eqv_py n m x y g1.1 g2.1, eqvAll_py n m xs ys g1.2 g2.2]
end
theorem op2_eq : Op2 F opEq (rEqD F.K) := by
  intro B ρ e S σ H x y v w r Q s hx hy hf k
  simp only [opEq] at hf
  split at hf
  · rename_i g
    cases hf
    obtain ⟨g1, g2⟩ := Bool.and_eq_true_iff.mp g
    refine ⟨toPy x, toPy y, repV_dp g1 hx, repV_dp g2 hy, repV_shaped g1 hx, repV_shaped g2 hy, ?_⟩
    rw [eqv_py 60 60 x y g1 g2]
    exact k.bl s
  · cases hf
theorem op2_ne : Op2 F opNe (rNeD F.K) := by
  intro B ρ e S σ H x y v w r Q s hx hy hf k
  simp only [opNe] at hf
  split at hf
  · rename_i g
    cases hf
    obtain ⟨g1, g2⟩ := Bool.and_eq_true_iff.mp g
    refine ⟨toPy x, toPy y, repV_dp g1 hx, repV_dp g2 hy, repV_shaped g1 hx, repV_shaped g2 hy, ?_⟩
    rw [eqv_py 60 60 x y g1 g2]
    exact k.bl s
  · cases hf
/-- a comparison as a value -/
theorem te_cmp {op : CmpOp} {f : List D → Option R} {rr : R2} {a b : Expr} {ma mb : ME} {pos : Pos} (st : Stab F) (hr : OpR X (compareOp op) rr) (ho : Op2 F f rr) (hm : behindInMarks op b = false) (ha : PE X a (TrE F W ma)) (hb : PE X b (TrE F W mb)) :
    PE X (.Compare a [op] [b] pos) (TrE F W (mOp f [ma, mb])) := PE_imp (pe_cmpR hr ha hb hm) fun σ H Q h => te_bin st ho h

/-! ### is, in -/
theorem isNon_v (st : Stab F) (h : RepV F Y H x v) : isNon x = decide (v = .non) := by
  cases x with
  | non => rw [h.non]; rfl
  | bl b => rw [h.bl]; rfl
  | int b => rw [h.int]; rfl
  | str b => rw [h.str.1]; rfl
  | tup xs => obtain ⟨a, vs, rfl, _⟩ := h.tup; rfl
  | lst xs => obtain ⟨a, vs, rfl, _⟩ := h.lst; rfl
  | rol xs => obtain ⟨a, vs, rfl, _⟩ := h.rol; rfl
  | dct ks xs => simp only [RepV] at h; obtain ⟨a, vs, rfl, _⟩ := h; rfl
  | fn f => simp only [RepV, Rep] at h; obtain ⟨a, rfl, _⟩ := h; rfl
  | exc c => simp only [RepV, Rep] at h; obtain ⟨a, cl, rfl, _⟩ := h; rfl
  | clo k =>
    have hd := st.nn k v H (by simpa only [RepV, Rep] using h)
    rw [decide_eq_false hd]; rfl
def rIs : R2 := fun x y H Q => (y = .non ∧ Q (.bl (decide (x = .non))) H) ∨ rIsB x y H Q
theorem op2_is (st : Stab F) : Op2 F opIs rIs := by
  intro B ρ e S σ H x y v w r Q s hx hy hf k
  unfold opIs at hf
  split at hf
  · rename_i x' q
    cases q
    cases hf
    exact .inl ⟨hy.non, by rw [← isNon_v st hx]; exact k.bl s⟩
  · rename_i a b q
    cases q
    cases hf
    exact .inr ⟨a, b, hx.bl, hy.bl, k.bl s⟩
  · cases hf
def rIsNot : R2 := fun x y H Q => (y = .non ∧ Q (.bl (!decide (x = .non))) H) ∨ rNotB x y H Q
theorem op2_isNot (st : Stab F) : Op2 F opIsNot rIsNot := by
  intro B ρ e S σ H x y v w r Q s hx hy hf k
  unfold opIsNot at hf
  split at hf
  · rename_i x' q
    cases q
    cases hf
    exact .inl ⟨hy.non, by rw [← isNon_v st hx]; exact k.bl s⟩
  · rename_i a b q
    cases q
    cases hf
    exact .inr ⟨a, b, hx.bl, hy.bl, k.bl s⟩
  · cases hf
theorem or_is : OpR X (compareOp .Is) rIs := op_isN.or op_isBl
theorem or_isNot : OpR X (compareOp .IsNot) rIsNot := op_notN.or op_notBl
theorem op_inTup (hu : X.A.units + 65 < cLine) : OpR X (compareOp .In) (fun x y H Q => ∃ d ds, Dp X.K H x d ∧ Dp X.K H y (.tuple ds) ∧ SeqAt.shaped d = true ∧ SeqAt.shaped (.tuple ds) = true ∧ Q (.bl (ds.any fun z => PyData.eqv z d)) H) := by
  intro pins s σ H x y v u Q I rx ry h
  obtain ⟨d, ds, hd, he, sd, se, q⟩ := h
  obtain ⟨as, r1⟩ := Dp.reads I d x v hd rx
  obtain ⟨bs, r2⟩ := Dp.reads I (.tuple ds) y u he ry
  exact SeqAt.in_tuple_reads r2 r1 (SeqAt.canLay_of_shaped se) (SeqAt.canLay_of_shaped sd) (PyProof.Rows.room_in_shaped sd hu) ⟨.bl _, H, I, rfl, q⟩
theorem op_notInTup (hu : X.A.units + 65 < cLine) : OpR X (compareOp .NotIn) (fun x y H Q => ∃ d ds, Dp X.K H x d ∧ Dp X.K H y (.tuple ds) ∧ SeqAt.shaped d = true ∧ SeqAt.shaped (.tuple ds) = true ∧ Q (.bl (!ds.any fun z => PyData.eqv z d)) H) := by
  intro pins s σ H x y v u Q I rx ry h
  obtain ⟨d, ds, hd, he, sd, se, q⟩ := h
  obtain ⟨as, r1⟩ := Dp.reads I d x v hd rx
  obtain ⟨bs, r2⟩ := Dp.reads I (.tuple ds) y u he ry
  exact SeqAt.notIn_tuple_reads r2 r1 (SeqAt.canLay_of_shaped se) (SeqAt.canLay_of_shaped sd) (PyProof.Rows.room_in_shaped sd hu) ⟨.bl _, H, I, rfl, q⟩
def rInA (K : PySem.W.Frag) : R2 := fun x y H Q => rInD K x y H Q ∨ (∃ d ds, Dp K H x d ∧ Dp K H y (.tuple ds) ∧ SeqAt.shaped d = true ∧ SeqAt.shaped (.tuple ds) = true ∧ Q (.bl (ds.any fun z => PyData.eqv z d)) H) ∨
  ∃ (c : Nat) (z : Str), x = .str ⟨#[c]⟩ ∧ y = .str z ∧ Q (.bl (decide (c ∈ z.cps.toList))) H
def rNotInA (K : PySem.W.Frag) : R2 := fun x y H Q => rNotInD K x y H Q ∨ (∃ d ds, Dp K H x d ∧ Dp K H y (.tuple ds) ∧ SeqAt.shaped d = true ∧ SeqAt.shaped (.tuple ds) = true ∧ Q (.bl (!ds.any fun z => PyData.eqv z d)) H) ∨
  ∃ (c : Nat) (z : Str), x = .str ⟨#[c]⟩ ∧ y = .str z ∧ Q (.bl (!decide (c ∈ z.cps.toList))) H
theorem or_in (hu : X.A.units + 65 < cLine) : OpR X (compareOp .In) (rInA X.K) := (op_inD hu).or ((op_inTup hu).or op_in_sign)
theorem or_notIn (hu : X.A.units + 65 < cLine) : OpR X (compareOp .NotIn) (rNotInA X.K) := (op_notInD hu).or ((op_notInTup hu).or op_notIn_sign)
theorem any_py {x : D} (g : good 60 x = true) : ∀ (n : Nat) (ys : List D), goodAll n ys = true → ((toPys ys).any fun z => PyData.eqv z (toPy x)) = isIn x ys
  | n, [], _ => by simp [toPys, isIn]
  | n, y :: ys, h => by
    simp only [goodAll, Bool.and_eq_true] at h
    have ih := any_py g n ys h.2
    simp only [toPys, List.any_cons, isIn] at ih ⊢
    rw [ih, eqv_py n 60 y x h.1 g]
theorem list_shaped {n : Nat} {ys : List D} {vs : List V} (hn : n ≤ 60) (g : goodAll n ys = true) (h : Reps F Y H ys vs) : SeqAt.shaped (.list (toPys ys)) = true ∧ SeqAt.shaped (.tuple (toPys ys)) = true := by
  have := reps_lay n ys vs g h
  have h2 : PyData.depthAll (toPys ys) + 1 ≤ 64 := by have := this.2; omega
  unfold SeqAt.shaped
  simp only [PyData.canLay0, PyData.depth, this.1, Bool.true_and, decide_eq_true_eq]
  exact ⟨decide_eq_true h2, decide_eq_true h2⟩
theorem one_sign {a : Str} {c : Nat} (h : a.cps.toList = [c]) : a = ⟨#[c]⟩ := by
  cases a with
  | mk cps =>
    congr 1
    exact Array.ext' h
theorem op2_in : Op2 F opIn (rInA F.K) := by
  intro B ρ e S σ H x y v w r Q s hx hy hf k
  unfold opIn at hf
  split at hf
  · rename_i x' ys q
    cases q
    split at hf
    · rename_i g
      cases hf
      obtain ⟨g1, g2⟩ := Bool.and_eq_true_iff.mp g
      obtain ⟨a, vs, rfl, h1, _, h2⟩ := hy.lst
      refine .inl ⟨toPy x, toPys ys, repV_dp g1 hx, .lst (SqL.of h1) (reps_dp 60 ys vs g2 h2), repV_shaped g1 hx, (list_shaped (Nat.le_refl _) g2 h2).1, ?_⟩
      rw [any_py g1 60 ys g2]
      exact k.bl s
    · cases hf
  · rename_i x' ys q
    cases q
    split at hf
    · rename_i g
      cases hf
      obtain ⟨g1, g2⟩ := Bool.and_eq_true_iff.mp g
      obtain ⟨a, vs, rfl, h1, _, h2⟩ := hy.tup
      refine .inr (.inl ⟨toPy x, toPys ys, repV_dp g1 hx, .tup h1 (reps_dp 60 ys vs g2 h2), repV_shaped g1 hx, (list_shaped (Nat.le_refl _) g2 h2).2, ?_⟩)
      rw [any_py g1 60 ys g2]
      exact k.bl s
    · cases hf
  · rename_i a b q
    cases q
    split at hf
    · rename_i c hc
      cases hf
      have ha := one_sign hc
      subst ha
      exact .inr (.inr ⟨c, b, hx.str.1, hy.str.1, k.bl s⟩)
    · cases hf
  · cases hf
theorem op2_notIn : Op2 F opNotIn (rNotInA F.K) := by
  intro B ρ e S σ H x y v w r Q s hx hy hf k
  unfold opNotIn at hf
  split at hf
  · rename_i x' ys q
    cases q
    split at hf
    · rename_i g
      cases hf
      obtain ⟨g1, g2⟩ := Bool.and_eq_true_iff.mp g
      obtain ⟨a, vs, rfl, h1, _, h2⟩ := hy.lst
      refine .inl ⟨toPy x, toPys ys, repV_dp g1 hx, .lst (SqL.of h1) (reps_dp 60 ys vs g2 h2), repV_shaped g1 hx, (list_shaped (Nat.le_refl _) g2 h2).1, ?_⟩
      rw [any_py g1 60 ys g2]
      exact k.bl s
    · cases hf
  · rename_i x' ys q
    cases q
    split at hf
    · rename_i g
      cases hf
      obtain ⟨g1, g2⟩ := Bool.and_eq_true_iff.mp g
      obtain ⟨a, vs, rfl, h1, _, h2⟩ := hy.tup
      refine .inr (.inl ⟨toPy x, toPys ys, repV_dp g1 hx, .tup h1 (reps_dp 60 ys vs g2 h2), repV_shaped g1 hx, (list_shaped (Nat.le_refl _) g2 h2).2, ?_⟩)
      rw [any_py g1 60 ys g2]
      exact k.bl s
    · cases hf
  · rename_i a b q
    cases q
    split at hf
    · rename_i c hc
      cases hf
      have ha := one_sign hc
      subst ha
      exact .inr (.inr ⟨c, b, hx.str.1, hy.str.1, k.bl s⟩)
    · cases hf
  · cases hf
end
end M

/-! Sound5: subscripts, slices, built-in functions, kinds. -/
namespace M
open PySem L2
open PySem (Str)
section
variable {F : Fx} {W : WX} {X : Cx} {B B' : Addr → Prop} {ρ ρ' : Nat → Addr} {e : Env} {S S' S1 S2 : Sto} {σ : L2.St} {H H' H0 H1 H2 : Hp} {Y : Addr → Prop} {x : D} {v w : V} {r : R} {p : Addr} {o : HO} {Q : VK}
/-! ### o[i] -/
theorem ixN_eq (n : Nat) (i : Int) : M.ixN n i = L2.ixN n i := by
  unfold M.ixN L2.ixN
  by_cases h0 : 0 ≤ i
  · by_cases h1 : i < n
    · rw [if_pos ⟨h0, h1⟩, if_pos h0, if_pos h1]
    · rw [if_neg (fun z => h1 z.2), if_neg (fun z => by omega), if_pos h0, if_neg h1]
  · rw [if_neg (fun z => h0 z.1), if_neg h0]
    by_cases h1 : -(n : Int) ≤ i
    · rw [if_pos ⟨by omega, h1⟩, if_pos h1]
    · rw [if_neg (fun z => h1 z.2), if_neg h1]
theorem atI_reps {xs : List D} {vs : List V} {i : Int} {x : D} (h : Reps F Y H xs vs) (e : M.atI xs i = some x) : ∃ v, L2.atI vs i = some v ∧ Rep F Y H x v := by
  unfold M.atI at e
  rw [ixN_eq] at e
  unfold L2.atI
  rw [h.length]
  cases q : L2.ixN xs.length i with
  | none => rw [q] at e; cases e
  | some k =>
    rw [q] at e
    obtain ⟨v, h1, h2⟩ := h.get e
    exact ⟨v, h1, h2⟩
theorem op2_get : Op2 F opGet (rIx F.K) := by
  intro B ρ e S σ H x y v w r Q s hx hy hf k
  unfold opGet at hf
  split at hf
  · rename_i xs i q
    cases q
    cases z : M.atI xs i with
    | none => rw [z] at hf; cases hf
    | some d =>
      rw [z] at hf; cases hf
      obtain ⟨a, vs, rfl, h1, _, h2⟩ := hx.tup
      obtain ⟨u, h3, h4⟩ := atI_reps h2 z
      exact .inr (.inl ⟨a, vs, i, u, rfl, hy.int, h1, h3, k.dat s h4⟩)
  · rename_i xs i q
    cases q
    cases z : M.atI xs i with
    | none => rw [z] at hf; cases hf
    | some d =>
      rw [z] at hf; cases hf
      obtain ⟨a, vs, rfl, h1, _, h2⟩ := hx.lst
      obtain ⟨u, h3, h4⟩ := atI_reps h2 z
      exact .inl ⟨a, vs, i, u, rfl, hy.int, SqL.of h1, h3, k.dat s h4⟩
  · rename_i xs i q
    cases q
    cases z : M.atI xs i with
    | none => rw [z] at hf; cases hf
    | some d =>
      rw [z] at hf; cases hf
      obtain ⟨a, vs, rfl, h1, _, h2⟩ := hx.rol
      obtain ⟨u, h3, h4⟩ := atI_reps h2 z
      exact .inl ⟨a, vs, i, u, rfl, hy.int, h1, h3, k.dat s h4⟩
  · rename_i z i q
    cases q
    split at hf
    · cases hc : M.atI z.cps.toList i with
      | none => rw [hc] at hf; cases hf
      | some c =>
        rw [hc] at hf; cases hf
        obtain ⟨rfl, h1⟩ := hx.str
        have hc2 : L2.atI z.cps.toList i = some c := by
          unfold M.atI at hc
          rw [ixN_eq] at hc
          unfold L2.atI
          cases q : L2.ixN z.cps.toList.length i with
          | none => rw [q] at hc; cases hc
          | some k => rw [q] at hc; exact hc
        refine .inr (.inr ⟨z, i, c, rfl, hy.int, txtOk_len h1, hc2, k.str s (txtOk_mk (fun c' hc' => ?_) (show 1 ≤ LIM by decide))⟩)
        have : c' = c := by simpa using hc'
        subst this
        unfold M.atI at hc
        split at hc
        · exact txtOk_all h1 _ (List.mem_of_getElem? hc)
        · cases hc
    · cases hf
  · cases hf
theorem te_get {a b : Expr} {ma mb : ME} {pos : Pos} (st : Stab F) (hK : X.K = F.K) (hs : PlainIx b) (ha : PE X a (TrE F W ma)) (hb : PE X b (TrE F W mb)) : PE X (.Subscript a b pos) (TrE F W (mOp opGet [ma, mb])) :=
  PE_imp (pe_ix ix_seq ha hb hs) fun σ H Q h => te_bin st (hK ▸ op2_get) h

/-! ### slices -/
theorem clampI_eq (n d : Nat) (i : Int) : clampI n i = HT.sIx n d (some i) := rfl
theorem cut_eq {α : Type} (xs : List α) (lo hi : Option Int) : M.cut xs lo hi = (xs.drop (HT.sIx xs.length 0 lo)).take (HT.sIx xs.length xs.length hi - HT.sIx xs.length 0 lo) := by
  unfold M.cut
  cases lo <;> cases hi <;> rfl
theorem cut_reps {xs : List D} {vs : List V} (h : Reps F Y H xs vs) (lo hi : Option Int) : Reps F Y H (M.cut xs lo hi) (cutV vs lo hi) := by
  rw [cut_eq]
  unfold cutV
  rw [h.length]
  exact (h.drop _).take _
def rSl (K : PySem.W.Frag) : V → Option Int → Option Int → Hp → VK → Prop := fun x lo hi H Q => rSlA K x lo hi H Q ∨ rSlL K x lo hi H Q ∨ rSlS x lo hi H Q
theorem or_sl : SlR X (rSl X.K) := sl_tupA.or (sl_list.or sl_str)
theorem slice_ok (st : Stab F) (s : Sim F B ρ e S σ H) {lo hi : Option Int} (hx : RepV F (Ex B ρ S) H x v) (hf : sliceD x lo hi = some r) (k : Want F B ρ e S σ H r Q) : rSl F.K v lo hi H Q := by
  unfold sliceD at hf
  split at hf
  · rename_i xs
    cases hf
    obtain ⟨a, vs, rfl, h1, h2, h3⟩ := hx.tup
    refine .inl ⟨a, vs, rfl, h1, fun hw => ?_, fun hw p hp => s.newTup st (Nat.le_trans (cutV_length _ _ _) h2) (cut_reps h3 lo hi) k p hp⟩
    refine k.dat s ?_
    rw [Rep]
    refine ⟨a, vs, rfl, h1, h2, ?_⟩
    have hl := h3.length
    have : M.cut xs lo hi = xs := by
      rw [cut_eq, ← hl, hw.1, hw.2, hl]
      simp
    rw [this]; exact h3
  · rename_i xs
    cases hf
    obtain ⟨a, vs, rfl, h1, h2, h3⟩ := hx.lst
    exact .inr (.inl ⟨a, vs, rfl, SqL.of h1, fun p hp => s.newLst st (Nat.le_trans (cutV_length _ _ _) h2) (cut_reps h3 lo hi) k p hp⟩)
  · rename_i z
    split at hf
    · cases hf
      obtain ⟨rfl, h1⟩ := hx.str
      refine .inr (.inr ⟨z, rfl, txtOk_len h1, ?_⟩)
      have e1 : cutS z lo hi = ⟨(M.cut z.cps.toList lo hi).toArray⟩ := by
        rw [cut_eq]; unfold cutS; simp [Str.length]
      rw [e1]
      refine k.str s (txtOk_mk (fun c hc => ?_) ?_)
      · have hc' : c ∈ M.cut z.cps.toList lo hi := by simpa using hc
        rw [cut_eq] at hc'
        exact txtOk_all h1 c (List.mem_of_mem_drop (List.mem_of_mem_take hc'))
      · have := txtOk_len h1
        rw [← LIM_eq] at this
        have h2 : (M.cut z.cps.toList lo hi).length ≤ z.cps.toList.length := by
          rw [cut_eq, List.length_take, List.length_drop]; omega
        show (M.cut z.cps.toList lo hi).toArray.size ≤ LIM
        rw [List.size_toArray]
        exact Nat.le_trans h2 (by simpa [Str.length] using this)
    · cases hf
  · cases hf
theorem te_sliceLo {a b : Expr} {ma mb : ME} {p2 pos : Pos} (st : Stab F) (hK : X.K = F.K) (ha : PE X a (TrE F W ma)) (hb : PE X b (TrE F W mb)) : PE X (.Subscript a (.Slice (some b) none none p2) pos) (TrE F W (mOp opSlLo [ma, mb])) :=
  PE_imp (pe_slice or_sl ha (po_some hb) po_none) fun σ H Q h => by
    refine te_bin (rr := fun x y H2 Q2 => ∃ i, y = .int i ∧ rSl X.K x (some i) none H2 Q2) st ?_ h
    intro B ρ e S σ H x y v w r Q s hx hy hf k
    unfold opSlLo at hf
    split at hf
    · rename_i x' i q
      cases q
      exact ⟨i, hy.int, hK ▸ slice_ok st s hx hf k⟩
    · cases hf
theorem te_sliceHi {a b : Expr} {ma mb : ME} {p2 pos : Pos} (st : Stab F) (hK : X.K = F.K) (ha : PE X a (TrE F W ma)) (hb : PE X b (TrE F W mb)) : PE X (.Subscript a (.Slice none (some b) none p2) pos) (TrE F W (mOp opSlHi [ma, mb])) :=
  PE_imp (pe_slice or_sl ha po_none (po_some hb)) fun σ H Q h => by
    refine te_bin (rr := fun x y H2 Q2 => ∃ i, y = .int i ∧ rSl X.K x none (some i) H2 Q2) st ?_ h
    intro B ρ e S σ H x y v w r Q s hx hy hf k
    unfold opSlHi at hf
    split at hf
    · rename_i x' i q
      cases q
      exact ⟨i, hy.int, hK ▸ slice_ok st s hx hf k⟩
    · cases hf
theorem te_sliceLH {a b c : Expr} {ma mb mc : ME} {p2 pos : Pos} (st : Stab F) (hK : X.K = F.K) (ha : PE X a (TrE F W ma)) (hb : PE X b (TrE F W mb)) (hc : PE X c (TrE F W mc)) : PE X (.Subscript a (.Slice (some b) (some c) none p2) pos) (TrE F W (mSlLH ma mb mc)) :=
  PE_imp (pe_slice or_sl ha (po_some hb) (po_some hc)) fun σ H Q h => by
    obtain ⟨B, ρ, e, S, s, hp⟩ := h
    unfold mSlLH at hp
    refine stepE st s hp (fun c S' q => q) fun r S1 v H1 s1 x1 r1 hp => ?_
    refine stepE st s1 hp (fun c S' q => q.after st addR_le x1) fun r2 S2 w H2 s2 x2 r2' hp => ?_
    split at hp
    · rename_i i
      refine ⟨i, by simpa only [RepR, Rep] using r2', ?_⟩
      refine stepE st s2 hp (fun c S' q => q.after st (fun a z => addR_le a (addR_le a z)) (x1.trans x2)) fun r3 S3 u H3 s3 x3 r3' hp => ?_
      split at hp
      · rename_i j x ev
        refine ⟨j, by simpa only [RepR, Rep] using r3', ?_⟩
        split at hp
        · rename_i q er
          have b1 : ∀ a, B a → addR (addR (addR B r v) (.d (.int i)) w) (.d (.int j)) u a := fun a q => (addR_le (r := r) (v := v) a q)
          have s3' := s3.mono st (B := B) b1
          have k1 := (r1.moveE st s1 x2 addR_le).moveE st s2 x3 (B := B) (fun a q => (addR_le (r := r) (v := v) a q))
          exact hK ▸ slice_ok st s3' (k1.view st s3' (fun _ q => q) ev) er fun v' H' s' x' r' => hp v' H' s' (((x1.trans x2).trans x3).trans x') (r'.since fun a q => x1.none_ (x2.none_ (x3.none_ q)))
        · exact hp.elim
      · exact hp.elim
    · exact hp.elim

/-! ### built-in functions -/
theorem reps_isEmpty {xs : List D} {vs : List V} (h : Reps F Y H xs vs) : vs.isEmpty = xs.isEmpty := by
  have := h.length
  cases xs <;> cases vs <;> simp at this ⊢
/-- f(e), f a built-in of one argument -/
theorem te_call1 {id : String} {y : Str} {f : List D → Option R} {rr : List V → Hp → VK → Prop} {a : Expr} {ma : ME} {pp pos : Pos} (st : Stab F) (hc : CallR X (.builtin id) rr) (ho : Op1 F f (fun v H Q => rr [v] H Q)) (hg : Gl X y) (hm : X.mg y = none) (hv : bootBuiltins y = some (.builtin id))
    (ha : PE X a (TrE F W ma)) (hn : y ≠ "__name__") (hdb : (y == ("__debug__" : Str)) = false) (he : starEach [a] X.env = (false, eval a X.env) :: starEach [] X.env) : PE X (.Call (.Name y pp) [a] [] pos) (TrE F W (mOp f [ma])) :=
  PE_imp (pe_callB hc hg hm hv (pa_cons ha pa_nil he) hn hdb he rfl) fun σ H Q h => te_un st ho h
theorem te_callT1 {id : String} {y : Str} {f : List D → Option R} {rr : List V → Hp → VK → Prop} {a : Expr} {ma : ME} {pp pos : Pos} (st : Stab F) (hc : CallR X (.type id) rr) (ho : Op1 F f (fun v H Q => rr [v] H Q)) (hg : Gl X y) (hm : X.mg y = none) (hv : bootBuiltins y = some (.type id))
    (ha : PE X a (TrE F W ma)) (hn : y ≠ "__name__") (hdb : (y == ("__debug__" : Str)) = false) (he : starEach [a] X.env = (false, eval a X.env) :: starEach [] X.env) : PE X (.Call (.Name y pp) [a] [] pos) (TrE F W (mOp f [ma])) :=
  PE_imp (pe_callTy hc hg hm hv (pa_cons ha pa_nil he) hn hdb he rfl) fun σ H Q h => te_un st ho h
/-- f(e1, e2) -/
theorem te_call2 {id : String} {y : Str} {f : List D → Option R} {rr : List V → Hp → VK → Prop} {a b : Expr} {ma mb : ME} {pp pos : Pos} (st : Stab F) (hc : CallR X (.builtin id) rr) (ho : Op2 F f (fun v w H Q => rr [v, w] H Q)) (hg : Gl X y) (hm : X.mg y = none) (hv : bootBuiltins y = some (.builtin id))
    (ha : PE X a (TrE F W ma)) (hb : PE X b (TrE F W mb)) (hn : y ≠ "__name__") (hdb : (y == ("__debug__" : Str)) = false) (he : starEach [a, b] X.env = (false, eval a X.env) :: starEach [b] X.env) (he2 : starEach [b] X.env = (false, eval b X.env) :: starEach [] X.env) :
    PE X (.Call (.Name y pp) [a, b] [] pos) (TrE F W (mOp f [ma, mb])) :=
  PE_imp (pe_callB hc hg hm hv (pa_cons ha (pa_cons hb pa_nil he2) he) hn hdb he (by rw [he2]; rfl)) fun σ H Q h => te_bin st ho h
/-- len -/
def rLen (K : PySem.W.Frag) : List V → Hp → VK → Prop := fun xs H Q => (∃ p ys, xs = [.ref p] ∧ (SqL K H p ys ∨ SqT K H p ys) ∧ Q (.int ys.length) H) ∨ ∃ z, xs = [.str z] ∧ z.length ≤ sizeLine ∧ Q (.int z.length) H
theorem CallR_or {f : Value} {r r' : List V → Hp → VK → Prop} (h : CallR X f r) (h' : CallR X f r') : CallR X f (fun xs H Q => r xs H Q ∨ r' xs H Q) := by
  intro pins s σ H xs us Q I rv q
  rcases q with q | q
  · exact h pins s σ H xs us Q I rv q
  · exact h' pins s σ H xs us Q I rv q
theorem cr_len : CallR X (.builtin "len") (rLen X.K) := CallR_or call_len_seq call_len_str
theorem op1_len : Op1 F opLen (fun v H Q => rLen F.K [v] H Q) := by
  intro B ρ e S σ H x v r Q s hx hf k
  unfold opLen at hf
  split at hf
  · rename_i xs q
    cases q; cases hf
    obtain ⟨a, vs, rfl, h1, _, h2⟩ := hx.tup
    exact .inl ⟨a, vs, rfl, .inr h1, by rw [h2.length]; exact k.int s⟩
  · rename_i xs q
    cases q; cases hf
    obtain ⟨a, vs, rfl, h1, _, h2⟩ := hx.lst
    exact .inl ⟨a, vs, rfl, .inl (SqL.of h1), by rw [h2.length]; exact k.int s⟩
  · rename_i xs q
    cases q; cases hf
    obtain ⟨a, vs, rfl, h1, _, h2⟩ := hx.rol
    exact .inl ⟨a, vs, rfl, .inl h1, by rw [h2.length]; exact k.int s⟩
  · rename_i z q
    cases q
    split at hf
    · cases hf
      obtain ⟨rfl, h1⟩ := hx.str
      exact .inr ⟨z, rfl, txtOk_len h1, k.int s⟩
    · cases hf
  · cases hf
/-- tuple, list -/
theorem op1_tuple (st : Stab F) : Op1 F opTuple (fun v H Q => ∃ p ys, [v] = [V.ref p] ∧ ((SqL F.K H p ys ∧ ∀ l, H l = none → Q (.ref l) (upd H l (.tup ys))) ∨ (SqT F.K H p ys ∧ Q (.ref p) H))) := by
  intro B ρ e S σ H x v r Q s hx hf k
  unfold opTuple at hf
  split at hf
  · rename_i xs q
    cases q; cases hf
    obtain ⟨a, vs, rfl, h1, h2, h3⟩ := hx.tup
    exact ⟨a, vs, rfl, .inr ⟨h1, k.dat s (by rw [Rep]; exact ⟨a, vs, rfl, h1, h2, h3⟩)⟩⟩
  · rename_i xs q
    cases q; cases hf
    obtain ⟨a, vs, rfl, h1, h2, h3⟩ := hx.lst
    exact ⟨a, vs, rfl, .inl ⟨SqL.of h1, fun l hl => s.newTup st h2 h3 k l hl⟩⟩
  · cases hf
theorem op1_list (st : Stab F) : Op1 F opList (fun v H Q => ∃ p ys, [v] = [V.ref p] ∧ (SqL F.K H p ys ∨ SqT F.K H p ys) ∧ ∀ l, H l = none → Q (.ref l) (upd H l (.lst ys))) := by
  intro B ρ e S σ H x v r Q s hx hf k
  unfold opList at hf
  split at hf
  · rename_i xs q
    cases q; cases hf
    obtain ⟨a, vs, rfl, h1, h2, h3⟩ := hx.tup
    exact ⟨a, vs, rfl, .inr h1, fun l hl => s.newLst st h2 h3 k l hl⟩
  · rename_i xs q
    cases q; cases hf
    obtain ⟨a, vs, rfl, h1, h2, h3⟩ := hx.lst
    exact ⟨a, vs, rfl, .inl (SqL.of h1), fun l hl => s.newLst st h2 h3 k l hl⟩
  · cases hf
theorem op1_int : Op1 F opInt (fun v H Q => (∃ i, [v] = [V.int i] ∧ Q (.int i) H) ∨ ∃ k, [v] = [V.bl k] ∧ Q (.int (if k then 1 else 0)) H) := by
  intro B ρ e S σ H x v r Q s hx hf k
  unfold opInt at hf
  split at hf
  · rename_i i q
    cases q; cases hf
    exact .inl ⟨i, by rw [hx.int], k.int s⟩
  · rename_i b q
    cases q; cases hf
    exact .inr ⟨b, by rw [hx.bl], k.int s⟩
  · cases hf
theorem op2_max2 : Op2 F opMax2 (fun v w H Q => ∃ i j, [v, w] = [V.int i, V.int j] ∧ Q (.int (if j > i then j else i)) H) := by
  intro B ρ e S σ H x y v w r Q s hx hy hf k
  unfold opMax2 at hf
  split at hf
  · rename_i i j q
    cases q; cases hf
    exact ⟨i, j, by rw [hx.int, hy.int], k.int s⟩
  · cases hf
theorem op2_min2 : Op2 F opMin2 (fun v w H Q => ∃ i j, [v, w] = [V.int i, V.int j] ∧ Q (.int (if j < i then j else i)) H) := by
  intro B ρ e S σ H x y v w r Q s hx hy hf k
  unfold opMin2 at hf
  split at hf
  · rename_i i j q
    cases q; cases hf
    exact ⟨i, j, by rw [hx.int, hy.int], k.int s⟩
  · cases hf
theorem boolsOf_reps : ∀ {xs : List D} {bs : List Bool} {vs : List V}, boolsOf xs = some bs → Reps F Y H xs vs → vs = bs.map V.bl
  | [], bs, vs, h, r => by
    rw [Reps] at r; subst r
    simp [boolsOf] at h; subst h; rfl
  | x :: xs, bs, vs, h, r => by
    rw [Reps] at r
    obtain ⟨v, q, rfl, r1, r2⟩ := r
    cases x with
    | bl i =>
      simp only [boolsOf] at h
      cases e1 : boolsOf xs with
      | none => simp [e1] at h
      | some js =>
        simp [e1] at h
        subst h
        rw [boolsOf_reps e1 r2]
        rw [Rep] at r1; subst r1
        rfl
    | _ => simp [boolsOf] at h
theorem op1_all : Op1 F opAll (fun v H Q => rAll F.K [v] H Q) := by
  intro B ρ e S σ H x v r Q s hx hf k
  unfold opAll at hf
  split at hf
  · rename_i xs q
    cases q
    split at hf
    · rename_i bs hb
      cases hf
      obtain ⟨a, vs, rfl, h1, _, h2⟩ := hx.lst
      have := boolsOf_reps hb h2
      subst this
      exact ⟨a, bs, rfl, SqL.of h1, k.bl s⟩
    · cases hf
  · cases hf
theorem op1_any : Op1 F opAny (fun v H Q => rAny F.K [v] H Q) := by
  intro B ρ e S σ H x v r Q s hx hf k
  unfold opAny at hf
  split at hf
  · rename_i xs q
    cases q
    split at hf
    · rename_i bs hb
      cases hf
      obtain ⟨a, vs, rfl, h1, _, h2⟩ := hx.lst
      have := boolsOf_reps hb h2
      subst this
      exact ⟨a, bs, rfl, SqL.of h1, k.bl s⟩
    · cases hf
  · cases hf
theorem op1_sum : Op1 F opSum (fun v H Q => rSum F.K [v] H Q) := by
  intro B ρ e S σ H x v r Q s hx hf k
  unfold opSum at hf
  split at hf
  · rename_i xs q
    cases q
    split at hf
    · rename_i is hb
      cases hf
      obtain ⟨a, vs, rfl, h1, _, h2⟩ := hx.lst
      have := intsOf_reps hb h2
      subst this
      exact ⟨a, is, rfl, SqL.of h1, k.int s⟩
    · cases hf
  · cases hf

/-! ### kinds -/
def kindOf : D → String
  | .non => "NoneType"
  | .bl _ => "bool"
  | .int _ => "int"
  | .str _ => "str"
  | .tup _ => "tuple"
  | .lst _ => "list"
  | .rol _ => "list"
  | .dct _ _ => "dict"
  | _ => ""
def kindsT : List String := ["int", "bool", "str", "tuple", "list", "dict"]
theorem kb_all : (["NoneType", "bool", "int", "str", "tuple", "list", "dict"].all fun a => kindsT.all fun t => decide (kitB a t = some ((a == t) || (a == "bool" && t == "int")))) = true := by decide +kernel
theorem tyX_of (h : RepV F Y H x v) (hk : kindOf x ≠ "") : TyX F.K H v (.type (kindOf x)) := by
  have seqL : ∀ {a : Addr} {vs : List V}, SqL F.K H a vs → TyX F.K H (.ref a) (.type "list") := fun {a vs} q => by
    rcases q with (q | ⟨o, q⟩) | ⟨o, its, n, h1, h2, _⟩
    · exact .base (.lst q)
    · exact .base (.frz q)
    · exact .kList h1 h2
  cases x with
  | non => rw [h.non]; exact .base .non
  | bl b => rw [h.bl]; exact .base (.bl b)
  | int b => rw [h.int]; exact .base (.int b)
  | str b => rw [h.str.1]; exact .base (.str b)
  | tup xs =>
    obtain ⟨a, vs, rfl, q, _⟩ := h.tup
    rcases q with (q | ⟨o, q⟩) | ⟨o, its, n, h1, h2, _⟩
    · exact .base (.tup q)
    · exact .fTuple q
    · exact .kTuple h1 h2
  | lst xs => obtain ⟨a, vs, rfl, q, _⟩ := h.lst; exact .base (.lst q)
  | rol xs => obtain ⟨a, vs, rfl, q, _⟩ := h.rol; exact seqL q
  | dct ks xs =>
    simp only [RepV] at h
    obtain ⟨a, vs, rfl, q, _⟩ := h
    rcases q with ⟨ps, q, _⟩ | ⟨ps, q, _⟩
    · exact .base (.dK q)
    · exact .base (.dT q)
  | fn f => exact absurd rfl hk
  | exc c => exact absurd rfl hk
  | clo k => exact absurd rfl hk
theorem isKind_kb {t : String} {b : Bool} (ht : t ∈ kindsT) (h : isKind t x = some b) : kindOf x ≠ "" ∧ kitB (kindOf x) t = some b := by
  have key : ∀ a ∈ ["NoneType", "bool", "int", "str", "tuple", "list", "dict"], kitB a t = some ((a == t) || (a == "bool" && t == "int")) := fun a ha => by
    have := kb_all
    rw [List.all_eq_true] at this
    have := this a ha
    rw [List.all_eq_true] at this
    exact of_decide_eq_true (this t ht)
  have ks : t = "int" ∨ t = "bool" ∨ t = "str" ∨ t = "tuple" ∨ t = "list" ∨ t = "dict" := by
    simpa [kindsT] using ht
  cases x <;> simp only [isKind, Option.some.injEq, reduceCtorEq] at h <;> subst h <;> refine ⟨by simp [kindOf], ?_⟩ <;> simp only [kindOf] <;> rw [key _ (by simp)] <;> rcases ks with rfl | rfl | rfl | rfl | rfl | rfl <;> rfl
theorem op1_isK {t : String} (ht : t ∈ kindsT) : Op1 F (opIsK t) (fun v H Q => rIsi F.K [v, .ty t] H Q) := by
  intro B ρ e S σ H x v r Q s hx hf k
  unfold opIsK at hf
  simp only at hf
  cases hk : isKind t x with
  | none => rw [hk] at hf; cases hf
  | some b =>
    rw [hk] at hf; cases hf
    obtain ⟨h1, h2⟩ := isKind_kb ht hk
    exact ⟨v, .ty t, .type (kindOf x), .type t, b, rfl, .ty t, tyX_of hx h1, kit_ty h2, k.bl s⟩
theorem te_isK {t : String} {y z : Str} {a : Expr} {ma : ME} {pp p3 pos : Pos} (st : Stab F) (hK : X.K = F.K) (ht : t ∈ kindsT) (hy : y = "isinstance") (hg : Gl X y) (hm : X.mg y = none) (hgz : Gl X z) (hmz : X.mg z = none) (hvz : bootBuiltins z = some (.type t)) (hnz : z ≠ "__name__") (hdz : (z == ("__debug__" : Str)) = false)
    (ha : PE X a (TrE F W ma)) (he : starEach [a, .Name z p3] X.env = (false, eval a X.env) :: starEach [.Name z p3] X.env) : PE X (.Call (.Name y pp) [a, .Name z p3] [] pos) (TrE F W (mOp (opIsK t) [ma])) := by
  subst hy
  have h2 : PE X (.Name z p3) (tC (.ty t)) := pe_bltn hgz hmz hvz rfl hnz hdz
  exact PE_imp (pe_callB (call_isi) hg hm (by decide +kernel) (pa_cons ha (pa_cons h2 pa_nil) he) (by decide) (by decide) he rfl) fun σ H Q h => te_un (rr := fun v H Q => rIsi X.K [v, .ty t] H Q) st (hK ▸ op1_isK ht) h
end
end M

/-! Sound6: tests, and or not, chains. -/
namespace M
open PySem L2
open PySem (Str)
section
variable {F : Fx} {W : WX} {X : Cx} {B B' : Addr → Prop} {ρ ρ' : Nat → Addr} {e : Env} {S S' S1 S2 : Sto} {σ : L2.St} {H H' H0 H1 H2 : Hp} {Y : Addr → Prop} {x : D} {v w : V} {r : R} {p : Addr} {o : HO} {Q : VK} {a b : Expr} {ma mb mc : ME} {pos : Pos} {rest : List Expr}
theorem asB_some {k : Bool} (h : asB r = some k) : r = .d (.bl k) := by
  cases r with
  | d x => cases x <;> simp [asB] at h; subst h; rfl
  | f c => cases h
  | c n => cases h
/-- a test as its value -/
theorem TrB.toE {Q : Bool → Hp → Prop} (h : TrB F W ma σ H Q) : TrE F W ma σ H fun x H' => ∃ k, x = .bl k ∧ Q k H' := by
  obtain ⟨B, ρ, e, S, s, hp⟩ := h
  refine ⟨B, ρ, e, S, s, (PostO.bind (o := ma F.g e S) hp).imp (fun r S1 h v H1 s1 x1 r1 => ?_) fun _ _ q => q⟩
  split at h
  · rename_i k hk
    have := asB_some hk
    subst this
    exact ⟨k, by simpa only [RepR, Rep] using r1, h H1 s1 x1⟩
  · exact h.elim
theorem tb_val (h : PE X a (TrE F W ma)) (he : ∀ whole, isTrue a X.env whole = (do let v ← whole; standAt a.pos; holding [v] (truthy v))) : PT X a (TrB F W ma) :=
  PT_imp (pt_val h he) fun σ H Q hh => hh.toE
theorem tb_not (st : Stab F) (h : PT X a (TrB F W ma)) : PT X (.UnaryOp .Not a pos) (TrB F W (mNot ma)) :=
  PT_imp (pt_not h) fun σ H Q hh => by
    obtain ⟨B, ρ, e, S, s, hp⟩ := hh
    simp only [evB_eq, mNot_eq, O.bind_bind, O.bind_ok, asB_bl] at hp
    rw [← O.bind_bind] at hp
    refine stepB (m := ma) st s hp (fun _ _ q => q) fun b S1 H1 s1 x1 hp => ?_
    exact hp H1 s1 x1
theorem PW_imp {t t' : TT} (h : PW X a t) (i : ∀ σ H Q, t' σ H Q → t σ H Q) : PW X a t' := ⟨fun wh pins s σ H Q I w => h.run wh pins s σ H Q I (i σ H Q w)⟩
theorem tb_and (st : Stab F) (ha : PT X a (TrB F W ma)) (hb : PW X (.BoolOp .And (b :: rest) pos) (TrB F W mb)) : PW X (.BoolOp .And (a :: b :: rest) pos) (TrB F W (mAnd ma mb)) :=
  PW_imp (pw_and ha hb) fun σ H Q hh => by
    obtain ⟨B, ρ, e, S, s, hp⟩ := hh
    have e1 : evB (mAnd ma mb) F.g e S = (evB ma F.g e S).bind fun c S1 => match c with
        | true => evB mb F.g e S1
        | false => .ok false S1 := by
      show ((evB ma F.g e S).bind _).bind _ = _
      rw [O.bind_bind]
      congr 1
      funext c S1
      cases c <;> rfl
    rw [e1] at hp
    refine stepB (m := ma) st s hp (fun _ _ q => q) fun c S1 H1 s1 x1 hp => ?_
    cases c with
    | true =>
      rw [if_pos rfl]
      exact ⟨B, ρ, e, S1, s1, PostO.imp hp (fun b S2 h H2 s2 x2 => h H2 s2 (x1.trans x2)) fun _ _ q => q.after st (fun _ q => q) x1⟩
    | false =>
      rw [if_neg Bool.false_ne_true]
      exact hp H1 s1 x1
theorem tb_or (st : Stab F) (ha : PT X a (TrB F W ma)) (hb : PW X (.BoolOp .Or (b :: rest) pos) (TrB F W mb)) : PW X (.BoolOp .Or (a :: b :: rest) pos) (TrB F W (mOr ma mb)) :=
  PW_imp (pw_or ha hb) fun σ H Q hh => by
    obtain ⟨B, ρ, e, S, s, hp⟩ := hh
    have e1 : evB (mOr ma mb) F.g e S = (evB ma F.g e S).bind fun c S1 => match c with
        | true => .ok true S1
        | false => evB mb F.g e S1 := by
      show ((evB ma F.g e S).bind _).bind _ = _
      rw [O.bind_bind]
      congr 1
      funext c S1
      cases c <;> rfl
    rw [e1] at hp
    refine stepB (m := ma) st s hp (fun _ _ q => q) fun c S1 H1 s1 x1 hp => ?_
    cases c with
    | true =>
      rw [if_pos rfl]
      exact hp H1 s1 x1
    | false =>
      rw [if_neg Bool.false_ne_true]
      exact ⟨B, ρ, e, S1, s1, PostO.imp hp (fun b S2 h H2 s2 x2 => h H2 s2 (x1.trans x2)) fun _ _ q => q.after st (fun _ q => q) x1⟩
theorem tb_cmp {op : CmpOp} {f : List D → Option R} {rr : R2} (st : Stab F) (hr : OpR X (compareOp op) rr) (ho : Op2 F f rr) (hm : behindInMarks op b = false) (ha : PE X a (TrE F W ma)) (hb : PE X b (TrE F W mb)) :
    PT X (.Compare a [op] [b] pos) (TrB F W (mOp f [ma, mb])) := PT_imp (pt_cmpR hr ha hb hm) fun σ H Q h => te_bin st ho h.toE
/-- .. as values -/
theorem te_not (st : Stab F) (h : PE X a (TrE F W ma)) : PE X (.UnaryOp .Not a pos) (TrE F W (mNot ma)) :=
  PE_imp (pe_not h) fun σ H Q hh => by
    obtain ⟨B, ρ, e, S, s, hp⟩ := hh
    unfold mNot evB at hp
    rw [O.bind_bind] at hp
    refine stepE (m := ma) st s hp (fun _ _ q => q) fun r S1 v H1 s1 x1 r1 hp => ?_
    split at hp
    · rename_i k hk
      have := asB_some hk
      subst this
      exact ⟨k, by simpa only [RepR, Rep] using r1, hp _ H1 s1 x1 (by simp only [RepR, Rep])⟩
    · exact hp.elim
theorem te_and (st : Stab F) (ha : PE X a (TrE F W ma)) (hb : PE X (.BoolOp .And (b :: rest) pos) (TrE F W mb)) : PE X (.BoolOp .And (a :: b :: rest) pos) (TrE F W (mAnd ma mb)) :=
  PE_imp (pe_and ha hb) fun σ H Q hh => by
    obtain ⟨B, ρ, e, S, s, hp⟩ := hh
    unfold mAnd evB at hp
    rw [O.bind_bind] at hp
    refine stepE (m := ma) st s hp (fun _ _ q => q) fun r S1 v H1 s1 x1 r1 hp => ?_
    split at hp
    · rename_i k hk
      have := asB_some hk
      subst this
      refine ⟨k, by simpa only [RepR, Rep] using r1, ?_⟩
      cases k with
      | true =>
        rw [if_pos rfl]
        exact ⟨B, ρ, e, S1, s1, PostO.imp hp (fun r S2 h v H2 s2 x2 r2 => h v H2 s2 (x1.trans x2) (r2.since fun a q => x1.none_ q)) fun _ _ q => q.after st (fun _ q => q) x1⟩
      | false =>
        rw [if_neg Bool.false_ne_true]
        exact hp _ H1 s1 x1 (by simp only [RepR, Rep])
    · exact hp.elim
theorem te_or (st : Stab F) (ha : PE X a (TrE F W ma)) (hb : PE X (.BoolOp .Or (b :: rest) pos) (TrE F W mb)) : PE X (.BoolOp .Or (a :: b :: rest) pos) (TrE F W (mOr ma mb)) :=
  PE_imp (pe_or ha hb) fun σ H Q hh => by
    obtain ⟨B, ρ, e, S, s, hp⟩ := hh
    unfold mOr evB at hp
    rw [O.bind_bind] at hp
    refine stepE (m := ma) st s hp (fun _ _ q => q) fun r S1 v H1 s1 x1 r1 hp => ?_
    split at hp
    · rename_i k hk
      have := asB_some hk
      subst this
      refine ⟨k, by simpa only [RepR, Rep] using r1, ?_⟩
      cases k with
      | true =>
        rw [if_pos rfl]
        exact hp _ H1 s1 x1 (by simp only [RepR, Rep])
      | false =>
        rw [if_neg Bool.false_ne_true]
        exact ⟨B, ρ, e, S1, s1, PostO.imp hp (fun r S2 h v H2 s2 x2 r2 => h v H2 s2 (x1.trans x2) (r2.since fun a q => x1.none_ q)) fun _ _ q => q.after st (fun _ q => q) x1⟩
    · exact hp.elim
theorem te_ifE {c : Expr} (st : Stab F) (hc : PT X c (TrB F W mc)) (ha : PE X a (TrE F W ma)) (hb : PE X b (TrE F W mb)) : PE X (.IfExp c a b pos) (TrE F W (mIfE mc ma mb)) :=
  PE_imp (pe_ifExp hc ha hb) fun σ H Q hh => by
    obtain ⟨B, ρ, e, S, s, hp⟩ := hh
    refine stepB (m := mc) st s hp (fun _ _ q => q) fun k S1 H1 s1 x1 hp => ?_
    cases k with
    | true =>
      rw [if_pos rfl]
      exact ⟨B, ρ, e, S1, s1, PostO.imp hp (fun r S2 h v H2 s2 x2 r2 => h v H2 s2 (x1.trans x2) (r2.since fun a q => x1.none_ q)) fun _ _ q => q.after st (fun _ q => q) x1⟩
    | false =>
      rw [if_neg Bool.false_ne_true]
      exact ⟨B, ρ, e, S1, s1, PostO.imp hp (fun r S2 h v H2 s2 x2 r2 => h v H2 s2 (x1.trans x2) (r2.since fun a q => x1.none_ q)) fun _ _ q => q.after st (fun _ q => q) x1⟩
/-- a op b op' c -/
theorem te_chain_ok {f f' : List D → Option R} {rr rr' : R2} (st : Stab F) (ho : Op2 F f rr) (ho' : Op2 F f' rr') {Q : VK} (h : TrE F W (mChain f f' ma mb mc) σ H Q) : tChain rr rr' (TrE F W ma) (TrE F W mb) (TrE F W mc) σ H Q := by
  obtain ⟨B, ρ, e, S, s, hp⟩ := h
  refine stepE (m := ma) st s hp (fun _ _ q => q) fun r S1 v H1 s1 x1 r1 hp => ?_
  refine stepE (m := mb) st s1 hp (fun c S' q => q.after st addR_le x1) fun r2 S2 w H2 s2 x2 r2' hp => ?_
  have b2 : ∀ a, B a → addR (addR B r v) r2 w a := fun a q => addR_le a (addR_le a q)
  have s2' := s2.mono st (B := B) b2
  have k1 := (r1.moveE st s1 x2 addR_le)
  have k2 := (r2'.mono st (B := B) addR_le)
  split at hp
  · rename_i x y e1 e2
    split at hp
    · rename_i ef
      refine ho B ρ e S2 σ H2 x y v w _ _ s2' (k1.view st s2' (fun _ q => q) e1) (k2.view st s2' (fun _ q => q) e2) ef fun z H3 s3 x3 r3 => ⟨true, by simpa only [RepR, Rep] using r3, ?_⟩
      rw [if_pos rfl]
      refine stepE (m := mc) st s3 hp (fun c S' q => q.after st (fun _ q => q) ((x1.trans x2).trans x3)) fun r4 S4 u H4 s4 x4 r4' hp => ?_
      split at hp
      · rename_i y' z' e3 e4
        split at hp
        · rename_i q ef'
          have s4' := s4.mono st (B := B) addR_le
          have k2' := (k2.moveE st s2' x3 (fun _ q => q)).moveE st s3 x4 (fun _ q => q)
          exact ho' B ρ e S4 σ H4 y' z' w u q Q s4' (k2'.view st s4' (fun _ q => q) e3) (r4'.view st s4' (fun _ q => q) e4) ef' fun v' H' s' x' r' =>
            hp v' H' s' ((((x1.trans x2).trans x3).trans x4).trans x') (r'.since fun a q => x1.none_ (x2.none_ (x3.none_ (x4.none_ q))))
        · exact hp.elim
      · exact hp.elim
    · rename_i ef
      refine ho B ρ e S2 σ H2 x y v w _ _ s2' (k1.view st s2' (fun _ q => q) e1) (k2.view st s2' (fun _ q => q) e2) ef fun z H3 s3 x3 r3 => ⟨false, by simpa only [RepR, Rep] using r3, ?_⟩
      rw [if_neg Bool.false_ne_true]
      exact hp _ H3 s3 ((x1.trans x2).trans x3) (by simp only [RepR, Rep])
    · exact hp.elim
  · exact hp.elim
theorem te_chain {op op' : CmpOp} {f f' : List D → Option R} {rr rr' : R2} {c : Expr} (st : Stab F) (hr : OpR X (compareOp op) rr) (hr' : OpR X (compareOp op') rr') (ho : Op2 F f rr) (ho' : Op2 F f' rr') (ha : PE X a (TrE F W ma)) (hb : PE X b (TrE F W mb)) (hc : PE X c (TrE F W mc)) (hm : lastMarks [op, op'] [b, c] = false) :
    PE X (.Compare a [op, op'] [b, c] pos) (TrE F W (mChain f f' ma mb mc)) := PE_imp (pe_chain hr hr' ha hb hc hm) fun σ H Q h => te_chain_ok st ho ho' h
theorem tb_chain {op op' : CmpOp} {f f' : List D → Option R} {rr rr' : R2} {c : Expr} (st : Stab F) (hr : OpR X (compareOp op) rr) (hr' : OpR X (compareOp op') rr') (ho : Op2 F f rr) (ho' : Op2 F f' rr') (ha : PE X a (TrE F W ma)) (hb : PE X b (TrE F W mb)) (hc : PE X c (TrE F W mc)) (hm : lastMarks [op, op'] [b, c] = false) :
    PT X (.Compare a [op, op'] [b, c] pos) (TrB F W (mChain f f' ma mb mc)) := PT_imp (pt_chain hr hr' ha hb hc hm) fun σ H Q h => te_chain_ok st ho ho' h.toE
end
end M

/-! Sound7: what is walked, comprehensions. -/
namespace M
open PySem L2
open PySem (Str)
/-- an iterator has come: what it will give -/
structure WK (F : Fx) (B B' : Addr → Prop) (ρ : Nat → Addr) (e : M.Env) (σ : L2.St) (S : Sto) (H : Hp) (I : M.It) (S' : Sto) (J : L2.It) (H' : Hp) : Prop where
  sim : Sim F B' ρ e S' σ H'
  ext : ExtE ρ S H S' H'
  walk : ∃ (G : Hp → Prop) (Yl : Nat → Hp → V → Hp → Prop), Walk J I.xs.length G Yl ∧ (∀ ρ1 S1 H1, Ext F.n0 ρ S' H' ρ1 S1 H1 → G H1) ∧
    ∀ ρ1 e1 S1 σ1 H1 B1 i x v H2, Sim F B1 ρ1 e1 S1 σ1 H1 → (∀ a, B1 a → B' a ∨ Nw H' a) → Ext F.n0 ρ S' H' ρ1 S1 H1 → I.xs[i]? = some x → Yl i H1 v H2 → Sim F B1 ρ1 e1 S1 σ1 H2 ∧ ExtE ρ1 S1 H1 S1 H2 ∧ Rep F (Ex B1 ρ1 S1) H2 x v
  sz : I.xs.length ≤ LIM
  fz : match I.fz with
    | none => B' = B
    | some (n, c) => (∀ a, B' a ↔ B a ∨ a = ρ n) ∧ n < S.length ∧ cellOf S' n = none ∧ cellOf S n ≠ none ∧ CellAt F (Ex B' ρ S') H' (ρ n) c
def TrI (F : Fx) (W : WX) (it : MI) : TI := fun σ H R => ∃ B ρ e S, Sim F B ρ e S σ H ∧
  PostO (it F.g e S) (fun I S' => ∀ B' J H', WK F B B' ρ e σ S H I S' J H' → R J H') (XP F W B ρ e σ S H)
section
variable {F : Fx} {W : WX} {X : Cx} {B B' : Addr → Prop} {ρ ρ' : Nat → Addr} {e e' : M.Env} {S S' S1 S2 : Sto} {σ σ' : L2.St} {H H' H0 H1 H2 : Hp} {Y : Addr → Prop} {x : D} {v w : V} {r : R} {p : Addr} {o : HO} {Q : VK} {a b : Expr} {ma mb mc : ME} {pos : Pos} {rest : List Expr} {tg : Expr}
theorem PI_imp {it : Expr} {t t' : TI} (h : PI X tg it t) (i : ∀ σ H R, t' σ H R → t σ H R) : PI X tg it t' := ⟨fun pins s σ H R I w => h.run pins s σ H R I (i σ H R w)⟩
theorem PI_or {it : Expr} {t t' : TI} (h : PI X tg it t) (h' : PI X tg it t') : PI X tg it (fun σ H R => t σ H R ∨ t' σ H R) := ⟨fun pins s σ H R I w => w.elim (h.run pins s σ H R I) (h'.run pins s σ H R I)⟩
/-- data over what a statement does -/
theorem Sim.repX (st : Stab F) (s : Sim F B' ρ e S σ H) {n0 : Nat} (x2 : Ext n0 ρ S H ρ' S' H') {B1 : Addr → Prop} (hb : ∀ a, B1 a → B a ∨ Nw H a) {x : D} {v : V} (h : Rep F (Ex B ρ S) H x v) : Rep F (Ex B1 ρ' S') H' x v := by
  refine Rep.move st (s.keeps x2) (fun a o t n q => ⟨x2.fr a o (fun m hm z => n (.inr ⟨m, hm, z⟩)) t q, ?_⟩) h
  rintro (z | ⟨m, hm, z⟩)
  · rcases hb a z with z | z
    · exact n (.inl z)
    · exact z.no q t
  · rcases x2.live m hm with ⟨q1, q2⟩ | ⟨_, q2⟩
    · exact n (.inr ⟨m, q1, by rw [← q2]; exact z⟩)
    · exact (z ▸ q2).no q t
theorem Sim.repsX (st : Stab F) (s : Sim F B' ρ e S σ H) {n0 : Nat} (x2 : Ext n0 ρ S H ρ' S' H') {B1 : Addr → Prop} (hb : ∀ a, B1 a → B a ∨ Nw H a) {xs : List D} {vs : List V} (h : Reps F (Ex B ρ S) H xs vs) : Reps F (Ex B1 ρ' S') H' xs vs := by
  refine Reps.move st (s.keeps x2) (fun a o t n q => ⟨x2.fr a o (fun m hm z => n (.inr ⟨m, hm, z⟩)) t q, ?_⟩) h
  rintro (z | ⟨m, hm, z⟩)
  · rcases hb a z with z | z
    · exact n (.inl z)
    · exact z.no q t
  · rcases x2.live m hm with ⟨q1, q2⟩ | ⟨_, q2⟩
    · exact n (.inr ⟨m, q1, by rw [← q2]; exact z⟩)
    · exact (z ▸ q2).no q t
theorem notLive {ad : Addr} (h : ¬ Ex B ρ S ad) : ∀ n, cellOf S n ≠ none → ρ n ≠ ad := fun n hn z => h (.inr ⟨n, hn, z⟩)
/-- a list that stands -/
theorem walk_lst (st : Stab F) (s : Sim F B' ρ e S' σ H') {ad : Addr} {xs : List D} {vs : List V} (h1 : H' ad = some (.lst vs)) (hn : ∀ n, cellOf S' n ≠ none → ρ n ≠ ad) (h2 : Reps F (Ex B' ρ S') H' xs vs) :
    ∃ (G : Hp → Prop) (Yl : Nat → Hp → V → Hp → Prop), Walk (Itl F.K ad) xs.length G Yl ∧ (∀ ρ1 S1 H1, Ext F.n0 ρ S' H' ρ1 S1 H1 → G H1) ∧
    ∀ ρ1 e1 S1 σ1 H1 B1 i x v H2, Sim F B1 ρ1 e1 S1 σ1 H1 → (∀ a, B1 a → B' a ∨ Nw H' a) → Ext F.n0 ρ S' H' ρ1 S1 H1 → xs[i]? = some x → Yl i H1 v H2 → Sim F B1 ρ1 e1 S1 σ1 H2 ∧ ExtE ρ1 S1 H1 S1 H2 ∧ Rep F (Ex B1 ρ1 S1) H2 x v := by
  refine ⟨fun H1 => SqL F.K H1 ad vs, YAt vs, by rw [← h2.length]; exact walk_list, fun ρ1 S1 H1 x1 => SqL.of (x1.fr ad _ hn (fun _ z => by cases z) h1), fun ρ1 e1 S1 σ1 H1 B1 i x v H2 s1 hb x1 hx y => ?_⟩
  obtain ⟨rfl, hv⟩ := y
  refine ⟨s1, ExtE.refl, ?_⟩
  obtain ⟨w, hw, hr⟩ := (s.repsX st x1 hb h2).get hx
  rw [hv] at hw; cases hw
  exact hr
theorem walk_tpl (st : Stab F) (s : Sim F B' ρ e S' σ H') {ad : Addr} {xs : List D} {vs : List V} (h1 : SqT F.K H' ad vs) (h2 : Reps F (Ex B' ρ S') H' xs vs) :
    ∃ (G : Hp → Prop) (Yl : Nat → Hp → V → Hp → Prop), Walk (Itt F.K ad) xs.length G Yl ∧ (∀ ρ1 S1 H1, Ext F.n0 ρ S' H' ρ1 S1 H1 → G H1) ∧
    ∀ ρ1 e1 S1 σ1 H1 B1 i x v H2, Sim F B1 ρ1 e1 S1 σ1 H1 → (∀ a, B1 a → B' a ∨ Nw H' a) → Ext F.n0 ρ S' H' ρ1 S1 H1 → xs[i]? = some x → Yl i H1 v H2 → Sim F B1 ρ1 e1 S1 σ1 H2 ∧ ExtE ρ1 S1 H1 S1 H2 ∧ Rep F (Ex B1 ρ1 S1) H2 x v := by
  refine ⟨fun H1 => SqT F.K H1 ad vs, YAt vs, by rw [← h2.length]; exact walk_tup, fun ρ1 S1 H1 x1 => SqT.keeps h1 (s.keeps x1), fun ρ1 e1 S1 σ1 H1 B1 i x v H2 s1 hb x1 hx y => ?_⟩
  obtain ⟨rfl, hv⟩ := y
  refine ⟨s1, ExtE.refl, ?_⟩
  obtain ⟨w, hw, hr⟩ := (s.repsX st x1 hb h2).get hx
  rw [hv] at hw; cases hw
  exact hr
/-- a new pair comes -/
theorem pair_new (st : Stab F) (s : Sim F B ρ e S σ H) {T : Addr} (hT : H T = none) {x y : D} {v w : V} (hx : Rep F (Ex B ρ S) H x v) (hy : Rep F (Ex B ρ S) H y w) :
    Sim F B ρ e S σ (upd H T (.tup [v, w])) ∧ ExtE ρ S H S (upd H T (.tup [v, w])) ∧ Rep F (Ex B ρ S) (upd H T (.tup [v, w])) (.tup [x, y]) (.ref T) := by
  refine ⟨(s.alloc st hT).mono st fun a q => .inl q, ExtE.alloc hT, ?_⟩
  rw [Rep]
  exact ⟨T, [v, w], rfl, SqT.of upd_same, (by show 2 ≤ LIM; decide), reps_alloc st hT (.cons hx (.cons hy .nil)) fun a q => .inl q⟩
theorem walk_zipT {K : PySem.W.Frag} {ad bd : Addr} {xs ys : List V} : Walk (RZ.ItzT K ad bd) (min xs.length ys.length) (fun H => SqT K H ad xs ∧ SqT K H bd ys) (YPair (fun i => xs[i]?) (fun i => ys[i]?)) := by
  refine ⟨fun i _ hi q => ?_, fun _ q => ⟨xs, ys, q.1, q.2, by omega⟩, fun i H v H' _ q y => ?_⟩
  · have h1 : i < xs.length := by omega
    have h2 : i < ys.length := by omega
    exact ⟨xs, ys, xs[i], ys[i], q.1, q.2, by simp [h1], by simp [h2]⟩
  · obtain ⟨T, x, z, h1, h2, h3, h4, h5⟩ := y
    exact ⟨T, x, z, h1, h2, h3, h4 xs q.1, h5 ys q.2⟩
/-- the items of two sequences, in new pairs -/
theorem walk_pairs (st : Stab F) (s : Sim F B' ρ e S' σ H') {J : L2.It} {G : Hp → Prop} {xs ys : List D} {vs ws : List V} (hw : Walk J (min vs.length ws.length) G (YPair (fun i => vs[i]?) (fun i => ws[i]?)))
    (hG : ∀ ρ1 S1 H1, Ext F.n0 ρ S' H' ρ1 S1 H1 → G H1) (h1 : Reps F (Ex B' ρ S') H' xs vs) (h2 : Reps F (Ex B' ρ S') H' ys ws) :
    ∃ (G : Hp → Prop) (Yl : Nat → Hp → V → Hp → Prop), Walk J (zipD xs ys).length G Yl ∧ (∀ ρ1 S1 H1, Ext F.n0 ρ S' H' ρ1 S1 H1 → G H1) ∧
    ∀ ρ1 e1 S1 σ1 H1 B1 i x v H2, Sim F B1 ρ1 e1 S1 σ1 H1 → (∀ a, B1 a → B' a ∨ Nw H' a) → Ext F.n0 ρ S' H' ρ1 S1 H1 → (zipD xs ys)[i]? = some x → Yl i H1 v H2 → Sim F B1 ρ1 e1 S1 σ1 H2 ∧ ExtE ρ1 S1 H1 S1 H2 ∧ Rep F (Ex B1 ρ1 S1) H2 x v := by
  have hl : (zipD xs ys).length = min vs.length ws.length := by simp [zipD, h1.length, h2.length]
  refine ⟨G, _, by rw [hl]; exact hw, hG, fun ρ1 e1 S1 σ1 H1 B1 i x v H2 s1 hb x1 hx y => ?_⟩
  obtain ⟨T, u, z, rfl, hT, rfl, hu, hz⟩ := y
  obtain ⟨x', hx', hr1⟩ := (s.repsX st x1 hb h1).getV hu
  obtain ⟨y', hy', hr2⟩ := (s.repsX st x1 hb h2).getV hz
  have e1 : x = .tup [x', y'] := by
    unfold zipD at hx
    rw [List.getElem?_map] at hx
    have : (xs.zip ys)[i]? = some (x', y') := by
      rw [List.getElem?_zip_eq_some]
      exact ⟨hx', hy'⟩
    rw [this] at hx
    cases hx; rfl
  subst e1
  exact pair_new st s1 hT hr1 hr2
/-- a result that is walked: a cell is closed -/
theorem itOf_ok (st : Stab F) (s : Sim F (addR B r v) ρ e S1 σ H1) (x1 : ExtE ρ S H S1 H1) (r1 : RepR F B ρ S1 H0 H1 r v) {xs : List D} {fz : Option (Nat × C)} (hi : itOf r S1 = some (xs, fz)) :
    ∃ B' a vs, v = .ref a ∧ (if isTup r then SqT F.K H1 a vs else H1 a = some (.lst vs) ∧ ∀ n, cellOf (shut fz S1) n ≠ none → ρ n ≠ a) ∧ Reps F (Ex B' ρ (shut fz S1)) H1 xs vs ∧ vs.length ≤ LIM ∧
      Sim F B' ρ e (shut fz S1) σ H1 ∧ ExtE ρ S H (shut fz S1) H1 ∧ (∀ a, B a → B' a) ∧
      match fz with
        | none => B' = B
        | some (n, c) => (∀ a, B' a ↔ B a ∨ a = ρ n) ∧ n < S.length ∧ cellOf (S1.set n none) n = none ∧ cellOf S n ≠ none ∧ CellAt F (Ex B' ρ (S1.set n none)) H1 (ρ n) c := by
  cases r with
  | d y =>
    cases y with
    | tup ys =>
      simp only [itOf, Option.some.injEq, Prod.mk.injEq] at hi
      obtain ⟨rfl, rfl⟩ := hi
      obtain ⟨a, vs, rfl, h1, h2, h3⟩ := (Rep.toV r1 : RepV F _ _ _ _).tup
      exact ⟨B, a, vs, rfl, h1, h3, h2, s, x1, fun _ q => q, rfl⟩
    | lst ys =>
      simp only [itOf, Option.some.injEq, Prod.mk.injEq] at hi
      obtain ⟨rfl, rfl⟩ := hi
      have r1' : Rep F (Ex B ρ S1) H1 (.lst ys) v := r1
      rw [Rep] at r1'
      obtain ⟨a, vs, rfl, h1, hn, h2, h3⟩ := r1'
      exact ⟨B, a, vs, rfl, ⟨h1, notLive hn⟩, h3, h2, s, x1, fun _ q => q, rfl⟩
    | _ => simp [itOf] at hi
  | f c =>
    cases c with
    | l ys =>
      simp only [itOf, Option.some.injEq, Prod.mk.injEq] at hi
      obtain ⟨rfl, rfl⟩ := hi
      obtain ⟨a, rfl, h0, hn, vs, h1, h2, h3⟩ := r1
      refine ⟨B, a, vs, rfl, ⟨h1, notLive hn⟩, ?_, h2, s.mono st addR_le, x1, fun _ q => q, rfl⟩
      exact h3.mono st (Ex.mono fun b z => .inl z)
    | k ks ys => simp [itOf] at hi
  | c n =>
    simp only [itOf] at hi
    split at hi
    · rename_i ys hc
      simp only [Option.some.injEq, Prod.mk.injEq] at hi
      obtain ⟨rfl, rfl⟩ := hi
      obtain ⟨h1, h2⟩ := r1
      have hv := h2 (by rw [hc]; simp)
      have s : Sim F B ρ e S1 σ H1 := s
      obtain ⟨vs, h3, h4, h5⟩ := s.cell n _ hc
      have lv : ∀ m, cellOf (S1.set n none) m ≠ none → cellOf S1 m ≠ none := fun m q => (cellOf_kill q).1
      have hex : ∀ a, Ex (fun a => B a ∨ a = ρ n) ρ (S1.set n none) a → Ex B ρ S1 a := by
        rintro a ((z | z) | ⟨m, hm, z⟩)
        · exact .inl z
        · exact .inr ⟨n, by rw [hc]; simp, z.symm⟩
        · exact .inr ⟨m, lv m hm, z⟩
      have hk := s.killed hc
      have sk := s.kill st (n := n)
      refine ⟨fun a => B a ∨ a = ρ n, ρ n, vs, hv, ⟨h3, fun m hm z => hk (.inr ⟨m, hm, z⟩)⟩, h5.mono st hex, h4, ?_, x1.trans ExtE.kill, fun a q => .inl q, fun a => Iff.rfl, by rw [← x1.len]; exact h1, ?_, x1.live n (by rw [hc]; simp), ⟨vs, h3, h4, h5.mono st hex⟩⟩
      · refine ⟨sk.len, fun i x q => ?_, sk.slotC, fun m c q => ?_, sk.inj, fun m q z => ?_, fun a q => ?_, sk.uq, sk.tb⟩
        · obtain ⟨u, q1, q2⟩ := s.slot i x q
          exact ⟨u, q1, q2.mono st hex⟩
        · have q : cellOf (S1.set n none) m = some c := q
          have hm := cellOf_kill (S := S1) (n := n) (m := m) (by rw [q]; simp)
          rw [cellOf_set, if_neg fun z => hm.2 z.1] at q
          exact (s.cell m c q).move st (fun _ q => q) (fun _ _ _ q => q) fun a o _ n' q => ⟨q, fun y => n' (hex a y)⟩
        · rcases z with z | z
          · exact sk.nb m q z
          · exact hk (.inr ⟨m, q, z⟩)
        · rcases q with q | q
          · exact s.bt a q
          · subst q; exact fun w => w.no h3 (fun _ z => by cases z)
      · rw [cellOf_set, if_pos ⟨rfl, h1⟩]
    · cases hi
end
end M

/-! Sound8: the walked things' rules, comprehensions. -/
namespace M
open PySem L2
open PySem (Str)
section
variable {F : Fx} {W : WX} {X : Cx} {B B' : Addr → Prop} {ρ ρ' : Nat → Addr} {e e' : M.Env} {S S' S1 S2 : Sto} {σ σ' : L2.St} {H H' H0 H1 H2 : Hp} {Y : Addr → Prop} {x : D} {v w : V} {r : R} {p : Addr} {o : HO} {Q : VK} {a b : Expr} {ma mb mc : ME} {pos : Pos} {rest : List Expr} {tg : Expr}
/-! ### a sequence, a text -/
theorem wk_seq (st : Stab F) (s1 : Sim F (addR B r v) ρ e S1 σ H1) (x1 : ExtE ρ S H S1 H1) (r1 : RepR F B ρ S1 H0 H1 r v) {xs : List D} {fz : Option (Nat × C)} (hi : itOf r S1 = some (xs, fz)) {R : L2.It → Hp → Prop}
    (k : ∀ B' J H', WK F B B' ρ e σ S H ⟨xs, fz⟩ (shut fz S1) J H' → R J H') : if isTup r then ∃ ad, v = .ref ad ∧ (∃ vs, SqT F.K H1 ad vs) ∧ R (Itt F.K ad) H1 else ∃ ad, v = .ref ad ∧ (∃ vs, SqL F.K H1 ad vs) ∧ R (Itl F.K ad) H1 := by
  obtain ⟨B', ad, vs, rfl, h1, h2, hsz, s2, x2, hb, hz⟩ := itOf_ok st s1 x1 r1 hi
  have hz' : match (⟨xs, fz⟩ : M.It).fz with
    | none => B' = B
    | some (n, c) => (∀ a, B' a ↔ B a ∨ a = ρ n) ∧ n < S.length ∧ cellOf (shut fz S1) n = none ∧ cellOf S n ≠ none ∧ CellAt F (Ex B' ρ (shut fz S1)) H1 (ρ n) c := by
    cases fz with
    | none => exact hz
    | some q => obtain ⟨n, c⟩ := q; exact hz
  split
  · rename_i ht
    rw [if_pos ht] at h1
    exact ⟨ad, rfl, ⟨vs, h1⟩, k B' _ _ ⟨s2, x2, walk_tpl st s2 h1 h2, by rw [← h2.length]; exact hsz, hz'⟩⟩
  · rename_i ht
    rw [if_neg ht] at h1
    exact ⟨ad, rfl, ⟨vs, SqL.of h1.1⟩, k B' _ _ ⟨s2, x2, walk_lst st s2 h1.1 h1.2 h2, by rw [← h2.length]; exact hsz, hz'⟩⟩
theorem ti_seq (st : Stab F) (hK : X.K = F.K) (ha : PE X a (TrE F W ma)) : PI X tg a (TrI F W (miSeq ma)) := by
  refine PI_imp (PI_or (pi_list ha) (PI_or (pi_tup ha) (pi_str ha))) fun σ H R h => ?_
  obtain ⟨B, ρ, e, S, s, hp⟩ := h
  unfold miSeq at hp
  cases hm : ma F.g e S with
  | no => rw [hm] at hp; exact hp.elim
  | ex c S1 => rw [hm] at hp; exact .inl ⟨B, ρ, e, S, s, by rw [hm]; exact hp⟩
  | ok r S1 =>
    rw [hm, O.bind_ok] at hp
    split at hp
    · rename_i z
      refine .inr (.inr ⟨B, ρ, e, S, s, ?_⟩)
      rw [hm]
      intro v H1 s1 x1 r1
      obtain ⟨rfl, hz⟩ := (Rep.toV r1 : RepV F _ _ _ _).str
      refine ⟨z, rfl, hp B _ _ ⟨s1, x1, ⟨fun _ => True, _, by have := walk_str (z := z); rw [show (chars z).length = z.cps.size by simp [chars]]; exact this, fun _ _ _ _ => trivial, fun ρ1 e1 S1 σ1 H1 B1 i x v H2 s1 hb x1 hx y => ?_⟩, by show (chars z).length ≤ LIM; rw [show (chars z).length = z.cps.size by simp [chars]]; rw [LIM_eq]; exact txtOk_len hz, rfl⟩⟩
      obtain ⟨rfl, c, hc, rfl⟩ := y
      refine ⟨s1, ExtE.refl, ?_⟩
      have hc2 : z.cps.toList[i]? = some c := by simpa using hc
      have hx2 : x = .str ⟨#[c]⟩ := by
        simp only [chars, List.getElem?_map, hc2, Option.map_some, Option.some.injEq] at hx
        exact hx.symm
      subst hx2
      rw [Rep]
      refine ⟨rfl, txtOk_mk (fun c' hc' => ?_) (show 1 ≤ LIM by decide)⟩
      have : c' = c := by simpa using hc'
      subst this
      exact txtOk_all hz _ (List.mem_of_getElem? hc2)
    · split at hp
      · rename_i xs fz hi
        by_cases ht : isTup r
        · refine .inr (.inl ⟨B, ρ, e, S, s, ?_⟩)
          rw [hm]
          intro v H1 s1 x1 r1
          have := wk_seq st s1 x1 r1 hi hp
          rw [if_pos ht] at this
          exact hK ▸ this
        · refine .inl ⟨B, ρ, e, S, s, ?_⟩
          rw [hm]
          intro v H1 s1 x1 r1
          have := wk_seq st s1 x1 r1 hi hp
          rw [if_neg ht] at this
          exact hK ▸ this
      · exact hp.elim
/-! ### ranges -/
theorem okR_of {i : Int} (h : okR i = true) : -(2 ^ 62) ≤ i ∧ i < 2 ^ 62 := by
  unfold okR at h
  simpa using h
theorem rangeD_len (a b : Int) : (rangeD a b).length = (b - a).toNat := by simp [rangeD]
theorem wk_range (s1 : Sim F B ρ e S1 σ H1) (x1 : ExtE ρ S H S1 H1) (a b : Int) (hL : (b - a).toNat ≤ LIM) : WK F B B ρ e σ S H ⟨rangeD a b, none⟩ S1 (Itr a (b - a).toNat) H1 := by
  refine ⟨s1, x1, ⟨fun _ => True, _, by rw [rangeD_len]; exact walk_range, fun _ _ _ _ => trivial, fun ρ1 e1 S1 σ1 H1 B1 i x v H2 s1 hb x1 hx y => ?_⟩, by show (rangeD a b).length ≤ LIM; rw [rangeD_len]; exact hL, rfl⟩
  obtain ⟨rfl, rfl⟩ := y
  refine ⟨s1, ExtE.refl, ?_⟩
  have hx2 : x = .int (a + i) := by
    unfold rangeD at hx
    rw [List.getElem?_map] at hx
    by_cases hi : i < (b - a).toNat
    · rw [List.getElem?_range hi] at hx
      simpa using hx.symm
    · rw [List.getElem?_eq_none (by simpa using hi)] at hx; cases hx
  subst hx2
  rw [Rep]
theorem ti_range1 {pp : Pos} (st : Stab F) (hg : Gl X "range") (hm : X.mg "range" = none) (ha : PE X a (TrE F W ma)) (hs : starEach [a] X.env = (false, eval a X.env) :: starEach [] X.env) : PI X tg (.Call (.Name "range" pp) [a] [] pos) (TrI F W (miRange1 ma)) :=
  PI_imp (pi_range1 hg hm (pa_cons ha pa_nil hs) hs) fun σ H R h => by
    obtain ⟨B, ρ, e, S, s, hp⟩ := h
    refine stepE (m := ma) st s hp (fun _ _ q => q) fun r S1 v H1 s1 x1 r1 hp => ?_
    split at hp
    · rename_i n
      split at hp
      · rename_i hc
        have hk := okR_of hc.1
        refine ⟨n, by rw [show v = V.int n by simpa only [RepR, Rep] using r1], hk.1, hk.2, ?_⟩
        have := wk_range (B := B) (S := S) (H := H) s1 x1 0 n (by rw [Int.sub_zero]; exact hc.2)
        rw [Int.sub_zero] at this
        exact hp B _ _ this
      · exact hp.elim
    · exact hp.elim
theorem ti_range2 {pp : Pos} (st : Stab F) (hg : Gl X "range") (hm : X.mg "range" = none) (ha : PE X a (TrE F W ma)) (hb : PE X b (TrE F W mb)) (hs : starEach [a, b] X.env = (false, eval a X.env) :: starEach [b] X.env) (hs2 : starEach [b] X.env = (false, eval b X.env) :: starEach [] X.env) :
    PI X tg (.Call (.Name "range" pp) [a, b] [] pos) (TrI F W (miRange2 ma mb)) :=
  PI_imp (pi_range2 hg hm (pa_cons ha (pa_cons hb pa_nil hs2) hs) (by rw [hs, hs2]; rfl) hs2) fun σ H R h => by
    obtain ⟨B, ρ, e, S, s, hp⟩ := h
    refine stepE (m := ma) st s hp (fun _ _ q => q) fun r S1 v H1 s1 x1 r1 hq => ?_
    refine stepE (m := mb) st s1 hq (fun c S' q => q.after st addR_le x1) fun r2 S2 w H2 s2 x2 r2' hp => ?_
    split at hp
    · rename_i i j
      split at hp
      · rename_i hc
        have hk := okR_of hc.1
        have hk2 := okR_of hc.2.1
        refine ⟨i, j, by rw [show v = V.int i by simpa only [RepR, Rep] using r1, show w = V.int j by simpa only [RepR, Rep] using r2'], ⟨hk.1, hk.2, hk2.1, hk2.2⟩, ?_⟩
        exact hp B _ _ (wk_range (B := B) (S := S) (H := H) s2 (x1.trans x2) i j hc.2.2)
      · exact hp.elim
    · exact hp.elim
theorem ti_down {pp : Pos} {kc : Nat} {pc1 pc2 : Pos} (st : Stab F) (hg : Gl X "range") (hm : X.mg "range" = none) (ha : PE X a (TrE F W ma)) (hb : PE X b (TrE F W mb))
    (hs : starEach [a, b, .UnaryOp .USub (.Constant (.int 1) kc pc1) pc2] X.env = (false, eval a X.env) :: starEach [b, .UnaryOp .USub (.Constant (.int 1) kc pc1) pc2] X.env)
    (hs2 : starEach [b, .UnaryOp .USub (.Constant (.int 1) kc pc1) pc2] X.env = (false, eval b X.env) :: starEach [.UnaryOp .USub (.Constant (.int 1) kc pc1) pc2] X.env) :
    PI X tg (.Call (.Name "range" pp) [a, b, .UnaryOp .USub (.Constant (.int 1) kc pc1) pc2] [] pos) (TrI F W (miDown ma mb)) :=
  PI_imp (pi_range3 hg hm (pa_cons ha (pa_cons hb (pa_cons (pe_un un_neg pe_int) pa_nil) hs2) hs) hs (by rw [hs2]; rfl)) fun σ H R h => by
    obtain ⟨B, ρ, e, S, s, hp⟩ := h
    refine stepE (m := ma) st s hp (fun _ _ q => q) fun r S1 v H1 s1 x1 r1 hq => ?_
    refine stepE (m := mb) st s1 hq (fun c S' q => q.after st addR_le x1) fun r2 S2 w H2 s2 x2 r2' hp => ?_
    split at hp
    · rename_i i j
      split at hp
      · rename_i hc
        have hk := okR_of hc.1
        have hk2 := okR_of hc.2.1
        refine ⟨1, rfl, i, j, -1, (i - j).toNat, by rw [show v = V.int i by simpa only [RepR, Rep] using r1, show w = V.int j by simpa only [RepR, Rep] using r2'], RgC.neg hk.1 hk.2 hk2.1 hk2.2, ?_⟩
        refine hp B _ _ ⟨s2, x1.trans x2, ⟨fun _ => True, _, by rw [show (rangeDown i j).length = (i - j).toNat by simp [rangeDown]]; exact walk_rangeC, fun _ _ _ _ => trivial, fun ρ1 e1 S1 σ1 H1 B1 k x v H2 s1 hb x1 hx y => ?_⟩, by show (rangeDown i j).length ≤ LIM; rw [show (rangeDown i j).length = (i - j).toNat by simp [rangeDown]]; exact hc.2.2, rfl⟩
        obtain ⟨rfl, rfl⟩ := y
        refine ⟨s1, ExtE.refl, ?_⟩
        have hx2 : x = .int (i - k) := by
          unfold rangeDown at hx
          rw [List.getElem?_map] at hx
          by_cases hi : k < (i - j).toNat
          · rw [List.getElem?_range hi] at hx
            simpa using hx.symm
          · rw [List.getElem?_eq_none (by simpa using hi)] at hx; cases hx
        subst hx2
        rw [Rep]
        simp
        omega
      · exact hp.elim
    · exact hp.elim
end
end M

/-! Sound9: enumerate over a tuple, the rules of zip and enumerate. -/
namespace M
open PySem L2
open PySem (Str)
open PySem.Spec PyProof.Rows
section
open PySem.Sem (wp)
open PySem.Builtin
theorem meets_enumerate_newB1 {v : Value} {o : Obj} {H : Heap → Prop} (B : Begins v o H) :
    Meets (Builtin.«enumerate.__new__» ⟨[.type "enumerate", v], []⟩) (fun _ R s => H s.heap ∧
      R (.ok (.ret (.ref (s.heap.push o).objs.size))) { s with heap := (s.heap.push o).push { cls := .type "enumerate", data := .fields #[.none, .bool false, .ref s.heap.objs.size, rawInt 0, .none, .none] } }) :=
  .of_wp fun prog w A R s h => by
    obtain ⟨hp, g, d, tk, os⟩ := s; obtain ⟨h1, h⟩ := h
    have hsub := sub_enumerate
    have q1 : ∀ {A' : Around} {E : Value → Shared → Prop} {Q : Value → Shared → Prop}, Q (.ref hp.objs.size) ⟨hp.push o, g, d, tk, os⟩ → wpAny (model prog w) A' (pyIter v) Q E ⟨hp, g, d, tk, os⟩ :=
      fun q => B.iter prog w _ _ ⟨hp, g, d, tk, os⟩ _ h1 q
    wp_walk using q1
    refine wpAny_stack_any fun st => wpAny_pure ?_
    split
    · rename_i c _ _ _ _ _
      cases (c == Value.type "enumerate")
      · wp_walk using q1
        exact ⟨_, rfl, h⟩
      · wp_walk using q1
        exact ⟨_, rfl, h⟩
    · wp_walk using q1
      exact ⟨_, rfl, h⟩
end
section
variable {prog : Program} {w : World} {A : Around} {E : Value → Shared → Prop} {s : Shared}
theorem enum_begins1 {v : Value} {o : Obj} {H : Heap → Prop} {Q : Value → Shared → Prop} (B : Begins v o H) (h1 : H s.heap)
    (h : ∀ h', IsEnum h' (s.heap.objs.size + 1) s.heap.objs.size 0 .none → h'.get? s.heap.objs.size = some o → h'.objs.size = s.heap.objs.size + 2 →
      (∀ b o, s.heap.get? b = some o → h'.get? b = some o) → Q (.ref (s.heap.objs.size + 1)) { s with heap := h' }) :
    wpAny (model prog w) A (call (.type "enumerate") [v]) Q E s := by
  refine callType_new F.called_enumerate (by decide) (F.typeCall_enumerate_1 _) (F.newCall_enumerate_1 _) (fun obj => F.args_object_init_2 obj _) F.entry_enumerate_new
    (meets_enumerate_newB1 B) ⟨h1, ?_⟩
  have hz : (s.heap.push o).objs.size = s.heap.objs.size + 1 := Heap.size_push ..
  show _ ∧ _
  rw [hz]
  have he : IsEnum ((s.heap.push o).push { cls := .type "enumerate", data := .fields #[.none, .bool false, .ref s.heap.objs.size, rawInt 0, .none, .none] }) (s.heap.objs.size + 1) s.heap.objs.size 0 .none := by
    have := Heap.get?_push_size (s.heap.push o) (o := { cls := .type "enumerate", data := .fields #[.none, .bool false, .ref s.heap.objs.size, rawInt 0, .none, .none] }) rfl
    rw [hz] at this; exact this
  refine ⟨⟨_, he, rfl⟩, h _ he (Heap.get?_push_of_some _ (Heap.get?_push_size _ B.free)) (by rw [Heap.size_push, hz]) fun b o x => Heap.get?_push_of_some _ (Heap.get?_push_of_some _ x)⟩
end
/-- the tuple at a, each item in a new pair -/
def IteT (K : PySem.W.Frag) (a : Addr) : L2.It :=
  ⟨fun i H => ∃ (xs : List V) (x : V), SqT K H a xs ∧ xs[i]? = some x, fun i H v H' => ∃ T x, v = .ref T ∧ H T = none ∧ H' = upd H T (.tup [.int (i : Nat), x]) ∧ ∀ xs, SqT K H a xs → xs[i]? = some x, fun i H => ∃ xs : List V, SqT K H a xs ∧ xs.length ≤ i⟩
theorem turn_enumT {P : Program} {w : World} {K : PySem.W.Frag} {elts : List Expr} {kk : Nat} {tpos : Pos} (a e it : Addr) (hai : a ≠ it) (hae : a ≠ e) :
    Turn P w K (.Tuple elts kk tpos) (IteT K a) [e, it] e (fun i h => (∃ old, IsEnum h e it ((i : Nat) : Int) old) ∧ h.IsTupleIter it a i ∧ e ≠ it) where
  mem := by simp
  obj := fun i h st b hb => by
    obtain ⟨⟨old, he⟩, ⟨o, ho, hc, hd⟩, _⟩ := st
    have e' : b = e ∨ b = it := by simpa using hb
    rcases e' with z | z
    · rw [z]; exact ⟨_, he, fun v q => nomatch q⟩
    · rw [z]; exact ⟨o, ho, fun v q => by rw [hd] at q; cases q⟩
  keep := fun i h h' st k => let ⟨⟨old, he⟩, hi, hne⟩ := st; ⟨⟨old, k e (by simp) _ he⟩, hi.at fun o q => k it (by simp) o q, hne⟩
  item := by
    intro X hP hw hK hc i pins s σ H E I hf st hg
    subst hP hw hK
    obtain ⟨⟨old, he⟩, hit, hne⟩ := st
    obtain ⟨xs, x, hq, hx⟩ := hg
    obtain ⟨its, rv, p, hz⟩ := I.tuple hq
    obtain ⟨u, hu, ru⟩ := rv.get hx
    have hel : e < s.heap.objs.size := Heap.lt_size he
    have hil : it < s.heap.objs.size := by obtain ⟨_, q, _⟩ := hit; exact Heap.lt_size q
    refine wpAny_pyNext_enum_itemD (Draws.tuple (A := X.A.in1) (show X.A.in1.handled = none from I.ok.hd hc) it a hai its.toArray) he ⟨hit, show s.heap.IsTuple a its.toArray from p⟩ (i := i) (by simp; exact (List.getElem?_eq_some_iff.mp hu).1) hne (by simp; exact ⟨hne, fun z => hae z.symm⟩) fun x' h' tk hP ho hit' hT hsz hk => ?_
    have hxu : x' = u := by
      have : its.toArray[i]? = some x' := hP
      simp at this
      rw [hu] at this; cases this; rfl
    subst hxu
    refine ⟨_, rfl, wpAny_letOwnedTupleGo_enum (s := { s with heap := h', toks := tk + 1 }) ho fun h'' he' sb => ?_⟩
    have hT2 : h''.get? s.heap.objs.size = some { cls := .type "tuple", data := .seq #[.int i tk, x'] } := (sb.2 _ (Nat.ne_of_gt hel)).trans hT
    have new : ObjOk X.prog X.w (upd H s.heap.objs.size (.tup [.int (i : Nat), x])) h'' s.heap.objs.size (.tup [.int (i : Nat), x]) :=
      ⟨by show 2 ≤ sizeLine; decide, [.int i tk, x'], .cons ⟨_, rfl⟩ (.cons ru .nil), ⟨_, hT2, rfl, _, rfl⟩⟩
    have I1 : Inv X pins σ (upd H s.heap.objs.size (.tup [.int (i : Nat), x])) { s with heap := h'', toks := tk + 1 } :=
      I.turnedNew (ch := [e, it]) (fun b ob hb q => (sb.2 b (fun z => hb (by simp [z]))).trans (hk b ob (fun z => hb (by simp [z])) (fun z => hb (by simp [z])) q)) hf (Nat.le_refl _) new
    refine ⟨.ref s.heap.objs.size, _, I1, rfl, ⟨_, x, rfl, I.hok.fresh (Nat.le_refl _), rfl, fun ys hy => by rw [I.tuple_inj hy hq]; exact hx⟩, ⟨⟨x', ?_⟩, hit'.1.at fun o q => (sb.2 it (Ne.symm hne)).trans q, hne⟩, fun b hb => ?_⟩
    · have e1 : ((i + 1 : Nat) : Int) = (i : Int) + 1 := by omega
      rw [e1]; exact he'
    · have hb' : b < s.heap.objs.size := by
        have e' : b = e ∨ b = it := by simpa using hb
        rcases e' with z | z
        · rw [z]; exact hel
        · rw [z]; exact hil
      rw [upd_ne (Nat.ne_of_lt hb')]
      exact (hf b hb).1
  done := by
    intro X hP hw hK hc i pins s σ H E I hf st hg
    subst hP hw hK
    obtain ⟨⟨old, he⟩, hit, hne⟩ := st
    obtain ⟨xs, hq, hx⟩ := hg
    obtain ⟨its, rv, p, hz⟩ := I.tuple hq
    obtain ⟨f0, f1, f2, f3, f4, f5⟩ := hf it (by simp)
    have hl := rv.length
    have D : Draws X.prog X.w X.A.in1 it [it, a] i (fun i v => its.toArray[i]? = some v) (fun j h => j = i ∧ h.IsTupleIter it a j ∧ h.IsTuple a its.toArray) :=
      { live := fun _ _ st => let ⟨o, ho, _⟩ := st.2.1; ⟨o, ho⟩
        frame := fun _ _ _ st hk => ⟨st.1, st.2.1.at fun o e => hk it (by simp) o e, st.2.2.at fun o e => hk a (by simp) o e⟩
        item := fun i' s Q E hi st hQ => absurd st.1 (by omega)
        done := fun s Q E st hE => wpAny_nextOf_tuple_end (show X.A.in1.handled = none from I.ok.hd hc) st.2.1 st.2.2 (by simp; omega) hE }
    exact wpAny_pyNext_enum_endD D he ⟨rfl, hit, show s.heap.IsTuple a its.toArray from p⟩ fun h' eb => ⟨rfl, I.turned (t' := s.toks) (fun b o hb q => eb b o hb q) f0 f1 f3 f4 f5⟩
  self := fun A i s Q E st h => let ⟨⟨_, he⟩, _⟩ := st; wpAny_pyIter_enum he h
def iEnumT (K : PySem.W.Frag) (ta : TA) : TI := fun σ H R => ta σ H fun vs H1 => ∃ a xs, vs = [.ref a] ∧ SqT K H1 a xs ∧ R (IteT K a) H1
theorem pi_enumT {X : Cx} {e : Expr} {ta : TA} {p pos tpos : Pos} {elts : List Expr} {kk : Nat} (hg : Gl X "enumerate") (hm : X.mg "enumerate" = none) (ha : PA X [e] ta) (hs : starEach [e] X.env = [(false, eval e X.env)]) :
    PI X (.Tuple elts kk tpos) (.Call (.Name "enumerate" p) [e] [] pos) (iEnumT X.K ta) := by
  refine ⟨fun pins s σ H R I h => ?_⟩
  refine Call_ (ld_blt I hg hm boot_enumerate (PyProof.Rows.callWith_type1 (thn (ha.run pos pins s σ H _ I h) fun us s1 ⟨vs, H1, I1, r1, q1⟩ => ?_) hs rfl))
  obtain ⟨a, xs, ex, hq, q⟩ := q1
  subst ex
  cases r1 with
  | cons r rr =>
    cases rr
    cases r
    obtain ⟨its, rv, p', hz⟩ := I1.tuple hq
    obtain ⟨o1, ho1, _⟩ := id p'
    have hal : a < s1.heap.objs.size := Heap.lt_size ho1
    refine enum_begins1 (begins_tuple a its.toArray) (show s1.heap.IsTuple a its.toArray from p') fun h' he hit hsz hk => wpAny_pyIter_enum he ?_
    have I2 : Inv X pins σ H1 { s1 with heap := h' } := I1.kept (t' := s1.toks) hk
    refine ⟨s1.heap.objs.size + 1, [s1.heap.objs.size + 1, s1.heap.objs.size], _, _, H1, rfl, I2, turn_enumT a (s1.heap.objs.size + 1) s1.heap.objs.size (Nat.ne_of_lt hal) (Nat.ne_of_lt (Nat.lt_succ_of_lt hal)), ⟨⟨.none, he⟩, ⟨_, hit, rfl, rfl⟩, Nat.succ_ne_self _⟩, fun b hb => ?_, q⟩
    have e' : b = s1.heap.objs.size + 1 ∨ b = s1.heap.objs.size := by simpa using hb
    have hle : s1.heap.objs.size ≤ b := by
      rcases e' with z | z
      · rw [z]; exact Nat.le_add_right _ _
      · rw [z]; exact Nat.le_refl _
    exact I1.fpOk hle (I1.hok.fresh hle)
end M

/-! Sound10: the rules of zip and enumerate. -/
namespace M
open PySem L2
open PySem (Str)
section
variable {F : Fx} {W : WX} {X : Cx} {B B' : Addr → Prop} {ρ ρ' : Nat → Addr} {e e' : M.Env} {S S' S1 S2 : Sto} {σ σ' : L2.St} {H H' H0 H1 H2 : Hp} {Y : Addr → Prop} {x : D} {v w : V} {r : R} {p : Addr} {o : HO} {Q : VK} {a b : Expr} {ma mb mc : ME} {pos : Pos} {rest : List Expr} {tg : Expr}
theorem walk_enumT {K : PySem.W.Frag} {ad : Addr} {xs : List V} : Walk (IteT K ad) xs.length (fun H => SqT K H ad xs) (YPair (fun i => some (.int (i : Nat))) (fun i => xs[i]?)) := by
  refine ⟨fun i _ hi q => ⟨xs, xs[i], q, by simp [hi]⟩, fun _ q => ⟨xs, q, Nat.le_refl _⟩, fun i H v H' _ q y => ?_⟩
  obtain ⟨T, x, h1, h2, h3, h4⟩ := y
  exact ⟨T, .int (i : Nat), x, h1, h2, h3, rfl, h4 xs q⟩
theorem walk_enums (st : Stab F) (s : Sim F B' ρ e S' σ H') {J : L2.It} {G : Hp → Prop} {ys : List D} {ws : List V} (hw : Walk J ws.length G (YPair (fun i => some (.int (i : Nat))) (fun i => ws[i]?)))
    (hG : ∀ ρ1 S1 H1, Ext F.n0 ρ S' H' ρ1 S1 H1 → G H1) (h2 : Reps F (Ex B' ρ S') H' ys ws) :
    ∃ (G : Hp → Prop) (Yl : Nat → Hp → V → Hp → Prop), Walk J (enumD ys).length G Yl ∧ (∀ ρ1 S1 H1, Ext F.n0 ρ S' H' ρ1 S1 H1 → G H1) ∧
    ∀ ρ1 e1 S1 σ1 H1 B1 i x v H2, Sim F B1 ρ1 e1 S1 σ1 H1 → (∀ a, B1 a → B' a ∨ Nw H' a) → Ext F.n0 ρ S' H' ρ1 S1 H1 → (enumD ys)[i]? = some x → Yl i H1 v H2 → Sim F B1 ρ1 e1 S1 σ1 H2 ∧ ExtE ρ1 S1 H1 S1 H2 ∧ Rep F (Ex B1 ρ1 S1) H2 x v := by
  have hl : (enumD ys).length = ws.length := by simp [enumD, h2.length]
  refine ⟨G, _, by rw [hl]; exact hw, hG, fun ρ1 e1 S1 σ1 H1 B1 i x v H2 s1 hb x1 hx y => ?_⟩
  obtain ⟨T, u, z, rfl, hT, rfl, hu, hz⟩ := y
  cases hu
  obtain ⟨y', hy', hr2⟩ := (s.repsX st x1 hb h2).getV hz
  have e1 : x = .tup [.int (i : Nat), y'] := by
    unfold enumD at hx
    rw [List.getElem?_map, List.getElem?_zipIdx, hy'] at hx
    simpa using hx.symm
  subst e1
  exact pair_new st s1 hT (by rw [Rep]) hr2
theorem ti_enum {elts : List Expr} {kk : Nat} {tpos pp : Pos} (st : Stab F) (hK : X.K = F.K) (hg : Gl X "enumerate") (hm : X.mg "enumerate" = none) (ha : PE X a (TrE F W ma)) (hs : starEach [a] X.env = (false, eval a X.env) :: starEach [] X.env) :
    PI X (.Tuple elts kk tpos) (.Call (.Name "enumerate" pp) [a] [] pos) (TrI F W (miEnum ma)) := by
  refine PI_imp (PI_or (pi_enum hg hm (pa_cons ha pa_nil hs) hs) (pi_enumT hg hm (pa_cons ha pa_nil hs) hs)) fun σ H R h => ?_
  obtain ⟨B, ρ, e, S, s, hp⟩ := h
  unfold miEnum at hp
  cases hm : ma F.g e S with
  | no => rw [hm] at hp; exact hp.elim
  | ex c S1 => rw [hm] at hp; exact .inl ⟨B, ρ, e, S, s, by rw [hm]; exact hp⟩
  | ok r S1 =>
    rw [hm, O.bind_ok] at hp
    split at hp
    · rename_i xs fz hi
      have key : ∀ v H1, Sim F (addR B r v) ρ e S1 σ H1 → ExtE ρ S H S1 H1 → RepR F B ρ S1 H H1 r v → ∃ ad, v = .ref ad ∧ ∃ vs, if isTup r then SqT F.K H1 ad vs ∧ R (IteT F.K ad) H1 else SqL F.K H1 ad vs ∧ R (Ite F.K ad) H1 := by
        intro v H1 s1 x1 r1
        obtain ⟨B', ad, vs, rfl, h1, h2, hsz, s2, x2, hb, hz⟩ := itOf_ok st s1 x1 r1 hi
        have hz' : match (⟨enumD xs, fz⟩ : M.It).fz with
          | none => B' = B
          | some (n, c) => (∀ a, B' a ↔ B a ∨ a = ρ n) ∧ n < S.length ∧ cellOf (shut fz S1) n = none ∧ cellOf S n ≠ none ∧ CellAt F (Ex B' ρ (shut fz S1)) H1 (ρ n) c := by
          cases fz with
          | none => exact hz
          | some q => obtain ⟨n, c⟩ := q; exact hz
        refine ⟨ad, rfl, vs, ?_⟩
        split
        · rename_i ht
          rw [if_pos ht] at h1
          exact ⟨h1, hp B' _ _ ⟨s2, x2, walk_enums st s2 (walk_enumT (K := F.K) (ad := ad)) (fun ρ1 S1' H1' x1' => SqT.keeps h1 (s2.keeps x1')) h2, by show (enumD xs).length ≤ LIM; rw [show (enumD xs).length = vs.length by simp [enumD, h2.length]]; exact hsz, hz'⟩⟩
        · rename_i ht
          rw [if_neg ht] at h1
          exact ⟨SqL.of h1.1, hp B' _ _ ⟨s2, x2, walk_enums st s2 (walk_enum (K := F.K) (a := ad)) (fun ρ1 S1' H1' x1' => SqL.of (x1'.fr ad _ h1.2 (fun _ z => by cases z) h1.1)) h2, by show (enumD xs).length ≤ LIM; rw [show (enumD xs).length = vs.length by simp [enumD, h2.length]]; exact hsz, hz'⟩⟩
      by_cases ht : isTup r
      · refine .inr ⟨B, ρ, e, S, s, ?_⟩
        rw [hm]
        intro v H1 s1 x1 r1
        obtain ⟨ad, rfl, vs, h⟩ := key v H1 s1 x1 r1
        rw [if_pos ht] at h
        exact ⟨ad, vs, rfl, hK ▸ h⟩
      · refine .inl ⟨B, ρ, e, S, s, ?_⟩
        rw [hm]
        intro v H1 s1 x1 r1
        obtain ⟨ad, rfl, vs, h⟩ := key v H1 s1 x1 r1
        rw [if_neg ht] at h
        exact ⟨ad, vs, rfl, hK ▸ h⟩
    · exact hp.elim
theorem ti_zip {elts : List Expr} {kk : Nat} {tpos pp : Pos} (st : Stab F) (hK : X.K = F.K) (hg : Gl X "zip") (hm : X.mg "zip" = none) (ha : PE X a (TrE F W ma)) (hb : PE X b (TrE F W mb))
    (hs : starEach [a, b] X.env = (false, eval a X.env) :: starEach [b] X.env) (hs2 : starEach [b] X.env = (false, eval b X.env) :: starEach [] X.env) :
    PI X (.Tuple elts kk tpos) (.Call (.Name "zip" pp) [a, b] [] pos) (TrI F W (miZip ma mb)) := by
  refine PI_imp (RZ.pi_zipA hg hm (pa_cons ha (pa_cons hb pa_nil hs2) hs) hs (by rw [hs2]; rfl)) fun σ H R h => ?_
  obtain ⟨B, ρ, e, S, s, hp⟩ := h
  refine stepE (m := ma) st s hp (fun _ _ q => q) fun r S1 v H1 s1 x1 r1 hq => ?_
  refine stepE (m := mb) st s1 hq (fun c S' q => q.after st addR_le x1) fun r2 S2 w H2 s2 x2 r2' hp => ?_
  split at hp
  · rename_i ht
    have r1' : RepR F B ρ S2 H H2 r v := r1.moveE st s1 x2 addR_le
    have s2' : Sim F (addR B r v) ρ e S2 σ H2 := s2.mono st addR_le
    split at hp
    · rename_i xs ys hi1 hi2
      obtain ⟨B1, ad, vs, rfl, h1, h2, hsz, s3, x3, hb1, hz1⟩ := itOf_ok st s2' (x1.trans x2) r1' hi1
      obtain ⟨B2, bd, ws, rfl, h4, h5, _, s4, x4, hb2, hz2⟩ := itOf_ok st s2 x2 r2' hi2
      have hz1 : B1 = B := hz1
      have hz2 : B2 = addR B r (.ref ad) := hz2
      subst hz1 hz2
      have h5 : Reps F (Ex B1 ρ S2) H2 ys ws := h5.mono st (Ex.mono addR_le)
      refine ⟨ad, bd, vs, ws, rfl, ?_⟩
      by_cases hr : isTup r
      · rw [if_pos hr] at h1
        rw [if_pos (ht ▸ hr)] at h4
        refine .inr ⟨hK ▸ h1, hK ▸ h4, hK ▸ hp B1 _ _ ⟨s3, x3, walk_pairs st s3 walk_zipT (fun ρ1 S1' H1' x1' => ⟨SqT.keeps h1 (s3.keeps x1'), SqT.keeps h4 (s3.keeps x1')⟩) h2 h5, by show (zipD xs ys).length ≤ LIM; have := h2.length; simp [zipD]; omega, rfl⟩⟩
      · rw [if_neg hr] at h1
        rw [if_neg (ht ▸ hr)] at h4
        refine .inl ⟨SqL.of h1.1, SqL.of h4.1, hK ▸ hp B1 _ _ ⟨s3, x3, walk_pairs st s3 (walk_zip rfl) (fun ρ1 S1' H1' x1' => ⟨SqL.of (x1'.fr ad _ h1.2 (fun _ z => by cases z) h1.1), SqL.of (x1'.fr bd _ h4.2 (fun _ z => by cases z) h4.1)⟩) h2 h5, by show (zipD xs ys).length ≤ LIM; have := h2.length; simp [zipD]; omega, rfl⟩⟩
    · rename_i xs n c ys hi1 hi2
      obtain ⟨B1, ad, vs, rfl, h1, h2, hsz, s3, x3, hb1, hz1⟩ := itOf_ok st s2' (x1.trans x2) r1' hi1
      obtain ⟨B2, bd, ws, rfl, h4, h5, _, s4, x4, hb2, hz2⟩ := itOf_ok st s2 x2 r2' hi2
      have hz1 : (∀ a, B1 a ↔ B a ∨ a = ρ n) ∧ n < S.length ∧ cellOf (S2.set n none) n = none ∧ cellOf S n ≠ none ∧ CellAt F (Ex B1 ρ (S2.set n none)) H2 (ρ n) c := hz1
      have hz2 : B2 = addR B r (.ref ad) := hz2
      subst hz2
      have hn : cellOf S2 n ≠ none := by
        cases r with
        | d y => cases y <;> simp [itOf] at hi1
        | f y => cases y <;> simp [itOf] at hi1
        | c m =>
          simp only [itOf] at hi1
          split at hi1
          · rename_i hc
            simp only [Option.some.injEq, Prod.mk.injEq] at hi1
            obtain ⟨_, rfl, _⟩ := hi1
            rw [hc]; simp
          · cases hi1
      have h5 : Reps F (Ex B1 ρ (S2.set n none)) H2 ys ws := h5.mono st (by
        rintro a (z | ⟨m, hm, z⟩)
        · rcases (hz1.1 a).mp z with z | z
          · exact .inl (addR_le a z)
          · exact .inr ⟨n, hn, z.symm⟩
        · exact .inr ⟨m, (cellOf_kill hm).1, z⟩)
      refine ⟨ad, bd, vs, ws, rfl, ?_⟩
      have hr : ¬ isTup r = true := by
        cases r with
        | d y => cases y <;> simp [itOf] at hi1
        | f y => simp [isTup]
        | c m => simp [isTup]
      rw [if_neg hr] at h1
      rw [if_neg (ht ▸ hr)] at h4
      have h4n : ∀ m, cellOf (S2.set n none) m ≠ none → ρ m ≠ bd := fun m hm => h4.2 m (cellOf_kill hm).1
      refine .inl ⟨SqL.of h1.1, SqL.of h4.1, hK ▸ hp B1 _ _ ⟨s3, x3, walk_pairs st s3 (walk_zip rfl) (fun ρ1 S1' H1' x1' => ⟨SqL.of (x1'.fr ad _ h1.2 (fun _ z => by cases z) h1.1), SqL.of (x1'.fr bd _ h4n (fun _ z => by cases z) h4.1)⟩) h2 h5, by show (zipD xs ys).length ≤ LIM; have := h2.length; simp [zipD]; omega, hz1⟩⟩
    · exact hp.elim
  · exact hp.elim
end
end M

/-! Sound11: targets; list comprehensions. -/
namespace M
open PySem L2
open PySem (Str)
section
variable {F : Fx} {W : WX} {X : Cx} {B B' B2 : Addr → Prop} {ρ ρ' : Nat → Addr} {e e' e2 : M.Env} {S S' S1 S2 : Sto} {σ σ' σ2 : L2.St} {H H' H0 H1 H2 : Hp} {Y : Addr → Prop} {x : D} {v w : V} {r : R} {p : Addr} {o : HO} {Q : VK} {a b : Expr} {ma mb mc : ME} {pos : Pos} {rest : List Expr} {tg : Expr}
/-! ### slots -/
theorem Sim.put (s : Sim F B ρ e S σ H) {i : Nat} (hr : Rep F (Ex B ρ S) H x v) : Sim F B ρ (e.set i (some (.d x))) S (σ.set i (some v)) H where
  len := by simp [s.len]
  slot := fun j y q => by
    by_cases hji : i = j
    · subst hji
      by_cases hi : i < e.length
      · rw [List.getElem?_set_self hi] at q
        cases q
        exact ⟨v, by rw [List.getElem?_set_self (by rw [s.len]; exact hi)], hr⟩
      · rw [List.getElem?_eq_none (by simpa using hi)] at q; cases q
    · rw [List.getElem?_set_ne hji] at q ⊢
      exact s.slot j y q
  slotC := fun j n q => by
    by_cases hji : i = j
    · subst hji
      by_cases hi : i < e.length
      · rw [List.getElem?_set_self hi] at q; cases q
      · rw [List.getElem?_eq_none (by simpa using hi)] at q; cases q
    · rw [List.getElem?_set_ne hji] at q ⊢
      exact s.slotC j n q
  cell := s.cell
  inj := s.inj
  nb := s.nb
  bt := s.bt
  uq := fun j hj n q => by
    have old : ∀ k m, (e.set i (some (.d x)))[k]? = some (some (A.c m)) → e[k]? = some (some (A.c m)) := fun k m q => by
      by_cases hji : i = k
      · subst hji
        by_cases hi : i < e.length
        · rw [List.getElem?_set_self hi] at q; cases q
        · rw [List.getElem?_eq_none (by simpa using hi)] at q; cases q
      · rwa [List.getElem?_set_ne hji] at q
    obtain ⟨q1, q2⟩ := s.uq j hj n (old j n q)
    exact ⟨q1, fun k hk z => q2 k hk (old k n z)⟩
  tb := s.tb
theorem Sim.clear (s : Sim F B ρ e S σ H) {i : Nat} : Sim F B ρ (e.set i none) S (σ.set i none) H where
  len := by simp [s.len]
  slot := fun j y q => by
    by_cases hji : i = j
    · subst hji
      by_cases hi : i < e.length
      · rw [List.getElem?_set_self hi] at q; cases q
      · rw [List.getElem?_eq_none (by simpa using hi)] at q; cases q
    · rw [List.getElem?_set_ne hji] at q ⊢
      exact s.slot j y q
  slotC := fun j n q => by
    by_cases hji : i = j
    · subst hji
      by_cases hi : i < e.length
      · rw [List.getElem?_set_self hi] at q; cases q
      · rw [List.getElem?_eq_none (by simpa using hi)] at q; cases q
    · rw [List.getElem?_set_ne hji] at q ⊢
      exact s.slotC j n q
  cell := s.cell
  inj := s.inj
  nb := s.nb
  bt := s.bt
  uq := fun j hj n q => by
    have old : ∀ k m, (e.set i none)[k]? = some (some (A.c m)) → e[k]? = some (some (A.c m)) := fun k m q => by
      by_cases hji : i = k
      · subst hji
        by_cases hi : i < e.length
        · rw [List.getElem?_set_self hi] at q; cases q
        · rw [List.getElem?_eq_none (by simpa using hi)] at q; cases q
      · rwa [List.getElem?_set_ne hji] at q
    obtain ⟨q1, q2⟩ := s.uq j hj n (old j n q)
    exact ⟨q1, fun k hk z => q2 k hk (old k n z)⟩
  tb := s.tb
theorem Sim.wipe (s : Sim F B ρ e S σ H) : ∀ vs : List Nat, Sim F B ρ (M.wipe e vs) S (L2.wipe σ vs) H
  | [] => s
  | i :: vs => (Sim.wipe s vs).clear
/-- names forgotten here only -/
theorem Sim.clearE (s : Sim F B ρ e S σ H) {i : Nat} : Sim F B ρ (e.set i none) S σ H where
  len := by simp [s.len]
  slot := fun j y q => by
    by_cases hji : i = j
    · subst hji
      by_cases hi : i < e.length
      · rw [List.getElem?_set_self hi] at q; cases q
      · rw [List.getElem?_eq_none (by simpa using hi)] at q; cases q
    · rw [List.getElem?_set_ne hji] at q
      exact s.slot j y q
  slotC := fun j n q => by
    by_cases hji : i = j
    · subst hji
      by_cases hi : i < e.length
      · rw [List.getElem?_set_self hi] at q; cases q
      · rw [List.getElem?_eq_none (by simpa using hi)] at q; cases q
    · rw [List.getElem?_set_ne hji] at q
      exact s.slotC j n q
  cell := s.cell
  inj := s.inj
  nb := s.nb
  bt := s.bt
  uq := fun j hj n q => by
    have old : ∀ k m, (e.set i none)[k]? = some (some (A.c m)) → e[k]? = some (some (A.c m)) := fun k m q => by
      by_cases hji : i = k
      · subst hji
        by_cases hi : i < e.length
        · rw [List.getElem?_set_self hi] at q; cases q
        · rw [List.getElem?_eq_none (by simpa using hi)] at q; cases q
      · rwa [List.getElem?_set_ne hji] at q
    obtain ⟨q1, q2⟩ := s.uq j hj n (old j n q)
    exact ⟨q1, fun k hk z => q2 k hk (old k n z)⟩
  tb := s.tb
theorem Sim.wipeE (s : Sim F B ρ e S σ H) : ∀ vs : List Nat, Sim F B ρ (M.wipe e vs) S σ H
  | [] => s
  | i :: vs => (Sim.wipeE s vs).clearE
/-! ### wipes and stores -/
theorem setset {α : Type} {l : List α} {i j : Nat} (a b : α) (h : i ≠ j) : (l.set i a).set j b = (l.set j b).set i a := List.set_comm _ _ h
theorem Lwipe_set {i : Nat} (z : Option V) : ∀ {vs : List Nat} {σ : L2.St}, i ∈ vs → L2.wipe (σ.set i z) vs = L2.wipe σ vs
  | [], _, h => by cases h
  | j :: vs, σ, h => by
    show (L2.wipe (σ.set i z) vs).set j none = (L2.wipe σ vs).set j none
    by_cases hm : i ∈ vs
    · rw [Lwipe_set z hm]
    · have hij : i = j := by
        rcases List.mem_cons.mp h with q | q
        · exact q
        · exact absurd q hm
      subst hij
      have : ∀ ws : List Nat, i ∉ ws → L2.wipe (σ.set i z) ws = (L2.wipe σ ws).set i z := by
        intro ws
        induction ws with
        | nil => intro _; rfl
        | cons k ws ih =>
          intro hk
          show (L2.wipe (σ.set i z) ws).set k none = ((L2.wipe σ ws).set k none).set i z
          rw [ih (fun q => hk (List.mem_cons_of_mem _ q)), setset]
          intro q; exact hk (by rw [← q]; exact List.mem_cons_self ..)
      rw [this vs hm, List.set_set]
theorem Lwipe_wipe {σ : L2.St} (vs : List Nat) : ∀ ws : List Nat, (∀ i ∈ ws, i ∈ vs) → L2.wipe (L2.wipe σ ws) vs = L2.wipe σ vs
  | [], _ => rfl
  | i :: ws, h => by
    show L2.wipe ((L2.wipe σ ws).set i none) vs = _
    rw [Lwipe_set none (h i (List.mem_cons_self ..)), Lwipe_wipe vs ws fun j q => h j (List.mem_cons_of_mem _ q)]
theorem Mwipe_set {i : Nat} (z : Option A) : ∀ {vs : List Nat} {e : M.Env}, i ∈ vs → M.wipe (e.set i z) vs = M.wipe e vs
  | [], _, h => by cases h
  | j :: vs, e, h => by
    show (M.wipe (e.set i z) vs).set j none = (M.wipe e vs).set j none
    by_cases hm : i ∈ vs
    · rw [Mwipe_set z hm]
    · have hij : i = j := by
        rcases List.mem_cons.mp h with q | q
        · exact q
        · exact absurd q hm
      subst hij
      have : ∀ ws : List Nat, i ∉ ws → M.wipe (e.set i z) ws = (M.wipe e ws).set i z := by
        intro ws
        induction ws with
        | nil => intro _; rfl
        | cons k ws ih =>
          intro hk
          show (M.wipe (e.set i z) ws).set k none = ((M.wipe e ws).set k none).set i z
          rw [ih (fun q => hk (List.mem_cons_of_mem _ q)), setset]
          intro q; exact hk (by rw [← q]; exact List.mem_cons_self ..)
      rw [this vs hm, List.set_set]
theorem Mwipe_wipe {e : M.Env} (vs : List Nat) : ∀ ws : List Nat, (∀ i ∈ ws, i ∈ vs) → M.wipe (M.wipe e ws) vs = M.wipe e vs
  | [], _ => rfl
  | i :: ws, h => by
    show M.wipe ((M.wipe e ws).set i none) vs = _
    rw [Mwipe_set none (h i (List.mem_cons_self ..)), Mwipe_wipe vs ws fun j q => h j (List.mem_cons_of_mem _ q)]
/-! ### targets -/
def gNames : List Nat → TGs
  | [] => gNil
  | i :: is => gCons (gName i) (gNames is)
def gTg (K : PySem.W.Frag) : Tg → TG
  | .one i => gName i
  | .many is => fun v σ H Q => gTup K is.length (gNames is) v σ H Q ∨ gUnl K is.length (gNames is) v σ H Q
def Tg.ix : Tg → List Nat
  | .one i => [i]
  | .many is => is
theorem gNames_ok : ∀ {is : List Nat} {xs : List D} {vs : List V} {e e' : M.Env} {σ : L2.St}, Sim F B ρ e S σ H → setAll is xs e = some e' → Reps F (Ex B ρ S) H xs vs →
    ∃ σ', Sim F B ρ e' S σ' H ∧ vs.length = is.length ∧ (∀ own, (∀ i ∈ is, i ∈ own) → L2.wipe σ' own = L2.wipe σ own ∧ M.wipe e' own = M.wipe e own) ∧ ∀ Q : L2.St → Hp → Prop, Q σ' H → gNames is vs σ H Q
  | [], [], vs, e, e', σ, s, h, hr => by
    rw [Reps] at hr; subst hr
    cases h
    exact ⟨σ, s, rfl, fun _ _ => ⟨rfl, rfl⟩, fun Q q => ⟨rfl, q⟩⟩
  | [], x :: xs, vs, e, e', σ, s, h, hr => by cases h
  | i :: is, [], vs, e, e', σ, s, h, hr => by cases h
  | i :: is, x :: xs, vs, e, e', σ, s, h, hr => by
    rw [Reps] at hr
    obtain ⟨v, w, rfl, h1, h2⟩ := hr
    obtain ⟨σ', s', hl, hw, hk⟩ := gNames_ok (s.put (i := i) h1) h h2
    refine ⟨σ', s', by simp [hl], fun own ho => ?_, fun Q q => ⟨v, w, rfl, hk Q q⟩⟩
    obtain ⟨q1, q2⟩ := hw own fun j hj => ho j (List.mem_cons_of_mem _ hj)
    exact ⟨q1.trans (Lwipe_set _ (ho i (List.mem_cons_self ..))), q2.trans (Mwipe_set _ (ho i (List.mem_cons_self ..)))⟩
theorem gTg_ok {t : Tg} (s : Sim F B ρ e S σ H) (hp : t.put x e = some e') (hr : RepV F (Ex B ρ S) H x v) (hr1 : ∀ i, t = .one i → Rep F (Ex B ρ S) H x v) :
    ∃ σ', Sim F B ρ e' S σ' H ∧ (∀ own, (∀ i ∈ t.ix, i ∈ own) → L2.wipe σ' own = L2.wipe σ own ∧ M.wipe e' own = M.wipe e own) ∧ ∀ Q : L2.St → Hp → Prop, Q σ' H → gTg F.K t v σ H Q := by
  cases t with
  | one i =>
    cases hp
    exact ⟨_, s.put (hr1 i rfl), fun own ho => ⟨Lwipe_set _ (ho i (by simp [Tg.ix])), Mwipe_set _ (ho i (by simp [Tg.ix]))⟩, fun Q q => q⟩
  | many is =>
    cases x with
    | tup xs =>
      have hr : Rep F (Ex B ρ S) H (.tup xs) v := hr
      rw [Rep] at hr
      obtain ⟨ad, vs, rfl, h1, h2, h3⟩ := hr
      obtain ⟨σ', s', hl, hw, hk⟩ := gNames_ok s hp h3
      exact ⟨σ', s', hw, fun Q q => .inl ⟨ad, vs, rfl, h1, hl, hk Q q⟩⟩
    | lst xs =>
      obtain ⟨ad, vs, rfl, h1, h2, h3⟩ := hr
      obtain ⟨σ', s', hl, hw, hk⟩ := gNames_ok s hp h3
      exact ⟨σ', s', hw, fun Q q => .inr ⟨ad, vs, rfl, SqL.of h1, hl, hk Q q⟩⟩
    | _ => cases hp
theorem PG_or {tg : Expr} {t t' : TG} (h : PG X tg t) (h' : PG X tg t') : PG X tg (fun v σ H Q => t v σ H Q ∨ t' v σ H Q) := ⟨fun pins s σ H v u Q I r w => w.elim (h.run pins s σ H v u Q I r) (h'.run pins s σ H v u Q I r)⟩
/-! ### list comprehensions -/
def W0 : WX := fun _ _ _ _ => False
def TrC (F : Fx) : Option ME → TT
  | none => tYes
  | some m => TrB F W0 m
theorem Sim.writeB (st : Stab F) (s : Sim F B ρ e S σ H) (hb : B p) {ws vs : List V} (hp : H p = some (.lst ws)) : Sim F B ρ e S σ (upd H p (.lst vs)) ∧
    (∀ {xs us}, Reps F (Ex B ρ S) H xs us → Reps F (Ex B ρ S) (upd H p (.lst vs)) xs us) ∧ (∀ {x u}, Rep F (Ex B ρ S) H x u → Rep F (Ex B ρ S) (upd H p (.lst vs)) x u) := by
  have kp : Keeps H (upd H p (.lst vs)) := fun a o m q => by
    have : a ≠ p := fun z => by rw [z, hp] at q; cases q; cases m
    rw [upd_ne this]; exact q
  have mv : ∀ a u, (∀ ps, u ≠ HO.tbl ps) → ¬ Ex B ρ S a → H a = some u → upd H p (.lst vs) a = some u ∧ ¬ Ex B ρ S a := fun a u _ n q => by
    have : a ≠ p := fun z => n (.inl (z ▸ hb))
    exact ⟨by rw [upd_ne this]; exact q, n⟩
  refine ⟨⟨s.len, fun i x q => ?_, s.slotC, fun n c q => ?_, s.inj, s.nb, fun a q => ?_, s.uq, ?_⟩, fun h => h.move st kp mv, fun h => h.move st kp mv⟩
  · obtain ⟨v, h1, h2⟩ := s.slot i x q
    exact ⟨v, h1, h2.move st kp mv⟩
  · refine (s.cell n c q).move st (fun o z => ?_) kp mv
    have : ρ n ≠ p := fun y => s.nb n (by rw [q]; simp) (y ▸ hb)
    rw [upd_ne this]; exact z
  · by_cases z : a = p
    · subst z; exact fun w => w.no upd_same (fun _ z => by cases z)
    · exact fun w => s.bt a q fun o' y => w o' (by rw [upd_ne z]; exact y)
  · exact s.tb.put hp
theorem toD_ok2 (st : Stab F) (s : Sim F (addR B r v) ρ e S σ H) (h : RepR F B ρ S H0 H r v) {y : D} {S' : Sto} (hd : toD r S = .ok y S') : Sim F B ρ e S' σ H ∧ ExtE ρ S H S' H ∧ Rep F (Ex B ρ S') H y v := by
  obtain ⟨x1, S1, h1, h2, h3, h4, h5⟩ := toD_ok st (fun _ q => q) s h (N := fun _ _ => True) (Xx := fun _ _ => True) (by rw [hd]; trivial)
  rw [hd] at h1
  cases h1
  exact ⟨h2, h3, h4⟩
/-- behind the last turn -/
theorem lc_back (st : Stab F) (s : Sim F B ρ e S σ H) (s1 : Sim F B' ρ e S1 σ H1) (x1 : ExtE ρ S H S1 H1) (s2 : Sim F B2 ρ e2 S2 σ2 H2) (x2 : ExtE ρ S1 H1 S2 H2) (hB : ∀ a, B2 a ↔ B' a ∨ V.ref p = .ref a) (hD : H1 p = none) {fz : Option (Nat × C)}
    (hz : match fz with
      | none => B' = B
      | some (n, c) => (∀ a, B' a ↔ B a ∨ a = ρ n) ∧ n < S.length ∧ cellOf S1 n = none ∧ cellOf S n ≠ none ∧ CellAt F (Ex B' ρ S1) H1 (ρ n) c) :
    Sim F (fun a => B a ∨ V.ref p = .ref a) ρ e (thaw fz S2) σ H2 ∧ ExtE ρ S H (thaw fz S2) H2 ∧ ∀ a, Ex (fun a => B a ∨ V.ref p = .ref a) ρ (thaw fz S2) a ↔ Ex B2 ρ S2 a := by
  have hfr : ∀ a, B2 a → B' a ∨ Nw H1 a := fun a q => ((hB a).mp q).imp id fun z => by injection z with z; rw [← z]; exact Nw.of hD
  have slots : ∀ (i : Nat) (x : D), e[i]? = some (some (A.d x)) → ∃ v, σ[i]? = some (some v) ∧ Rep F (Ex B2 ρ S2) H2 x v := fun i x q => by
    obtain ⟨v, h1, h2⟩ := s1.slot i x q
    exact ⟨v, h1, s1.repX st (n0 := 0) x2.ext hfr h2⟩
  cases fz with
  | none =>
    have hz : B' = B := hz
    subst hz
    have hB' : B2 = fun a => B' a ∨ V.ref p = .ref a := funext fun a => propext (hB a)
    subst hB'
    refine ⟨⟨s.len, slots, fun i n q => ⟨by rw [thaw_none, x2.len, x1.len]; exact (s.slotC i n q).1, fun z => (s.slotC i n q).2 (x1.live n (x2.live n z))⟩, s2.cell, s2.inj, s2.nb, s2.bt, s.uq, s2.tb⟩, x1.trans x2, fun a => Iff.rfl⟩
  | some q =>
    obtain ⟨n, c⟩ := q
    obtain ⟨z1, z2, z3, z4, z5⟩ := hz
    have hn2 : cellOf S2 n = none := by
      cases h : cellOf S2 n with
      | none => rfl
      | some c => exact absurd z3 (x2.live n (by rw [h]; simp))
    have hl : n < S2.length := by rw [x2.len, x1.len]; exact z2
    have hco : ∀ m, cellOf (S2.set n (some c)) m = if n = m then some c else cellOf S2 m := fun m => by
      rw [cellOf_set]
      by_cases h : n = m
      · subst h; simp [hl]
      · rw [if_neg fun q => h q.1.symm, if_neg h]
    have hlv : ∀ m, cellOf (S2.set n (some c)) m ≠ none ↔ n = m ∨ cellOf S2 m ≠ none := fun m => by
      rw [hco]
      by_cases h : n = m
      · simp [h]
      · simp [h]
    have hex : ∀ a, Ex (fun a => B a ∨ V.ref p = .ref a) ρ (S2.set n (some c)) a ↔ Ex B2 ρ S2 a := fun a => by
      unfold Ex
      constructor
      · rintro ((q | q) | ⟨m, hm, q⟩)
        · exact .inl ((hB a).mpr (.inl ((z1 a).mpr (.inl q))))
        · exact .inl ((hB a).mpr (.inr q))
        · rcases (hlv m).mp hm with h | h
          · subst h; exact .inl ((hB a).mpr (.inl ((z1 a).mpr (.inr q.symm))))
          · exact .inr ⟨m, h, q⟩
      · rintro (q | ⟨m, hm, q⟩)
        · rcases (hB a).mp q with q | q
          · rcases (z1 a).mp q with q | q
            · exact .inl (.inl q)
            · exact .inr ⟨n, (hlv n).mpr (.inl rfl), q.symm⟩
          · exact .inl (.inr q)
        · exact .inr ⟨m, (hlv m).mpr (.inr hm), q⟩
    have heq : Ex (fun a => B a ∨ V.ref p = .ref a) ρ (S2.set n (some c)) = Ex B2 ρ S2 := funext fun a => propext (hex a)
    have hb2 : B2 (ρ n) := (hB _).mpr (.inl ((z1 _).mpr (.inr rfl)))
    have nl : ∀ m, cellOf S1 m ≠ none → ρ m ≠ ρ n := fun m hm q => s1.nb m hm ((z1 _).mpr (.inr q))
    show Sim F (fun a => B a ∨ V.ref p = .ref a) ρ e (S2.set n (some c)) σ H2 ∧ ExtE ρ S H (S2.set n (some c)) H2 ∧ ∀ a, Ex (fun a => B a ∨ V.ref p = .ref a) ρ (S2.set n (some c)) a ↔ Ex B2 ρ S2 a
    refine ⟨⟨s.len, fun i x q => ?_, fun i m q => ⟨by rw [List.length_set, x2.len, x1.len]; exact (s.slotC i m q).1, fun z => (s.slotC i m q).2 ?_⟩, fun m d q => ?_, fun m k h1 h2 q => ?_, fun m h q => ?_, fun a q => ?_, s.uq, s2.tb⟩, ?_, hex⟩
    · rw [heq]; exact slots i x q
    · rcases (hlv m).mp z with h | h
      · subst h; exact z4
      · exact x1.live m (x2.live m h)
    · rw [heq]
      rw [hco] at q
      by_cases h : n = m
      · subst h
        rw [if_pos rfl] at q
        cases q
        refine z5.move st (fun o q => ?_) (s1.keeps (n0 := 0) x2.ext) (s1.frame (n0 := 0) x2.ext hfr)
        obtain ⟨o', e1, _, t⟩ := z5.at_
        rw [e1] at q; cases q
        exact x2.fr _ _ nl t e1
      · rw [if_neg h] at q
        exact s2.cell m d q
    · rcases (hlv m).mp h1 with h1 | h1
      · rcases (hlv k).mp h2 with h2 | h2
        · exact h1.symm.trans h2
        · subst h1; exact absurd hb2 (by rw [q]; exact s2.nb k h2)
      · rcases (hlv k).mp h2 with h2 | h2
        · subst h2; exact absurd hb2 (by rw [← q]; exact s2.nb m h1)
        · exact s2.inj m k h1 h2 q
    · rcases (hlv m).mp h with h | h
      · subst h
        rcases q with q | q
        · exact s.nb n z4 q
        · injection q with q
          obtain ⟨o', e1, _⟩ := z5.at_
          rw [← q, hD] at e1; cases e1
      · exact s2.nb m h ((hB _).mpr (q.imp (fun y => (z1 _).mpr (.inl y)) id))
    · exact s2.bt a ((hB a).mpr (q.imp (fun y => (z1 _).mpr (.inl y)) id))
    · refine ⟨by rw [List.length_set, x2.len, x1.len], fun m q => ?_, fun a o h t q => ?_, fun a q => x1.tr a (x2.tr a q)⟩
      · rcases (hlv m).mp q with h | h
        · subst h; exact z4
        · exact x1.live m (x2.live m h)
      · exact (x1.trans x2).fr a o h t q
end
end M

/-! Sound12: list comprehensions. -/
namespace M
open PySem L2
open PySem (Str)
section
variable {F : Fx} {W : WX} {X : Cx} {B B' B2 : Addr → Prop} {ρ ρ' : Nat → Addr} {e e' e2 : M.Env} {S S' S1 S2 : Sto} {σ σ' σ2 : L2.St} {H H' H0 H1 H2 : Hp} {Y : Addr → Prop} {x : D} {v w : V} {r : R} {p : Addr} {o : HO} {Q : VK} {a b : Expr} {ma mb mc : ME} {pos : Pos} {rest : List Expr} {tg : Expr}
theorem drop_cons {α : Type} {xs : List α} {i : Nat} {x : α} (h : xs[i]? = some x) : xs.drop i = x :: xs.drop (i + 1) := by
  have hi := (List.getElem?_eq_some_iff.mp h)
  obtain ⟨h1, h2⟩ := hi
  rw [List.drop_eq_getElem_cons h1, h2]
theorem ext_put {ρ : Nat → Addr} {S0 : Sto} {K0 H : Hp} {S : Sto} (x : ExtE ρ S0 K0 S H) (hp : K0 p = none) {o : HO} : ExtE ρ S0 K0 S (upd H p o) :=
  ⟨x.len, x.live, fun a u n t q => by
    have : a ≠ p := fun z => by rw [z, hp] at q; cases q
    rw [upd_ne this]; exact x.fr a u n t q, fun a q => by
    by_cases z : a = p
    · subst z; exact Nw.of hp
    · exact x.tr a fun o' y => q o' (by rw [upd_ne z]; exact y)⟩
theorem lc_read {it : MI} {tgm : Tg} {cond : Option ME} {ow : List Nat} {K : PySem.W.Frag} (st : Stab F) (hK : K = F.K) (hown : ∀ i ∈ tgm.ix, i ∈ ow) {σ : L2.St} {H : Hp} {Q : VK} (h : TrE F W (mLc it tgm ow cond ma) σ H Q) :
    tLc (TrI F W it) (gTg K tgm) (TrC F cond) (TrE F W0 ma) ow σ H Q := by
  obtain ⟨B, ρ, e, S, s, hp⟩ := h
  unfold mLc at hp
  refine ⟨B, ρ, e, S, s, hp.bind.imp (fun I S1 hp B' J H1 wk p hD => ?_) fun c S' q => q⟩
  obtain ⟨s1, x1, ⟨G, Yl, hW, hG, hY⟩, hsz, hfz⟩ := wk
  cases hL : lcL tgm ow cond ma F.g e I.xs S1 with
  | no => rw [hL] at hp; exact hp.elim
  | ex c S' => rw [hL] at hp; exact hp.elim
  | ok ys0 S0 =>
  rw [hL] at hp
  let B2 : Addr → Prop := fun a => B' a ∨ V.ref p = .ref a
  have hB2p : B2 p := .inr rfl
  have hfr : ∀ a, B2 a → B' a ∨ Nw H1 a := fun a q => q.imp id fun z => by injection z with z; rw [← z]; exact Nw.of hD
  -- the invariant
  let Pv : Nat → Hp → Prop := fun i H2 => ∃ S2 acc vacc ys S3, Sim F B2 ρ (M.wipe e ow) S2 (L2.wipe σ ow) H2 ∧ ExtE ρ S1 H1 S2 H2 ∧ H2 p = some (.lst vacc) ∧ Reps F (Ex B2 ρ S2) H2 acc vacc ∧ vacc.length ≤ i ∧
    lcL tgm ow cond ma F.g e (I.xs.drop i) S2 = .ok ys S3 ∧ NP F B ρ e σ S H Q (.f (.l (acc ++ ys))) (thaw I.fz S3)
  refine lc_it hW Pv ?_ (fun i H2 _ hP => ?_) (fun i u H2 H3 hi hP hyl => ?_) fun H2 hP => ?_
  · refine ⟨S1, [], [], ys0, S0, (s1.alloc st hD).wipe ow, ExtE.alloc hD, upd_same, Reps.nil, Nat.zero_le _, by simpa using hL, hp⟩
  · obtain ⟨S2, acc, vacc, ys, S3, s2, x2, _⟩ := hP
    exact hG _ _ _ x2.ext
  · obtain ⟨S2, acc, vacc, ys, S3, s2, x2, h1, h2, h3, h4, h5⟩ := hP
    obtain ⟨x, hx⟩ : ∃ x, I.xs[i]? = some x := ⟨I.xs[i], by simp [hi]⟩
    obtain ⟨s3, x3, hr⟩ := hY _ _ _ _ _ _ i x u H3 s2 hfr x2.ext hx hyl
    have h13 : H3 p = some (.lst vacc) := x3.fr p _ (fun m hm z => s2.nb m hm (z ▸ hB2p)) (fun _ z => by cases z) h1
    have h23 : Reps F (Ex B2 ρ S2) H3 acc vacc := s2.repsX st (n0 := 0) x3.ext (fun a q => .inl q) h2
    rw [drop_cons hx] at h4
    simp only [lcL] at h4
    split at h4
    · cases h4
    rename_i e' he'
    obtain ⟨σ', s4, hwp, hk⟩ := gTg_ok s3 he' hr.toV (fun _ _ => hr)
    obtain ⟨w1, w2⟩ := hwp ow hown
    rw [hK]
    refine hk _ ?_
    have ww : L2.wipe σ' ow = L2.wipe σ ow := w1.trans (Lwipe_wipe ow ow fun i q => q)
    have we : M.wipe e' ow = M.wipe e ow := w2.trans (Mwipe_wipe ow ow fun i q => q)
    refine ⟨ww.trans rfl, ?_⟩
    -- behind the test
    have after : ∀ b S4 H4, Sim F B2 ρ e' S4 σ' H4 → ExtE ρ S2 H3 S4 H4 → (match b with
        | true => (evD ma F.g e' S4).bind fun y S2 => (lcL tgm ow cond ma F.g e (I.xs.drop (i + 1)) S2).bind fun ys S3 => .ok (y :: ys) S3
        | false => lcL tgm ow cond ma F.g e (I.xs.drop (i + 1)) S4) = O.ok ys S3 → if b = true then TrE F W0 ma σ' H4 fun y H4 => ∃ acc, H4 p = some (.lst acc) ∧ acc.length < sizeLine ∧ Pv (i + 1) (upd H4 p (.lst (acc ++ [y]))) else Pv (i + 1) H4 := by
      intro b S4 H4 s5 x4 hb
      have h14 : H4 p = some (.lst vacc) := x4.fr p _ (fun m hm z => s4.nb m hm (z ▸ hB2p)) (fun _ z => by cases z) h13
      have h24 : Reps F (Ex B2 ρ S4) H4 acc vacc := s4.repsX st (n0 := 0) x4.ext (fun a q => .inl q) h23
      have x14 : ExtE ρ S1 H1 S4 H4 := (x2.trans x3).trans x4
      cases b with
      | false =>
        rw [if_neg (by simp)]
        exact ⟨S4, acc, vacc, ys, S3, by have := s5.wipe ow; rw [we, ww] at this; exact this, x14, h14, h24, by omega, hb, h5⟩
      | true =>
        rw [if_pos rfl]
        simp only [evD] at hb
        refine ⟨B2, ρ, e', S4, s5, ?_⟩
        cases hm : ma F.g e' S4 with
        | no => rw [hm] at hb; cases hb
        | ex c S' => rw [hm] at hb; cases hb
        | ok r S5 =>
        rw [hm, O.bind_ok] at hb
        intro y H5 s6 x5 hr
        cases hd : toD r S5 with
        | no => rw [hd] at hb; cases hb
        | ex c S' => rw [hd] at hb; cases hb
        | ok yd S6 =>
        rw [hd, O.bind_ok] at hb
        cases hl : lcL tgm ow cond ma F.g e (I.xs.drop (i + 1)) S6 with
        | no => rw [hl] at hb; cases hb
        | ex c S' => rw [hl] at hb; cases hb
        | ok ys' S7 =>
        rw [hl, O.bind_ok] at hb
        cases hb
        obtain ⟨s7, x6, hr2⟩ := toD_ok2 st s6 hr hd
        have x56 := x5.trans x6
        have h15 : H5 p = some (.lst vacc) := x56.fr p _ (fun m hm z => s5.nb m hm (z ▸ hB2p)) (fun _ z => by cases z) h14
        have h25 : Reps F (Ex B2 ρ S6) H5 acc vacc := s5.repsX st (n0 := 0) x56.ext (fun a q => .inl q) h24
        have hlen : vacc.length < sizeLine := by
          have : LIM = sizeLine := LIM_eq
          omega
        obtain ⟨s8, m1, m2⟩ := s7.writeB st (vs := vacc ++ [y]) hB2p h15
        refine ⟨vacc, h15, hlen, S6, acc ++ [yd], vacc ++ [y], ys', S3, ?_, ext_put (x14.trans x56) hD, upd_same, (m1 h25).append (.cons (m2 hr2) .nil), by simp; omega, hl, by simpa using h5⟩
        have := s8.wipe ow
        rw [we, ww] at this
        exact this
    cases cond with
    | none =>
      exact after true S2 H3 s4 ExtE.refl h4
    | some m =>
      refine ⟨B2, ρ, e', S2, s4, ?_⟩
      simp only [evC] at h4
      cases hm : evB m F.g e' S2 with
      | no => rw [hm] at h4; cases h4
      | ex c S' => rw [hm] at h4; cases h4
      | ok b S4 =>
        rw [hm, O.bind_ok] at h4
        exact fun H4 s5 x4 => after b S4 H4 s5 x4 h4
  · obtain ⟨S2, acc, vacc, ys, S3, s2, x2, h1, h2, h3, h4, h5⟩ := hP
    rw [List.drop_length] at h4
    cases h4
    rw [List.append_nil] at h5
    obtain ⟨s3, x3, hex⟩ := lc_back st s s1 x1 s2 x2 (fun a => Iff.rfl) hD (fz := I.fz) (by
      revert hfz
      cases I.fz with
      | none => exact id
      | some q => exact id)
    have heq : Ex (fun a => B a ∨ V.ref p = .ref a) ρ (thaw I.fz S2) = Ex B2 ρ S2 := funext fun a => propext (hex a)
    refine h5 _ _ s3 x3 ⟨p, rfl, x1.none_ (Nw.of hD), ?_, vacc, h1, ?_, ?_⟩
    · rintro (z | ⟨m, hm, z⟩)
      · exact s.bt p z (x1.none_ (Nw.of hD))
      · exact s3.nb m hm (.inr (by rw [z]))
    · have : I.xs.length ≤ LIM := hsz
      omega
    · rw [heq]; exact h2
theorem te_lc {elt tgE iter : Expr} {ifs : List Expr} {scope : Scope} {own : List (Str × Nat)} {it : MI} {tgm : Tg} {cond : Option ME} (st : Stab F) (hc : X.calm = true) (hN : X.N.Nodup) (hK : X.K = F.K)
    (hi : PI X tgE iter (TrI F W it)) (ok : BlkOk X.N X.env.scope scope own) (hown : ∀ i ∈ tgm.ix, i ∈ own.map (·.2))
    (hg : ∀ (s : Shared) (H : Hp) (C : Addr) (cl : List (Str × Addr)) (fp : List Addr), PG (X.blk s H scope (compEnvC scope cl C X.env) fp) tgE (gTg X.K tgm))
    (ht : ∀ (s : Shared) (H : Hp) (C : Addr) (cl : List (Str × Addr)) (fp : List Addr), PTs (X.blk s H scope (compEnvC scope cl C X.env) fp) ifs (TrC F cond))
    (he : ∀ (s : Shared) (H : Hp) (C : Addr) (cl : List (Str × Addr)) (fp : List Addr), PE (X.blk s H scope (compEnvC scope cl C X.env) fp) elt (TrE F W0 ma))
    (hs : ∀ x, foldedSetIterable iter X.env x = pure x) : PE X (.ListComp elt [⟨tgE, iter, ifs, 0⟩] scope pos) (TrE F W (mLc it tgm (own.map (·.2)) cond ma)) :=
  PE_imp (pe_lc hc hN hi ok hg ht he hs) fun σ H Q h => lc_read st hK hown h
end
end M

/-! Sound13: statements. -/
namespace M
open PySem L2
open PySem (Str)
/-- what is promised of a statement's end -/
def PostS (F : Fx) (W : WX) (B : Addr → Prop) (ρ : Nat → Addr) (S : Sto) (H : Hp) (D : Ends) : OS → Prop
  | .nx e' S' => ∀ ρ' σ' H', Sim F B ρ' e' S' σ' H' → Ext F.n0 ρ S H ρ' S' H' → D.nx σ' H'
  | .bk e' S' => ∀ ρ' σ' H', Sim F B ρ' e' S' σ' H' → Ext F.n0 ρ S H ρ' S' H' → D.bk σ' H'
  | .ct e' S' => ∀ ρ' σ' H', Sim F B ρ' e' S' σ' H' → Ext F.n0 ρ S H ρ' S' H' → D.ct σ' H'
  | .rt r S' => ∀ ρ' e' σ' H' v, Sim F (addR B r v) ρ' e' S' σ' H' → Ext F.n0 ρ S H ρ' S' H' → RepR F B ρ' S' H H' r v → D.rt v H'
  | .ex c e' S' => ∀ ρ' σ' H', Sim F B ρ' e' S' σ' H' → Ext F.n0 ρ S H ρ' S' H' → ∀ cl, F.mg c = some (.ref cl) → W (.ref cl) none σ' H'
  | .no => False
/-- a statement's denotation as a reading -/
def TrS (F : Fx) (W : WX) (m : MS) : TS := fun D σ H => ∃ B ρ e S, Sim F B ρ e S σ H ∧ PostS F W B ρ S H D (m F.g e S)
section
variable {F : Fx} {W : WX} {X : Cx} {B B' B2 : Addr → Prop} {ρ ρ' ρ0 : Nat → Addr} {e e' e2 : M.Env} {S S' S0 S1 S2 : Sto} {σ σ' σ2 : L2.St} {H H' H0 H1 H2 : Hp} {Y : Addr → Prop} {x : D} {v w : V} {r : R} {p : Addr} {o : HO} {Q : VK} {a b : Expr} {m ma mb mc : ME} {pos : Pos} {tg : Expr} {D D' : Ends} {os : OS} {st st' : Stmt} {body rest : List Stmt} {ms mt : MS}
theorem PS_imp {t t' : TS} (h : PS X st t) (i : ∀ D σ H, t' D σ H → t D σ H) : PS X st t' := ⟨fun pins s σ H D I w => h.run pins s σ H D I (i D σ H w)⟩
theorem PSs_imp {t t' : TS} (h : PSs X rest t) (i : ∀ D σ H, t' D σ H → t D σ H) : PSs X rest t' := ⟨fun pins s σ H D I w => h.run pins s σ H D I (i D σ H w)⟩
theorem PS_or {t t' : TS} (h : PS X st t) (h' : PS X st t') : PS X st (fun D σ H => t D σ H ∨ t' D σ H) := ⟨fun pins s σ H D I w => w.elim (h.run pins s σ H D I) (h'.run pins s σ H D I)⟩
theorem Ext.after (x : Ext F.n0 ρ0 S0 H0 ρ S H) (h : PostS F W B ρ0 S0 H0 D os) : PostS F W B ρ S H D os := by
  cases os with
  | nx e' S' => exact fun ρ' σ' H' s' x' => h ρ' σ' H' s' (x.trans x')
  | bk e' S' => exact fun ρ' σ' H' s' x' => h ρ' σ' H' s' (x.trans x')
  | ct e' S' => exact fun ρ' σ' H' s' x' => h ρ' σ' H' s' (x.trans x')
  | rt r S' => exact fun ρ' e' σ' H' v s' x' r' => h ρ' e' σ' H' v s' (x.trans x') (r'.since fun a q => x.none_ q)
  | ex c e' S' => exact fun ρ' σ' H' s' x' => h ρ' σ' H' s' (x.trans x')
  | no => exact h
/-- an expression ahead of what a statement does -/
theorem stepS {f : R → Sto → OS} (st : Stab F) (s : Sim F B ρ e S σ H) (hp : PostS F W B ρ S H D ((m F.g e S).bindS e f))
    (k : ∀ r S1 v H1, Sim F (addR B r v) ρ e S1 σ H1 → ExtE ρ S H S1 H1 → RepR F B ρ S1 H H1 r v → PostS F W B ρ S H D (f r S1) → Q v H1) : TrE F W m σ H Q := by
  refine ⟨B, ρ, e, S, s, ?_⟩
  cases hm : m F.g e S with
  | no => rw [hm] at hp; exact hp.elim
  | ex c S' => rw [hm] at hp; exact fun H' s' x' cl hc => hp ρ σ H' s' x'.ext cl hc
  | ok r S1 => rw [hm] at hp; exact fun v H1 s1 x1 r1 => k r S1 v H1 s1 x1 r1 hp
theorem stepSB {f : Bool → Sto → OS} {Q : Bool → Hp → Prop} (s : Sim F B ρ e S σ H) (hp : PostS F W B ρ S H D ((evB m F.g e S).bindS e f))
    (k : ∀ b S1 H1, Sim F B ρ e S1 σ H1 → ExtE ρ S H S1 H1 → PostS F W B ρ S H D (f b S1) → Q b H1) : TrB F W m σ H Q := by
  refine ⟨B, ρ, e, S, s, ?_⟩
  cases hm : evB m F.g e S with
  | no => rw [hm] at hp; exact hp.elim
  | ex c S' => rw [hm] at hp; exact fun H' s' x' cl hc => hp ρ σ H' s' x'.ext cl hc
  | ok r S1 => rw [hm] at hp; exact fun H1 s1 x1 => k r S1 H1 s1 x1 hp
theorem evD_bindS {f : M.D → Sto → OS} : (evD m F.g e S).bindS e f = (m F.g e S).bindS e fun r S1 => (toD r S1).bindS e f := by
  unfold evD
  cases m F.g e S <;> rfl
theorem toD_S {f : M.D → Sto → OS} (hp : PostS F W B ρ S H D ((toD r S1).bindS e f)) : ∃ y S', toD r S1 = .ok y S' ∧ PostS F W B ρ S H D (f y S') := by
  cases hd : toD r S1 with
  | ok y S' => rw [hd] at hp; exact ⟨y, S', rfl, hp⟩
  | ex c S' =>
    exfalso
    cases r with
    | d x => cases hd
    | f c => cases hd
    | c n =>
      simp only [toD] at hd
      split at hd <;> cases hd
  | no => rw [hd] at hp; exact hp.elim
/-- an expression that is to become data -/
theorem stepSD {f : M.D → Sto → OS} (st : Stab F) (s : Sim F B ρ e S σ H) (hp : PostS F W B ρ S H D ((evD m F.g e S).bindS e f))
    (k : ∀ y S1 v H1, Sim F B ρ e S1 σ H1 → ExtE ρ S H S1 H1 → Rep F (Ex B ρ S1) H1 y v → PostS F W B ρ S H D (f y S1) → Q v H1) : TrE F W m σ H Q := by
  rw [evD_bindS] at hp
  refine stepS st s hp fun r S1 v H1 s1 x1 r1 hp => ?_
  obtain ⟨y, S2, hd, hp⟩ := toD_S hp
  obtain ⟨s2, x2, r2⟩ := toD_ok2 st s1 r1 hd
  exact k y S2 v H1 s2 (x1.trans x2) r2 hp

/-! ### blocks -/
theorem ts_nil : PSs X [] (TrS F W (mSeq [])) := PSs_imp pss_nil fun D σ H h => by
  obtain ⟨B, ρ, e, S, s, hp⟩ := h
  exact hp ρ σ H s Ext.refl
theorem ts_cons {mss : List MS} (h1 : PS X st (TrS F W ms)) (h2 : PSs X rest (TrS F W (mSeq mss))) : PSs X (st :: rest) (TrS F W (mSeq (ms :: mss))) :=
  PSs_imp (pss_cons h1 h2) fun D σ H h => by
    obtain ⟨B, ρ, e, S, s, hp⟩ := h
    refine ⟨B, ρ, e, S, s, ?_⟩
    simp only [mSeq] at hp
    cases hm : ms F.g e S with
    | nx e' S' =>
      rw [hm] at hp
      exact fun ρ' σ' H' s' x' => ⟨B, ρ', e', S', s', x'.after hp⟩
    | bk e' S' => rw [hm] at hp; exact hp
    | ct e' S' => rw [hm] at hp; exact hp
    | rt r S' => rw [hm] at hp; exact hp
    | ex c e' S' => rw [hm] at hp; exact hp
    | no => rw [hm] at hp; exact hp
theorem ts_pass : PS X (.Pass pos) (TrS F W mPass) := PS_imp ps_pass fun D σ H h => by
  obtain ⟨B, ρ, e, S, s, hp⟩ := h
  exact hp ρ σ H s Ext.refl
theorem ts_brk : PS X (.Break pos) (TrS F W mBrk) := PS_imp ps_break fun D σ H h => by
  obtain ⟨B, ρ, e, S, s, hp⟩ := h
  exact hp ρ σ H s Ext.refl
theorem ts_cnt : PS X (.Continue pos) (TrS F W mCnt) := PS_imp ps_continue fun D σ H h => by
  obtain ⟨B, ρ, e, S, s, hp⟩ := h
  exact hp ρ σ H s Ext.refl
theorem ts_doc {x j pos pos'} : PS X (.Expr (.Constant (.str x) j pos) pos') (TrS F W mPass) := PS_imp ps_doc fun D σ H h => by
  obtain ⟨B, ρ, e, S, s, hp⟩ := h
  exact hp ρ σ H s Ext.refl
theorem ts_expr (st : Stab F) (ha : PE X a (TrE F W ma)) (hs : swapsWith a none pos.line X.env = pure false) : PS X (.Expr a pos) (TrS F W (mExpr ma)) := PS_imp (ps_expr ha hs) fun D σ H h => by
  obtain ⟨B, ρ, e, S, s, hp⟩ := h
  refine stepS st s hp fun r S1 v H1 s1 x1 r1 hp => ?_
  exact hp ρ σ H1 (s1.mono st addR_le) x1.ext
theorem ts_ret (st : Stab F) (ha : PE X a (TrE F W ma)) : PS X (.Return (some a) pos) (TrS F W (mRet ma)) := PS_imp (ps_ret ha) fun D σ H h => by
  obtain ⟨B, ρ, e, S, s, hp⟩ := h
  refine stepS (Q := D.rt) st s hp fun r S1 v H1 s1 x1 r1 hp => ?_
  exact hp ρ e σ H1 v s1 x1.ext r1
theorem ts_retN : PS X (.Return none pos) (TrS F W mRetN) := PS_imp ps_retN fun D σ H h => by
  obtain ⟨B, ρ, e, S, s, hp⟩ := h
  exact hp ρ e σ H .non s Ext.refl (show RepR F B ρ S H H (.d .non) .non by simp only [RepR]; rw [Rep])
theorem ts_if {c : Expr} {ta tb : List Stmt} (hc : PT X c (TrB F W mc)) (ha : PSs X ta (TrS F W ms)) (hb : PSs X tb (TrS F W mt)) : PS X (.If c ta tb pos) (TrS F W (mIf mc ms mt)) :=
  PS_imp (ps_if hc ha hb) fun D σ H h => by
    obtain ⟨B, ρ, e, S, s, hp⟩ := h
    refine stepSB s hp fun b S1 H1 s1 x1 hp => ?_
    cases b with
    | true => exact ⟨B, ρ, e, S1, s1, x1.ext.after hp⟩
    | false => exact ⟨B, ρ, e, S1, s1, x1.ext.after hp⟩
theorem ts_raise {c : Str} {cl : Addr} (hc : X.calm = true) (tk : Takes X W) (hm : PMk X a (fun _ H Q => Q (.ref cl) none H)) (hF : F.mg c = some (.ref cl)) : PS X (.Raise (some a) none pos) (TrS F W (mRaise c)) :=
  PS_imp (ps_raise hc tk hm) fun D σ H h => by
    obtain ⟨B, ρ, e, S, s, hp⟩ := h
    exact hp ρ σ H s Ext.refl cl hF

/-! ### names -/
theorem ts_set {i : Nat} {y : Str} {p' : Pos} (st : Stab F) (hN : X.N.Nodup) (hi : X.N[i]? = some y) (hx : Loc X.env.scope y) (ha : PE X a (TrE F W ma)) (hs : swapsWith a (some (.Name y p')) pos.line X.env = pure false)
    (hf : X.fn y = true ∨ X.env.scope.names.lookup y = some .local) : PS X (.Assign [.Name y p'] a pos) (TrS F W (mSet i ma)) :=
  PS_imp (ps_set hN hi hx ha hs hf) fun D σ H h => by
    obtain ⟨B, ρ, e, S, s, hp⟩ := h
    refine stepSD st s hp fun z S1 v H1 s1 x1 r1 hp => ?_
    exact hp ρ _ H1 (s1.put r1) x1.ext
theorem ts_setT {is : List Nat} {es : List Expr} {kk : Nat} {tp : Pos} (st : Stab F) (ha : PE X a (TrE F W ma)) (hg : PG X (.Tuple es kk tp) (gTg F.K (.many is))) (hs : swapsWithSole [.Tuple es kk tp] a pos.line X.env = pure false) (hw : swappedStores [.Tuple es kk tp] a X.env = pure none)
    (h1 : (assignEach [.Tuple es kk tp] X.env).map (·.2) = [assign (.Tuple es kk tp) X.env]) : PS X (.Assign [.Tuple es kk tp] a pos) (TrS F W (mSetT is ma)) :=
  PS_imp (ps_asg ha hg hs hw h1) fun D σ H h => by
    obtain ⟨B, ρ, e, S, s, hp⟩ := h
    refine stepSD st s hp fun z S1 v H1 s1 x1 r1 hp => ?_
    split at hp
    · rename_i e' he
      obtain ⟨σ', s2, _, hk⟩ := gTg_ok s1 he r1.toV (fun _ _ => r1)
      exact hk _ (hp ρ σ' H1 s2 x1.ext)
    · exact hp.elim
/-- a list of its own under a name -/
theorem Sim.setC (st : Stab F) {ad : Addr} {i n : Nat} {c : C} (s : Sim F (fun b => B b ∨ V.ref ad = .ref b) ρ e S σ H) (hi : e[i]? = some (some (.c n))) (hm : i ∈ F.ml) (ha : ¬ Ex B ρ S ad) (hc : CellAt F (Ex (fun b => B b ∨ V.ref ad = .ref b) ρ S) H ad c) :
    Sim F B (fun k => if k = n then ad else ρ k) e (S.set n (some c)) (σ.set i (some (.ref ad))) H ∧ n < S.length ∧ F.n0 ≤ n := by
  obtain ⟨hn, hu⟩ := s.uq i hm n hi
  have hl := (s.slotC i n hi).1
  have hco : ∀ k, cellOf (S.set n (some c)) k = if k = n then some c else cellOf S k := fun k => by
    rw [cellOf_set]
    by_cases h : k = n
    · subst h; simp [hl]
    · rw [if_neg fun q => h q.1, if_neg h]
  have hex : ∀ b, Ex B (fun k => if k = n then ad else ρ k) (S.set n (some c)) b → Ex (fun b => B b ∨ V.ref ad = .ref b) ρ S b := by
    rintro b (q | ⟨k, hk, q⟩)
    · exact .inl (.inl q)
    · by_cases h : k = n
      · simp only [if_pos h] at q; exact .inl (.inr (by rw [q]))
      · simp only [if_neg h] at q
        simp only [hco, if_neg h] at hk
        exact .inr ⟨k, hk, q⟩
  have hil : i < σ.length := by
    rw [s.len]
    exact (List.getElem?_eq_some_iff.mp hi).1
  refine ⟨⟨by simp [s.len], fun j x q => ?_, fun j k q => ?_, fun k d q => ?_, fun k l h1 h2 q => ?_, fun k h q => ?_, fun b q => s.bt b (.inl q), s.uq, s.tb⟩, hl, hn⟩
  · have hji : i ≠ j := fun z => by subst z; rw [hi] at q; cases q
    obtain ⟨u, h1, h2⟩ := s.slot j x q
    exact ⟨u, by rw [List.getElem?_set_ne hji]; exact h1, h2.mono st hex⟩
  · refine ⟨by rw [List.length_set]; exact (s.slotC j k q).1, fun z => ?_⟩
    by_cases h : k = n
    · subst h
      have hj : j = i := Classical.byContradiction fun y => hu j y q
      subst hj
      rw [List.getElem?_set_self hil]; simp
    · have hji : i ≠ j := fun y => by subst y; rw [hi] at q; injection q with q; injection q with q; injection q with q; exact h q.symm
      simp only [hco, if_neg h] at z
      rw [List.getElem?_set_ne hji]; simp only [if_neg h]
      exact (s.slotC j k q).2 z
  · rw [hco] at q
    by_cases h : k = n
    · simp only [if_pos h] at q
      cases q
      simp only [if_pos h]
      exact hc.move st (fun _ q => q) (fun _ _ _ q => q) fun b o _ n' q => ⟨q, fun y => n' (hex b y)⟩
    · simp only [if_neg h] at q ⊢
      exact (s.cell k d q).move st (fun _ q => q) (fun _ _ _ q => q) fun b o _ n' q => ⟨q, fun y => n' (hex b y)⟩
  · rw [hco] at h1 h2
    by_cases hk : k = n
    · by_cases hl : l = n
      · rw [hk, hl]
      · simp only [if_pos hk, if_neg hl] at q
        simp only [if_neg hl] at h2
        exact absurd (.inr ⟨l, h2, q.symm⟩) ha
    · by_cases hl : l = n
      · simp only [if_neg hk, if_pos hl] at q
        simp only [if_neg hk] at h1
        exact absurd (.inr ⟨k, h1, q⟩) ha
      · simp only [if_neg hk, if_neg hl] at q
        simp only [if_neg hk] at h1
        simp only [if_neg hl] at h2
        exact s.inj k l h1 h2 q
  · rw [hco] at h
    by_cases hk : k = n
    · simp only [if_pos hk] at q; exact ha (.inl q)
    · simp only [if_neg hk] at q h
      exact s.nb k h (.inl q)
theorem Ext.setC {n : Nat} {ad : Addr} {c : C} {n0 : Nat} (x : ExtE ρ S H S1 H1) (hn : n0 ≤ n) (ha : Nw H ad) : Ext n0 ρ S H (fun k => if k = n then ad else ρ k) (S1.set n (some c)) H1 := by
  refine ⟨by rw [List.length_set]; exact x.len, fun k hk => by simp only [if_neg (show ¬ k = n by omega)], fun k hk => ?_, x.fr, x.tr⟩
  by_cases h : k = n
  · exact .inr ⟨by omega, by simp only [if_pos h]; exact ha⟩
  · rw [cellOf_set, if_neg fun q => h q.1] at hk
    exact .inl ⟨x.live k hk, by simp only [if_neg h]⟩
theorem ts_setC {i : Nat} {y : Str} {p' : Pos} (st : Stab F) (hN : X.N.Nodup) (hi : X.N[i]? = some y) (hx : Loc X.env.scope y) (ha : PE X a (TrE F W ma)) (hs : swapsWith a (some (.Name y p')) pos.line X.env = pure false)
    (hf : X.fn y = true ∨ X.env.scope.names.lookup y = some .local) (hm : i ∈ F.ml) : PS X (.Assign [.Name y p'] a pos) (TrS F W (mSetC i ma)) :=
  PS_imp (ps_set hN hi hx ha hs hf) fun D σ H h => by
    obtain ⟨B, ρ, e, S, s, hp⟩ := h
    refine stepS st s hp fun r S1 v H1 s1 x1 r1 hp => ?_
    split at hp
    · rename_i c n he
      obtain ⟨ad, rfl, h1, h2, h3⟩ := r1
      obtain ⟨s2, _, hn⟩ := Sim.setC st (S := S1) s1 he hm h2 h3
      exact hp _ _ H1 s2 (Ext.setC x1 hn h1)
    · exact hp.elim
end
end M

/-! Sound14: loops. -/
namespace M
open PySem L2
open PySem (Str)
section
variable {F : Fx} {W : WX} {X : Cx} {B B' B2 : Addr → Prop} {ρ ρ' ρ0 : Nat → Addr} {e e' e2 : M.Env} {S S' S0 S1 S2 : Sto} {σ σ' σ2 : L2.St} {H H' H0 H1 H2 : Hp} {Y : Addr → Prop} {x : M.D} {v w : V} {r : R} {p : Addr} {o : HO} {Q : VK} {a b : Expr} {m ma mb mc : ME} {pos : Pos} {tg : Expr} {D D' : Ends} {os : OS} {st st' : Stmt} {body rest : List Stmt} {ms mt : MS}
theorem XP_S {c : Str} (h : PostS F W B ρ S H D (.ex c e S')) : XP F W B ρ e σ S H c S' := fun H' s' x' cl hc => h ρ σ H' s' x'.ext cl hc
/-- a turn's body among what follows it -/
theorem body_post {N : L2.St → Hp → Prop} {wp : List Nat} {k : Env → Sto → OS} (hp : PostS F W B ρ S H D (match os with
      | .nx e2 S2 => k e2 S2
      | .ct e2 S2 => k e2 S2
      | .bk e2 S2 => .nx (wipe e2 wp) S2
      | o => o)) (hN : ∀ ρ' e2 S2 σ' H', Sim F B ρ' e2 S2 σ' H' → Ext F.n0 ρ S H ρ' S2 H' → PostS F W B ρ S H D (k e2 S2) → N σ' H') :
    PostS F W B ρ S H { D with nx := N, ct := N, bk := D.nx } os := by
  cases os with
  | nx e2 S2 => exact fun ρ' σ' H' s' x' => hN ρ' e2 S2 σ' H' s' x' hp
  | ct e2 S2 => exact fun ρ' σ' H' s' x' => hN ρ' e2 S2 σ' H' s' x' hp
  | bk e2 S2 => exact fun ρ' σ' H' s' x' => hp ρ' σ' H' (s'.wipeE wp) x'
  | rt r S' => exact hp
  | ex c e' S' => exact hp
  | no => exact hp.elim
theorem ts_for {iter : Expr} {it : MI} {tgm : Tg} {wp : List Nat} (st : Stab F) (hpo : PassesOwn (model X.prog X.w) X.A X.env X.xe) (hc : X.calm = true) (hi : PI X tg iter (TrI F W it)) (hg : PG X tg (gTg F.K tgm)) (hb : PSs X body (TrS F W ms))
    (hs : ∀ x, foldedSetIterable iter X.env x = pure x) : PS X (.For tg iter body [] pos) (TrS F W (mFor it tgm wp ms)) :=
  PS_imp (ps_for hpo hc hi hg hb hs) fun D σ H h => by
    obtain ⟨B, ρ, e, S, s, hp⟩ := h
    unfold mFor at hp
    refine ⟨B, ρ, e, S, s, ?_⟩
    cases hit : it F.g e S with
    | no => rw [hit] at hp; exact hp.elim
    | ex c S' => rw [hit] at hp; exact XP_S hp
    | ok I S1 =>
    rw [hit, O.bindS_ok] at hp
    intro B' J H1 wk
    obtain ⟨s1, x1, ⟨G, Yl, hW, hG, hY⟩, hsz, hfz⟩ := wk
    cases hz : I.fz with
    | some q => rw [hz] at hp; exact hp.elim
    | none =>
    rw [hz] at hp hfz
    have hfz : B' = B := hfz
    subst hfz
    let Pv : Nat → L2.St → Hp → Prop := fun i σ2 H2 => ∃ ρ2 e2 S2, Sim F B' ρ2 e2 S2 σ2 H2 ∧ Ext F.n0 ρ S1 H1 ρ2 S2 H2 ∧ PostS F W B' ρ2 S2 H2 D (forL tgm wp ms F.g (I.xs.drop i) e2 S2)
    refine for_it hW Pv ⟨ρ, e, S1, s1, Ext.refl, by simpa using x1.ext.after hp⟩ (fun i σ2 H2 _ hP => ?_) (fun i u σ2 H2 H3 hi hP hyl => ?_) fun σ2 H2 hP => ?_
    · obtain ⟨ρ2, e2, S2, s2, x2, _⟩ := hP
      exact hG _ _ _ x2
    · obtain ⟨ρ2, e2, S2, s2, x2, h4⟩ := hP
      obtain ⟨x, hx⟩ : ∃ x, I.xs[i]? = some x := ⟨I.xs[i], by simp [hi]⟩
      obtain ⟨s3, x3, hr⟩ := hY _ _ _ _ _ _ i x u H3 s2 (fun a q => .inl q) x2 hx hyl
      rw [drop_cons hx] at h4
      simp only [forL] at h4
      split at h4
      · exact h4.elim
      rename_i e' he'
      obtain ⟨σ', s4, _, hk⟩ := gTg_ok (s3.wipeE wp) he' hr.toV (fun _ _ => hr)
      refine hk _ ⟨B', ρ2, e', S2, s4, ?_⟩
      refine body_post (k := fun e2 S2 => forL tgm wp ms F.g (I.xs.drop (i + 1)) e2 S2) (x3.ext.after h4) fun ρ4 e4 S4 σ4 H4 s4 x4 h5 => ?_
      exact ⟨ρ4, e4, S4, s4, (x2.trans x3.ext).trans x4, x4.after h5⟩
    · obtain ⟨ρ2, e2, S2, s2, x2, h4⟩ := hP
      rw [List.drop_length] at h4
      exact h4 ρ2 σ2 H2 (s2.wipeE wp) Ext.refl
theorem ts_while {fuel : Nat} {wp : List Nat} (hpo : PassesOwn (model X.prog X.w) X.A X.env X.xe) (hc : PT X a (TrB F W mc)) (hb : PSs X body (TrS F W ms)) : PS X (.While a body [] pos) (TrS F W (mWhile fuel wp mc ms)) :=
  PS_imp (ps_while hpo hc hb) fun D σ H h => by
    obtain ⟨B, ρ, e, S, s, hp⟩ := h
    refine ⟨fun n σ2 H2 => ∃ ρ2 e2 S2, Sim F B ρ2 e2 S2 σ2 H2 ∧ PostS F W B ρ2 S2 H2 D (whileL wp mc ms F.g n e2 S2), ⟨fuel, ρ, e, S, s, hp⟩, ?_⟩
    rintro n σ2 H2 ⟨ρ2, e2, S2, s2, h4⟩
    cases n with
    | zero => exact h4.elim
    | succ n =>
      simp only [whileL] at h4
      refine stepSB (s2.wipeE wp) h4 fun b S3 H3 s3 x3 h5 => ?_
      cases b with
      | false =>
        exact h5 ρ2 σ2 H3 s3 x3.ext
      | true =>
        rw [if_pos rfl]
        refine ⟨fun σ' H' => ∃ ρ2 e2 S2, Sim F B ρ2 e2 S2 σ' H' ∧ PostS F W B ρ2 S2 H' D (whileL wp mc ms F.g n e2 S2), fun σ' H' q => ⟨n, Nat.lt_succ_self _, q⟩, ?_⟩
        refine ⟨B, ρ2, _, S3, s3, body_post (k := fun e2 S2 => whileL wp mc ms F.g n e2 S2) (x3.ext.after h5) fun ρ4 e4 S4 σ4 H4 s4 x4 h6 => ?_⟩
        exact ⟨ρ4, e4, S4, s4, x4.after h6⟩

/-! ### lists that are changed -/
theorem cell_l (s : Sim F B ρ e S σ H) {n : Nat} {xs : List M.D} (hc : cellOf S n = some (.l xs)) : ∃ vs, H (ρ n) = some (.lst vs) ∧ vs.length ≤ LIM ∧ Reps F (Ex B ρ S) H xs vs := s.cell n _ hc
theorem Sim.wr (st : Stab F) (s : Sim F B ρ e S σ H) {n : Nat} {xs ys : List M.D} {ws : List V} (hc : cellOf S n = some (.l xs)) (hl : ws.length ≤ LIM) (hr : Reps F (Ex B ρ S) H ys ws) :
    Sim F B ρ e (S.set n (some (.l ys))) σ (upd H (ρ n) (.lst ws)) ∧ ExtE ρ S H (S.set n (some (.l ys))) (upd H (ρ n) (.lst ws)) ∧
      (∀ {x u}, Rep F (Ex B ρ S) H x u → Rep F (Ex B ρ (S.set n (some (.l ys)))) (upd H (ρ n) (.lst ws)) x u) := by
  obtain ⟨vs, h1, h2, h3⟩ := cell_l s hc
  have hn : n < S.length := by
    by_cases h : n < S.length
    · exact h
    · rw [cellOf, List.getElem?_eq_none (by omega)] at hc; cases hc
  have live : cellOf S n ≠ none := by rw [hc]; simp
  have hco : ∀ k, cellOf (S.set n (some (.l ys))) k = if k = n then some (.l ys) else cellOf S k := fun k => by
    rw [cellOf_set]
    by_cases h : k = n
    · subst h; simp [hn]
    · rw [if_neg fun q => h q.1, if_neg h]
  have hlv : ∀ k, cellOf (S.set n (some (.l ys))) k ≠ none → cellOf S k ≠ none := fun k q => by
    by_cases h : k = n
    · subst h; exact live
    · rw [hco, if_neg h] at q; exact q
  have hex : ∀ a, Ex B ρ (S.set n (some (.l ys))) a → Ex B ρ S a := Ex.live hlv
  have kp : Keeps H (upd H (ρ n) (.lst ws)) := fun a o m q => by
    have : a ≠ ρ n := fun z => by rw [z, h1] at q; cases q; cases m
    rw [upd_ne this]; exact q
  have mv : ∀ a u, (∀ ps, u ≠ HO.tbl ps) → ¬ Ex B ρ S a → H a = some u → upd H (ρ n) (.lst ws) a = some u ∧ ¬ Ex B ρ (S.set n (some (.l ys))) a := fun a u _ nn q => by
    have : a ≠ ρ n := fun z => nn (.inr ⟨n, live, z.symm⟩)
    exact ⟨by rw [upd_ne this]; exact q, fun z => nn (hex a z)⟩
  refine ⟨⟨s.len, fun i x q => ?_, fun i k q => ⟨by rw [List.length_set]; exact (s.slotC i k q).1, fun z => (s.slotC i k q).2 (hlv k z)⟩, fun k d q => ?_, fun k l h1 h2 => s.inj k l (hlv k h1) (hlv l h2), fun k q => s.nb k (hlv k q), fun a q => ?_, s.uq, ?_⟩, ⟨List.length_set, hlv, fun a o nn t q => ?_, fun a q => ?_⟩, fun h => h.move st kp mv⟩
  · obtain ⟨v, q1, q2⟩ := s.slot i x q
    exact ⟨v, q1, q2.move st kp mv⟩
  · rw [hco] at q
    by_cases h : k = n
    · subst h
      rw [if_pos rfl] at q
      cases q
      exact ⟨ws, upd_same, hl, hr.move st kp mv⟩
    · rw [if_neg h] at q
      refine (s.cell k d q).move st (fun o z => ?_) kp mv
      have : ρ k ≠ ρ n := fun y => h (s.inj k n (by rw [q]; simp) live y)
      rw [upd_ne this]; exact z
  · by_cases z : a = ρ n
    · subst z; exact fun w => w.no upd_same (fun _ z => by cases z)
    · exact fun w => s.bt a q fun o' y => w o' (by rw [upd_ne z]; exact y)
  · exact s.tb.put h1
  · rw [upd_ne (fun z => nn n live z.symm)]; exact q
  · by_cases z : a = ρ n
    · subst z; exact fun o' y => (q.no upd_same (fun _ z => by cases z)).elim
    · exact fun o' y => q o' (by rw [upd_ne z]; exact y)
end
end M

/-! Sound15: lists that are changed. -/
namespace M
open PySem L2
open PySem (Str)
section
variable {F : Fx} {W : WX} {X : Cx} {B B' B2 : Addr → Prop} {ρ ρ' ρ0 : Nat → Addr} {e e' e2 : M.Env} {S S' S0 S1 S2 : Sto} {σ σ' σ2 : L2.St} {H H' H0 H1 H2 : Hp} {Y : Addr → Prop} {x : M.D} {v w : V} {r : R} {p : Addr} {o : HO} {Q : VK} {a b : Expr} {m ma mb mc mj : ME} {pos apos cpos p1 : Pos} {tg : Expr} {D D' : Ends} {os : OS} {st st' : Stmt} {body rest : List Stmt} {ms mt : MS} {i : Nat} {y : Str}
theorem updC_cases {f : C → Option C} (hp : PostS F W B ρ S H D (updC i e S1 f)) : ∃ n c c', e[i]? = some (some (.c n)) ∧ cellOf S1 n = some c ∧ f c = some c' ∧ PostS F W B ρ S H D (.nx e (S1.set n (some c'))) := by
  unfold updC at hp
  split at hp
  · rename_i n he
    split at hp
    · rename_i c hc
      split at hp
      · rename_i c' hf
        exact ⟨n, c, c', he, hc, hf, hp⟩
      · exact hp.elim
    · exact hp.elim
  · exact hp.elim
theorem hasL_cases (h : ¬ hasL i e S = false) : ∃ n xs, e[i]? = some (some (.c n)) ∧ cellOf S n = some (.l xs) := by
  unfold hasL at h
  split at h
  · rename_i n he
    split at h
    · rename_i xs hc
      exact ⟨n, xs, he, hc⟩
    · exact absurd rfl h
  · exact absurd rfl h
theorem var_cell (s : Sim F B ρ e S σ H) {n : Nat} (he : e[i]? = some (some (.c n))) (hc : cellOf S n ≠ none) : σ[i]? = some (some (.ref (ρ n))) := (s.slotC i n he).2 hc
theorem hasC_cases (h : ¬ hasC i e S = false) : ∃ n, e[i]? = some (some (.c n)) ∧ cellOf S n ≠ none := by
  unfold hasC at h
  split at h
  · rename_i n he
    exact ⟨n, he, fun z => h (by rw [z]; rfl)⟩
  · exact absurd rfl h
/-- x.append(e) -/
theorem ts_append (st : Stab F) (hN : X.N[i]? = some y) (hv : Vis X.env.scope y) (hd : (y == ("__debug__" : Str)) = false) (hcd : (y == ("__classdict__" : Str)) = false) (ha : PE X a (TrE F W ma))
    (hbase : attributeBase (.Name y p1) "append" X.env (eval (.Name y p1) X.env) = eval (.Name y p1) X.env)
    (hfew : ((backTo cpos (starEach [a] X.env)).all (fun x => !x.1) && (backToKw cpos (keywordEach [] X.env)).all (fun x => x.1.isSome) && decide (([a] : List Expr).length + ([] : List Keyword).length + (if ([] : List Keyword).isEmpty then 0 else 1) < 30)) = true)
    (hline : (apos.endLine == cpos.line) = true) (hs : starEach [a] X.env = (false, eval a X.env) :: starEach [] X.env) (hplain : (backTo cpos (starEach [] X.env)).any (·.1) = false)
    (hsw : swapsWith (.Call (.Attribute (.Name y p1) "append" apos) [a] [] cpos) none pos.line X.env = pure false) :
    PS X (.Expr (.Call (.Attribute (.Name y p1) "append" apos) [a] [] cpos) pos) (TrS F W (mAppend i ma)) :=
  PS_imp (ps_expr (pe_bm PySem.F.plainAttrs_list PySem.F.slot_list_append PySem.F.type_list_append mt_append (pe_var hN hv hd hcd) (pa_cons ha pa_nil hs) hbase hfew hline hs hplain) hsw) fun D σ H h => by
    obtain ⟨B, ρ, e, S, s, hp⟩ := h
    unfold mAppend at hp
    split at hp
    · exact hp.elim
    rename_i hL
    obtain ⟨n, xs0, he, hc0⟩ := hasL_cases hL
    obtain ⟨vs0, h0, _⟩ := cell_l s hc0
    refine ⟨_, var_cell s he (by rw [hc0]; simp), .inl ⟨rfl, _, SqL.of h0⟩, ?_⟩
    refine stepSD st s hp fun z S1 v H1 s1 x1 r1 hp => ?_
    obtain ⟨n', c, c', he', hc, hf, hp⟩ := updC_cases hp
    rw [he] at he'; cases he'
    cases c with
    | k ks us => cases hf
    | l xs =>
      simp only at hf
      split at hf
      · rename_i hlt
        cases hf
        obtain ⟨vs, h1, h2, h3⟩ := cell_l s1 hc
        have hlen : vs.length < sizeLine := by rw [h3.length, ← LIM_eq]; exact hlt
        obtain ⟨s2, x2, _⟩ := s1.wr st (ws := vs ++ [v]) hc (by have := LIM_eq; simp; omega) (h3.append (.cons r1 .nil))
        exact ⟨_, vs, v, rfl, rfl, h1, hlen, hp ρ σ _ s2 (x1.trans x2).ext⟩
      · cases hf
/-- x.extend(e) -/
theorem ts_extend (st : Stab F) (hN : X.N[i]? = some y) (hv : Vis X.env.scope y) (hd : (y == ("__debug__" : Str)) = false) (hcd : (y == ("__classdict__" : Str)) = false) (ha : PE X a (TrE F W ma))
    (hbase : attributeBase (.Name y p1) "extend" X.env (eval (.Name y p1) X.env) = eval (.Name y p1) X.env)
    (hfew : ((backTo cpos (starEach [a] X.env)).all (fun x => !x.1) && (backToKw cpos (keywordEach [] X.env)).all (fun x => x.1.isSome) && decide (([a] : List Expr).length + ([] : List Keyword).length + (if ([] : List Keyword).isEmpty then 0 else 1) < 30)) = true)
    (hline : (apos.endLine == cpos.line) = true) (hs : starEach [a] X.env = (false, eval a X.env) :: starEach [] X.env) (hplain : (backTo cpos (starEach [] X.env)).any (·.1) = false)
    (hsw : swapsWith (.Call (.Attribute (.Name y p1) "extend" apos) [a] [] cpos) none pos.line X.env = pure false) :
    PS X (.Expr (.Call (.Attribute (.Name y p1) "extend" apos) [a] [] cpos) pos) (TrS F W (mExtend i ma)) :=
  PS_imp (ps_expr (pe_bm PySem.F.plainAttrs_list PySem.F.slot_list_extend PySem.F.type_list_extend mt_extend (pe_var hN hv hd hcd) (pa_cons ha pa_nil hs) hbase hfew hline hs hplain) hsw) fun D σ H h => by
    obtain ⟨B, ρ, e, S, s, hp⟩ := h
    unfold mExtend at hp
    split at hp
    · exact hp.elim
    rename_i hL
    obtain ⟨n, xs0, he, hc0⟩ := hasL_cases hL
    obtain ⟨vs0, h0, _⟩ := cell_l s hc0
    refine ⟨_, var_cell s he (by rw [hc0]; simp), .inl ⟨rfl, _, SqL.of h0⟩, ?_⟩
    refine stepS st s hp fun r S1 v H1 s1 x1 r1 hp => ?_
    split at hp
    · rename_i ys hvw
      obtain ⟨n', c, c', he', hc, hf, hp⟩ := updC_cases hp
      rw [he] at he'; cases he'
      cases c with
      | k ks us => cases hf
      | l xs =>
        simp only at hf
        split at hf
        · rename_i hlt
          cases hf
          obtain ⟨b, us, rfl, g1, g2, g3⟩ := r1.view st s1 addR_le hvw
          have s1 : Sim F B ρ e S1 σ H1 := s1.mono st addR_le
          obtain ⟨vs, h1, h2, h3⟩ := cell_l s1 hc
          have hlen : vs.length + us.length ≤ LIM := by rw [h3.length, g3.length]; exact hlt
          obtain ⟨s2, x2, _⟩ := s1.wr st (ws := vs ++ us) hc (by simp; omega) (h3.append g3)
          exact ⟨_, b, vs, us, rfl, rfl, h1, g1, by rw [← LIM_eq]; exact hlen, hp ρ σ _ s2 (x1.trans x2).ext⟩
        · cases hf
    · exact hp.elim
/-- x.reverse() -/
theorem ts_reverse (st : Stab F) (hN : X.N[i]? = some y) (hv : Vis X.env.scope y) (hd : (y == ("__debug__" : Str)) = false) (hcd : (y == ("__classdict__" : Str)) = false)
    (hbase : attributeBase (.Name y p1) "reverse" X.env (eval (.Name y p1) X.env) = eval (.Name y p1) X.env)
    (hline : (apos.endLine == cpos.line) = true) (hsw : swapsWith (.Call (.Attribute (.Name y p1) "reverse" apos) [] [] cpos) none pos.line X.env = pure false) :
    PS X (.Expr (.Call (.Attribute (.Name y p1) "reverse" apos) [] [] cpos) pos) (TrS F W (mReverse i)) :=
  PS_imp (ps_expr (pe_bm0 PySem.F.plainAttrs_list PySem.F.slot_list_reverse PySem.F.type_list_reverse mt_reverse (pe_var hN hv hd hcd) hbase hline) hsw) fun D σ H h => by
    obtain ⟨B, ρ, e, S, s, hp⟩ := h
    obtain ⟨n, c, c', he, hc, hf, hp⟩ := updC_cases hp
    cases c with
    | k ks us => cases hf
    | l xs =>
      cases hf
      obtain ⟨vs, h1, h2, h3⟩ := cell_l s hc
      obtain ⟨s2, x2, _⟩ := s.wr st (ws := vs.reverse) hc (by simpa using h2) h3.reverse
      exact ⟨_, var_cell s he (by rw [hc]; simp), .inl ⟨rfl, _, SqL.of h1⟩, _, vs, rfl, rfl, h1, hp ρ σ _ s2 x2.ext⟩
theorem Reps.dropLast {Z : Addr → Prop} {xs : List M.D} {vs : List V} (h : Reps F Z H xs vs) : Reps F Z H xs.dropLast vs.dropLast := by
  rw [List.dropLast_eq_take, List.dropLast_eq_take, h.length]; exact h.take _
/-- x.pop() -/
theorem te_pop (st : Stab F) (hN : X.N[i]? = some y) (hv : Vis X.env.scope y) (hd : (y == ("__debug__" : Str)) = false) (hcd : (y == ("__classdict__" : Str)) = false)
    (hbase : attributeBase (.Name y p1) "pop" X.env (eval (.Name y p1) X.env) = eval (.Name y p1) X.env) (hline : (apos.endLine == cpos.line) = true) :
    PE X (.Call (.Attribute (.Name y p1) "pop" apos) [] [] cpos) (TrE F W (mPop i)) :=
  PE_imp (pe_bm0 PySem.F.plainAttrs_list PySem.F.slot_list_pop PySem.F.type_list_pop mt_pop (pe_var hN hv hd hcd) hbase hline) fun σ H Q h => by
    obtain ⟨B, ρ, e, S, s, hp⟩ := h
    unfold mPop at hp
    split at hp
    · rename_i n he
      split at hp
      · rename_i xs hc
        split at hp
        · rename_i x hx
          obtain ⟨vs, h1, h2, h3⟩ := cell_l s hc
          have hx2 : xs[xs.length - 1]? = some x := by rw [← List.getLast?_eq_getElem?]; exact hx
          obtain ⟨u, hu, ru⟩ := h3.get hx2
          obtain ⟨s2, x2, m⟩ := s.wr st (ws := vs.dropLast) hc (by simp; omega) h3.dropLast
          exact ⟨_, var_cell s he (by rw [hc]; simp), .inl ⟨rfl, _, SqL.of h1⟩, _, vs, u, rfl, rfl, h1, by rw [h3.length]; exact hu, hp u _ s2 x2 (m ru)⟩
        · exact hp.elim
      · exact hp.elim
    · exact hp.elim
theorem ixN_pop {n : Nat} {j : Int} {k : Nat} (hn : n ≤ LIM) (h : M.ixN n j = some k) : -(2 ^ 63) ≤ j ∧ j < 2 ^ 63 ∧ seqIndex? j n = some k ∧ k < n := by
  have hL : LIM = 16777216 := rfl
  unfold M.ixN at h
  split at h
  · rename_i hc
    cases h
    refine ⟨by omega, by omega, ?_, by omega⟩
    unfold seqIndex?
    rw [if_neg (show ¬ j < 0 by omega)]
    simp [hc.1, hc.2]
  · split at h
    · rename_i hc
      cases h
      refine ⟨by omega, by omega, ?_, by omega⟩
      unfold seqIndex?
      rw [if_pos hc.1]
      have h1 : 0 ≤ j + n := by omega
      have h2 : j + n < n := by omega
      simp [h1, h2]
    · cases h
theorem ixN_L {n : Nat} {j : Int} {k : Nat} (h : M.ixN n j = some k) : L2.ixN n j = some k := by
  unfold M.ixN at h
  unfold L2.ixN
  split at h
  · rename_i hc
    rw [if_pos hc.1, if_pos hc.2]; exact h
  · split at h
    · rename_i hc
      rw [if_neg (by omega), if_pos hc.2]; exact h
    · cases h
/-- x.pop(e) -/
theorem te_popAt (st : Stab F) (hN : X.N[i]? = some y) (hv : Vis X.env.scope y) (hd : (y == ("__debug__" : Str)) = false) (hcd : (y == ("__classdict__" : Str)) = false) (ha : PE X a (TrE F W ma))
    (hbase : attributeBase (.Name y p1) "pop" X.env (eval (.Name y p1) X.env) = eval (.Name y p1) X.env)
    (hfew : ((backTo cpos (starEach [a] X.env)).all (fun x => !x.1) && (backToKw cpos (keywordEach [] X.env)).all (fun x => x.1.isSome) && decide (([a] : List Expr).length + ([] : List Keyword).length + (if ([] : List Keyword).isEmpty then 0 else 1) < 30)) = true)
    (hline : (apos.endLine == cpos.line) = true) (hs : starEach [a] X.env = (false, eval a X.env) :: starEach [] X.env) (hplain : (backTo cpos (starEach [] X.env)).any (·.1) = false) :
    PE X (.Call (.Attribute (.Name y p1) "pop" apos) [a] [] cpos) (TrE F W (mPopAt i ma)) :=
  PE_imp (pe_bm PySem.F.plainAttrs_list PySem.F.slot_list_pop PySem.F.type_list_pop mt_popAt (pe_var hN hv hd hcd) (pa_cons ha pa_nil hs) hbase hfew hline hs hplain) fun σ H Q h => by
    obtain ⟨B, ρ, e, S, s, hp⟩ := h
    unfold mPopAt at hp
    by_cases hL : hasL i e S = false
    · rw [if_pos hL] at hp; exact hp.elim
    · rw [if_neg hL] at hp
      obtain ⟨n, xs0, he, hc0⟩ := hasL_cases hL
      obtain ⟨vs0, h0, _⟩ := cell_l s hc0
      refine ⟨_, var_cell s he (by rw [hc0]; simp), .inl ⟨rfl, _, SqL.of h0⟩, ?_⟩
      unfold evD at hp
      rw [O.bind_bind] at hp
      refine stepE st s hp (fun c S' q => q) fun r S1 v H1 s1 x1 r1 hp => ?_
      cases hd : toD r S1 with
      | no => rw [hd] at hp; exact hp.elim
      | ex c S' =>
        cases r with
        | d x => cases hd
        | f c => cases hd
        | c n => simp only [toD] at hd; split at hd <;> cases hd
      | ok z S2 =>
      rw [hd, O.bind_ok, he] at hp
      obtain ⟨s2, x2, r2⟩ := toD_ok2 st s1 r1 hd
      simp only at hp
      split at hp
      · rename_i xs j hc
        split at hp
        · rename_i k hk
          split at hp
          · rename_i x hx
            obtain ⟨vs, h1, h2, h3⟩ := cell_l s2 hc
            obtain ⟨q1, q2, q3, q4⟩ := ixN_pop (by rw [← h3.length]; exact h2) hk
            obtain ⟨u, hu, ru⟩ := h3.get hx
            obtain ⟨s3, x3, m⟩ := s2.wr st (ws := vs.eraseIdx k) hc (by have := List.length_eraseIdx_le vs k; omega) (h3.eraseIdx k)
            rw [Rep] at r2
            subst r2
            exact ⟨_, vs, j, k, u, rfl, rfl, h1, q1, q2, by rw [h3.length]; exact q3, hu, hp u _ s3 ((x1.trans x2).trans x3) (m ru)⟩
          · exact hp.elim
        · exact hp.elim
      · exact hp.elim
/-- x[j] = e -/
theorem ts_setIx {kp : Pos} (st : Stab F) (hN : X.N[i]? = some y) (hv : Vis X.env.scope y) (hd : (y == ("__debug__" : Str)) = false) (hcd : (y == ("__classdict__" : Str)) = false) (ha : PE X a (TrE F W ma)) (hj : PE X b (TrE F W mj))
    (hs : swapsWithSole [.Subscript (.Name y p1) b kp] a pos.line X.env = pure false) (hw : swappedStores [.Subscript (.Name y p1) b kp] a X.env = pure none)
    (h1 : (assignEach [.Subscript (.Name y p1) b kp] X.env).map (·.2) = [assign (.Subscript (.Name y p1) b kp) X.env])
    (hg : ∀ {to ti : TE} {t : TSet}, PE X (.Name y p1) to → PE X b ti → PSet X t → PG X (.Subscript (.Name y p1) b kp) (gSub to ti t)) :
    PS X (.Assign [.Subscript (.Name y p1) b kp] a pos) (TrS F W (mSetIx i mj ma putL)) :=
  PS_imp (ps_asg ha (hg (pe_var hN hv hd hcd) hj set_list) hs hw h1) fun D σ H h => by
    obtain ⟨B, ρ, e, S, s, hp⟩ := h
    refine stepSD st s hp fun z S1 v H1 s1 x1 r1 hp => ?_
    split at hp
    · exact hp.elim
    rename_i hL
    obtain ⟨n, he, hc0⟩ := hasC_cases hL
    refine ⟨_, var_cell s1 he hc0, ?_⟩
    have hp := x1.ext.after hp
    refine stepSD st s1 hp fun z2 S2 w H2 s2 x2 r2 hp => ?_
    obtain ⟨n', c, c', he', hc, hf, hp⟩ := updC_cases hp
    rw [he] at he'; cases he'
    cases c with
    | k ks us => cases z2 <;> cases hf
    | l xs =>
      cases z2 with
      | int kk =>
        simp only [putL] at hf
        split at hf
        · rename_i k hk
          cases hf
          obtain ⟨vs, h1, h2, h3⟩ := cell_l s2 hc
          rw [Rep] at r2
          subst r2
          obtain ⟨s3, x3, _⟩ := s2.wr st (ws := vs.set k v) hc (by simpa using h2) (h3.set k (s1.repE st x2 (fun _ q => q) r1))
          exact ⟨_, vs, kk, k, rfl, rfl, h1, by rw [h3.length]; exact ixN_L hk, hp ρ σ _ s3 (x2.trans x3).ext⟩
        · cases hf
      | _ => cases hf
end
end M

/-! Sound16: several names at once. -/
namespace M
open PySem L2
open PySem (Str)
section
variable {F : Fx} {W : WX} {X : Cx} {B B' B2 : Addr → Prop} {ρ ρ' ρ0 : Nat → Addr} {e e' e2 : M.Env} {S S' S0 S1 S2 : Sto} {σ σ' σ2 : L2.St} {H H' H0 H1 H2 : Hp} {Y : Addr → Prop} {x : M.D} {v w : V} {r : R} {p : Addr} {o : HO} {Q : VK} {a b c : Expr} {m ma mb mc mj : ME} {pos apos cpos p1 p2 p3 : Pos} {tg : Expr} {D D' : Ends} {os : OS} {st st' : Stmt} {body rest : List Stmt} {ms mt : MS} {i j l : Nat} {y z u : Str}
theorem stepSA {mss : List ME} {f : List R → Sto → OS} {Q : List V → Hp → Prop} (s : Sim F B ρ e S σ H) (hp : PostS F W B ρ S H D ((evRs mss F.g e S).bindS e f))
    (k : ∀ rs S1 vs H1, Sim F B ρ e S1 σ H1 → ExtE ρ S H S1 H1 → RepRs F B ρ S1 H H1 rs vs → PostS F W B ρ S H D (f rs S1) → Q vs H1) : TrA F W mss σ H Q := by
  refine ⟨B, ρ, e, S, s, ?_⟩
  cases hm : evRs mss F.g e S with
  | no => rw [hm] at hp; exact hp.elim
  | ex c S' => rw [hm] at hp; exact fun H' s' x' cl hc => hp ρ σ H' s' x'.ext cl hc
  | ok rs S1 => rw [hm] at hp; exact fun vs H1 s1 x1 r1 => k rs S1 vs H1 s1 x1 r1 hp
theorem ts_par {k1 k2 : Nat} {pt pt2 : Pos} (st : Stab F) (hc : X.calm = true) (hN : X.N.Nodup) (hi : X.N[i]? = some y) (hj : X.N[j]? = some z) (hij : i ≠ j)
    (hx : X.env.scope.names.lookup y = some .local) (hy : X.env.scope.names.lookup z = some .local) (ha : PA X [a, b] (TrA F W [ma, mb]))
    (hw : swappedStores [.Tuple [.Name y p1, .Name z p2] k1 pt] (.Tuple [a, b] k2 pt2) X.env = pure (some [y, z])) (hs : swapsWithSole [.Tuple [.Name y p1, .Name z p2] k1 pt] (.Tuple [a, b] k2 pt2) pos.line X.env = pure false) :
    PS X (.Assign [.Tuple [.Name y p1, .Name z p2] k1 pt] (.Tuple [a, b] k2 pt2) pos) (TrS F W (mPar [i, j] [ma, mb])) :=
  PS_imp (ps_par hc hN hi hj hij hx hy ha hw hs) fun D σ H h => by
    obtain ⟨B, ρ, e, S, s, hp⟩ := h
    refine stepSA s hp fun rs S1 vs H1 s1 x1 r1 hp => ?_
    match rs, hp with
    | [.d x1', .d x2'], hp =>
      obtain ⟨v, w1, rfl, q1, w, w2, rfl, q2, rfl⟩ := r1
      exact ⟨v, w, rfl, hp ρ _ H1 ((s1.put q1).put q2) x1.ext⟩
    | [], hp => exact hp.elim
    | [.d _], hp => exact hp.elim
    | .f _ :: _, hp => exact hp.elim
    | .c _ :: _, hp => exact hp.elim
    | .d _ :: .f _ :: _, hp => exact hp.elim
    | .d _ :: .c _ :: _, hp => exact hp.elim
    | .d _ :: .d _ :: .d _ :: _, hp => exact hp.elim
    | .d _ :: .d _ :: .f _ :: _, hp => exact hp.elim
    | .d _ :: .d _ :: .c _ :: _, hp => exact hp.elim
theorem ts_par3 {k1 k2 : Nat} {pt pt2 : Pos} (st : Stab F) (hc : X.calm = true) (hN : X.N.Nodup) (hi : X.N[i]? = some y) (hj : X.N[j]? = some z) (hl : X.N[l]? = some u) (hij : i ≠ j) (hil : i ≠ l) (hjl : j ≠ l)
    (hx : X.env.scope.names.lookup y = some .local) (hy : X.env.scope.names.lookup z = some .local) (hz : X.env.scope.names.lookup u = some .local) (ha : PA X [a, b, c] (TrA F W [ma, mb, mc]))
    (hw : swappedStores [.Tuple [.Name y p1, .Name z p2, .Name u p3] k1 pt] (.Tuple [a, b, c] k2 pt2) X.env = pure (some [y, z, u])) (hs : swapsWithSole [.Tuple [.Name y p1, .Name z p2, .Name u p3] k1 pt] (.Tuple [a, b, c] k2 pt2) pos.line X.env = pure false) :
    PS X (.Assign [.Tuple [.Name y p1, .Name z p2, .Name u p3] k1 pt] (.Tuple [a, b, c] k2 pt2) pos) (TrS F W (mPar [i, j, l] [ma, mb, mc])) :=
  PS_imp (ps_par3 hc hN hi hj hl hij hil hjl hx hy hz ha hw hs) fun D σ H h => by
    obtain ⟨B, ρ, e, S, s, hp⟩ := h
    refine stepSA s hp fun rs S1 vs H1 s1 x1 r1 hp => ?_
    match rs, hp with
    | [.d x1', .d x2', .d x3'], hp =>
      obtain ⟨v, w1, rfl, q1, w, w2, rfl, q2, t, w3, rfl, q3, rfl⟩ := r1
      exact ⟨v, w, t, rfl, hp ρ _ H1 (((s1.put q1).put q2).put q3) x1.ext⟩
    | [], hp => exact hp.elim
    | [.d _], hp => exact hp.elim
    | .f _ :: _, hp => exact hp.elim
    | .c _ :: _, hp => exact hp.elim
    | .d _ :: .f _ :: _, hp => exact hp.elim
    | .d _ :: .c _ :: _, hp => exact hp.elim
    | [.d _, .d _], hp => exact hp.elim
    | .d _ :: .d _ :: .f _ :: _, hp => exact hp.elim
    | .d _ :: .d _ :: .c _ :: _, hp => exact hp.elim
    | .d _ :: .d _ :: .d _ :: .d _ :: _, hp => exact hp.elim
    | .d _ :: .d _ :: .d _ :: .f _ :: _, hp => exact hp.elim
    | .d _ :: .d _ :: .d _ :: .c _ :: _, hp => exact hp.elim
/-- a, b = b, e: what b held is a's, b has a new list -/
theorem ts_shift {k1 k2 : Nat} {pt pt2 : Pos} (st : Stab F) (hc : X.calm = true) (hN : X.N.Nodup) (hi : X.N[i]? = some y) (hj : X.N[j]? = some z) (hij : i ≠ j)
    (hx : X.env.scope.names.lookup y = some .local) (hy : X.env.scope.names.lookup z = some .local) (hd : (z == ("__debug__" : Str)) = false) (hcd : (z == ("__classdict__" : Str)) = false) (hb : PE X b (TrE F W mb))
    (hs1 : starEach [.Name z p3, b] X.env = (false, eval (.Name z p3) X.env) :: starEach [b] X.env) (hs2 : starEach [b] X.env = (false, eval b X.env) :: starEach [] X.env) (hm : j ∈ F.ml)
    (hw : swappedStores [.Tuple [.Name y p1, .Name z p2] k1 pt] (.Tuple [.Name z p3, b] k2 pt2) X.env = pure (some [y, z])) (hs : swapsWithSole [.Tuple [.Name y p1, .Name z p2] k1 pt] (.Tuple [.Name z p3, b] k2 pt2) pos.line X.env = pure false) :
    PS X (.Assign [.Tuple [.Name y p1, .Name z p2] k1 pt] (.Tuple [.Name z p3, b] k2 pt2) pos) (TrS F W (mShift i j mb)) :=
  PS_imp (ps_par hc hN hi hj hij hx hy (pa_cons (pe_var hj (.inl hy) hd hcd) (pa_cons hb pa_nil hs2) hs1) hw hs) fun D σ H h => by
    obtain ⟨B, ρ, e, S, s, hp⟩ := h
    unfold mShift at hp
    split at hp
    · rename_i n he
      split at hp
      · exact hp.elim
      rename_i hn
      have hc0 : cellOf S n ≠ none := fun q => hn (by rw [q]; rfl)
      refine ⟨_, var_cell s he hc0, ?_⟩
      refine stepS st s hp fun r S1 v H1 s1 x1 r1 hp => ?_
      refine ⟨_, v, rfl, ?_⟩
      split at hp
      · rename_i cw c0 hc
        obtain ⟨ad, rfl, h1, h2, h3⟩ := r1
        have s1 : Sim F (fun b => B b ∨ V.ref ad = .ref b) ρ e S1 σ H1 := s1
        have rc : RepR F (fun b => B b ∨ V.ref ad = .ref b) ρ S1 H H1 (.c n) (.ref (ρ n)) := ⟨by rw [x1.len]; exact (s.slotC _ _ he).1, fun _ => rfl⟩
        obtain ⟨s2, x2, r2⟩ := toD_ok2 (B := fun b => B b ∨ V.ref ad = .ref b) (r := .c n) (v := .ref (ρ n)) (y := c0.froz) (S' := S1.set n none) st s1 rc (by simp only [toD, hc])
        have s3 := s2.put (i := i) r2
        have he3 : (e.set i (some (.d c0.froz)))[j]? = some (some (.c n)) := by rw [List.getElem?_set_ne hij]; exact he
        have lv : ∀ m, cellOf (S1.set n none) m ≠ none → cellOf S1 m ≠ none := fun m q => (cellOf_kill q).1
        obtain ⟨s4, _, hn0⟩ := Sim.setC (c := cw) st s3 he3 hm (fun q => h2 (Ex.live lv _ q)) (h3.move st (fun _ q => q) (fun _ _ _ q => q) fun a o _ nn q => ⟨q, fun y => nn (Ex.live lv a y)⟩)
        rw [List.set_set] at s4
        exact hp _ _ H1 s4 (Ext.setC x1 hn0 h1)
      · exact hp.elim
    · exact hp.elim
end
end M

/-! Sound17: calls of defs. -/
namespace M
open PySem L2
open PySem (Str)
/-- two frames of one family -/
structure SameF (F F' : Fx) : Prop where
  K : F.K = F'.K
  mg : F.mg = F'.mg
  κ : F.κ = F'.κ
  T : F.T = F'.T
theorem SameF.symm {F F' : Fx} (h : SameF F F') : SameF F' F := ⟨h.K.symm, h.mg.symm, h.κ.symm, h.T.symm⟩
section
variable {F F' : Fx} {X : Addr → Prop} {H : Hp}
mutual
theorem Rep.cong (h : SameF F F') : ∀ {x : M.D} {v : V}, Rep F X H x v → Rep F' X H x v
  | .non, _, q => by simpa only [Rep] using q
  | .bl _, _, q => by simpa only [Rep] using q
  | .int _, _, q => by simpa only [Rep] using q
  | .str _, _, q => by simpa only [Rep] using q
  | .tup xs, _, q => by
    simp only [Rep] at q ⊢
    obtain ⟨a, vs, e, h1, h2, h3⟩ := q
    exact ⟨a, vs, e, h.K ▸ h1, h2, Reps.cong h h3⟩
  | .lst xs, _, q => by
    simp only [Rep] at q ⊢
    obtain ⟨a, vs, e, h1, h2, h3, h4⟩ := q
    exact ⟨a, vs, e, h1, h2, h3, Reps.cong h h4⟩
  | .dct ks xs, _, q => by
    simp only [Rep] at q ⊢
    obtain ⟨a, vs, e, h1, h2, h3, h4⟩ := q
    exact ⟨a, vs, e, h1, h2, h3, Reps.cong h h4⟩
  | .rol xs, _, q => by
    simp only [Rep] at q ⊢
    obtain ⟨a, vs, e, h1, h3, h4⟩ := q
    exact ⟨a, vs, e, h.K ▸ h1, h3, Reps.cong h h4⟩
  | .fn _, _, q => by
    simp only [Rep] at q ⊢
    rw [← h.mg]; exact q
  | .clo _, _, q => by
    simp only [Rep] at q ⊢
    rw [← h.κ]; exact q
  | .exc _, _, q => by
    simp only [Rep] at q ⊢
    rw [← h.mg]; exact q
theorem Reps.cong (h : SameF F F') : ∀ {xs : List M.D} {vs : List V}, Reps F X H xs vs → Reps F' X H xs vs
  | [], _, q => by simpa only [Reps] using q
  | x :: xs, _, q => by
    simp only [Reps] at q ⊢
    obtain ⟨v, r, e, h1, h2⟩ := q
    exact ⟨v, r, e, Rep.cong h h1, Reps.cong h h2⟩
end
theorem CellAt.cong (h : SameF F F') {a : Addr} {c : C} (q : CellAt F X H a c) : CellAt F' X H a c := by
  cases c with
  | l xs => obtain ⟨vs, h1, h2, h3⟩ := q; exact ⟨vs, h1, h2, h3.cong h⟩
  | k ks xs => obtain ⟨vs, h1, h2, h3⟩ := q; exact ⟨vs, h1, h2, h3.cong h⟩
theorem Stab.cong (h : SameF F F') (st : Stab F) : Stab F' := ⟨fun k v H H' q => h.κ ▸ st.mv k v H H' (h.κ ▸ q), fun k v H q => st.nn k v H (h.κ ▸ q)⟩
end
section
variable {F F' : Fx} {W : WX} {X : Cx} {B B' B2 : Addr → Prop} {ρ ρ' ρ0 : Nat → Addr} {e e' e2 : M.Env} {S S' S0 S1 S2 : Sto} {σ σ' σ2 : L2.St} {H H' H0 H1 H2 : Hp} {Y : Addr → Prop} {x : M.D} {v w : V} {r : R} {p : Addr} {o : HO} {Q : VK} {a b c : Expr} {m ma mb mc mj : ME} {pos apos cpos p1 p2 p3 : Pos}
theorem RepR.cong (h : SameF F F') (q : RepR F B ρ S H0 H r v) : RepR F' B ρ S H0 H r v := by
  cases r with
  | d x => exact Rep.cong h q
  | f c => obtain ⟨a, h1, h2, h3, h4⟩ := q; exact ⟨a, h1, h2, h3, h4.cong h⟩
  | c n => exact q
/-- what a frame's caller passes -/
theorem RepRs.slots (st : Stab F) : ∀ {rs : List R} {vs : List V}, RepRs F B ρ S H0 H rs vs → vs.length = rs.length ∧
    (∀ (i : Nat) (x : M.D), (rs.map toA)[i]? = some (A.d x) → ∃ v, vs[i]? = some v ∧ Rep F (Ex B ρ S) H x v) ∧
    (∀ (i n : Nat), (rs.map toA)[i]? = some (A.c n) → n < S.length ∧ (cellOf S n ≠ none → vs[i]? = some (V.ref (ρ n))))
  | [], _, h => by
    have h : _ = [] := h
    subst h
    exact ⟨rfl, fun i x q => by simp at q, fun i n q => by simp at q⟩
  | r :: rs, _, h => by
    obtain ⟨v, w, rfl, h1, h2⟩ := h
    obtain ⟨q1, q2, q3⟩ := RepRs.slots st h2
    refine ⟨by simp [q1], fun i x q => ?_, fun i n q => ?_⟩
    · cases i with
      | succ i => simpa using q2 i x (by simpa using q)
      | zero =>
        refine ⟨v, rfl, ?_⟩
        cases r with
        | d y =>
          have : y = x := by simpa using q
          subst this; exact h1
        | f c =>
          have : c.froz = x := by simpa using q
          subst this
          obtain ⟨ad, rfl, _, g3, g4⟩ := h1
          exact (g4.move st (Y := Ex B ρ S) (fun _ q => q) (fun _ _ _ q => q) fun b o _ n q => ⟨q, fun y => n (Ex.mono (fun b z => .inl z) b y)⟩).froz g3
        | c n => simp at q
    · cases i with
      | succ i => simpa using q3 i n (by simpa using q)
      | zero =>
        cases r with
        | d y => simp at q
        | f c => simp at q
        | c k =>
          have : k = n := by simpa using q
          subst this
          obtain ⟨g1, g2⟩ := h1
          exact ⟨g1, fun z => by rw [g2 z]; rfl⟩
theorem map_some {α β : Type} {f : α → β} {xs : List α} {i : Nat} {z : β} (h : (xs.map fun a => some (f a))[i]? = some (some z)) : (xs.map f)[i]? = some z := by
  rw [List.getElem?_map] at h ⊢
  cases q : xs[i]? with
  | none => rw [q] at h; cases h
  | some a => rw [q] at h; simpa using h
/-- a frame ahead of its first statement: the arguments alone -/
theorem args_sim (st : Stab F) (h : SameF F F') (hml : F'.ml = []) (s : Sim F B ρ e S σ H) {rs : List R} {vs : List V} (hr : RepRs F B ρ S H0 H rs vs) : Sim F' B ρ ((rs.map toA).map some) S (vs.map some) H := by
  obtain ⟨q1, q2, q3⟩ := RepRs.slots st hr
  refine ⟨by simp [q1], fun i x q => ?_, fun i n q => ?_, fun n c q => (s.cell n c q).cong h, s.inj, s.nb, s.bt, fun i q => (by rw [hml] at q; cases q), h.T ▸ s.tb⟩
  · have q : (rs.map toA)[i]? = some (.d x) := by
      rw [List.getElem?_map] at q
      cases z : (rs.map toA)[i]? with
      | none => rw [z] at q; cases q
      | some a => rw [z] at q; simpa using q
    obtain ⟨v, h1, h2⟩ := q2 i x q
    exact ⟨v, by rw [List.getElem?_map, h1]; rfl, h2.cong h⟩
  · have q : (rs.map toA)[i]? = some (.c n) := by
      rw [List.getElem?_map] at q
      cases z : (rs.map toA)[i]? with
      | none => rw [z] at q; cases q
      | some a => rw [z] at q; simpa using q
    obtain ⟨h1, h2⟩ := q3 i n q
    exact ⟨h1, fun z => by rw [List.getElem?_map, h2 z]; rfl⟩
/-- back in the caller's frame -/
theorem Sim.ret (st : Stab F) (h : SameF F' F) (s1 : Sim F B ρ e S1 σ H1) (sr : Sim F' B2 ρ e2 S2 σ2 H2) (x : ExtE ρ S1 H1 S2 H2) (hb : ∀ a, B2 a → B a ∨ Nw H1 a) : Sim F B2 ρ e S2 σ H2 where
  len := s1.len
  slot := fun i y q => let ⟨v, h1, h2⟩ := s1.slot i y q; ⟨v, h1, s1.repX st (n0 := 0) x.ext hb h2⟩
  slotC := fun i n q => ⟨by rw [x.len]; exact (s1.slotC i n q).1, fun z => (s1.slotC i n q).2 (x.live n z)⟩
  cell := fun n c q => (sr.cell n c q).cong h
  inj := sr.inj
  nb := sr.nb
  bt := sr.bt
  uq := s1.uq
  tb := h.T ▸ sr.tb
end
/-- the frame of a call: nothing of its own yet -/
def fx0 (K : PySem.W.Frag) (mg : Str → Option Value) (T : List (Addr × Str)) (κ : Nat → V → Hp → Prop) (g : Clos) : Fx := ⟨K, mg, κ, T, 0, [], g⟩
/-- what a def promises: what it denotes -/
def spF (K : PySem.W.Frag) (mg : Str → Option Value) (T : List (Addr × Str)) (f : Fn) (np : Nat) : Sp := fun vs H Q E => vs.length = np ∧ ∃ κ g B ρ S as, Stab (fx0 K mg T κ g) ∧ as.length = np ∧ Sim (fx0 K mg T κ g) B ρ (as.map some) S (vs.map some) H ∧
  PostO (f g as S) (fun r S' => ∀ v H', Sim (fx0 K mg T κ g) (addR B r v) ρ [] S' [] H' → ExtE ρ S H S' H' → RepR (fx0 K mg T κ g) B ρ S' H H' r v → Q v H')
    (fun c S' => ∀ H', Sim (fx0 K mg T κ g) B ρ [] S' [] H' → ExtE ρ S H S' H' → ∀ cl, mg c = some (.ref cl) → E (.ref cl) none H')
section
variable {F F' : Fx} {W : WX} {X : Cx} {B B' B2 : Addr → Prop} {ρ ρ' ρ0 : Nat → Addr} {e e' e2 : M.Env} {S S' S0 S1 S2 : Sto} {σ σ' σ2 : L2.St} {H H' H0 H1 H2 : Hp} {Y : Addr → Prop} {x : M.D} {v w : V} {r : R} {p : Addr} {o : HO} {Q : VK} {a b c : Expr} {m ma mb mc mj : ME} {pos apos cpos p1 p2 p3 : Pos}
theorem evRs_len {g : Clos} : ∀ (ms : List ME) (S : Sto) (rs : List R) (S' : Sto), evRs ms g e S = .ok rs S' → rs.length = ms.length
  | [], S, xs, S', q => by cases q; rfl
  | m :: ms, S, xs, S', q => by
    simp only [evRs] at q
    cases h1 : m g e S with
    | no => rw [h1] at q; cases q
    | ex c S1 => rw [h1] at q; cases q
    | ok r S1 =>
      rw [h1, O.bind_ok] at q
      cases h2 : evRs ms g e S1 with
      | no => rw [h2] at q; cases q
      | ex c S1 => rw [h2] at q; cases q
      | ok rs S2 =>
        rw [h2, O.bind_ok] at q
        cases q
        simp [evRs_len ms S1 rs _ h2]
theorem same0 : SameF F (fx0 F.K F.mg F.T F.κ F.g) := ⟨rfl, rfl, rfl, rfl⟩
theorem RepRs.fresh_le : True := trivial
/-- a call's promise, from the caller's side -/
theorem call_sp (st : Stab F) {fm : Fn} {np : Nat} {mss : List ME} (hnp : mss.length = np) (h : TrE F W (mCall fm mss) σ H Q) : TrA F W mss σ H fun vs H1 => spF F.K F.mg F.T fm np vs H1 Q (L2.WE W σ) := by
  obtain ⟨B, ρ, e, S, s, hp⟩ := h
  unfold mCall at hp
  refine ⟨B, ρ, e, S, s, ?_⟩
  cases hm : evRs mss F.g e S with
  | no => rw [hm] at hp; exact hp.elim
  | ex c S' => rw [hm] at hp; exact hp
  | ok rs S1 =>
  rw [hm, O.bind_ok] at hp
  intro vs H1 s1 x1 r1
  have hl := (RepRs.slots st r1).1
  have hl2 := evRs_len _ _ _ _ hm
  refine ⟨by omega, F.κ, F.g, B, ρ, S1, rs.map toA, st.cong same0, by simp; omega, args_sim st same0 rfl s1 r1, hp.imp (fun r S2 hq v H2 s2 x2 r2 => ?_) fun c S2 hq H2 s2 x2 cl hc => ?_⟩
  · have hb : ∀ a, addR B r v a → B a ∨ Nw H1 a := fun a q => by
      cases r with
      | d y => exact .inl q
      | c n => exact .inl q
      | f c =>
        rcases q with q | q
        · exact .inl q
        · obtain ⟨ad, rfl, g2, _⟩ := r2
          injection q with q
          rw [← q]; exact .inr g2
    exact hq v H2 (Sim.ret st same0.symm s1 s2 x2 hb) (x1.trans x2) ((r2.cong same0.symm).since fun a q => x1.none_ q)
  · exact hq H2 (Sim.ret st same0.symm s1 s2 x2 fun a q => .inl q) (x1.trans x2) cl hc
theorem te_call {k np : Nat} {f : Addr} {fd : FuncData} {ps : List Str} {fm : Fn} {y : Str} {es : List Expr} {mss : List ME} (st : Stab F) (tk : Takes X W) (hK : X.K = F.K) (hmg : X.mg = F.mg)
    (Fo : FnOk X.prog X.w X.K X.mg X.base (L2.CX X.prog X.w) k f fd ps (spF F.K F.mg F.T fm np)) (hr : Room k X.A) (hg : Gl X y) (hm : X.mg y = some (.ref f)) (hk : PySem.W.keepIn X.K (.ref f) = true) (hb : Binds X.K fd ps []) (hnp : mss.length = np)
    (ha : PA X (a :: es) (TrA F W mss)) (hdb : (y == ("__debug__" : Str)) = false) (he : starEach (a :: es) X.env = (false, eval a X.env) :: starEach es X.env) (hpl : (backTo pos (starEach es X.env)).any (·.1) = false) :
    PE X (.Call (.Name y p1) (a :: es) [] pos) (TrE F W (mCall fm mss)) :=
  PE_imp (pe_callS Fo hr hg hm hk hb (fun σ => passAt tk σ) ha hdb he hpl) fun σ H Q h => call_sp st hnp h
end
end M

/-! Sound18: a def's promise. -/
namespace M
open PySem L2
open PySem (Str)
open PySem.Spec PyProof.Rows
def mlOf : List Bool → Nat → List Nat
  | [], _ => []
  | b :: r, i => if b then i :: mlOf r (i + 1) else mlOf r (i + 1)
section
variable {F F' : Fx} {W : WX} {X : Cx} {B B' B2 : Addr → Prop} {ρ ρ' ρ0 : Nat → Addr} {e e' e2 : M.Env} {S S' S0 S1 S2 : Sto} {σ σ' σ2 : L2.St} {H H' H0 H1 H2 : Hp} {Y : Addr → Prop} {x : M.D} {v w : V} {r : R} {p : Addr} {o : HO} {Q : VK} {a b c : Expr} {m ma mb mc mj : ME} {pos apos cpos p1 p2 p3 : Pos} {D : Ends}
theorem te_call0 {k : Nat} {f : Addr} {fd : FuncData} {fm : Fn} {y : Str} (st : Stab F) (tk : Takes X W) (hK : X.K = F.K) (hmg : X.mg = F.mg)
    (Fo : FnOk X.prog X.w X.K X.mg X.base (L2.CX X.prog X.w) k f fd [] (spF F.K F.mg F.T fm 0)) (hr : Room k X.A) (hg : Gl X y) (hm : X.mg y = some (.ref f)) (hk : PySem.W.keepIn X.K (.ref f) = true) (hb : Binds X.K fd [] [])
    (hdb : (y == ("__debug__" : Str)) = false) : PE X (.Call (.Name y p1) [] [] pos) (TrE F W (mCall fm [])) := by
  refine ⟨fun pins s σ H Q I h => ?_⟩
  refine wpAny_Call_Name_kw (ld_glob I hg hm ?_ hdb)
  have h2 := call_sp (np := 0) st rfl h
  obtain ⟨B, ρ, e, S, s0, hp⟩ := h2
  exact PySem.W.callWith_K0 I.kIn hk (run_fnS (us := []) (vs := []) (E := L2.WE W) Fo hr hb (passAt tk σ) I .nil (hp [] H s0 ExtE.refl rfl))
/-! ### the frame at its entry -/
theorem frame_len : ∀ (muts : List Bool) (n : Nat), (frame muts n).length = muts.length
  | [], _ => rfl
  | true :: r, n => by simp [frame, frame_len r]
  | false :: r, n => by simp [frame, frame_len r]
theorem frame_c : ∀ (muts : List Bool) (n i k : Nat), (frame muts n)[i]? = some (some (A.c k)) → n ≤ k ∧ k < n + muts.countP id ∧ ∀ j, j ≠ i → (frame muts n)[j]? ≠ some (some (A.c k))
  | [], _, _, _, h => by simp [frame] at h
  | true :: r, n, i, k, h => by
    cases i with
    | zero =>
      have : n = k := by simpa [frame] using h
      subst this
      refine ⟨Nat.le_refl _, by simp, fun j hj q => ?_⟩
      cases j with
      | zero => exact hj rfl
      | succ j =>
        have := (frame_c r (n + 1) j n (by simpa [frame] using q)).1
        omega
    | succ i =>
      obtain ⟨h1, h2, h3⟩ := frame_c r (n + 1) i k (by simpa [frame] using h)
      refine ⟨by omega, by simp; omega, fun j hj q => ?_⟩
      cases j with
      | zero =>
        have : n = k := by simpa [frame] using q
        omega
      | succ j => exact h3 j (fun z => hj (by rw [z])) (by simpa [frame] using q)
  | false :: r, n, i, k, h => by
    cases i with
    | zero => simp [frame] at h
    | succ i =>
      obtain ⟨h1, h2, h3⟩ := frame_c r n i k (by simpa [frame] using h)
      refine ⟨h1, by simpa using h2, fun j hj q => ?_⟩
      cases j with
      | zero => simp [frame] at q
      | succ j => exact h3 j (fun z => hj (by rw [z])) (by simpa [frame] using q)
theorem frame_d : ∀ (muts : List Bool) (n i : Nat) (x : M.D), (frame muts n)[i]? ≠ some (some (A.d x))
  | [], _, _, _, h => by simp [frame] at h
  | true :: r, n, 0, x, h => by simp [frame] at h
  | false :: r, n, 0, x, h => by simp [frame] at h
  | true :: r, n, i + 1, x, h => frame_d r (n + 1) i x (by simpa [frame] using h)
  | false :: r, n, i + 1, x, h => frame_d r n i x (by simpa [frame] using h)
theorem cellOf_rep (S : Sto) (k n : Nat) : cellOf (S ++ List.replicate k none) n = cellOf S n := by
  unfold cellOf
  by_cases h : n < S.length
  · rw [List.getElem?_append_left h]
  · rw [List.getElem?_append_right (by omega), List.getElem?_eq_none (l := S) (by omega)]
    cases q : (List.replicate k (none : Option C))[n - S.length]? with
    | none => rfl
    | some z =>
      have := List.eq_of_mem_replicate (List.mem_of_getElem? q)
      subst this; rfl
theorem cellOf_take (S : Sto) (k n : Nat) : cellOf (S.take k) n = if n < k then cellOf S n else none := by
  unfold cellOf
  by_cases h : n < k
  · rw [if_pos h, List.getElem?_take_of_lt h]
  · rw [if_neg h, List.getElem?_take, if_neg h]; rfl
theorem cellOf_ge {S : Sto} {n : Nat} (h : S.length ≤ n) : cellOf S n = none := by
  unfold cellOf; rw [List.getElem?_eq_none h]; rfl
theorem mlOf_ge : ∀ (muts : List Bool) (i j : Nat), j ∈ mlOf muts i → i ≤ j
  | [], _, _, h => by cases h
  | b :: r, i, j, h => by
    unfold mlOf at h
    split at h
    · rcases List.mem_cons.mp h with q | q
      · omega
      · have := mlOf_ge r (i + 1) j q; omega
    · have := mlOf_ge r (i + 1) j h; omega
theorem getElem?_map_some {as : List A} {i : Nat} {z : A} : (as.map some)[i]? = some (some z) ↔ as[i]? = some z := by
  rw [List.getElem?_map]
  cases as[i]? <;> simp
/-- the frame of a def at its entry -/
theorem entry_sim {as : List A} {vs : List V} {muts : List Bool} {N : List Str} (h : SameF F F') (hml : F'.ml = mlOf muts as.length) (hn0 : F'.n0 = S.length) (hN : N.length = as.length + muts.length) (s : Sim F B ρ (as.map some) S (vs.map some) H) :
    Sim F' B ρ (as.map some ++ M.frame muts S.length) (S ++ List.replicate (muts.countP id) none) (L2.start N vs) H := by
  have hl : vs.length = as.length := by simpa using s.len
  have hsl : ∀ (i : Nat) (z : V), (vs.map some)[i]? = some (some z) → (L2.start N vs)[i]? = some (some z) := fun i z q => by
    unfold L2.start
    rw [List.getElem?_append_left (by
      have := (List.getElem?_eq_some_iff.mp q).1
      exact this)]
    exact q
  have hex : Ex B ρ (S ++ List.replicate (muts.countP id) none) = Ex B ρ S := funext fun a => propext ⟨fun q => q.imp id fun ⟨n, h1, h2⟩ => ⟨n, by rwa [cellOf_rep] at h1, h2⟩, fun q => q.imp id fun ⟨n, h1, h2⟩ => ⟨n, by rwa [cellOf_rep], h2⟩⟩
  have split : ∀ (i : Nat) (z : A), (as.map some ++ M.frame muts S.length)[i]? = some (some z) → (as.map some)[i]? = some (some z) ∧ i < as.length ∨ (M.frame muts S.length)[i - as.length]? = some (some z) ∧ as.length ≤ i := fun i z q => by
    by_cases hi : i < as.length
    · rw [List.getElem?_append_left (by simpa using hi)] at q; exact .inl ⟨q, hi⟩
    · rw [List.getElem?_append_right (by simpa using hi)] at q; exact .inr ⟨by simpa using q, by omega⟩
  have old : ∀ (i n : Nat), (as.map some)[i]? = some (some (A.c n)) → n < S.length := fun i n q => (s.slotC i n q).1
  refine ⟨?_, fun i x q => ?_, fun i n q => ?_, fun n c q => ?_, fun n m h1 h2 => ?_, fun n q => ?_, s.bt, fun i hi n q => ?_, h.T ▸ s.tb⟩
  · unfold L2.start
    simp [frame_len, hN, hl]
  · rcases split i _ q with ⟨q, _⟩ | ⟨q, _⟩
    · obtain ⟨v, h1, h2⟩ := s.slot i x q
      exact ⟨v, hsl i v h1, by rw [hex]; exact h2.cong h⟩
    · exact absurd q (frame_d _ _ _ _)
  · rcases split i _ q with ⟨q, _⟩ | ⟨q, _⟩
    · obtain ⟨h1, h2⟩ := s.slotC i n q
      exact ⟨by simp; omega, fun z => hsl i _ (h2 (by rwa [cellOf_rep] at z))⟩
    · obtain ⟨h1, h2, _⟩ := frame_c _ _ _ _ q
      refine ⟨by simp; omega, fun z => ?_⟩
      rw [cellOf_rep, cellOf_ge h1] at z
      exact absurd rfl z
  · rw [cellOf_rep] at q
    rw [hex]; exact (s.cell n c q).cong h
  · rw [cellOf_rep] at h1 h2
    exact s.inj n m h1 h2
  · rw [cellOf_rep] at q
    exact s.nb n q
  · rw [hml] at hi
    rw [hn0]
    have hge := mlOf_ge _ _ _ hi
    rcases split i _ q with ⟨q, z⟩ | ⟨q, _⟩
    · omega
    · obtain ⟨h1, h2, h3⟩ := frame_c _ _ _ _ q
      refine ⟨h1, fun j hj q2 => ?_⟩
      rcases split j _ q2 with ⟨q2, z⟩ | ⟨q2, z⟩
      · have := old j n q2; omega
      · exact h3 (j - as.length) (by omega) q2
/-- the frame is left -/
theorem leave_simB {B3 : Addr → Prop} (st : Stab F') (h : SameF F' F) {k n : Nat} (hn0 : F'.n0 = n) (hn : n = S.length) (s : Sim F' B2 ρ' e2 S' σ2 H') (x : Ext n ρ (S ++ List.replicate k none) H ρ' S' H') (hB : ∀ a, B3 a → Ex B2 ρ' S' a) (hnb : ∀ m, m < n → cellOf S' m ≠ none → ¬ B3 (ρ' m)) (hbt : ∀ a, B3 a → ¬ Nw H' a) :
    Sim F B3 ρ [] (S'.take n) [] H' ∧ ExtE ρ S H (S'.take n) H' ∧ ∀ B4 a, Ex B4 ρ (S'.take n) a → Ex B4 ρ' S' a := by
  have lv : ∀ m, cellOf (S'.take n) m ≠ none → m < n ∧ cellOf S' m ≠ none := fun m q => by
    rw [cellOf_take] at q
    by_cases hm : m < n
    · rw [if_pos hm] at q; exact ⟨hm, q⟩
    · rw [if_neg hm] at q; exact absurd rfl q
  have hex4 : ∀ B4 a, Ex B4 ρ (S'.take n) a → Ex B4 ρ' S' a := fun B4 a q => q.imp id fun ⟨m, h1, h2⟩ => ⟨m, (lv m h1).2, by rw [x.low m (lv m h1).1]; exact h2⟩
  have hex : ∀ a, Ex B3 ρ (S'.take n) a → Ex B2 ρ' S' a := fun a q => (hex4 B3 a q).elim (hB a) .inr
  have hlen : (S'.take n).length = S.length := by
    rw [List.length_take, x.len]; simp; omega
  refine ⟨⟨rfl, fun i y q => by simp at q, fun i m q => by simp at q, fun m c q => ?_, fun a b h1 h2 q => ?_, fun m q => ?_, hbt, fun i hi m q => by simp at q, h.T ▸ s.tb⟩, ⟨hlen, fun m q => ?_, fun a o nn t q => x.fr a o (fun m hm z => ?_) t q, x.tr⟩, hex4⟩
  · obtain ⟨h1, h2⟩ := lv m (by rw [q]; simp)
    rw [cellOf_take, if_pos h1] at q
    have := s.cell m c q
    rw [x.low m h1] at this
    exact (this.move st (fun _ q => q) (fun _ _ _ q => q) fun a o _ n' q => ⟨q, fun y => n' (hex a y)⟩).cong h
  · obtain ⟨g1, g2⟩ := lv a h1
    obtain ⟨g3, g4⟩ := lv b h2
    exact s.inj a b g2 g4 (by rw [x.low a g1, x.low b g3]; exact q)
  · obtain ⟨h1, h2⟩ := lv m q
    have := hnb m h1 h2
    rw [x.low m h1] at this; exact this
  · obtain ⟨h1, h2⟩ := lv m q
    rcases x.live m h2 with ⟨g, _⟩ | ⟨g, _⟩
    · rwa [cellOf_rep] at g
    · omega
  · rw [cellOf_rep] at hm
    exact nn m hm z
theorem leave_sim (st : Stab F') (h : SameF F' F) {k n : Nat} (hn0 : F'.n0 = n) (hn : n = S.length) (s : Sim F' B2 ρ' e2 S' σ2 H') (x : Ext n ρ (S ++ List.replicate k none) H ρ' S' H') :
    Sim F B2 ρ [] (S'.take n) [] H' ∧ ExtE ρ S H (S'.take n) H' ∧ ∀ B4 a, Ex B4 ρ (S'.take n) a → Ex B4 ρ' S' a :=
  leave_simB st h hn0 hn s x (fun a q => .inl q) (fun m _ q => s.nb m q) s.bt
/-- a cell's object is no table -/
theorem CellAt.at_' {F : Fx} {X : Addr → Prop} {H : Hp} {a : Addr} {c : C} (h : CellAt F X H a c) {o : HO} (e : H a = some o) : ∀ ps, o ≠ .tbl ps := by
  obtain ⟨o', e', _, t⟩ := h.at_
  rw [e] at e'; cases e'
  exact t
/-- a frame's end, as its caller sees it -/
theorem leave_post {K : PySem.W.Frag} {mg : Str → Option Value} {T : List (Addr × Str)} {κ : Nat → V → Hp → Prop} {g : Clos} {k : Nat} {os : OS} {E : XK} (same : SameF (fx0 K mg T κ g) F) (stF : Stab F) (hn0 : F.n0 = S.length)
    (hp : PostO (outOf S.length os) (fun r S' => ∀ v H', Sim (fx0 K mg T κ g) (addR B r v) ρ [] S' [] H' → ExtE ρ S H S' H' → RepR (fx0 K mg T κ g) B ρ S' H H' r v → Q v H')
      (fun c S' => ∀ H', Sim (fx0 K mg T κ g) B ρ [] S' [] H' → ExtE ρ S H S' H' → ∀ cl, mg c = some (.ref cl) → E (.ref cl) none H')) :
    PostS F (fun cls d _ H => E cls d H) B ρ (S ++ List.replicate k none) H { nx := fun _ H' => Q .non H', rt := Q } os := by
  have hmg : F.mg = mg := same.mg.symm
  cases os with
  | no => exact hp.elim
  | bk e' S' => exact hp.elim
  | ct e' S' => exact hp.elim
  | nx e' S' =>
      intro ρ' σ' H' s' x'
      rw [hn0] at x'
      obtain ⟨s2, x2, _⟩ := leave_sim stF same.symm hn0 rfl s' x'
      exact hp .non H' s2 x2 (show RepR (fx0 K mg T κ g) B ρ _ H H' (.d .non) .non by simp only [RepR]; rw [Rep])
  | ex c e' S' =>
      intro ρ' σ' H' s' x' cl hc
      rw [hn0] at x'
      rw [hmg] at hc
      obtain ⟨s2, x2, _⟩ := leave_sim stF same.symm hn0 rfl s' x'
      exact hp H' s2 x2 cl hc
  | rt r S' =>
      intro ρ' e' σ' H' v s' x' r'
      rw [hn0] at x'
      cases r with
      | d z =>
        obtain ⟨s2, x2, hex⟩ := leave_sim stF same.symm hn0 rfl s' x'
        exact hp v H' s2 x2 (Rep.cong same.symm (Rep.mono stF r' (hex B)))
      | f c =>
        obtain ⟨s2, x2, hex⟩ := leave_sim stF same.symm hn0 rfl s' x'
        obtain ⟨ad, rfl, h1, h2, h3⟩ := r'
        exact hp _ H' s2 x2 ⟨ad, rfl, h1, fun z => h2 (hex B _ z), (h3.move stF (fun _ q => q) (fun _ _ _ q => q) fun a o _ n' q => ⟨q, fun y => n' (hex _ a y)⟩).cong same.symm⟩
      | c j =>
        have s' : Sim F B ρ' e' S' σ' H' := s'
        simp only [outOf] at hp
        split at hp
        · rename_i hj
          split at hp
          · rename_i c hc
            obtain ⟨h1, h2⟩ := r'
            have live : cellOf S' j ≠ none := by rw [hc]; simp
            have hv := h2 live
            subst hv
            have hnew : Nw H (ρ' j) := by
              rcases x'.live j live with ⟨q, _⟩ | ⟨_, q⟩
              · rw [cellOf_rep, cellOf_ge hj] at q; exact absurd rfl q
              · exact q
            have hcell := s'.cell j c hc
            obtain ⟨s2, x2, hex⟩ := leave_simB (B3 := fun a => B a ∨ V.ref (ρ' j) = .ref a) stF same.symm hn0 rfl s' x' (fun a q => q.elim (fun z => .inl z) fun z => by injection z with z; exact .inr ⟨j, live, z⟩)
              (fun m' hm' q z => z.elim (s'.nb m' q) fun z => by
                injection z with z
                have := s'.inj j m' live q z
                have hm' : m' < S.length := hm'
                omega) (fun a q => q.elim (s'.bt a) fun z => by
                injection z with z
                obtain ⟨o, e1, _⟩ := hcell.at_
                rw [← z]; exact fun w => w.no e1 (hcell.at_' e1))
            have hsub : ∀ a, Ex (fun a => B a ∨ V.ref (ρ' j) = .ref a) ρ (S'.take S.length) a → Ex B ρ' S' a := fun a q => by
              rcases hex _ a q with (q | q) | q
              · exact .inl q
              · injection q with q; exact .inr ⟨j, live, q⟩
              · exact .inr q
            refine hp _ H' s2 x2 ⟨_, rfl, hnew, fun z => ?_, (hcell.move stF (fun _ q => q) (fun _ _ _ q => q) fun a o _ n' q => ⟨q, fun y => n' (hsub a y)⟩).cong same.symm⟩
            rcases z with z | ⟨m', hm', z⟩
            · exact s'.nb j live z
            · rw [cellOf_take] at hm'
              split at hm'
              · rename_i hlt
                have := s'.inj m' j hm' live (by rw [x'.low m' hlt]; exact z)
                omega
              · exact hm' rfl
          · exact hp.elim
        · exact hp.elim
/-- THE RULE of a def: what its body denotes -/
theorem fn_ok {P : Program} {w : World} {K : PySem.W.Frag} {mg : Str → Option Value} {base : Heap} {T : List (Addr × Str)} {y qual : Str} {sd : Stmt} {f : Addr} {fd : FuncData} {N ps : List Str} {k np : Nat} {muts : List Bool} {m : MS}
    (Fd : L2.Fun K y qual sd f fd) (Sc : FnScope N ps (defScope sd)) (hnp : ps.length = np) (hN : N.length = np + muts.length)
    (hbody : ∀ (cdv : Value), fd.code = cdv → ∀ (A : Around) (outer : List PySem.Env) (s : Shared) (H : Hp) (E : XK), Room k (A.deeper (envOfC qual (defScope sd) s.heap.objs.size f cdv)) → ∀ F : Fx, F.K = K → F.mg = mg → F.T = T → F.ml = mlOf muts np → Stab F →
      PSs (cxOf (L2.CX P w) P w K mg base N qual (defScope sd) f cdv A outer s H E) (defBody sd) (TrS F (fun cls d _ H => E cls d H) m)) :
    FnOk P w K mg base (L2.CX P w) (k + 1) f fd ps (spF K mg T (mkFn np muts m) np) :=
  by
    obtain ⟨oc, od, kV, doc, pm, an, cdv, ct, osl, hfd, lk, hcd⟩ := Fd.ex
    have hcode : fd.code = cdv := by rw [hfd]
    subst hfd
    refine L2.fn_of lk hcd Sc (fun vs H Q E q => by rw [hnp]; exact q.1) fun A outer s H vs Q E hr hsp => ?_
    obtain ⟨hl, κ, g, B, ρ, S, as, st, ha, s0, hp⟩ := hsp
    let F : Fx := ⟨K, mg, κ, T, S.length, mlOf muts np, g⟩
    have same : SameF (fx0 K mg T κ g) F := ⟨rfl, rfl, rfl, rfl⟩
    have stF : Stab F := st.cong same
    refine ⟨_, hbody cdv hcode A outer s H E hr F rfl rfl rfl rfl stF, B, ρ, as.map some ++ M.frame muts S.length, S ++ List.replicate (muts.countP id) none, entry_sim same (by rw [ha]) rfl (by rw [ha]; exact hN) s0, ?_⟩
    unfold mkFn at hp
    rw [if_pos ha] at hp
    exact leave_post (k := muts.countP id) same stF rfl hp
end
end M

/-! Sound19: t[::-1] of tuples; products. -/
namespace M
open PySem L2
open PySem (Str)
open PySem.Spec PyProof.Rows
section
variable {prog : Program} {w : World} {A : Around} {E : Value → Shared → Prop} {s : Shared}
/-- t * 1, () * k: the tuple itself -/
theorem mulT_same (l : Addr) (its : Array Value) (n : Nat) (od : Option Addr) (osl : Array (Option Value)) (k : Int) (u : Tok) (h0 : (decide (k < -(2 ^ 63)) || decide (k ≥ 2 ^ 63)) = false) (h1 : (its.isEmpty || k == 1) = true) :
    Meets (Builtin.«tuple.__mul__» ⟨[.ref l, .int k u], []⟩) (fun _ R s => s.heap.get? l = some { cls := .type "tuple", dict := od, data := .seq its n, slots := osl } ∧ R (.ok (.ret (.ref l))) s) :=
  .of_wp fun prog w A R s h => by
    obtain ⟨h1, h2, h3, h4, h5⟩ := s
    obtain ⟨hl, hR⟩ := h
    have f1 := AutoSeq1.idx_int
    wp_walk using wpAny_loadPart' hl
    refine wpAny_ite_false (decide_eq_false (by rw [h0]; exact Bool.false_ne_true)) ?_
    wp_walk using wpAny_loadPart' hl
    exact ⟨_, rfl, hR⟩
/-- t * 0 -/
theorem mulT_none (l : Addr) (its : Array Value) (n : Nat) (od : Option Addr) (osl : Array (Option Value)) (k : Int) (u : Tok) (h0 : (decide (k < -(2 ^ 63)) || decide (k ≥ 2 ^ 63)) = false) (h1 : (its.isEmpty || k == 1) = false) (h2 : (decide (k ≤ 0) || its.isEmpty) = true) :
    Meets (Builtin.«tuple.__mul__» ⟨[.ref l, .int k u], []⟩) (fun _ R s => s.heap.get? l = some { cls := .type "tuple", dict := od, data := .seq its n, slots := osl } ∧
      R (.ok (.ret (.ref s.heap.objs.size))) { s with heap := s.heap.push { cls := .type "tuple", data := .seq #[] } }) :=
  .of_wp fun prog w A R s h => by
    obtain ⟨g1, g2, g3, g4, g5⟩ := s
    obtain ⟨hl, hR⟩ := h
    have f1 := AutoSeq1.idx_int
    wp_walk using wpAny_loadPart' hl
    refine wpAny_ite_false (decide_eq_false (by rw [h0]; exact Bool.false_ne_true)) ?_
    wp_walk using wpAny_loadPart' hl
    exact ⟨_, rfl, hR⟩
/-- t * k where no new items come -/
def rMulT (K : PySem.W.Frag) : R2 := fun x y H Q => ∃ l k xs, x = .ref l ∧ y = .int k ∧ SqT K H l xs ∧ -1000 ≤ k ∧ k ≤ 1000 ∧ (((xs = [] ∨ k = 1) ∧ Q (.ref l) H) ∨ (xs ≠ [] ∧ k ≤ 0 ∧ ∀ p, H p = none → Q (.ref p) (upd H p (.tup []))))
theorem op_mulT {X : Cx} : OpR X (binaryOp .Mult) (rMulT X.K) := by
  rintro pins s σ H x y v u Q I rx ry ⟨l, k, xs, rfl, rfl, sq, k0, k1, q⟩
  cases rx
  obtain ⟨tk, rfl⟩ := ry
  obtain ⟨its, vals, ⟨⟨oc, od, odt, osl⟩, at_, e1, n, e2⟩, hz⟩ := I.tuple sq
  dsimp only at e1 e2
  subst e1 e2
  have lim : (decide (k < -(2 ^ 63)) || decide (k ≥ 2 ^ 63)) = false := by simp only [Bool.or_eq_false_iff, decide_eq_false_iff_not]; omega
  have emp : its.toArray.isEmpty = xs.isEmpty := by
    have := vals.length
    cases its <;> cases xs <;> simp at this ⊢
  have go : ∀ {R : Fin → Shared → Prop}, wpAny (model X.prog X.w) X.A (Builtin.«tuple.__mul__» ⟨[.ref l, .int k tk], []⟩) R X.xe s → wpAny (model X.prog X.w) X.A (Builtin.«tuple.__mul__» ⟨[.ref l, .int k tk], []⟩) R X.xe s := fun h => h
  rcases q with ⟨hk, q⟩ | ⟨hx, hk, q⟩
  · have c1 : (its.toArray.isEmpty || k == 1) = true := by rw [emp]; rcases hk with rfl | rfl <;> simp
    refine wpAny_binaryOp_repeat_ref (T := "tuple") (U := "int") (by decide) ⟨_, at_, rfl⟩ (fun z => typeIs_int z k tk) noFill_tuple_mul F.fills_int_mul
      F.slot_int_rmul repeat_tuple F.slot_int_index.lookup (call_meets F.slot_int_rmul (typeIs_int s k tk) F.entry_int_rmul (F.args_int_rmul_2 _ _) (int_rmul_tuple k tk l its.toArray n od osl) ⟨at_, rfl, ⟨_, at_, rfl⟩, ?_⟩)
    exact call_meets F.slot_tuple_mul ⟨_, at_, rfl⟩ F.entry_tuple_mul (F.args_tuple_mul_2 _ _) (mulT_same l its.toArray n od osl k tk lim c1) ⟨at_, .ref l, H, I, rfl, q⟩
  · have c1 : (its.toArray.isEmpty || k == 1) = false := by
      rw [emp]; cases xs with
      | nil => exact absurd rfl hx
      | cons a b => simp; omega
    have c2 : (decide (k ≤ 0) || its.toArray.isEmpty) = true := by simp [hk]
    refine wpAny_binaryOp_repeat_ref (T := "tuple") (U := "int") (by decide) ⟨_, at_, rfl⟩ (fun z => typeIs_int z k tk) noFill_tuple_mul F.fills_int_mul
      F.slot_int_rmul repeat_tuple F.slot_int_index.lookup (call_meets F.slot_int_rmul (typeIs_int s k tk) F.entry_int_rmul (F.args_int_rmul_2 _ _) (int_rmul_tuple k tk l its.toArray n od osl) ⟨at_, rfl, ⟨_, at_, rfl⟩, ?_⟩)
    refine call_meets F.slot_tuple_mul ⟨_, at_, rfl⟩ F.entry_tuple_mul (F.args_tuple_mul_2 _ _) (mulT_none l its.toArray n od osl k tk lim c1 c2) ⟨at_, .ref s.heap.objs.size, _, I.laid (t' := s.toks) (o := .tup []) (fun b ob z => Heap.get?_push_of_some _ z) (Nat.le_refl _) ?_, rfl, q _ (I.hok.fresh (Nat.le_refl _))⟩
    exact ⟨Nat.zero_le _, [], .nil, IsTup.new _ _⟩
theorem sliceApplied_back {sl : Addr} {vl vu vs : Value} {n : Nat} {Q : Int × Int × Nat → Shared → Prop} (hs : s.heap.IsSliceOf sl vl vu vs) (pl : IsPart vl none) (pu : IsPart vu none) (ps : IsPart vs (some (-1)))
    (h : Q ((n : Int) - 1, -1, n) s) : wpAny (model prog w) A (Builtin.Slice.sliceApplied (.ref sl) (pure (n : Int))) Q E s := by
  obtain ⟨os, hos, hcs, hds⟩ := id hs
  unfold Builtin.Slice.sliceApplied Builtin.Slice.sliceFields
  refine wpAny_bind (wpAny_bind (wpAny_field hos hds (x := vl) rfl (wpAny_bind (wpAny_field hos hds (x := vu) rfl (wpAny_bind (wpAny_field hos hds (x := vs) rfl (wpAny_pure ?_)))))))
  refine wpAny_bind (HT.slicePart_ ps ?_)
  show wpAny _ _ (if ((-1 : Int) == 0) = true then _ else _) _ _ s
  rw [if_neg (by decide)]
  refine wpAny_bind (HT.slicePart_ pl (wpAny_bind (HT.slicePart_ pu (wpAny_bind (wpAny_pure ?_)))))
  show wpAny _ _ (match Builtin.Slice.sliceAdjust none none (-1) (n : Int) with | (lo, hi) => pure (lo, (-1 : Int), Builtin.Slice.slicePlaces lo hi (-1))) _ _ s
  have e1 : Builtin.Slice.sliceAdjust none none (-1) (n : Int) = ((n : Int) - 1, -1) := by
    unfold Builtin.Slice.sliceAdjust
    simp
  rw [e1]
  have e2 : Builtin.Slice.slicePlaces ((n : Int) - 1) (-1) (-1) = n := by
    unfold Builtin.Slice.slicePlaces
    simp
    split
    · omega
    · omega
  show wpAny _ _ (pure ((n : Int) - 1, (-1 : Int), Builtin.Slice.slicePlaces ((n : Int) - 1) (-1) (-1))) _ _ s
  rw [e2]
  exact wpAny_pure h
theorem fm_congr {α β : Type} {f g : α → Option β} : ∀ {l : List α}, (∀ a ∈ l, f a = g a) → l.filterMap f = l.filterMap g
  | [], _ => rfl
  | a :: l, h => by
    rw [List.filterMap_cons, List.filterMap_cons, h a (List.mem_cons_self ..), fm_congr fun b hb => h b (List.mem_cons_of_mem _ hb)]
theorem pick_back (xs : Array Value) : ((List.range xs.size).filterMap fun (m : Nat) => xs[(((xs.size : Int) - 1) + (m : Int) * -1).toNat]?).toArray = xs.toList.reverse.toArray := by
  congr 1
  have e1 : (List.range xs.size).reverse = (List.range xs.size).map fun m => xs.size - 1 - m := by
    rw [List.range_eq_range', List.reverse_range', ← List.range_eq_range']
    apply List.map_congr_left
    intro m hm
    omega
  have e2 : ((List.range xs.size).filterMap fun m => xs[m]?) = xs.toList := PySem.W.krv_all xs
  rw [← e2, ← List.filterMap_reverse, e1, List.filterMap_map]
  apply fm_congr
  intro m hm
  have hm : m < xs.size := List.mem_range.mp hm
  have : (((xs.size : Int) - 1) + (m : Int) * -1).toNat = xs.size - 1 - m := by omega
  simp only [Function.comp, this]
theorem getItem_tuple_back {t sl : Addr} {items : Array Value} {vl vu vs : Value} {Q : Value → Shared → Prop} (ht : IsTup s.heap t items) (hs : s.heap.IsSliceOf sl vl vu vs) (pl : IsPart vl none) (pu : IsPart vu none) (ps : IsPart vs (some (-1)))
    (h : Q (.ref s.heap.objs.size) { s with heap := s.heap.push { cls := .type "tuple", data := .seq items.toList.reverse.toArray } })
    (hsz : items.size ≤ sizeLine) : wpAny (model prog w) A (getItem (.ref t) (.ref sl)) Q E s := by
  have hfit : sizeOk (.seq items.toList.reverse.toArray) := by
    show items.toList.reverse.toArray.size ≤ sizeLine
    rw [List.size_toArray, List.length_reverse, Array.length_toList]
    exact hsz
  obtain ⟨os, hos, hcs, hds⟩ := id hs
  have hTs : s.TypeIs (.ref sl) "slice" := ⟨os, hos, hcs⟩
  unfold getItem
  try with_reducible refine wpAny_holding ?_
  first | refine wpAny_bind (wpAny_pure ?_) | skip
  refine wpAny_bind (wpAny_sequenceKey ht.typeIs (by decide) ?_)
  refine wpAny_bind (wpAny_callSpecial?_slot (name := Str.ofString "__getitem__") ht.typeIs PyProof.Rows.slot_tuple_getitem
    (wpAny_call_entry PyProof.Rows.slot_tuple_getitem ht.typeIs entry_tuple_getitem ?_ (args_tuple_getitem _ _)))
  show wpAny _ _ (Builtin.Tuple.tupleItemsOf (.ref t) >>= _) _ _ s
  refine wpAny_bind (tupleItemsOf_ ht ?_)
  refine wpAny_bind (wpAny_typeOf hTs ?_)
  rw [if_pos (by decide)]
  refine wpAny_bind (sliceApplied_back hs pl pu ps ?_)
  have hno : ¬ ((((items.size : Int) - 1) == 0 && (-1 : Int) == 1 && items.size == items.size) = true) := by simp
  show wpAny _ _ (if ((((items.size : Int) - 1) == 0 && (-1 : Int) == 1 && items.size == items.size) = true) then _ else _) _ _ s
  rw [if_neg hno, pick_back]
  first
    | exact wpAny_bind (m := Builtin.Tuple.tupleExact _) (wpAny_newObj_type (wpAny_pure ⟨_, rfl, wpAny_pure h⟩) hfit)
    | exact wpAny_bind (m := Builtin.Tuple.tupleExact _) (wpAny_newObj_type (wpAny_bind (wpAny_pure (wpAny_pure ⟨_, rfl, wpAny_pure h⟩))) hfit)
    | exact wpAny_bind (wpAny_bind (m := Builtin.Tuple.tupleExact _) (wpAny_newObj_type (wpAny_pure (wpAny_pure ⟨_, rfl, wpAny_pure h⟩)) hfit))
    | exact wpAny_bind (wpAny_bind (m := Builtin.Tuple.tupleExact _) (wpAny_newObj_type (wpAny_pure ⟨_, rfl, wpAny_pure h⟩) hfit))
end
def tRevT (K : PySem.W.Frag) (te : TE) : TE := fun σ H Q => te σ H fun x H1 => ∃ a xs, x = .ref a ∧ SqT K H1 a xs ∧ ∀ p, H1 p = none → Q (.ref p) (upd H1 p (.tup xs.reverse))
theorem pe_revT {X : Cx} {e : Expr} {te : TE} {k : Nat} {p1 p2 p3 pos : Pos} (he : PE X e te) : PE X (.Subscript e (.Slice none none (some (.UnaryOp .USub (.Constant (.int 1) k p1) p2)) p3) pos) (tRevT X.K te) := by
  refine ⟨fun pins s σ H Q I h => ?_⟩
  refine Subscript_ (thn (he.run pins s σ H _ I h) fun v s1 ⟨x, H1, I1, r1, q1⟩ => ?_)
  obtain ⟨a, xs, ex, hx, q⟩ := q1
  subst ex
  cases r1
  have hst : PO X (some (.UnaryOp .USub (.Constant (.int 1) k p1) p2)) (tPart (tUn (rU fun i => .int (-i)) (tC (.int 1)))) := po_some (pe_un un_neg pe_int)
  refine wpAny_Slice (thn (po_none.run pins s1 σ H1 (fun o H2 => o = none ∧ H2 = H1) I1 ⟨rfl, rfl⟩) fun vl s2 ⟨l, H2, I2, pl, el, e2⟩ => ?_)
  subst el e2
  refine thn (po_none.run pins s2 σ H2 (fun o H3 => o = none ∧ H3 = H2) I2 ⟨rfl, rfl⟩) fun vu s3 ⟨u, H3, I3, pu, eu, e3⟩ => ?_
  subst eu e3
  refine thn (hst.run pins s3 σ H3 (fun o H4 => o = some (-1) ∧ H4 = H3) I3 ⟨1, rfl, -1, rfl, rfl, rfl⟩) fun vs s4 ⟨o, H4, I4, ps, eo, e4⟩ => ?_
  subst eo e4
  have I5 : Inv X pins σ H4 { s4 with heap := s4.heap.push { cls := .type "slice", data := .fields #[vl, vu, vs] } } := I4.kept (t' := s4.toks) fun b ob q => Heap.get?_push_of_some _ q
  obtain ⟨its, r, ht, hz⟩ := I5.tuple hx
  have hlen := r.length
  show wpAny (model X.prog X.w) X.A (subscriptTail e (.Slice none none (some (.UnaryOp .USub (.Constant (.int 1) k p1) p2)) p3) (.ref a) (.ref s4.heap.objs.size)) (EP X pins σ Q) X.xe { s4 with heap := s4.heap.push { cls := .type "slice", data := .fields #[vl, vu, vs] } }
  refine tail_any (ops := [.ref a, .ref s4.heap.objs.size]) ht.typeIs (PyProof.Rows.slot_tuple_getitem.lookup) ?_ (by with_unfolding_all rfl)
  refine getItem_tuple_back ht (Heap.IsSliceOf.new _ vl vu vs) pl pu ps ?_ (by rw [List.size_toArray]; omega)
  refine ⟨.ref _, _, I5.laid (t' := s4.toks) (o := .tup xs.reverse) (fun b ob q => Heap.get?_push_of_some _ q) (Nat.le_refl _) ?_, rfl, q _ (I5.hok.fresh (Nat.le_refl _))⟩
  exact ⟨by rw [List.length_reverse]; exact hz, _, r.reverse, IsTup.new _ _⟩
section
variable {F : Fx} {W : WX} {X : Cx} {B B' : Addr → Prop} {ρ : Nat → Addr} {e : M.Env} {S S' : Sto} {σ : L2.St} {H : Hp} {Q : VK} {a b : Expr} {ma mb : ME} {pos p1 p2 p3 : Pos}
theorem mOp_split {f f1 f2 : List M.D → Option R} {mss : List ME} (hf : ∀ xs, f xs = f1 xs ∨ f xs = f2 xs) (h : TrE F W (mOp f mss) σ H Q) : TrE F W (mOp f1 mss) σ H Q ∨ TrE F W (mOp f2 mss) σ H Q := by
  obtain ⟨B, ρ, e, S, s, hp⟩ := h
  unfold mOp at hp
  cases hm : evRs mss F.g e S with
  | no => rw [hm] at hp; exact hp.elim
  | ex c S1 => rw [hm] at hp; exact .inl ⟨B, ρ, e, S, s, by unfold mOp; rw [hm]; exact hp⟩
  | ok rs S1 =>
    rw [hm, O.bind_ok] at hp
    cases hv : views S1 rs with
    | none => rw [hv] at hp; exact hp.elim
    | some xs =>
      rw [hv] at hp
      rcases hf xs with q | q
      · exact .inl ⟨B, ρ, e, S, s, by unfold mOp; rw [hm, O.bind_ok, hv]; simp only [q] at hp; exact hp⟩
      · exact .inr ⟨B, ρ, e, S, s, by unfold mOp; rw [hm, O.bind_ok, hv]; simp only [q] at hp; exact hp⟩
def opRevL : List M.D → Option R
  | [.lst xs] => some (.f (.l xs.reverse))
  | _ => none
def opRevT : List M.D → Option R
  | [.tup xs] => some (.d (.tup xs.reverse))
  | _ => none
theorem rev_split (xs : List M.D) : opRev xs = opRevL xs ∨ opRev xs = opRevT xs := by
  unfold opRev
  split
  · exact .inr rfl
  · exact .inl rfl
  · left
    unfold opRevL
    split
    · rename_i h _ _ h2; exact absurd rfl (h2 _)
    · rfl
theorem te_rev {k : Nat} (st : Stab F) (hK : X.K = F.K) (ha : PE X a (TrE F W ma)) : PE X (.Subscript a (.Slice none none (some (.UnaryOp .USub (.Constant (.int 1) k p1) p2)) p3) pos) (TrE F W (mOp opRev [ma])) :=
  PE_imp (PE_or (pe_revL ha) (pe_revT ha)) fun σ H Q h => by
    rcases mOp_split rev_split h with h | h
    · left
      refine te_un (rr := fun x H1 Q => (∃ ad xs, x = .ref ad ∧ SqL X.K H1 ad xs ∧ ∀ p, H1 p = none → Q (.ref p) (upd H1 p (.lst xs.reverse)))) st ?_ h
      intro B ρ e S σ H x v r Q s hx hf k
      unfold opRevL at hf
      split at hf
      · rename_i xs q
        cases q
        cases hf
        obtain ⟨ad, vs, rfl, h1, h2, h3⟩ := hx.lst
        exact ⟨ad, vs, rfl, SqL.of h1, fun p hp => s.newLst st (by simpa using h2) h3.reverse k p hp⟩
      · cases hf
    · right
      refine te_un (rr := fun x H1 Q => (∃ ad xs, x = .ref ad ∧ SqT X.K H1 ad xs ∧ ∀ p, H1 p = none → Q (.ref p) (upd H1 p (.tup xs.reverse)))) st ?_ h
      intro B ρ e S σ H x v r Q s hx hf k
      unfold opRevT at hf
      split at hf
      · rename_i xs q
        cases q
        cases hf
        obtain ⟨ad, vs, rfl, h1, h2, h3⟩ := hx.tup
        exact ⟨ad, vs, rfl, hK ▸ h1, fun p hp => s.newTup st (by simpa using h2) h3.reverse k p hp⟩
      · cases hf
/-! ### products -/
theorem op2_mul (st : Stab F) : Op2 F opMul (fun x y H Q => rI CMul (fun i j => .int (i * j)) x y H Q ∨ rRep x y H Q ∨ rRepT F.K x y H Q ∨ rMulT F.K x y H Q) := by
  intro B ρ e S σ H x y v w r Q s hx hy hf k
  unfold opMul at hf
  split at hf
  · rename_i i j q
    cases q
    split at hf
    · rename_i hc
      cases hf
      refine .inl ⟨i, j, hx.int, hy.int, ?_, k.int s⟩
      simp only [small, Bool.or_eq_true, Bool.and_eq_true, decide_eq_true_eq] at hc
      exact hc
    · cases hf
  · rename_i xs kk q
    cases q
    split at hf
    · rename_i hc
      cases hf
      obtain ⟨ad, vs, rfl, h1, h2, h3⟩ := hx.lst
      have hz : vs.length * kk.toNat ≤ 1000 * 1000 := Nat.mul_le_mul (by rw [h3.length]; exact hc.1) (by omega)
      have hL : LIM = 16777216 := rfl
      refine .inr (.inl ⟨ad, kk, vs, rfl, hy.int, h1, by omega, by omega, by rw [← LIM_eq]; omega, fun p hp => s.newLst st ?_ (h3.flat kk.toNat) k p hp⟩)
      rw [PyProof.Rows.lm_len_rep_flat, Nat.mul_comm]
      omega
    · cases hf
  · rename_i xs kk q
    cases q
    split at hf
    · rename_i hc
      cases hf
      obtain ⟨ad, vs, rfl, h1, h2, h3⟩ := hx.tup
      have hz : vs.length * kk.toNat ≤ 1000 * 1000 := Nat.mul_le_mul (by rw [h3.length]; exact hc.1) (by omega)
      have hL : LIM = 16777216 := rfl
      by_cases e0 : vs = [] ∨ kk = 1
      · refine .inr (.inr (.inr ⟨ad, kk, vs, rfl, hy.int, h1, by omega, by omega, .inl ⟨e0, ?_⟩⟩))
        have e1 : rep xs kk.toNat = xs := by
          rcases e0 with e0 | e0
          · have : xs = [] := by
              have := h3.length
              rw [e0] at this
              exact List.eq_nil_of_length_eq_zero this.symm
            subst this
            simp [M.rep]
          · subst e0; simp [M.rep]
        exact k.dat s (by rw [e1, Rep]; exact ⟨ad, vs, rfl, h1, h2, h3⟩)
      · by_cases e1 : kk ≤ 0
        · refine .inr (.inr (.inr ⟨ad, kk, vs, rfl, hy.int, h1, by omega, by omega, .inr ⟨fun z => e0 (.inl z), e1, fun p hp => ?_⟩⟩))
          have e2 : rep xs kk.toNat = [] := by
            have : kk.toNat = 0 := by omega
            rw [this]; simp [M.rep]
          rw [e2] at k
          exact s.newTup st (Nat.zero_le _) Reps.nil k p hp
        · refine .inr (.inr (.inl ⟨ad, kk, vs, rfl, hy.int, h1, fun z => e0 (.inl z), by omega, by omega, by rw [h3.length]; exact hc.1, fun p hp => s.newTup st ?_ (h3.flat kk.toNat) k p hp⟩))
          rw [PyProof.Rows.lm_len_rep_flat, Nat.mul_comm]
          omega
    · cases hf
  · cases hf
theorem te_mul (hK : X.K = F.K) (st : Stab F) (ha : PE X a (TrE F W ma)) (hb : PE X b (TrE F W mb)) : PE X (.BinOp a .Mult b pos) (TrE F W (mOp opMul [ma, mb])) :=
  PE_imp (pe_op (op_mul.or (op_rep.or (op_repT.or op_mulT))) ha hb) fun σ H Q h => by rw [hK]; exact te_bin st (op2_mul st) h
end
end M

/-! Sound20: short rules. -/
namespace M
open PySem L2
open PySem (Str)
open PySem.Spec PyProof.Rows
section
variable {F : Fx} {W : WX} {X : Cx} {a b c : Expr} {ma mb mc : ME} {pos pp p1 p2 p3 : Pos} {y z : Str} {k : Nat} {rest : List Expr}
theorem te_int {i : Int} : PE X (.Constant (.int i) k pos) (TrE F W (mK (.int i))) := te_const pe_int fun _ _ => by rw [Rep]
theorem te_bl {i : Bool} : PE X (.Constant (.bool i) k pos) (TrE F W (mK (.bl i))) := te_const pe_bl fun _ _ => by rw [Rep]
theorem te_non : PE X (.Constant .none k pos) (TrE F W (mK .non)) := te_const pe_non fun _ _ => by rw [Rep]
theorem te_str {i : Str} (h : txtOk i = true) : PE X (.Constant (.str i) k pos) (TrE F W (mK (.str i))) := te_const pe_str fun _ _ => by rw [Rep]; exact ⟨rfl, h⟩
theorem te_gint {i : Int} (hg : Gl X y) (hm : ∃ t, X.mg y = some (.int i t)) (hd : (y == ("__debug__" : Str)) = false) : PE X (.Name y pos) (TrE F W (mK (.int i))) :=
  te_const (v := .int i) (let ⟨_, h⟩ := hm; pe_glob hg h ⟨_, rfl⟩ hd) fun _ _ => by rw [Rep]
theorem te_eq (hu : X.A.units + 64 < cLine) (hK : X.K = F.K) (st : Stab F) (hm : behindInMarks .Eq b = false) (ha : PE X a (TrE F W ma)) (hb : PE X b (TrE F W mb)) : PE X (.Compare a [.Eq] [b] pos) (TrE F W (mOp opEq [ma, mb])) := te_cmp st (op_eqD hu) (hK ▸ op2_eq) hm ha hb
theorem te_ne (hu : X.A.units + 64 < cLine) (hK : X.K = F.K) (st : Stab F) (hm : behindInMarks .NotEq b = false) (ha : PE X a (TrE F W ma)) (hb : PE X b (TrE F W mb)) : PE X (.Compare a [.NotEq] [b] pos) (TrE F W (mOp opNe [ma, mb])) := te_cmp st (op_neD hu) (hK ▸ op2_ne) hm ha hb
theorem or_lt (hu : X.A.units + 64 < cLine) : OpR X (compareOp .Lt) (rLt X.K) := op_lt.or (op_ltT (by omega))
theorem te_lt (hu : X.A.units + 64 < cLine) (hK : X.K = F.K) (st : Stab F) (hm : behindInMarks .Lt b = false) (ha : PE X a (TrE F W ma)) (hb : PE X b (TrE F W mb)) : PE X (.Compare a [.Lt] [b] pos) (TrE F W (mOp opLt [ma, mb])) := te_cmp st (or_lt hu) (hK ▸ op2_lt) hm ha hb
theorem te_le (st : Stab F) (hm : behindInMarks .LtE b = false) (ha : PE X a (TrE F W ma)) (hb : PE X b (TrE F W mb)) : PE X (.Compare a [.LtE] [b] pos) (TrE F W (mOp opLe [ma, mb])) := te_cmp st op_le op2_le hm ha hb
theorem te_gt (st : Stab F) (hm : behindInMarks .Gt b = false) (ha : PE X a (TrE F W ma)) (hb : PE X b (TrE F W mb)) : PE X (.Compare a [.Gt] [b] pos) (TrE F W (mOp opGt [ma, mb])) := te_cmp st op_gt op2_gt hm ha hb
theorem te_ge (st : Stab F) (hm : behindInMarks .GtE b = false) (ha : PE X a (TrE F W ma)) (hb : PE X b (TrE F W mb)) : PE X (.Compare a [.GtE] [b] pos) (TrE F W (mOp opGe [ma, mb])) := te_cmp st op_ge op2_ge hm ha hb
theorem te_is (st : Stab F) (hm : behindInMarks .Is b = false) (ha : PE X a (TrE F W ma)) (hb : PE X b (TrE F W mb)) : PE X (.Compare a [.Is] [b] pos) (TrE F W (mOp opIs [ma, mb])) := te_cmp st or_is (op2_is st) hm ha hb
theorem te_isN (st : Stab F) (hm : behindInMarks .IsNot b = false) (ha : PE X a (TrE F W ma)) (hb : PE X b (TrE F W mb)) : PE X (.Compare a [.IsNot] [b] pos) (TrE F W (mOp opIsNot [ma, mb])) := te_cmp st or_isNot (op2_isNot st) hm ha hb
theorem te_in (hu : X.A.units + 65 < cLine) (hK : X.K = F.K) (st : Stab F) (hm : behindInMarks .In b = false) (ha : PE X a (TrE F W ma)) (hb : PE X b (TrE F W mb)) : PE X (.Compare a [.In] [b] pos) (TrE F W (mOp opIn [ma, mb])) := te_cmp st (or_in hu) (hK ▸ op2_in) hm ha hb
theorem te_nin (hu : X.A.units + 65 < cLine) (hK : X.K = F.K) (st : Stab F) (hm : behindInMarks .NotIn b = false) (ha : PE X a (TrE F W ma)) (hb : PE X b (TrE F W mb)) : PE X (.Compare a [.NotIn] [b] pos) (TrE F W (mOp opNotIn [ma, mb])) := te_cmp st (or_notIn hu) (hK ▸ op2_notIn) hm ha hb
theorem tb_eq (hu : X.A.units + 64 < cLine) (hK : X.K = F.K) (st : Stab F) (hm : behindInMarks .Eq b = false) (ha : PE X a (TrE F W ma)) (hb : PE X b (TrE F W mb)) : PT X (.Compare a [.Eq] [b] pos) (TrB F W (mOp opEq [ma, mb])) := tb_cmp st (op_eqD hu) (hK ▸ op2_eq) hm ha hb
theorem tb_ne (hu : X.A.units + 64 < cLine) (hK : X.K = F.K) (st : Stab F) (hm : behindInMarks .NotEq b = false) (ha : PE X a (TrE F W ma)) (hb : PE X b (TrE F W mb)) : PT X (.Compare a [.NotEq] [b] pos) (TrB F W (mOp opNe [ma, mb])) := tb_cmp st (op_neD hu) (hK ▸ op2_ne) hm ha hb
theorem tb_lt (hu : X.A.units + 64 < cLine) (hK : X.K = F.K) (st : Stab F) (hm : behindInMarks .Lt b = false) (ha : PE X a (TrE F W ma)) (hb : PE X b (TrE F W mb)) : PT X (.Compare a [.Lt] [b] pos) (TrB F W (mOp opLt [ma, mb])) := tb_cmp st (or_lt hu) (hK ▸ op2_lt) hm ha hb
theorem tb_le (st : Stab F) (hm : behindInMarks .LtE b = false) (ha : PE X a (TrE F W ma)) (hb : PE X b (TrE F W mb)) : PT X (.Compare a [.LtE] [b] pos) (TrB F W (mOp opLe [ma, mb])) := tb_cmp st op_le op2_le hm ha hb
theorem tb_gt (st : Stab F) (hm : behindInMarks .Gt b = false) (ha : PE X a (TrE F W ma)) (hb : PE X b (TrE F W mb)) : PT X (.Compare a [.Gt] [b] pos) (TrB F W (mOp opGt [ma, mb])) := tb_cmp st op_gt op2_gt hm ha hb
theorem tb_ge (st : Stab F) (hm : behindInMarks .GtE b = false) (ha : PE X a (TrE F W ma)) (hb : PE X b (TrE F W mb)) : PT X (.Compare a [.GtE] [b] pos) (TrB F W (mOp opGe [ma, mb])) := tb_cmp st op_ge op2_ge hm ha hb
theorem tb_is (st : Stab F) (hm : behindInMarks .Is b = false) (ha : PE X a (TrE F W ma)) (hb : PE X b (TrE F W mb)) : PT X (.Compare a [.Is] [b] pos) (TrB F W (mOp opIs [ma, mb])) := tb_cmp st or_is (op2_is st) hm ha hb
theorem tb_isN (st : Stab F) (hm : behindInMarks .IsNot b = false) (ha : PE X a (TrE F W ma)) (hb : PE X b (TrE F W mb)) : PT X (.Compare a [.IsNot] [b] pos) (TrB F W (mOp opIsNot [ma, mb])) := tb_cmp st or_isNot (op2_isNot st) hm ha hb
theorem tb_in (hu : X.A.units + 65 < cLine) (hK : X.K = F.K) (st : Stab F) (hm : behindInMarks .In b = false) (ha : PE X a (TrE F W ma)) (hb : PE X b (TrE F W mb)) : PT X (.Compare a [.In] [b] pos) (TrB F W (mOp opIn [ma, mb])) := tb_cmp st (or_in hu) (hK ▸ op2_in) hm ha hb
theorem tb_nin (hu : X.A.units + 65 < cLine) (hK : X.K = F.K) (st : Stab F) (hm : behindInMarks .NotIn b = false) (ha : PE X a (TrE F W ma)) (hb : PE X b (TrE F W mb)) : PT X (.Compare a [.NotIn] [b] pos) (TrB F W (mOp opNotIn [ma, mb])) := tb_cmp st (or_notIn hu) (hK ▸ op2_notIn) hm ha hb
/-! ### built-ins -/
theorem te_len (st : Stab F) (hK : X.K = F.K) (hg : Gl X "len") (hm : X.mg "len" = none) (ha : PE X a (TrE F W ma)) (he : starEach [a] X.env = (false, eval a X.env) :: starEach [] X.env) : PE X (.Call (.Name "len" pp) [a] [] pos) (TrE F W (mOp opLen [ma])) :=
  te_call1 st cr_len (hK ▸ op1_len) hg hm (by rfl) ha (by decide) (by decide) he
theorem te_tuple (st : Stab F) (hK : X.K = F.K) (hg : Gl X "tuple") (hm : X.mg "tuple" = none) (ha : PE X a (TrE F W ma)) (he : starEach [a] X.env = (false, eval a X.env) :: starEach [] X.env) : PE X (.Call (.Name "tuple" pp) [a] [] pos) (TrE F W (mOp opTuple [ma])) :=
  te_callT1 st call_tuple_of (hK ▸ op1_tuple st) hg hm (by rfl) ha (by decide) (by decide) he
theorem te_list (st : Stab F) (hK : X.K = F.K) (hg : Gl X "list") (hm : X.mg "list" = none) (ha : PE X a (TrE F W ma)) (he : starEach [a] X.env = (false, eval a X.env) :: starEach [] X.env) : PE X (.Call (.Name "list" pp) [a] [] pos) (TrE F W (mOp opList [ma])) :=
  te_callT1 st call_list_of (hK ▸ op1_list st) hg hm (by rfl) ha (by decide) (by decide) he
theorem te_intc (st : Stab F) (hg : Gl X "int") (hm : X.mg "int" = none) (ha : PE X a (TrE F W ma)) (he : starEach [a] X.env = (false, eval a X.env) :: starEach [] X.env) : PE X (.Call (.Name "int" pp) [a] [] pos) (TrE F W (mOp opInt [ma])) :=
  te_callT1 st call_int1 op1_int hg hm (by rfl) ha (by decide) (by decide) he
theorem te_all (st : Stab F) (hK : X.K = F.K) (hc : X.calm = true) (hg : Gl X "all") (hm : X.mg "all" = none) (ha : PE X a (TrE F W ma)) (he : starEach [a] X.env = (false, eval a X.env) :: starEach [] X.env) : PE X (.Call (.Name "all" pp) [a] [] pos) (TrE F W (mOp opAll [ma])) :=
  te_call1 st (cr_all hc) (hK ▸ op1_all) hg hm (by rfl) ha (by decide) (by decide) he
theorem te_any (st : Stab F) (hK : X.K = F.K) (hc : X.calm = true) (hg : Gl X "any") (hm : X.mg "any" = none) (ha : PE X a (TrE F W ma)) (he : starEach [a] X.env = (false, eval a X.env) :: starEach [] X.env) : PE X (.Call (.Name "any" pp) [a] [] pos) (TrE F W (mOp opAny [ma])) :=
  te_call1 st (cr_any hc) (hK ▸ op1_any) hg hm (by rfl) ha (by decide) (by decide) he
theorem te_sum (st : Stab F) (hK : X.K = F.K) (hc : X.calm = true) (hg : Gl X "sum") (hm : X.mg "sum" = none) (ha : PE X a (TrE F W ma)) (he : starEach [a] X.env = (false, eval a X.env) :: starEach [] X.env) : PE X (.Call (.Name "sum" pp) [a] [] pos) (TrE F W (mOp opSum [ma])) :=
  te_call1 st (cr_sum hc) (hK ▸ op1_sum) hg hm (by rfl) ha (by decide) (by decide) he
theorem te_max2 (st : Stab F) (hc : X.calm = true) (hg : Gl X "max") (hm : X.mg "max" = none) (ha : PE X a (TrE F W ma)) (hb : PE X b (TrE F W mb)) (he : starEach [a, b] X.env = (false, eval a X.env) :: starEach [b] X.env) (he2 : starEach [b] X.env = (false, eval b X.env) :: starEach [] X.env) : PE X (.Call (.Name "max" pp) [a, b] [] pos) (TrE F W (mOp opMax2 [ma, mb])) :=
  te_call2 st (call_max2 hc) op2_max2 hg hm (by rfl) ha hb (by decide) (by decide) he he2
theorem te_min2 (st : Stab F) (hc : X.calm = true) (hg : Gl X "min") (hm : X.mg "min" = none) (ha : PE X a (TrE F W ma)) (hb : PE X b (TrE F W mb)) (he : starEach [a, b] X.env = (false, eval a X.env) :: starEach [b] X.env) (he2 : starEach [b] X.env = (false, eval b X.env) :: starEach [] X.env) : PE X (.Call (.Name "min" pp) [a, b] [] pos) (TrE F W (mOp opMin2 [ma, mb])) :=
  te_call2 st (call_min2 hc) op2_min2 hg hm (by rfl) ha hb (by decide) (by decide) he he2
end
/-- a def stands under the name y and keeps its promise -/
structure Ok (P : Program) (w : World) (K : PySem.W.Frag) (mg : Str → Option Value) (base : Heap) (T : List (Addr × Str)) (y : Str) (k : Nat) (ps : List Str) (fm : Fn) (np : Nat) : Prop where
  ex : ∃ f fd, mg y = some (.ref f) ∧ PySem.W.keepIn K (.ref f) = true ∧ Binds K fd ps [] ∧ FnOk P w K mg base (L2.CX P w) k f fd ps (spF K mg T fm np)
/-- .. it is the object at f -/
structure OkAt (P : Program) (w : World) (K : PySem.W.Frag) (mg : Str → Option Value) (base : Heap) (T : List (Addr × Str)) (y : Str) (f : Addr) (fd : FuncData) (k : Nat) (ps : List Str) (fm : Fn) (np : Nat) : Prop where
  at_ : mg y = some (.ref f)
  kp : PySem.W.keepIn K (.ref f) = true
  bd : Binds K fd ps []
  fn : FnOk P w K mg base (L2.CX P w) k f fd ps (spF K mg T fm np)
theorem OkAt.ok {P : Program} {w : World} {K : PySem.W.Frag} {mg : Str → Option Value} {base : Heap} {T : List (Addr × Str)} {y : Str} {f : Addr} {fd : FuncData} {k : Nat} {ps : List Str} {fm : Fn} {np : Nat} (o : OkAt P w K mg base T y f fd k ps fm np) : Ok P w K mg base T y k ps fm np :=
  ⟨f, fd, o.at_, o.kp, o.bd, o.fn⟩
section
variable {F : Fx} {W : WX} {X : Cx} {a b c : Expr} {ma mb mc : ME} {pos pp p1 p2 p3 : Pos} {y z : Str} {k : Nat} {es : List Expr}
theorem te_callO {np : Nat} {ps : List Str} {fm : Fn} {mss : List ME} (st : Stab F) (tk : Takes X W) (hK : X.K = F.K) (hmg : X.mg = F.mg) (o : Ok X.prog X.w X.K X.mg X.base F.T y k ps fm np) (hr : Room k X.A) (hg : Gl X y) (hnp : mss.length = np)
    (ha : PA X (a :: es) (TrA F W mss)) (hdb : (y == ("__debug__" : Str)) = false) (he : starEach (a :: es) X.env = (false, eval a X.env) :: starEach es X.env) (hpl : (backTo pos (starEach es X.env)).any (·.1) = false) :
    PE X (.Call (.Name y pp) (a :: es) [] pos) (TrE F W (mCall fm mss)) := by
  obtain ⟨f, fd, h1, h2, h3, h4⟩ := o.ex
  exact te_call st tk hK hmg (hK ▸ hmg ▸ h4) hr hg h1 h2 h3 hnp ha hdb he hpl
theorem te_callO0 {fm : Fn} (st : Stab F) (tk : Takes X W) (hK : X.K = F.K) (hmg : X.mg = F.mg) (o : Ok X.prog X.w X.K X.mg X.base F.T y k [] fm 0) (hr : Room k X.A) (hg : Gl X y) (hdb : (y == ("__debug__" : Str)) = false) :
    PE X (.Call (.Name y pp) [] [] pos) (TrE F W (mCall fm [])) := by
  obtain ⟨f, fd, h1, h2, h3, h4⟩ := o.ex
  exact te_call0 st tk hK hmg (hK ▸ hmg ▸ h4) hr hg h1 h2 h3 hdb
/-- a def that stands in the text keeps its promise -/
theorem ok_of {P : Program} {w : World} {K : PySem.W.Frag} {mg : Str → Option Value} {base : Heap} {T : List (Addr × Str)} {y : Str} {sd : Stmt} {f : Addr} {fd : FuncData} {N ps : List Str} {k np : Nat} {muts : List Bool} {m : MS}
    (Fd : L2.Fun K y y sd f fd) (hmg : mg y = some (.ref f)) (hb : Binds K fd ps []) (Sc : FnScope N ps (defScope sd)) (hnp : ps.length = np) (hN : N.length = np + muts.length)
    (hbody : ∀ (cdv : Value), fd.code = cdv → ∀ (A : Around) (outer : List PySem.Env) (s : Shared) (H : Hp) (E : XK), Room k (A.deeper (envOfC y (defScope sd) s.heap.objs.size f cdv)) →
      Takes (cxOf (L2.CX P w) P w K mg base N y (defScope sd) f cdv A outer s H E) (fun cls d _ H => E cls d H) →
      PassesOwn (model P w) (cxOf (L2.CX P w) P w K mg base N y (defScope sd) f cdv A outer s H E).A (cxOf (L2.CX P w) P w K mg base N y (defScope sd) f cdv A outer s H E).env (cxOf (L2.CX P w) P w K mg base N y (defScope sd) f cdv A outer s H E).xe →
      (A.deeper (envOfC y (defScope sd) s.heap.objs.size f cdv)).units + 64 < cLine → (A.deeper (envOfC y (defScope sd) s.heap.objs.size f cdv)).units + 65 < cLine → ∀ F : Fx, F.K = K → F.mg = mg → F.T = T → F.ml = mlOf muts np → Stab F →
      PSs (cxOf (L2.CX P w) P w K mg base N y (defScope sd) f cdv A outer s H E) (defBody sd) (TrS F (fun cls d _ H => E cls d H) m)) : OkAt P w K mg base T y f fd (k + 1) ps (mkFn np muts m) np :=
  ⟨hmg, Fd.kp, hb, fn_ok Fd Sc hnp hN fun cdv hc A outer s H E hr F h1 h2 h3 h4 st => hbody cdv hc A outer s H E hr (takes_of rfl rfl rfl rfl) (passes_of rfl) hr.units (by have := hr.un; omega) F h1 h2 h3 h4 st⟩
end
end M

/-! Sound21: targets, comprehensions that are stored, errors. -/
namespace M
open PySem L2
open PySem (Str)
open PySem.Spec PyProof.Rows
section
variable {F : Fx} {W : WX} {X : Cx} {a b c : Expr} {m ma mb mc : ME} {pos pp p1 p2 p3 : Pos} {y z : Str} {i k : Nat} {es : List Expr} {is : List Nat}
theorem pgt_one {K : PySem.W.Frag} (hN : X.N.Nodup) (hi : X.N[i]? = some y) (hx : Loc X.env.scope y) (hf : X.fn y = true ∨ X.env.scope.names.lookup y = some .local) : PG X (.Name y pos) (gTg K (.one i)) := pg_name hN hi hx hf
theorem pgn_nil : PGs X [] (gNames []) := pgs_nil
theorem pgn_cons (hN : X.N.Nodup) (hi : X.N[i]? = some y) (hx : Loc X.env.scope y) (hf : X.fn y = true ∨ X.env.scope.names.lookup y = some .local) (h : PGs X es (gNames is))
    (hs : (assignEach (.Name y pos :: es) X.env).map (·.2) = assign (.Name y pos) X.env :: (assignEach es X.env).map (·.2)) : PGs X (.Name y pos :: es) (gNames (i :: is)) := pgs_cons (pg_name hN hi hx hf) h hs
theorem pgt_many {K : PySem.W.Frag} (hK : X.K = K) (hc : X.calm = true) (h : PGs X es (gNames is)) (hn : (assignEach es X.env).length = is.length) (hst : (assignEach es X.env).findIdx? (·.1) = none) : PG X (.Tuple es k pos) (gTg K (.many is)) :=
  hK ▸ PG_or (pg_tup hc h hn hst) (pg_unl hc h hn hst)
/-- name = [..] on one line -/
theorem ts_setLc {py : Pos} {elt tgE iter : Expr} {ifs : List Expr} {scope : Scope} {own : List (Str × Nat)} {it : MI} {tgm : Tg} {cond : Option ME} (st : Stab F) (hc : X.calm = true) (hN : X.N.Nodup) (hy : X.N[i]? = some y) (hyl : X.env.scope.names.lookup y = some .local)
    (hln : (py.line == pp.line) = true) (hk : X.env.scope.kind = .function) (hot : (scope.names.any fun (n, k) => n == y && (k == .local || k == .cell)) = false) (hK : X.K = F.K)
    (hi : PI X tgE iter (TrI F W it)) (ok : BlkOk X.N X.env.scope scope own) (hown : ∀ i ∈ tgm.ix, i ∈ own.map (·.2))
    (hg : ∀ (s : Shared) (H : Hp) (C : Addr) (cl : List (Str × Addr)) (fp : List Addr), PG (X.blk s H scope (compEnvC scope cl C X.env) fp) tgE (gTg X.K tgm))
    (ht : ∀ (s : Shared) (H : Hp) (C : Addr) (cl : List (Str × Addr)) (fp : List Addr), PTs (X.blk s H scope (compEnvC scope cl C X.env) fp) ifs (TrC F cond))
    (he : ∀ (s : Shared) (H : Hp) (C : Addr) (cl : List (Str × Addr)) (fp : List Addr), PE (X.blk s H scope (compEnvC scope cl C X.env) fp) elt (TrE F W0 ma))
    (hs : ∀ x, foldedSetIterable iter X.env x = pure x) : PS X (.Assign [.Name y py] (.ListComp elt [⟨tgE, iter, ifs, 0⟩] scope pp) pos) (TrS F W (mSet i (mLc it tgm (own.map (·.2)) cond ma))) :=
  PS_imp (L2.ps_setLc hc hN hy hyl (sw_true hk hyl hln hot) hi ok hg ht he hs) fun D σ H h => by
    obtain ⟨B, ρ, e, S, s, hp⟩ := h
    have h2 : TrE F W (mLc it tgm (own.map (·.2)) cond ma) σ H fun v H1 => D.nx (σ.set i (some v)) H1 := by
      refine stepSD st s hp fun z S1 v H1 s1 x1 r1 hp => ?_
      exact hp ρ _ H1 (s1.put r1) x1.ext
    exact lc_read st hK hown h2
theorem ts_setLcC {py : Pos} {elt tgE iter : Expr} {ifs : List Expr} {scope : Scope} {own : List (Str × Nat)} {it : MI} {tgm : Tg} {cond : Option ME} (st : Stab F) (hc : X.calm = true) (hN : X.N.Nodup) (hy : X.N[i]? = some y) (hyl : X.env.scope.names.lookup y = some .local)
    (hln : (py.line == pp.line) = true) (hk : X.env.scope.kind = .function) (hot : (scope.names.any fun (n, k) => n == y && (k == .local || k == .cell)) = false) (hK : X.K = F.K) (hm : i ∈ F.ml)
    (hi : PI X tgE iter (TrI F W it)) (ok : BlkOk X.N X.env.scope scope own) (hown : ∀ i ∈ tgm.ix, i ∈ own.map (·.2))
    (hg : ∀ (s : Shared) (H : Hp) (C : Addr) (cl : List (Str × Addr)) (fp : List Addr), PG (X.blk s H scope (compEnvC scope cl C X.env) fp) tgE (gTg X.K tgm))
    (ht : ∀ (s : Shared) (H : Hp) (C : Addr) (cl : List (Str × Addr)) (fp : List Addr), PTs (X.blk s H scope (compEnvC scope cl C X.env) fp) ifs (TrC F cond))
    (he : ∀ (s : Shared) (H : Hp) (C : Addr) (cl : List (Str × Addr)) (fp : List Addr), PE (X.blk s H scope (compEnvC scope cl C X.env) fp) elt (TrE F W0 ma))
    (hs : ∀ x, foldedSetIterable iter X.env x = pure x) : PS X (.Assign [.Name y py] (.ListComp elt [⟨tgE, iter, ifs, 0⟩] scope pp) pos) (TrS F W (mSetC i (mLc it tgm (own.map (·.2)) cond ma))) :=
  PS_imp (L2.ps_setLc hc hN hy hyl (sw_true hk hyl hln hot) hi ok hg ht he hs) fun D σ H h => by
    obtain ⟨B, ρ, e, S, s, hp⟩ := h
    have h2 : TrE F W (mLc it tgm (own.map (·.2)) cond ma) σ H fun v H1 => D.nx (σ.set i (some v)) H1 := by
      refine stepS st s hp fun r S1 v H1 s1 x1 r1 hp => ?_
      split at hp
      · rename_i c n he
        obtain ⟨ad, rfl, h1, h2, h3⟩ := r1
        obtain ⟨s2, _, hn⟩ := Sim.setC st (S := S1) s1 he hm h2 h3
        exact hp _ _ H1 s2 (Ext.setC x1 hn h1)
      · exact hp.elim
    exact lc_read st hK hown h2
end
/-- an error's class of the text -/
structure ExcOk (K : PySem.W.Frag) (mg : Str → Option Value) (y : Str) : Prop where
  ex : ∃ (C : Addr) (bm : List Value) (B newId initId : String), ExcBaseFacts B newId initId bm ∧ PySem.W.excIn K C bm newId = true ∧ mg y = some (.ref C) ∧ PySem.W.keepIn K (.ref C) = true ∧ PySem.W.subIn K (.ref C) (.type "BaseException") = some true ∧ PySem.W.typeIn K (.ref C) = some (.type "type")
theorem ts_raiseO {F : Fx} {W : WX} {X : Cx} {y m : Str} {j : Nat} {p p2 pos pos' : Pos} (hc : X.calm = true) (tk : Takes X W) (hmg : X.mg = F.mg) (x : ExcOk X.K X.mg y) (hg : Gl X y) (hdb : (y == ("__debug__" : Str)) = false) :
    PS X (.Raise (some (.Call (.Name y p) [.Constant (.str m) j p2] [] pos)) none pos') (TrS F W (mRaise y)) := by
  obtain ⟨C, bm, B, n, i, h1, h2, h3, h4, h5, h6⟩ := x.ex
  exact ts_raise hc tk (pmk_own h1 h2 h3 h4 (raises_own h5 h6) hg hdb) (hmg ▸ h3)
/-- whatever the body, a text that is never used -/
theorem cx_end {P : Program} {w : World} {H : Hp} {s s' : Shared} {e : Value} (h : L2.CX P w [] H s (fun _ _ _ => False) e s') : False := by
  obtain ⟨_, _, _, _, _, _, _, _, _, _, _, _, z⟩ := h
  exact z
end M

/-! Sound22: the law's own call. -/
namespace M
open PySem L2
open PySem (Str)
open PySem.Spec PyProof.Rows
theorem reps_ints {F : Fx} {X : Addr → Prop} {H : Hp} : ∀ ns : List Int, Reps F X H (ns.map M.D.int) (ns.map V.int)
  | [] => Reps.nil
  | n :: ns => .cons (by rw [Rep]) (reps_ints ns)
theorem law_sp {K : PySem.W.Frag} {mg : Str → Option Value} {T : List (Addr × Str)} {f : Fn} {ns : List Int} {a : Addr} {H : Hp} {Q : VK} {E : XK} (hl : ns.length ≤ LIM) (hT : LamX.Tabs T H) (hS : SqL K H a (ns.map V.int)) (h : f G0 [.d (.rol (ns.map M.D.int))] [] = .ok (.d (.bl true)) []) (hq : ∀ H', Q (.bl true) H') :
    spF K mg T f 1 [.ref a] H Q E := by
  refine ⟨rfl, fun _ _ _ => False, G0, fun _ => False, fun _ => 0, [], [.d (.rol (ns.map M.D.int))], ⟨fun _ _ _ _ h _ => h, fun _ _ _ h => h.elim⟩, rfl, ?_, ?_⟩
  · refine ⟨rfl, fun i x q => ?_, fun i n q => ?_, fun n c q => ?_, fun n m q => ?_, fun n q => ?_, fun a q => q.elim, fun i q => ?_, ⟨hT⟩⟩
    · cases i with
      | zero =>
        have : M.D.rol (ns.map M.D.int) = x := by simpa using q
        subst this
        refine ⟨.ref a, rfl, ?_⟩
        rw [Rep]
        refine ⟨a, ns.map V.int, rfl, ?_, by simpa using hl, reps_ints ns⟩
        rcases hS with (q | q) | q
        · exact .inr (.inr ⟨q, fun z => z.elim id fun ⟨m, h1, _⟩ => h1 rfl⟩)
        · exact .inl q
        · exact .inr (.inl (.inr q))
      | succ i => simp at q
    · cases i with
      | zero => simp at q
      | succ i => simp at q
    · simp [cellOf] at q
    · simp [cellOf] at q
    · simp [cellOf] at q
    · cases q
  · rw [h]
    intro v H' _ _ r
    have r : v = .bl true := by simpa only [RepR, Rep] using r
    subst r
    exact hq H'
/-- what the law's def promises its caller -/
def spLaw (K : PySem.W.Frag) : Sp := fun vs H Q _ => ∃ (a : Addr) (ns : List Int), vs = [.ref a] ∧ ns.length ≤ 63 ∧ Only H ∧ SqL K H a (ns.map V.int) ∧ ∀ H', Q (.bl true) H'
theorem law_fn {P : Program} {w : World} {K : PySem.W.Frag} {mg : Str → Option Value} {base : Heap} {k : Nat} {fa : Addr} {fd : FuncData} {ps : List Str} {f : Fn} (F : FnOk P w K mg base (L2.CX P w) k fa fd ps (spF K mg [] f 1)) (h : ∀ ns : List Int, ns.length ≤ 63 → f G0 [.d (.rol (ns.map M.D.int))] [] = .ok (.d (.bl true)) []) :
    FnOk P w K mg base (L2.CX P w) k fa fd ps (spLaw K) := F.imp fun vs H Q E ⟨a, ns, e, hl, hO, hS, hq⟩ => by
  subst e
  exact law_sp (Nat.le_trans hl (by decide)) (fun _ z => nomatch z) hS (h ns hl) hq
end M

/-! Sound23: an error that is caught and kept under a name. -/
namespace M
open PySem L2
open PySem (Str)
open PySem.Spec PyProof.Rows
theorem excO_ne {a c b : Addr} {o : HO} (h : ∀ φ, o ≠ .ext φ) : ExcO b c ≠ o := fun z => h _ z.symm
/-- an object that is known here may be tracked from now on, if it was not there at the entry -/
theorem track {X : Cx} {pins : List (Addr × Obj)} {σ : L2.St} {H : Hp} {s : Shared} {a C : Addr} {oe : Obj} (I : Inv X ((a, oe) :: pins) σ H s) (hx : X.ex = []) (h0 : X.s_0.heap.get? a = none) (hp : ∀ p ∈ X.pn ++ pins, p.1 ≠ a)
    (hz : Zc (.ref C) none oe) (hf : ∃ vs, oe.data = .fields vs) : Inv X pins σ (upd H a (ExcO a C)) s := by
  obtain ⟨g1, g2, g3, g4, g5⟩ := I.pin (a, oe) (List.mem_append.mpr (.inr List.mem_cons_self))
  have old : ∀ b u, H b = some u → b ≠ a := fun b u e z => by subst z; rw [g2] at e; cases e
  have at_ : ∀ b, b ≠ a → upd H a (ExcO a C) b = H b := fun b h => upd_ne h
  have pinOld : ∀ p ∈ X.pn ++ pins, p ∈ X.pn ++ (a, oe) :: pins := fun p q => (List.mem_append.mp q).elim (fun z => List.mem_append.mpr (.inl z)) fun z => List.mem_append.mpr (.inr (List.mem_cons_of_mem _ z))
  have ent : ∀ b o, X.s_0.heap.get? b = some o → b ≠ a := fun b o e z => by subst z; rw [h0] at e; cases e
  refine ⟨I.ok, I.os, I.bare, ⟨I.base.keep, I.base.slot, fun b o e n q => (at_ b (ent b o e)).trans (I.base.free b o e n q), I.base.there, fun b xs e => ?_, fun b o u e => ?_, fun b ps e => ?_⟩, I.loc, I.cell, (at_ _ (Ne.symm g3)).trans I.free, fun y c e => ?_, fun p q => ?_, fun b u e => ?_, I.len⟩
  · have z := I.base.tups b xs e
    exact (at_ b (old b _ z)).trans z
  · have z := I.base.frzs b o u e
    exact (at_ b (old b _ z)).trans z
  · obtain ⟨more, z⟩ := I.base.tbls b ps e
    exact ⟨more, (at_ b (old b _ z)).trans z⟩
  · refine (at_ c fun z => ?_).trans (I.freeC y c e)
    obtain ⟨v, o, q1, q2⟩ := I.cell y c e
    rw [z, g1] at q1; cases q1
    exact g5 _ q2
  · obtain ⟨k1, k2, k3⟩ := I.pin p (pinOld p q)
    exact ⟨k1, (at_ _ (hp p q)).trans k2, k3⟩
  · by_cases hb : b = a
    · subst hb
      rw [upd_same] at e; cases e
      exact ⟨⟨oe, g1, hz.1, hz.2, hf⟩, ⟨oe, g1⟩, fun h1 h2 ⟨o, k1, k2⟩ st => ⟨o, st o k1, k2⟩⟩
    · rw [at_ b hb] at e
      exact (I.hok b u e).stay (fun _ _ _ q => q) (fun d q => (at_ d (old d _ q)).trans q) fun d xs q => (at_ d (old d _ q)).trans q
/-- what 'except c as (slot i)' wishes of an error that is surely caught; ts: the suite; behind it the error is tracked -/
def wKeep (K : PySem.W.Frag) (c : Value) (i n : Nat) (ts : Addr → TS) (D : Ends) : WX := fun cls d σ H =>
  σ.length = n → ∃ C, cls = .ref C ∧ d = none ∧ PySem.W.exmOne K cls c = some true ∧ ∀ a, H a = none →
    ts a { nx := fun σ' H' => H' a = none ∧ D.nx (σ'.set i none) (upd H' a (ExcO a C)), rt := fun _ _ => False, bk := fun _ _ => False, ct := fun _ _ => False } (σ.set i (some (.ref a))) H
section
variable {X : Cx} {x n : Str} {c : Value} {i : Nat} {body suite : List Stmt} {b₀ : Stmt} {np pos pos' : Pos} {tb : WX → TS} {ts : Addr → TS}
/-- an error in the air lands: the state is ours again, the error's object is known and new -/
theorem lands {pins : List (Addr × Obj)} {σ : L2.St} {H : Hp} {sI : Shared} {a : Addr} {B : Heap} {cls : Value} {d : Option Addr} (hs : X.stack = X.env :: X.outer) (hf : X.env.frame = some X.env.locals)
    (J : Inv X pins σ H sI) (nb : ∀ b o, sI.heap.get? b = some o → b ∉ frs X.stack → B.get? b = some o) (na : H a = none) {h3 : Heap} {g : Array GenState} {t : Nat} {dr : Drawn} (up : sI.heap.UpToSlots h3) (fl : HandSPX.FlyingZ B (X.env :: X.outer) a (Zc cls d) h3) (ag : AllBare g) :
    Inv X pins σ H ⟨h3, g, dr, t, sI.os⟩ ∧ sI.heap.get? a = none ∧ a ≠ X.env.locals ∧ a ∉ X.fs ∧ ∃ oe, h3.get? a = some oe ∧ Zc cls d oe ∧ ∃ vs, oe.data = .fields vs := by
  obtain ⟨oe, vs, he, hz, hd⟩ := fl.there
  have nfr : a ∉ frs (X.env :: X.outer) := fun hm => by
    obtain ⟨_, o', e', hnf⟩ := fl.2.2.1.mem hm
    rw [he] at e'; cases e'
    exact hnf _ hd
  have J2 : Inv X pins σ H ⟨h3, g, dr, t, sI.os⟩ := J.landed (s' := ⟨h3, g, dr, t, sI.os⟩) nb fl.1 up rfl ag
  refine ⟨J2, ?_, fun z => nfr (List.mem_filterMap.mpr ⟨X.env, List.mem_cons_self, by rw [hf, z]⟩), fun hm => ?_, oe, he, hz, vs, hd⟩
  · cases q : sI.heap.get? a with
    | none => rfl
    | some o =>
      have z := nb a o q (by rw [hs]; exact nfr)
      rw [fl.2.1] at z; cases z
  · obtain ⟨e, m, q⟩ := List.mem_filterMap.mp hm
    exact nfr (List.mem_filterMap.mpr ⟨e, List.mem_cons_of_mem _ m, q⟩)
theorem ts_tryKeep (hx : X.ex = []) (hs : X.stack = X.env :: X.outer) (hf : X.env.frame = some X.env.locals) (hN : X.N.Nodup) (hi : X.N[i]? = some n) (hln : X.env.kindOf n = some .local) (hc : Names X x c)
    (hb : ∀ (W : WX) (pn : List (Addr × Obj)) (xe : Value → Shared → Prop), Takes (X.tr pn xe) W → PassesOwn (model X.prog X.w) X.A X.env xe → PSs (X.tr pn xe) body (tb W))
    (hsu : ∀ (a : Addr) (oe : Obj) (pn : List (Addr × Obj)), PSs (X.suite a ((a, oe) :: pn)) (b₀ :: suite) (ts a)) :
    PS X (.Try body [.ExceptHandler (some (.Name x np)) (some n) (b₀ :: suite) pos'] [] [] pos) (fun D σ H => tb (wKeep X.K c i X.N.length ts D) D σ H) := by
  refine ⟨fun pins s σ H D I h => ?_⟩
  have ok := I.ok
  have hfr : X.A.frames = some (X.env :: X.outer) := by rw [ok.frames, hs]
  let air : Value → Shared → Prop := fun e s1 => wpAny (model X.prog X.w) X.A (noteFrame e X.env) (fun _ s2 => wpAny (model X.prog X.w) X.A (setFlight e none) (fun _ s3 =>
    wpAny (model X.prog X.w) X.A (handleBy e X.env [.ExceptHandler (some (.Name x np)) (some n) (b₀ :: suite) pos']) (SP X pins D) X.xe s3) X.xe s2) X.xe s1
  have caught : Takes (X.tr (X.pn ++ pins) air) (wKeep X.K c i X.N.length ts D) := by
    rintro u s' ⟨a, B, sI, pins', σ1, H1, cls, d, rfl, J1, nb, up, sky, na, os, ag, wk⟩
    obtain ⟨C, rfl, rfl, he, hts⟩ := wk J1.len
    have J : Inv X pins σ1 H1 sI := J1.ofTry ok
    have sky1 : Sky B (X.env :: X.outer) a (Zc (.ref C) none) X.env.locals s'.heap := hs ▸ sky
    obtain ⟨q1, q2, q3, q4, q5⟩ := s'
    cases (show q5 = sI.os from os)
    refine Sky.land Zc.steady hfr hf sky1 fun h3 fl3 up3 => ?_
    obtain ⟨I3, new, nL, nF, oe3, he3, hz3, hd3⟩ := lands (g := q2) (dr := q3) (t := q4) hs hf J nb na (up.trans up3) fl3 ag
    have S3 := I3.suite he3 hd3.choose_spec na nL nF
    refine wpAny_handleBy_cons (codeAny_handlers_test ?_) (fun z => nomatch z)
    have looks := PySem.W.exm_one (M := model X.prog X.w) I3.kIn (fun A Q E s k q => wpAny_typeOf_ref (k _ _ he3) (by rw [hz3.1]; exact q)) he
    have name : ∀ {Q E : Value → Shared → Prop}, Q c ⟨h3, q2, q3, q4, sI.os⟩ → wpAny (model X.prog X.w) (X.A.mark (some (.ref a))) (eval (.Name x np) X.env) Q E ⟨h3, q2, q3, q4, sI.os⟩ := fun {Q E} q => by
      obtain ⟨k1, k2, k3 | ⟨k3, k4, k5⟩⟩ := hc
      · exact ld_glob S3 k1 k3 q k2
      · exact ld_blt S3 k1 k3 k4 q k5 k2
    refine name (looks.here (codeAny_handlers_suite_as (HandSPX.lands_againZ fl3 fun h4 fl4 up4 => ?_)))
    obtain ⟨I4, _, _, _, oe4, he4, hz4, hd4⟩ := lands (g := q2) (dr := q3) (t := q4) hs hf J nb na ((up.trans up3).trans up4) fl4 ag
    refine store_ok (X := X.suite a ((a, oe4) :: (X.pn ++ pins))) (v := .ref a) (I4.suite he4 hd4.choose_spec na nL nF) hN hi (.inl hln) rfl (fun s5 S5 => ?_) (.inr hln)
    refine wpAny_mono ((hsu a oe4 (X.pn ++ pins)).run [] s5 _ H1 _ S5 (hts a na)) (fun fw s6 fin => ?_) fun _ _ z => z.elim
    cases fw with
    | brk => obtain ⟨_, _, _, z⟩ := fin; exact z.elim
    | cont => obtain ⟨_, _, _, z⟩ := fin; exact z.elim
    | ret u => obtain ⟨_, _, _, _, _, z⟩ := fin; exact z.elim
    | next =>
      obtain ⟨σ6, H6, S6, n6, d6⟩ := fin
      have p6 := S6.pin (a, oe4) (List.mem_append.mpr (.inl List.mem_cons_self))
      have I6 : Inv X ((a, oe4) :: pins) σ6 H6 s6 := (S6.unsuite ok).pins_of fun p hp => by
        rcases List.mem_cons.mp hp with rfl | hp
        · exact p6
        · exact S6.pin p (List.mem_append.mpr (.inl (List.mem_cons_of_mem _ (List.mem_append.mpr (.inr hp)))))
      refine gone_ok I6 hN hi hln fun s7 I7 => ⟨_, _, track I7 hx ?_ (fun p hp z => ?_) hz4 hd4, d6⟩
      · cases q : X.s_0.heap.get? a with
        | none => rfl
        | some o =>
          obtain ⟨o', z⟩ := J.base.there a o q (by rw [hx]; exact fun z => nomatch z)
          rw [new] at z; cases z
      · obtain ⟨k, _⟩ := J.pin p hp
        rw [z, new] at k; cases k
  refine wpAny_Try_except (wpAny_mono ((hb (wKeep X.K c i X.N.length ts D) (X.pn ++ pins) air caught PassesOwn.looking).run [] s σ H D (I.toTry _) h) (fun f s1 fin => ?_) fun e s1 he => he)
  cases f with
  | next => obtain ⟨σ1, H1, J1, q⟩ := fin; exact wpAny_execs_nil ⟨σ1, H1, J1.ofTry ok, q⟩
  | brk => obtain ⟨σ1, H1, J1, q⟩ := fin; exact ⟨σ1, H1, J1.ofTry ok, q⟩
  | cont => obtain ⟨σ1, H1, J1, q⟩ := fin; exact ⟨σ1, H1, J1.ofTry ok, q⟩
  | ret u => obtain ⟨v, σ1, H1, J1, r, q⟩ := fin; exact ⟨v, σ1, H1, J1.ofTry ok, r, q⟩
end
end M

/-! Sound24: a lambda handed to a def that tells what it raises. -/
namespace M
open PySem L2
open PySem (Str)
open PySem.Spec PyProof.Rows
section
variable {F F' : Fx} {W : WX} {X : Cx} {B B' B2 : Addr → Prop} {ρ ρ' ρ0 : Nat → Addr} {e e' e2 : M.Env} {S S' S0 S1 S2 : Sto} {σ σ' σ2 : L2.St} {H H' H0 H1 H2 : Hp}
/-- the heap but for tables -/
theorem Sim.extN (st : Stab F) (s : Sim F B ρ e S σ H) (x : LamX.ExtN H H1) (t : LamX.Tabs F.T H1) : Sim F B ρ e S σ H1 ∧ ExtE ρ S H S H1 := by
  have nt : ∀ {o : HO}, isMut o = false → ∀ ps, o ≠ .tbl ps := fun {o} m ps z => by subst z; cases m
  have kp : Keeps H H1 := fun a o m q => x a o q (nt m)
  have mv : ∀ a o, (∀ ps, o ≠ HO.tbl ps) → ¬ Ex B ρ S a → H a = some o → H1 a = some o ∧ ¬ Ex B ρ S a := fun a o t n q => ⟨x a o q t, n⟩
  have nw : ∀ a, Nw H1 a → Nw H a := fun a n o q => by
    by_cases z : ∃ ps, o = .tbl ps
    · exact z
    · exact n o (x a o q fun ps y => z ⟨ps, y⟩)
  refine ⟨⟨s.len, fun i y q => ?_, s.slotC, fun n c q => ?_, s.inj, s.nb, fun a q w => s.bt a q (nw a w), s.uq, ⟨t⟩⟩, ⟨rfl, fun _ q => q, fun a o _ t q => x a o q t, nw⟩⟩
  · obtain ⟨v, h1, h2⟩ := s.slot i y q
    exact ⟨v, h1, h2.move st kp mv⟩
  · obtain ⟨o, h1, _, h3⟩ := (s.cell n c q).at_
    exact (s.cell n c q).move st (fun o' q' => by rw [h1] at q'; cases q'; exact x _ _ h1 h3) kp mv
/-- a frame without names -/
theorem Sim.bare (h : SameF F F') (hml : F'.ml = []) (s : Sim F B ρ e S σ H) : Sim F' B ρ [] S [] H :=
  ⟨rfl, fun i x q => by simp at q, fun i n q => by simp at q, fun n c q => (s.cell n c q).cong h, s.inj, s.nb, s.bt, fun i q => (by rw [hml] at q; cases q), h.T ▸ s.tb⟩
/-- what follows an end in a frame without names -/
def Nb (F : Fx) (B : Addr → Prop) (ρ : Nat → Addr) (S : Sto) (H : Hp) (Q : VK) (r : R) (S' : Sto) : Prop := ∀ v H', Sim F (addR B r v) ρ [] S' [] H' → ExtE ρ S H S' H' → RepR F B ρ S' H H' r v → Q v H'
/-- back in the frame of the caller -/
theorem NP.bare {K : PySem.W.Frag} {mg : Str → Option Value} {T : List (Addr × Str)} {g : Clos} {Q : VK} {r : R} (st : Stab F) (h : SameF F (fx0 K mg T F.κ g)) (s1 : Sim F B ρ e S1 σ H1) (x1 : ExtE ρ S H S1 H1) (hq : NP F B ρ e σ S H Q r S2) : Nb (fx0 K mg T F.κ g) B ρ S1 H1 Q r S2 := fun v H2 s2 x2 r2 => by
  have hb : ∀ a, addR B r v a → B a ∨ Nw H1 a := fun a q => by
    cases r with
    | d y => exact .inl q
    | c n => exact .inl q
    | f c =>
      rcases q with q | q
      · exact .inl q
      · obtain ⟨ad, rfl, g2, _⟩ := r2
        injection q with q
        rw [← q]; exact .inr g2
  exact hq v H2 (Sim.ret st h.symm s1 s2 x2 hb) (x1.trans x2) ((r2.cong h.symm).since fun a q => x1.none_ q)
theorem Sim.anyS (s : Sim F B ρ e S σ H) (hl : σ'.length = σ.length) (h : ∀ (i : Nat) (z : A), e[i]? = some (some z) → ∃ n, z = A.c n ∧ cellOf S n = none) : Sim F B ρ e S σ' H where
  len := hl.trans s.len
  slot := fun i x q => by obtain ⟨n, z, _⟩ := h i _ q; cases z
  slotC := fun i n q => ⟨(s.slotC i n q).1, fun z => by obtain ⟨k, q1, q2⟩ := h i _ q; cases q1; exact absurd q2 z⟩
  cell := s.cell
  inj := s.inj
  nb := s.nb
  bt := s.bt
  uq := s.uq
  tb := s.tb
/-- the frame that goes on with what was raised -/
theorem err_sim {K : PySem.W.Frag} {mg : Str → Option Value} {T : List (Addr × Str)} {κ : Nat → V → Hp → Prop} {muts : List Bool} {xi : Nat} {err : M.D} {v : V} (s : Sim (fx0 K mg T κ G0) B ρ [] S [] H) (hl : σ.length = 1 + muts.length) (hx : σ[xi]? = some (some v))
    (hr : Rep (fx0 K mg T κ G0) (Ex B ρ S) H err v) : Sim ⟨K, mg, κ, T, S.length, mlOf muts 1, G0⟩ B ρ ((none :: M.frame muts S.length).set xi (some (.d err))) (S ++ List.replicate (muts.countP id) none) σ H := by
  have same : SameF (fx0 K mg T κ G0) ⟨K, mg, κ, T, S.length, mlOf muts 1, G0⟩ := ⟨rfl, rfl, rfl, rfl⟩
  obtain ⟨N, hN⟩ : ∃ N : List Str, N.length = 1 + muts.length := ⟨List.replicate (1 + muts.length) default, by simp⟩
  have s1 : Sim ⟨K, mg, κ, T, S.length, mlOf muts 1, G0⟩ B ρ (none :: M.frame muts S.length) (S ++ List.replicate (muts.countP id) none) (L2.start N []) H := by
    have := entry_sim (as := []) (vs := []) (muts := false :: muts) (N := N) (F' := ⟨K, mg, κ, T, S.length, mlOf muts 1, G0⟩) same rfl rfl (by simp [hN]; omega) s
    simpa [M.frame] using this
  have s2 := s1.anyS (σ' := σ) (by rw [hl, s1.len]; simp [frame_len]; omega) fun i z q => by
    cases i with
    | zero => simp at q
    | succ i =>
      have q : (M.frame muts S.length)[i]? = some (some z) := by simpa using q
      cases z with
      | d x => exact absurd q (frame_d _ _ _ _)
      | c n => exact ⟨n, rfl, by rw [cellOf_rep]; exact cellOf_ge (frame_c _ _ _ _ q).1⟩
  have s3 := s2.put (i := xi) (x := err) (v := v) (by
    have hex : Ex B ρ (S ++ List.replicate (muts.countP id) none) = Ex B ρ S := funext fun a => propext ⟨fun q => q.imp id fun ⟨n, h1, h2⟩ => ⟨n, by rwa [cellOf_rep] at h1, h2⟩, fun q => q.imp id fun ⟨n, h1, h2⟩ => ⟨n, by rwa [cellOf_rep], h2⟩⟩
    rw [hex]; exact hr.cong same)
  have e1 : σ.set xi (some v) = σ := by
    apply List.ext_getElem?
    intro k
    by_cases q : xi = k
    · subst q
      rw [List.getElem?_set_self (List.getElem?_eq_some_iff.mp hx).1, hx]
    · rw [List.getElem?_set_ne q]
  rwa [e1] at s3
end
/-- what a def makes of an error, from a heap on -/
def Aft (K : PySem.W.Frag) (mg : Str → Option Value) (T : List (Addr × Str)) (κ : Nat → V → Hp → Prop) (R : M.D → Sto → O M.R) (err : M.D) (H : Hp) (Q : VK) : Prop :=
  ∃ B ρ S, Stab (fx0 K mg T κ G0) ∧ Sim (fx0 K mg T κ G0) B ρ [] S [] H ∧ PostO (R err S) (Nb (fx0 K mg T κ G0) B ρ S H Q) fun _ _ => False
/-- what a def that tells what is raised makes of a lambda's reading -/
def TRef (K : PySem.W.Frag) (mg : Str → Option Value) (T : List (Addr × Str)) (κ : Nat → V → Hp → Prop) (errs : List Str) (R : M.D → Sto → O M.R) : (XK → Hp → VK → Prop) → Hp → VK → Prop := fun tl H Q =>
  ∃ Ech : XK, (∀ Qn : Hp → Prop, (∀ H1, Aft K mg T κ R .non H1 Q → Qn H1) → tl Ech H (fun _ H1 => Qn H1)) ∧ ∀ cls d H1, Ech cls d H1 → ∃ c C, cls = .ref C ∧ d = none ∧ mg c = some (.ref C) ∧ errs.contains c = true ∧ ∀ a, H1 a = none → Aft K mg T κ R (.exc c) (upd H1 a (ExcO a C)) Q
section
variable {F F' : Fx} {W : WX} {X : Cx} {B B' B2 : Addr → Prop} {ρ ρ' ρ0 : Nat → Addr} {e e' e2 : M.Env} {S S' S0 S1 S2 : Sto} {σ σ' σ2 : L2.St} {H H' H0 H1 H2 : Hp} {Q : VK}
theorem fx_stab {K : PySem.W.Frag} {mg : Str → Option Value} {T : List (Addr × Str)} {g : Clos} (st : Stab F) : Stab (fx0 K mg T F.κ g) := ⟨st.mv, st.nn⟩
/-- the caller's side -/
theorem ref_ok (st : Stab F) {errs : List Str} {R : M.D → Sto → O M.R} {mb : ME} (herr : ∀ c, errs.contains c = true → ∃ C, F.mg c = some (.ref C)) (hR : ∀ err S c S', R err S ≠ .ex c S') (h : TrE F W (mRef errs R mb) σ H Q) :
    LamX.tLam F.T (TRef F.K F.mg F.T F.κ errs R) (fun E => TrE F (fun cls d _ H => E cls d H) mb) σ H Q := by
  obtain ⟨B, ρ, e, S, s, hp⟩ := h
  refine ⟨s.tb.tabs, fun H1 xn t1 => ?_⟩
  obtain ⟨s1, x1⟩ := s.extN st xn t1
  have same : SameF F (fx0 F.K F.mg F.T F.κ G0) := ⟨rfl, rfl, rfl, rfl⟩
  have aft : ∀ (err : M.D) (S1 : Sto) (H2 : Hp), Sim F B ρ e S1 σ H2 → ExtE ρ S H S1 H2 → PostO (R err S1) (NP F B ρ e σ S H Q) (XP F W B ρ e σ S H) → Aft F.K F.mg F.T F.κ R err H2 Q := fun err S1 H2 s2 x2 hq => by
    refine ⟨B, ρ, S1, fx_stab st, s2.bare same rfl, ?_⟩
    cases hr : R err S1 with
    | no => rw [hr] at hq; exact hq.elim
    | ex c S' => exact absurd hr (hR err S1 c S')
    | ok r S' =>
      rw [hr] at hq
      exact NP.bare st same s2 x2 hq
  unfold mRef at hp
  cases hm : mb F.g e S with
  | no => rw [hm] at hp; exact hp.elim
  | ok r S1 =>
    rw [hm] at hp
    refine ⟨fun _ _ _ => False, fun Qn hQ => ⟨B, ρ, e, S, s1, ?_⟩, fun _ _ _ z => z.elim⟩
    rw [hm]
    intro v H2 s2 x2 _
    exact hQ H2 (aft .non S1 H2 (s2.mono st addR_le) (x1.trans x2) hp)
  | ex c S1 =>
    rw [hm] at hp
    cases hc : errs.contains c with
    | false => simp only [hc] at hp; exact hp.elim
    | true =>
      simp only [hc] at hp
      obtain ⟨C, hC⟩ := herr c hc
      refine ⟨fun cls d H2 => cls = .ref C ∧ d = none ∧ Sim F B ρ e S1 σ H2 ∧ ExtE ρ S H S1 H2, fun Qn hQ => ⟨B, ρ, e, S, s1, ?_⟩, fun cls d H2 ⟨q1, q2, s2, x2⟩ => ⟨c, C, q1, q2, hC, hc, fun a ha => ?_⟩⟩
      · rw [hm]
        intro H2 s2 x2 cl hcl
        rw [hC] at hcl; cases hcl
        exact ⟨rfl, rfl, s2, x1.trans x2⟩
      · exact aft (.exc c) S1 _ ((s2.alloc st ha (fun ps z => by unfold ExcO at z; cases z)).mono st fun a q => .inl q) (x2.trans (ExtE.alloc ha)) hp
end
/-- the statements of a def that tells what is raised: x = None; try: a() / except c as n: x = n / rest -/
theorem gives_ref {X : Cx} {Ng : List Str} {y a xn en hn q : Str} {sg : Scope} {g CS : Addr} {cdv : Value} {xi ei k : Nat} {p1 p2 p3 p4 p5 p6 p7 p8 p9 p10 p11 : Pos} {rest : List Stmt} {muts : List Bool} {errs : List Str} {m : MS} {κ : Nat → V → Hp → Prop} {T : List (Addr × Str)}
    (nd : Ng.Nodup) (hN : Ng.length = 1 + muts.length) (h0 : Ng[0]? = some a) (hx : Ng[xi]? = some xn) (he : Ng[ei]? = some en) (hxe : xi ≠ ei) (hx0 : xi ≠ 0) (hxl : sg.names.lookup xn = some .local ∨ sg.names.lookup xn = some .cell) (hel : sg.names.lookup en = some .local)
    (hgl : sg.names.lookup hn = some .globalImplicit) (hhn : X.mg hn = some (.ref CS)) (hd1 : (hn == ("__debug__" : Str)) = false) (hd2 : (en == ("__debug__" : Str)) = false) (hd3 : (en == ("__classdict__" : Str)) = false)
    (hex : ∀ c C, errs.contains c = true → X.mg c = some (.ref C) → PySem.W.exmOne X.K (.ref C) (.ref CS) = some true)
    (hrest : ∀ (s : Shared) (H : Hp) (F : Fx), F.K = X.K → F.mg = X.mg → F.T = T → F.ml = mlOf muts 1 → Stab F → PSs (cxOf C8.CX0 X.prog X.w X.K X.mg X.base Ng y sg g cdv X.A X.stack s H C8.E0).nox rest (TrS F (fun _ _ _ _ => False) m)) :
    LamX.GivesTo X Ng y sg g cdv (.Assign [.Name xn p1] (.Constant .none k p2) p3 :: .Try [.Expr (.Call (.Name a p4) [] [] p5) p5] [.ExceptHandler (some (.Name hn p6)) (some en) [.Assign [.Name xn p7] (.Name en p8) p9] p10] [] [] p11 :: rest) a q (TRef X.K X.mg T κ errs (refRun muts xi m)) := by
  intro f c' s H Q tl act hc h
  obtain ⟨Ech, h1, h2⟩ := h
  let Xc : Cx := (cxOf C8.CX0 X.prog X.w X.K X.mg X.base Ng y sg g cdv X.A X.stack s H C8.E0).nox
  let tr : TS := fun D σ H => ∃ F : Fx, (F.K = X.K ∧ F.mg = X.mg ∧ F.T = T ∧ F.ml = mlOf muts 1 ∧ Stab F) ∧ TrS F (fun _ _ _ _ => False) m D σ H
  have hr : PSs Xc rest tr := ⟨fun pins s1 σ1 H1 D I ⟨F, ⟨k1, k2, k3, k4, k5⟩, w⟩ => (hrest s H F k1 k2 k3 k4 k5).run pins s1 σ1 H1 D I w⟩
  let tb : WX → TS := fun W D σ H => ∃ Ech : XK, (∀ cls d σ' H', Ech cls d H' → W cls d σ' H') ∧ σ[0]? = some (some (.ref f)) ∧ H c' = some (LamX.CodeO c' q) ∧ tl Ech H fun _ H1 => D.nx σ H1
  let ts : Addr → TS := fun _ => tSeq (tAsg (tVar ei) (gName xi)) tNext
  have ht := ts_tryKeep (X := Xc) (c := .ref CS) (i := ei) (body := [.Expr (.Call (.Name a p4) [] [] p5) p5]) (suite := []) (b₀ := .Assign [.Name xn p7] (.Name en p8) p9) (np := p6) (pos := p11) (pos' := p10) (tb := tb) (ts := ts) rfl rfl rfl nd he hel ⟨hgl, hd1, .inl hhn⟩
    (fun W pn xe tk _ => ⟨fun pins s' σ H' D I ⟨E1, hW, k1, k2, k3⟩ => (pss_one (ps_expr (pos := p5) (act W pn xe E1 p4 p5 tk hW))).run pins s' σ H' D I ⟨k1, k2, k3⟩⟩)
    (fun a oe pn => pss_cons (ps_set nd hx hxl (pe_var he (.inl hel) hd2 hd3)) pss_nil)
  refine ⟨_, pss_cons (ps_set nd hx hxl pe_non) (pss_cons ht hr), ?_⟩
  have hxlt : xi < Ng.length := (List.getElem?_eq_some_iff.mp hx).1
  have helt : ei < Ng.length := (List.getElem?_eq_some_iff.mp he).1
  have rest_of : ∀ (err : M.D) (v : V) (σ1 : L2.St) (H1 : Hp), σ1.length = Ng.length → σ1[xi]? = some (some v) → (∀ B ρ S, Sim (fx0 X.K X.mg T κ G0) B ρ [] S [] H1 → Rep (fx0 X.K X.mg T κ G0) (Ex B ρ S) H1 err v) → Aft X.K X.mg T κ (refRun muts xi m) err H1 Q →
      tr { nx := fun _ H' => Q .non H', rt := Q } σ1 H1 := fun err v σ1 H1 hl hv hrep ⟨B, ρ, S, st, sm, hp⟩ => by
    have same : SameF (fx0 X.K X.mg T κ G0) ⟨X.K, X.mg, κ, T, S.length, mlOf muts 1, G0⟩ := ⟨rfl, rfl, rfl, rfl⟩
    refine ⟨⟨X.K, X.mg, κ, T, S.length, mlOf muts 1, G0⟩, ⟨rfl, rfl, rfl, rfl, st.cong same⟩, B, ρ, _, _, err_sim sm (by rw [hl, hN]) hv (hrep B ρ S sm), ?_⟩
    exact leave_post (k := muts.countP id) (E := fun _ _ _ => False) same (st.cong same) rfl (by
      unfold refRun at hp
      cases ho : outOf S.length (m G0 ((none :: M.frame muts S.length).set xi (some (.d err))) (S ++ List.replicate (muts.countP id) none)) with
      | ok r S' => rw [ho] at hp; exact hp
      | ex c S' => rw [ho] at hp; exact hp.elim
      | no => rw [ho] at hp; exact hp.elim)
  have hst : (L2.start Ng [V.ref f]).length = Ng.length := by unfold L2.start; simp; omega
  have hst0 : (L2.start Ng [V.ref f])[0]? = some (some (V.ref f)) := by unfold L2.start; simp
  refine ⟨Ech, fun cls d σ' H' k hlen => ?_, by rw [List.getElem?_set_ne hx0]; exact hst0, hc, ?_⟩
  · obtain ⟨cn, C, rfl, rfl, k3, k4, k5⟩ := h2 cls d H' k
    refine ⟨C, rfl, rfl, hex cn C k4 k3, fun ad ha => ?_⟩
    have hl' : σ'.length = Ng.length := hlen
    refine ⟨.ref ad, by rw [List.getElem?_set_self (by omega)], ha, rest_of (.exc cn) (.ref ad) _ _ (by simp [hl']) ?_ (fun B ρ S sm => ?_) (k5 ad ha)⟩
    · rw [List.getElem?_set_ne (Ne.symm hxe), List.getElem?_set_self (by simp; omega)]
    · rw [Rep]; exact ⟨ad, C, rfl, k3, upd_same⟩
  · refine h1 _ fun H1 k => rest_of .non .non _ H1 (by simp [hst]) ?_ (fun B ρ S _ => by rw [Rep]) k
    rw [List.getElem?_set_self (by omega)]
theorem refRun_noex {muts : List Bool} {xi : Nat} {m : MS} (err : M.D) (S : Sto) (c : Str) (S' : Sto) : refRun muts xi m err S ≠ .ex c S' := by
  unfold refRun
  cases outOf S.length (m G0 ((none :: M.frame muts S.length).set xi (some (.d err))) (S ++ List.replicate (muts.countP id) none)) <;> intro z <;> cases z
/-- a def stands under the name y that tells what a lambda raises -/
structure RefOk (P : Program) (w : World) (K : PySem.W.Frag) (mg : Str → Option Value) (base : Heap) (T : List (Addr × Str)) (y : Str) (errs : List Str) (R : M.D → Sto → O M.R) : Prop where
  ex : ∃ (g : Addr) (Ng : List Str) (a : Str) (pg : Arguments) (bg : List Stmt) (sg : Scope) (dV kV doc pm cdv ct oc : Value) (an od : Option Addr) (osl : Array (Option Value)), mg y = some (.ref g) ∧ PySem.W.keepIn K (.ref g) = true ∧
    K.lookup g = some ⟨oc, od, .func (PySem.W.fnOf y y pg bg sg dV kV doc pm an cdv ct), osl⟩ ∧ PySem.W.codeIn K cdv y = true ∧ L2.Binds K (PySem.W.fnOf y y pg bg sg dV kV doc pm an cdv ct) [a] [] ∧ FnScope Ng [a] sg ∧ Ng[0]? = some a ∧ Vis sg a ∧
    (a == ("__debug__" : Str)) = false ∧ (a == ("__classdict__" : Str)) = false ∧
    ∀ (X : Cx) (κ : Nat → V → Hp → Prop) (q : Str), X.prog = P → X.w = w → X.K = K → X.mg = mg → X.base = base → Room 2 X.A → LamX.GivesTo X Ng y sg g cdv bg a q (TRef K mg T κ errs R)
  known : ∀ c, errs.contains c = true → ∃ C, mg c = some (.ref C)
  noex : ∀ err S c S', R err S ≠ .ex c S'
section
variable {F : Fx} {W : WX} {X : Cx}
theorem te_ref {errs : List Str} {R : M.D → Sto → O M.R} {mb : ME} {y : Str} {c P : Addr} {params : Arguments} {body : Expr} {scope : Scope} {k : Nat} {p lpos pos : Pos} (st : Stab F) (hK : X.K = F.K) (hmg : X.mg = F.mg) (o : RefOk X.prog X.w X.K X.mg X.base F.T y errs R) (hg : Gl X y) (hdb : (y == ("__debug__" : Str)) = false)
    (TB : LamX.TabB X.base X.mg c P) (hcode : X.env.code = .ref c) (hmT : (P, X.env.qual ++ "<lambda>") ∈ F.T) (hu : ∀ p ∈ F.T, p.1 = P → p.2 = X.env.qual ++ "<lambda>") (hr : Room (k + 2) X.A) (L : LamX.LamS X.env.scope scope) (hdef : defaultsOf params X.env = ([], []))
    (hbind : ∀ (q : Str) (cl : List (Str × Addr)) (pm cv ctv : Value), bindArgs (PySem.W.kla_fn "<lambda>" q params body scope cl pm cv ctv) ⟨[], []⟩ = pure [])
    (hbody : ∀ (A : Around) (outer : List PySem.Env) (s : Shared) (H : Hp) (E : XK) (f c' : Addr), Room k (A.deeper (LamX.lamEnv X scope s.heap.objs.size f c')) → PE (LamX.lamCx X A outer s H E scope f c') body (TrE F (fun cls d _ H => E cls d H) mb)) :
    PE X (.Call (.Name y p) [.Lambda params body scope lpos] [] pos) (TrE F W (mRef errs R mb)) := by
  obtain ⟨g, Ng, a, pg, bg, sg, dV, kV, doc, pm, cdv, ct, oc, an, od, osl, h1, h2, h3, h4, h5, h6, h7, h8, h9, h10, h11⟩ := o.ex
  have hG := h11 X F.κ (X.env.qual ++ "<lambda>") rfl rfl rfl rfl rfl (hr.mono (by omega))
  refine PE_imp (LamX.pe_lamcall (T := F.T) hg h1 h2 h3 h4 h5 h6 h7 h8 hG TB hcode hmT hu hr L hdef hbind (t := fun E => TrE F (fun cls d _ H => E cls d H) mb) hbody hdb h9 h10) fun σ H Q h => ?_
  have := ref_ok st (hmg ▸ o.known) o.noex h
  rw [hK, hmg]
  exact this
/-! ### isinstance of an error -/
theorem call_isX : CallR X (.builtin "isinstance") (fun xs H Q => ∃ (a D : Addr) (cV : V) (u : Value) (b : Bool), xs = [.ref a, cV] ∧ H a = some (ExcO a D) ∧ ExcC X.K D ∧ ClsV cV u ∧ PySem.W.kitOne X.K (.ref D) u = some b ∧ Q (.bl b) H) := by
  intro pins s σ H xs us Q I r h
  obtain ⟨a, D, cV, u, b, rfl, ha, C, k, e, q⟩ := h
  obtain ⟨u1, u2, rfl, r1, r2⟩ := vals2 r
  cases (show u1 = Value.ref a from r1)
  have e2 := k.eq r2
  subst e2
  obtain ⟨⟨oe, g1, g2, g3, vs, g4⟩, _, _⟩ := I.hok a _ ha
  have J : PySem.W.InstAt s.heap a oe D none := by
    obtain ⟨oc, od, oda, osl⟩ := oe
    dsimp only at g2 g3 g4
    subst g2 g3 g4
    exact ⟨g1, rfl, rfl, trivial⟩
  exact PySem.W.kia_one (PySem.W.handS_kitx_exc C.hg C.hk C.hs C.hd C.ha C.hn C.ht C.hm) I.kIn J e (fun z => nomatch z) fun tk => ⟨.bl b, H, I.tok tk, rfl, q⟩
/-- what is to be known of the class z, asked of the errors errs -/
structure IsE (K : PySem.W.Frag) (mg : Str → Option Value) (errs : List Str) (z : Str) (cV : V) (u : Value) : Prop where
  cls : ClsV cV u
  non : PySem.W.kitOne K (.type "NoneType") u = some false
  exc : ∀ c C, errs.contains c = true → mg c = some (.ref C) → ExcC K C ∧ PySem.W.kitOne K (.ref C) u = some (decide (c = z) || decide (z = tx "HueError") || decide (z = tx "ValueError"))
theorem op1_isE (st : Stab F) {errs : List Str} {z : Str} {cV : V} {u : Value} (h : IsE F.K F.mg errs z cV u) : Op1 F (opIsE errs z) (fun v H Q => (rIsi F.K [v, cV] H Q) ∨ ∃ (a D : Addr) (c : V) (u : Value) (b : Bool), [v, cV] = [.ref a, c] ∧ H a = some (ExcO a D) ∧ ExcC F.K D ∧ ClsV c u ∧ PySem.W.kitOne F.K (.ref D) u = some b ∧ Q (.bl b) H) := by
  intro B ρ e S σ H x v r Q s hx hf k
  unfold opIsE at hf
  split at hf
  · rename_i e1
    cases e1
    have hv := hx.non
    subst hv
    cases hf
    exact .inl ⟨.non, cV, .type "NoneType", u, false, rfl, h.cls, .base .non, h.non, k.bl s⟩
  · rename_i c e1
    cases e1
    split at hf
    · rename_i hc
      cases hf
      have hx : ∃ a cl, v = .ref a ∧ F.mg c = some (.ref cl) ∧ H a = some (ExcO a cl) := by simpa only [RepV, Rep] using hx
      obtain ⟨a, cl, rfl, h2, h3⟩ := hx
      obtain ⟨q1, q2⟩ := h.exc c cl hc h2
      exact .inr ⟨a, cl, cV, u, _, rfl, h3, q1, h.cls, q2, k.bl s⟩
    · cases hf
  · cases hf
theorem te_isEX {errs : List Str} {z : Str} {cV : V} {u : Value} {a : Expr} {ma : ME} {pp p3 pos : Pos} (st : Stab F) (hK : X.K = F.K) (hmg : X.mg = F.mg) (hg : Gl X "isinstance") (hm : X.mg "isinstance" = none) (hz : PE X (.Name z p3) (tC cV)) (h : IsE X.K X.mg errs z cV u)
    (ha : PE X a (TrE F W ma)) (he : starEach [a, .Name z p3] X.env = (false, eval a X.env) :: starEach [.Name z p3] X.env) : PE X (.Call (.Name "isinstance" pp) [a, .Name z p3] [] pos) (TrE F W (mOp (opIsE errs z) [ma])) := by
  refine PE_imp (pe_callB (CallR_or call_isi call_isX) hg hm (by decide +kernel) (pa_cons ha (pa_cons hz pa_nil) he) (by decide) (by decide) he rfl) fun σ H Q q => ?_
  have h2 : IsE F.K F.mg errs z cV u := hK ▸ hmg ▸ h
  have := te_un (rr := fun v H Q => (rIsi X.K [v, cV] H Q) ∨ ∃ (a D : Addr) (c : V) (u : Value) (b : Bool), [v, cV] = [.ref a, c] ∧ H a = some (ExcO a D) ∧ ExcC X.K D ∧ ClsV c u ∧ PySem.W.kitOne X.K (.ref D) u = some b ∧ Q (.bl b) H) st (hK ▸ op1_isE st h2) q
  exact this
/-- .. a class of the text -/
theorem te_isE {errs : List Str} {z : Str} {a : Expr} {ma : ME} {pp p3 pos : Pos} (st : Stab F) (hK : X.K = F.K) (hmg : X.mg = F.mg) (hg : Gl X "isinstance") (hm : X.mg "isinstance" = none) (hgz : Gl X z) (hdz : (z == ("__debug__" : Str)) = false) (h : ∃ D, X.mg z = some (.ref D) ∧ IsE X.K X.mg errs z (.ref D) (.ref D))
    (ha : PE X a (TrE F W ma)) (he : starEach [a, .Name z p3] X.env = (false, eval a X.env) :: starEach [.Name z p3] X.env) : PE X (.Call (.Name "isinstance" pp) [a, .Name z p3] [] pos) (TrE F W (mOp (opIsE errs z) [ma])) := by
  obtain ⟨D, h1, h2⟩ := h
  exact te_isEX st hK hmg hg hm (pe_glob hgz h1 (show L2.RelV (.ref D) (.ref D) from rfl) hdz) h2 ha he
/-- .. ValueError -/
theorem te_isV {errs : List Str} {a : Expr} {ma : ME} {pp p3 pos : Pos} (st : Stab F) (hK : X.K = F.K) (hmg : X.mg = F.mg) (hg : Gl X "isinstance") (hm : X.mg "isinstance" = none) (hgz : Gl X "ValueError") (hmz : X.mg "ValueError" = none) (h : IsE X.K X.mg errs "ValueError" (.ty "ValueError") (.type "ValueError"))
    (ha : PE X a (TrE F W ma)) (he : starEach [a, .Name "ValueError" p3] X.env = (false, eval a X.env) :: starEach [.Name "ValueError" p3] X.env) : PE X (.Call (.Name "isinstance" pp) [a, .Name "ValueError" p3] [] pos) (TrE F W (mOp (opIsE errs "ValueError") [ma])) := by
  have hv : bootBuiltins ("ValueError" : Str) = some (.type "ValueError") := by decide +kernel
  exact te_isEX st hK hmg hg hm (pe_bltn hgz hmz hv (show L2.RelV (.ty "ValueError") (.type "ValueError") from rfl) (by decide) (by decide)) h ha he
end
end M

/-! Sound25: the law's own call, where tables of code objects stand. -/
namespace M
open PySem L2
open PySem (Str)
open PySem.Spec PyProof.Rows
/-- what the law's def promises its caller, the tables empty -/
def spLawT (K : PySem.W.Frag) (T : List (Addr × Str)) : Sp := fun vs H Q _ => ∃ (a : Addr) (ns : List Int), vs = [.ref a] ∧ ns.length ≤ 63 ∧ (∀ p ∈ T, H p.1 = some (.tbl #[])) ∧ SqL K H a (ns.map V.int) ∧ ∀ H', Q (.bl true) H'
theorem law_fnT {P : Program} {w : World} {K : PySem.W.Frag} {mg : Str → Option Value} {base : Heap} {T : List (Addr × Str)} {k : Nat} {fa : Addr} {fd : FuncData} {ps : List Str} {f : Fn} (F : FnOk P w K mg base (L2.CX P w) k fa fd ps (spF K mg T f 1)) (h : ∀ ns : List Int, ns.length ≤ 63 → f G0 [.d (.rol (ns.map M.D.int))] [] = .ok (.d (.bl true)) []) :
    FnOk P w K mg base (L2.CX P w) k fa fd ps (spLawT K T) := F.imp fun vs H Q E ⟨a, ns, e, hl, hT, hS, hq⟩ => by
  subst e
  exact law_sp (Nat.le_trans hl (by decide)) (fun p hp => LamX.TabS.nil (hT p hp)) hS (h ns hl) hq
/-- the tables of the text's defs, at the head's heap -/
def TabsOf (q : Program) (K : PySem.W.Frag) (h : Heap) : Prop := ∀ (x : Str) (d : DefRec) (c P : Addr), (recsOf q).find? (fun e => e.name == x) = some d → PySem.W.tabIn K x = some (c, P) → PySem.W.CodeHd h c P ∧ h.get? P = some (PySem.W.tabObj #[])
/-- the end of a law's row -/
theorem walk_tabs {l : PySem.W.OpenLaw} {n k : Nat} {q : Program} {loose : List Str} {XP : (Str → Option Value) → Heap → Prop} {YP : World → Heap → Prop} {d : DefRec} {K : Params → PySem.W.Frag} {CX : World → CXT} {x : Str}
    (hn : l.most = some n) (hn2 : n ≤ sizeLine) (hdf : d.params.defaults = []) (hr : Room k callerA) (hY : ∀ (w : World) (h : Heap), YP w h → (K w.params).In h)
    (F : ∀ (w : World) (mg : Str → Option Value) (fa : Addr) (h : Heap), TabsOf q (K w.params) h → (K w.params).In h → h.Ns mainGlobals mg → mg d.name = some (.ref fa) → LamX.LawAtS l w (K w.params) (CX w) k n x mg fa h)
    (hCX : ∀ (w : World) (H : Hp) (s : Shared) (e : Value) (s' : Shared), CX w [] H s (fun _ _ _ => False) e s' → False) :
    PySem.W.WalkO q loose XP YP l.row.toRowW d [] (fun f vs => PySem.call f vs) := by
  refine Att.attach_callB hn hdf fun w s0 s1 mg mb fa o pm cd doc a vs ns G Y ho hd hcd hmg hobj hints hlen hbits hg => ?_
  have KX := hY w _ Y
  have tabs : TabsOf q (K w.params) s1.heap := fun x d c P h1 h2 => PySem.W.tab_of G.T KX h1 h2
  obtain ⟨fd, cs, sp, hT, nT, C, hb, hsp, hF⟩ := F w mg fa _ tabs KX G.T.g hmg
  exact LamX.law_callTs KX G.T.g G.T.b G.T.builtins G.T.nolimit hg hT nT C G.T.bmain hobj hints (Nat.le_trans hlen hn2) hr hF hb (fun H hH hS => hsp H a ns hlen hbits hH hS) fun H e s' => hCX w H s1 e s'
/-- what the end asks, of the tables of T -/
theorem law_at {l : PySem.W.OpenLaw} {q : Program} {w : World} {K : PySem.W.Frag} {k : Nat} {mg : Str → Option Value} {fa : Addr} {h : Heap} {fd : FuncData} {cs : List (Addr × Addr)} {T : List (Addr × Str)} (tabs : TabsOf q K h)
    (hcs : ∀ p ∈ cs, ∃ x d, (recsOf q).find? (fun e => e.name == x) = some d ∧ PySem.W.tabIn K x = some (p.1, p.2)) (nT : ∀ p ∈ cs, K.lookup p.2 = none) (hT : ∀ t ∈ T, ∃ p ∈ cs, p.2 = t.1)
    (hb : ∀ (s : Shared) (v : Value), BindsTo s fd ⟨[v], []⟩ [("_law_script", v)])
    (hF : ∀ base : Heap, K.In base → base.Ns mainGlobals mg → (∀ p ∈ cs, LamX.TabB base mg p.1 p.2) → FnOk l.prog w K mg base (L2.CX l.prog w) k fa fd ["_law_script"] (spLawT K T)) :
    LamX.LawAtS l w K (L2.CX l.prog w) k 63 "_law_script" mg fa h := by
  refine ⟨fd, cs, spLawT K T, fun p hp => ?_, nT, fun p hp => ?_, hb, fun H a ns hl _ hH hS => ⟨a, ns, rfl, hl, fun t ht => ?_, hS, fun _ => rfl⟩, hF⟩
  · obtain ⟨x, d, h1, h2⟩ := hcs p hp
    exact (tabs x d p.1 p.2 h1 h2).2
  · obtain ⟨x, d, h1, h2⟩ := hcs p hp
    exact (tabs x d p.1 p.2 h1 h2).1
  · obtain ⟨p, hp, e⟩ := hT t ht
    rw [← e]
    exact hH p hp
end M

/-! Sound26: methods of lists that look. -/
namespace M
open PySem L2
open PySem (Str)
open PySem.Spec PyProof.Rows
/-- l.count(x), items of any depth -/
def rCountD (K : PySem.W.Frag) : V → List V → Hp → VK → Prop := fun x xs H Q => ∃ (a : Addr) (y : V) (d : PyData) (ds : List PyData), x = V.ref a ∧ xs = [y] ∧ Dp K H (V.ref a) (.list ds) ∧ Dp K H y d ∧
  SeqAt.shaped (.list ds) = true ∧ SeqAt.shaped d = true ∧ Q (.int (ds.countP fun z => PyData.eqv z d : Nat)) H
theorem mt_countD {X : Cx} (hu : X.A.units + 65 < cLine) : MtR X "list.count" (rCountD X.K) := by
  rintro pins s σ H x xs v us Q I rx rxs ⟨ad, w, d, ds, rfl, rfl, dl, dw, shl, shd, q⟩
  cases rx
  obtain ⟨u, rfl, ru⟩ := rxs.one
  obtain ⟨bs, rd⟩ := Dp.reads I d w u dw ru
  have lay : PyData.canLayAll0 ds = true ∧ d.canLay0 = true := ⟨SeqAt.canLay_of_shaped shl, SeqAt.canLay_of_shaped shd⟩
  cases dl with
  | lst sq da =>
    obtain ⟨its, vals, ⟨⟨oc, od, odt, osl⟩, n, at_, k1, k2, k3⟩, _⟩ := I.list sq
    dsimp only at k1 k3
    subst k1 k3
    obtain ⟨as, rds⟩ := Dp.readsAll I ds _ its da vals
    have ec : its.countP (fun z => PyData.eqv (SeqAt.readOf s.heap z) d) = ds.countP fun z => PyData.eqv z d := by
      rw [← SeqAt.readsAll_map ds its as lay.1 rds, List.countP_map]; rfl
    exact call_meets PySem.F.slot_list_count ⟨_, at_, rfl⟩ PySem.F.entry_list_count (PySem.F.args_list_count_2 _ _) (SeqAt.list_countAt ad its.toArray n od osl u fun z => PyData.eqv (SeqAt.readOf s.heap z) d)
      ⟨at_, SeqAt.items_eqAt (vs := its.toArray) (show ReadsAll s.heap its.toArray.toList ds as from rds) rd lay.1 lay.2 (room_in_shaped (xs := ds) shd hu), .int (ds.countP fun z => PyData.eqv z d : Nat), H, I.tok _, ⟨s.toks, by rw [← ec]⟩, q⟩
section
variable {F : Fx} {W : WX} {X : Cx} {B B' : Addr → Prop} {ρ ρ' : Nat → Addr} {e : Env} {S S' S1 S2 : Sto} {σ : L2.St} {H H' H0 H1 H2 : Hp} {Y : Addr → Prop} {x : M.D} {v : V} {r : R}
theorem te_meth {T : String} {f : List M.D → Option M.R} {rr : V → List V → Hp → VK → Prop} {mo ma : ME} (st : Stab F) (hT : ∀ {Y : Addr → Prop} {H : Hp} {x : M.D} {v : V}, RepV F Y H x v → isKind T x = some true → tyV F.K T v H) (ho : Op2 F f (fun v w H Q => rr v [w] H Q)) {Q : VK} (h : TrE F W (mMeth T f mo ma) σ H Q) : tBM F.K T rr (TrE F W mo) (tCons (TrE F W ma) tNil) σ H Q := by
  obtain ⟨B, ρ, e, S, s, hp⟩ := h
  unfold mMeth at hp
  refine stepE st s hp (fun c S' q => q) fun r S1 v H1 s1 x1 r1 hp => ?_
  split at hp
  · rename_i hk
    cases ev : view S1 r with
    | none => rw [ev] at hk; cases hk
    | some x1' =>
      rw [ev] at hk
      have hk : isKind T x1' = some true := by simpa using hk
      refine ⟨hT (r1.view st (s1.mono st addR_le) (fun _ q => q) ev) hk, ?_⟩
      refine stepE st s1 hp (fun c S' q => q.after st addR_le x1) fun r2 S2 w H2 s2 x2 r2' hp => ?_
      have s2' := s2.mono st (B := B) fun a q => addR_le a (addR_le a q)
      split at hp
      · rename_i x y e1 e2
        split at hp
        · rename_i q hq
          have k1 := (r1.moveE st s1 x2 addR_le).view st s2' (fun _ q => q) e1
          have k2 := (r2'.mono st (B := B) addR_le).view st s2' (fun _ q => q) e2
          exact ho B ρ e S2 σ H2 x y v w q Q s2' k1 k2 hq fun v' H' s' x' r' => hp v' H' s' ((x1.trans x2).trans x') (r'.since fun a q => x1.none_ (x2.none_ q))
        · exact hp.elim
      · exact hp.elim
  · exact hp.elim
theorem ty_list {Y : Addr → Prop} {H : Hp} {x : M.D} {v : V} (h : RepV F Y H x v) (k : isKind "list" x = some true) : tyV F.K "list" v H := by
  cases x with
  | lst xs => obtain ⟨a, vs, rfl, h1, _⟩ := h.lst; exact .inl ⟨rfl, _, SqL.of h1⟩
  | rol xs => obtain ⟨a, vs, rfl, h1, _⟩ := h.rol; exact .inl ⟨rfl, _, h1⟩
  | _ => simp [isKind] at k
theorem op2_countL : Op2 F opCountL (fun v w H Q => rCountD F.K v [w] H Q) := by
  intro B ρ e S σ H x y v w r Q s hx hy hf k
  unfold opCountL at hf
  split at hf
  · rename_i ys z e1
    cases e1
    split at hf
    · rename_i hg
      cases hf
      simp only [Bool.and_eq_true] at hg
      have h1 := hx
      obtain ⟨a, vs, rfl, h2, _, h3⟩ := hx.lst
      have sh := list_shaped (n := 60) (Nat.le_refl _) hg.2 h3
      refine ⟨a, w, toPy y, toPys ys, rfl, rfl, .lst (SqL.of h2) (reps_dp 60 ys vs hg.2 h3), repV_dp hg.1 hy, sh.1, repV_shaped hg.1 hy, ?_⟩
      have ec : (toPys ys).countP (fun z => PyData.eqv z (toPy y)) = ys.countP fun u => eqv u y := by
        have : ∀ zs : List M.D, goodAll 60 zs = true → (toPys zs).countP (fun z => PyData.eqv z (toPy y)) = zs.countP fun u => eqv u y := by
          intro zs
          induction zs with
          | nil => intro _; rfl
          | cons z zs ih =>
            intro hz
            rw [goodAll] at hz
            simp only [Bool.and_eq_true] at hz
            rw [toPys, List.countP_cons, List.countP_cons, ih hz.2, eqv_py 60 60 z y hz.1 hg.1]
        exact this ys hg.2
      rw [ec]
      exact k.int s
    · cases hf
  · cases hf
theorem op2_indexL : Op2 F opIndexL (fun v w H Q => rIndexD F.K v [w] H Q) := by
  intro B ρ e S σ H x y v w r Q s hx hy hf k
  unfold opIndexL at hf
  split at hf
  · rename_i ys z e1
    cases e1
    split at hf
    · rename_i hg
      simp only [Bool.and_eq_true] at hg
      split at hf
      · rename_i j hj
        cases hf
        obtain ⟨a, vs, rfl, h2, _, h3⟩ := hx.lst
        have sh := list_shaped (n := 60) (Nat.le_refl _) hg.2 h3
        obtain ⟨hlt, hat, hno⟩ := List.findIdx?_eq_some_iff_getElem.mp hj
        have at_ : ∀ (zs : List M.D) (m : Nat), (toPys zs)[m]? = (zs[m]?).map toPy := by
          intro zs
          induction zs with
          | nil => intro m; rfl
          | cons z zs ih =>
            intro m
            cases m with
            | zero => rfl
            | succ m => rw [toPys]; simpa using ih m
        have gd : ∀ (zs : List M.D), goodAll 60 zs = true → ∀ z ∈ zs, good 60 z = true := by
          intro zs
          induction zs with
          | nil => intro _ z hz; cases hz
          | cons z zs ih =>
            intro h z' hz
            rw [goodAll] at h
            simp only [Bool.and_eq_true] at h
            rcases List.mem_cons.mp hz with q | q
            · rw [q]; exact h.1
            · exact ih h.2 z' q
        refine ⟨a, w, toPy y, toPys ys, j, toPy ys[j], rfl, rfl, .lst (SqL.of h2) (reps_dp 60 ys vs hg.2 h3), repV_dp hg.1 hy, sh.1, repV_shaped hg.1 hy, by rw [at_, List.getElem?_eq_getElem hlt]; rfl, ?_, fun m z' hm hz' => ?_, k.int s⟩
        · rw [eqv_py 60 60 _ _ (gd ys hg.2 _ (List.getElem_mem hlt)) hg.1]; exact hat
        · rw [at_, List.getElem?_eq_getElem (Nat.lt_trans hm hlt)] at hz'
          cases hz'
          rw [eqv_py 60 60 _ _ (gd ys hg.2 _ (List.getElem_mem _)) hg.1]
          simpa using hno m hm
      · cases hf
    · cases hf
  · cases hf
theorem te_countL {o a : Expr} {mo ma : ME} {apos cpos : Pos} (hu : X.A.units + 65 < cLine) (hK : X.K = F.K) (st : Stab F) (ho : PE X o (TrE F W mo)) (ha : PE X a (TrE F W ma)) (hb : attributeBase o "count" X.env (eval o X.env) = eval o X.env)
    (hf : ((backTo cpos (starEach [a] X.env)).all (fun x => !x.1) && (backToKw cpos (keywordEach [] X.env)).all (fun x => x.1.isSome) && decide ([a].length + ([] : List Keyword).length + (if ([] : List Keyword).isEmpty then 0 else 1) < 30)) = true)
    (hl : (apos.endLine == cpos.line) = true) (hs : starEach [a] X.env = (false, eval a X.env) :: starEach [] X.env) : PE X (.Call (.Attribute o "count" apos) [a] [] cpos) (TrE F W (mMeth "list" opCountL mo ma)) :=
  PE_imp (pe_bm PySem.F.plainAttrs_list PySem.F.slot_list_count PySem.F.type_list_count (mt_countD hu) ho (pa_cons ha pa_nil hs) hb hf hl hs rfl) fun σ H Q h => by
    rw [hK]; exact te_meth st ty_list op2_countL h
theorem te_indexL {o a : Expr} {mo ma : ME} {apos cpos : Pos} (hu : X.A.units + 65 < cLine) (hK : X.K = F.K) (st : Stab F) (ho : PE X o (TrE F W mo)) (ha : PE X a (TrE F W ma)) (hb : attributeBase o "index" X.env (eval o X.env) = eval o X.env)
    (hf : ((backTo cpos (starEach [a] X.env)).all (fun x => !x.1) && (backToKw cpos (keywordEach [] X.env)).all (fun x => x.1.isSome) && decide ([a].length + ([] : List Keyword).length + (if ([] : List Keyword).isEmpty then 0 else 1) < 30)) = true)
    (hl : (apos.endLine == cpos.line) = true) (hs : starEach [a] X.env = (false, eval a X.env) :: starEach [] X.env) : PE X (.Call (.Attribute o "index" apos) [a] [] cpos) (TrE F W (mMeth "list" opIndexL mo ma)) :=
  PE_imp (pe_bm PySem.F.plainAttrs_list PySem.F.slot_list_index PySem.F.type_list_index (mt_indexD hu) ho (pa_cons ha pa_nil hs) hb hf hl hs rfl) fun σ H Q h => by
    rw [hK]; exact te_meth st ty_list op2_indexL h
end
end M

/-! Sound27: facts of the written part, from those that the head shows. -/
namespace M
open PySem L2
open PySem (Str)
open PySem.Spec PyProof.Rows
section
variable {K : PySem.W.Frag} {C D : Addr} {b : Bool}
theorem isSome_dict (h : PySem.W.hasDictIn K D = true) : (PySem.W.clsIn K D).isSome = true := by
  obtain ⟨cd, hc, _⟩ := PySem.W.any_some h
  rw [hc]; rfl
theorem kitCls_own {t : Value} (hd : PySem.W.hasDictIn K D = true) (ht : PySem.W.typeIn K (.ref D) = some (.type "type")) : PySem.W.kitCls K t (.ref D) = PySem.W.subIn K t (.ref D) := by
  have e : ((PySem.W.clsIn K D).isSome && PySem.W.typeIn K (.ref D) == some (.type "type")) = true := by rw [isSome_dict hd, ht]; rfl
  exact if_pos e
theorem kit_own (hd : PySem.W.hasDictIn K D = true) (ht : PySem.W.typeIn K (.ref D) = some (.type "type")) (hs : PySem.W.subIn K (.ref C) (.ref D) = some b) (hr : PySem.W.subIn K (.ref D) (.ref D) = some true) : PySem.W.kitOne K (.ref C) (.ref D) = some b := by
  unfold PySem.W.kitOne
  by_cases e : C = D
  · subst e
    rw [hr] at hs
    rw [if_pos (by simp)]; exact hs
  · rw [if_neg (by intro z; exact e (Value.ref.inj (beq_iff_eq.mp z))), kitCls_own hd ht]; exact hs
theorem kit_non (hd : PySem.W.hasDictIn K D = true) (ht : PySem.W.typeIn K (.ref D) = some (.type "type")) (hs : PySem.W.subIn K (.type "NoneType") (.ref D) = some false) : PySem.W.kitOne K (.type "NoneType") (.ref D) = some false := by
  unfold PySem.W.kitOne
  rw [if_neg (by intro z; have := beq_iff_eq.mp z; cases this), kitCls_own hd ht]; exact hs
theorem kit_val (hs : PySem.W.subIn K (.ref C) (.type "ValueError") = some true) : PySem.W.kitOne K (.ref C) (.type "ValueError") = some true := by
  unfold PySem.W.kitOne
  rw [if_neg (by intro z; have := beq_iff_eq.mp z; cases this)]
  have e : PySem.W.kitMeta "ValueError" = true := by decide +kernel
  have h2 : PySem.W.kitCls K (.ref C) (.type "ValueError") = if PySem.W.kitMeta "ValueError" = true then PySem.W.subIn K (.ref C) (.type "ValueError") else none := rfl
  rw [h2, if_pos e]; exact hs
theorem kit_nonval : PySem.W.kitOne K (.type "NoneType") (.type "ValueError") = some false := kit_ty (by decide +kernel)
theorem tab_in {x : Str} {f c P : Addr} {oc oc' : Value} {od od' : Option Addr} {fd : FuncData} {vs : Array Value} {sl sl' : Array (Option Value)} (h1 : PySem.W.nsIn K mainGlobals x = some (some (.ref f))) (h2 : K.lookup f = some ⟨oc, od, .func fd, sl⟩) (h3 : fd.code = .ref c)
    (h4 : K.lookup c = some ⟨oc', od', .fields vs, sl'⟩) (h5 : vs[11]? = some (.ref P)) : PySem.W.tabIn K x = some (c, P) := by
  unfold PySem.W.tabIn
  simp only [h1, h2, h3, h4, h5]
end
theorem takes_lam {X : Cx} {A : Around} {outer : List PySem.Env} {s : Shared} {H : Hp} {E : XK} {scope : Scope} {f c : Addr} : Takes (LamX.lamCx X A outer s H E scope f c) (fun cls d _ H => E cls d H) := takes_of rfl rfl rfl rfl
theorem units5 {k : Nat} {A : Around} (hr : Room k A) : A.units + 65 < cLine := by have := hr.un; omega
end M

/-! Sound28: a new list and a thing, to two names at once. -/
namespace M
open PySem L2
open PySem (Str)
section
variable {F : Fx} {W : WX} {X : Cx} {B B' B2 : Addr → Prop} {ρ ρ' ρ0 : Nat → Addr} {e e' e2 : M.Env} {S S' S0 S1 S2 : Sto} {σ σ' σ2 : L2.St} {H H' H0 H1 H2 : Hp} {a b : Expr} {m ma mb : ME} {pos p1 p2 p3 : Pos} {i j l : Nat} {y z u : Str}
theorem ts_parC {k1 k2 : Nat} {pt pt2 : Pos} (st : Stab F) (hc : X.calm = true) (hN : X.N.Nodup) (hi : X.N[i]? = some y) (hj : X.N[j]? = some z) (hij : i ≠ j)
    (hx : X.env.scope.names.lookup y = some .local) (hy : X.env.scope.names.lookup z = some .local) (ha : PE X a (TrE F W ma)) (hb : PE X b (TrE F W mb))
    (hs1 : starEach [a, b] X.env = (false, eval a X.env) :: starEach [b] X.env) (hs2 : starEach [b] X.env = (false, eval b X.env) :: starEach [] X.env) (hm : i ∈ F.ml)
    (hw : swappedStores [.Tuple [.Name y p1, .Name z p2] k1 pt] (.Tuple [a, b] k2 pt2) X.env = pure (some [y, z])) (hs : swapsWithSole [.Tuple [.Name y p1, .Name z p2] k1 pt] (.Tuple [a, b] k2 pt2) pos.line X.env = pure false) :
    PS X (.Assign [.Tuple [.Name y p1, .Name z p2] k1 pt] (.Tuple [a, b] k2 pt2) pos) (TrS F W (mParC i j ma mb)) :=
  PS_imp (ps_par hc hN hi hj hij hx hy (pa_cons ha (pa_cons hb pa_nil hs2) hs1) hw hs) fun D σ H h => by
    obtain ⟨B, ρ, e, S, s, hp⟩ := h
    unfold mParC at hp
    refine stepS st s hp fun r S1 v H1 s1 x1 r1 hp => ?_
    refine ⟨addR B r v, ρ, e, S1, s1, ?_⟩
    cases hm2 : mb F.g e S1 with
    | no => rw [hm2] at hp; exact hp.elim
    | ex c S2 => rw [hm2] at hp; exact fun H' s' x' cl hc => hp ρ σ H' (s'.mono st addR_le) (x1.trans x').ext cl hc
    | ok r2 S2 =>
      rw [hm2] at hp
      intro w H2 s2 x2 r2'
      refine ⟨v, w, rfl, ?_⟩
      have r3 := r1.moveE st s1 x2 addR_le
      simp only [O.bindS] at hp
      split at hp
      · rename_i c x n he
        obtain ⟨ad, rfl, h1, h2, h3⟩ := r3
        have s3 := Sim.put (i := j) s2 r2'
        have he3 : (e.set j (some (.d x)))[i]? = some (some (.c n)) := by rw [List.getElem?_set_ne hij.symm]; exact he
        obtain ⟨s4, _, hn0⟩ := Sim.setC (c := c) st s3 he3 hm h2 h3
        rw [List.set_comm _ _ hij.symm] at s4
        exact hp _ _ H2 s4 (Ext.setC (x1.trans x2) hn0 h1)
      · exact hp.elim
end
end M

/-! Sound29: sorted, of ints and of tuples of ints. -/
namespace M
open PySem L2
open PySem (Str)
open PySem.Spec PyProof.Rows
theorem lexL_refl : ∀ xs : List Int, lexL xs xs = false
  | [] => by unfold lexL; rfl
  | x :: xs => by unfold lexL; rw [if_pos rfl]; exact lexL_refl xs
theorem lexL_asym : ∀ xs ys : List Int, lexL xs ys = true → lexL ys xs = false
  | _, [], h => by unfold lexL at h; cases h
  | [], _ :: _, h => by unfold lexL; rfl
  | x :: xs, y :: ys, h => by
    unfold lexL at h ⊢
    by_cases e : x = y
    · rw [if_pos e] at h
      rw [if_pos e.symm]; exact lexL_asym xs ys h
    · rw [if_neg e, decide_eq_true_iff] at h
      rw [if_neg (fun z => e z.symm), decide_eq_false_iff_not]; omega
theorem lexL_anti : ∀ xs ys : List Int, lexL xs ys = false → lexL ys xs = false → xs = ys
  | [], [], _, _ => rfl
  | [], _ :: _, h, _ => by unfold lexL at h; cases h
  | _ :: _, [], _, h => by unfold lexL at h; cases h
  | x :: xs, y :: ys, h1, h2 => by
    unfold lexL at h1 h2
    by_cases e : x = y
    · rw [if_pos e] at h1
      rw [if_pos e.symm] at h2
      rw [e, lexL_anti xs ys h1 h2]
    · rw [if_neg e, decide_eq_false_iff_not] at h1
      rw [if_neg (fun z => e z.symm), decide_eq_false_iff_not] at h2
      omega
theorem lexL_tr : ∀ xs ys zs : List Int, lexL ys xs = false → lexL zs ys = false → lexL zs xs = false
  | [], ys, zs, _, _ => by cases zs <;> unfold lexL <;> rfl
  | x :: xs, [], zs, h, _ => by unfold lexL at h; cases h
  | x :: xs, y :: ys, [], _, h => by unfold lexL at h; cases h
  | x :: xs, y :: ys, z :: zs, h1, h2 => by
    unfold lexL at h1 h2 ⊢
    by_cases e1 : y = x
    · by_cases e2 : z = y
      · rw [if_pos e1] at h1
        rw [if_pos e2] at h2
        rw [if_pos (e2.trans e1)]
        exact lexL_tr xs ys zs h1 h2
      · rw [if_neg e2, decide_eq_false_iff_not] at h2
        rw [if_neg (by omega), decide_eq_false_iff_not]; omega
    · rw [if_neg e1, decide_eq_false_iff_not] at h1
      by_cases e2 : z = y
      · rw [if_neg (by omega), decide_eq_false_iff_not]; omega
      · rw [if_neg e2, decide_eq_false_iff_not] at h2
        rw [if_neg (by omega), decide_eq_false_iff_not]; omega
theorem swoL {α : Type} (k : α → List Int) : SrtO.Swo fun v u => lexL (k v) (k u) := ⟨fun x y h => lexL_asym _ _ h, fun x y z h1 h2 => lexL_tr _ _ _ h1 h2⟩
/-- a tuple of ints -/
def IsTupI (h : Heap) (v : Value) (ns : List Int) : Prop := ∃ a o its n, v = .ref a ∧ h.get? a = some o ∧ o.cls = .type "tuple" ∧ o.data = .seq its n ∧ IntsAre its.toList ns
theorem IsTupI.keeps {h h' : Heap} {v : Value} {ns : List Int} (p : IsTupI h v ns) (k : ∀ b o, h.get? b = some o → o.cls = .type "tuple" → h'.get? b = some o) : IsTupI h' v ns := by
  obtain ⟨a, o, its, n, e, ho, hc, hd, hi⟩ := p
  exact ⟨a, o, its, n, e, k _ _ ho hc, hc, hd, hi⟩
section
variable {prog : Program} {w : World} {A : Around} {E : Value → Shared → Prop} {s : Shared}
theorem kat_ints : ∀ {vs us : List Value} {ns ms : List Int} (i : Nat) (fin : Bool), IntsAre vs ns → IntsAre us ms → fin = decide (ns.length < ms.length) → PySem.W.KatLex prog w A true fin (fun r s' => s' = s ∧ r = lexL ns ms) (vs.zip us) i s
  | [], us, ns, ms, i, fin, h1, h2, hf => by
    cases h1
    refine PySem.W.kat_nil ⟨rfl, ?_⟩
    rw [hf]
    cases ms <;> unfold lexL <;> simp
  | v :: vs, [], ns, ms, i, fin, h1, h2, hf => by
    cases h2
    refine PySem.W.kat_nil ⟨rfl, ?_⟩
    rw [hf]
    unfold lexL; simp
  | v :: vs, u :: us, ns, ms, i, fin, h1, h2, hf => by
    cases h1 with
    | cons x t h1 => cases h2 with
      | cons y t2 h2 =>
        rename_i ns ms
        refine PySem.W.kat_cons (SeqAt.EqAt.int_int x t y t2 prog w _ _ ?_)
        refine PySem.W.kat_go (fun e1 => ?_) (fun e1 => ?_)
        · have ex : x = y := by simpa using e1
          have e3 : lexL (x :: ns) (y :: ms) = lexL ns ms := by
            conv => lhs; unfold lexL
            rw [if_pos ex]
          rw [e3]
          exact PySem.W.kat_yes (kat_ints (i + 1) fin h1 h2 (by rw [hf]; simp))
        · have ex : ¬ x = y := by simpa using e1
          have e3 : lexL (x :: ns) (y :: ms) = decide (x < y) := by
            conv => lhs; unfold lexL
            rw [if_neg ex]
          rw [e3]
          cases i with
          | zero => exact PySem.W.kat_no (oneLt_int ⟨rfl, rfl⟩)
          | succ i =>
            refine PySem.W.kat_no (PySem.W.kat_one _ _ (PyProof.Rows.lt_int ?_))
            exact (show s = s ∧ decide (x < y) = decide (x < y) from ⟨rfl, rfl⟩)
theorem tupI_cmp {vs : List Value} {k : Value → List Int} (hp : ∀ v ∈ vs, IsTupI s.heap v (k v)) : SrtO.Cmp prog w A s (tuples' true) (fun p => p.1 ∈ vs) (SrtO.lt2 fun v u => lexL (k v) (k u)) := by
  intro p q hm hm'
  obtain ⟨a, o, its, n, e, ho, hc, hd, hi⟩ := hp _ hm
  obtain ⟨a', o', its', n', e', ho', hc', hd', hi'⟩ := hp _ hm'
  show wpAny (model prog w) A (keyLt' (tuples' true) p.1 q.1) (fun r s' => s' = s ∧ r = lexL (k p.1) (k q.1)) (fun _ _ => False) s
  generalize k p.1 = ns at hi ⊢
  generalize k q.1 = ms at hi' ⊢
  rw [e, e']
  refine PySem.W.kat_lt ho hd ho' hd' (kat_ints 0 _ hi hi' ?_)
  have l1 := hi.length
  have l2 := hi'.length
  rw [Array.length_toList] at l1 l2
  rw [← l1, ← l2]
theorem firsts_ofI {h : Heap} {k : Value → List Int} : ∀ {vs : List Value}, (∀ v ∈ vs, IsTupI h v (k v) ∧ k v ≠ []) → ∃ fs : List Value, PySem.W.KatTups h vs fs ∧ fs.length = vs.length ∧ ∀ f ∈ fs, ∃ x t, f = Value.int x t
  | [], _ => ⟨[], PySem.W.KatTups.nil, rfl, fun _ hm => by simp at hm⟩
  | v :: vs, hp => by
    obtain ⟨fs, h1, h2, h3⟩ := firsts_ofI (vs := vs) fun v' hm => hp v' (List.mem_cons_of_mem _ hm)
    obtain ⟨⟨a, o, its, n, e, ho, hc, hd, hi⟩, ne⟩ := hp v (List.mem_cons_self ..)
    subst e
    obtain ⟨l, rfl⟩ : ∃ l : List Value, its = l.toArray := ⟨its.toList, by simp⟩
    have hi : IntsAre l (k (.ref a)) := hi
    generalize k (.ref a) = ns at hi ne
    cases hi with
    | nil => exact absurd rfl ne
    | cons x t hi =>
      refine ⟨.int x t :: fs, PySem.W.KatTups.cons ho hc hd (by simp) h1, by rw [List.length_cons, List.length_cons, h2], fun f hm => ?_⟩
      rcases List.mem_cons.mp hm with rfl | hm
      · exact ⟨x, t, rfl⟩
      · exact h3 f hm
theorem tupI_sortable {a : Addr} {vs : List Value} {k : Value → List Int} (h0 : 0 < vs.length) (hp : ∀ v ∈ vs, IsTupI s.heap v (k v) ∧ k v ≠ []) (ha : ∀ o, s.heap.get? a = some o → o.cls ≠ .type "tuple") : SrtO.SortableO prog w A s a vs fun v u => lexL (k v) (k u) := by
  intro h' keep
  have hp' : ∀ v ∈ vs, IsTupI h' v (k v) ∧ k v ≠ [] := fun v hm => ⟨(hp v hm).1.keeps fun b o e c => keep b o (fun z => by subst z; exact ha o e c) e, (hp v hm).2⟩
  obtain ⟨fs, h1, h2, h3⟩ := firsts_ofI hp'
  refine ⟨tuples' true, fun Q E hq => ?_, tupI_cmp fun v hv => (hp' v hv).1⟩
  refine PySem.W.kat_kind (T := .type "int") h1 (by omega) (fun f hm => ?_) (by rfl) ?_
  · obtain ⟨x, t, rfl⟩ := h3 f hm
    exact PySem.W.Looks.now
  · have e : (Value.type "int" != Value.type "tuple") = true := by first | decide +kernel | rfl | decide
    rw [e]
    exact hq
theorem sorted_tupI {l : Addr} {vs : List Value} {k : Value → List Int} {Q : Value → Shared → Prop} (hl : s.heap.IsList l vs.toArray) (hz : vs.length ≤ sizeLine) (hp : ∀ v ∈ vs, IsTupI s.heap v (k v) ∧ k v ≠ [])
    (h : ∀ (h' : Heap) (d : Addr) (out : List Value), SrtO.Srtd (fun v u => lexL (k v) (k u)) out → SrtO.Stb (fun v u => lexL (k v) (k u)) out vs → (∀ b o, s.heap.get? b = some o → h'.get? b = some o) → s.heap.objs.size ≤ d → (∃ n, h'.get? d = some (seqObj "list" out.toArray n)) → Q (.ref d) { s with heap := h' }) :
    wpAny (model prog w) A (call (.builtin "sorted") [.ref l]) Q E s := by
  refine SrtO.sorted_ord (swoL k) hl hz (fun h2 h₁ a ha kk => ?_) fun out hs hb => ?_
  · refine tupI_sortable (s := { s with heap := h₁ }) (by omega) (fun v hm => ⟨(hp v hm).1.keeps fun b o e _ => (kk b o e).2, (hp v hm).2⟩) fun o e => ?_
    have e' : some o = some (seqObj "list" vs.toArray 0) := e.symm.trans ha
    cases e'
    intro c
    exact absurd (Value.type.inj c) (by decide)
  · exact h _ _ out hs hb (fun b o e => sortedAll_old e) (Nat.le_succ _) (sortedAll_at s.heap vs out.toArray)
end
/-- sorted(xs), xs a list of tuples of ints, none empty -/
def rSortedL (K : PySem.W.Frag) : List V → Hp → VK → Prop := fun vs H Q => ∃ (a : Addr) (ps : List (V × List Int)), vs = [V.ref a] ∧ SqL K H a (ps.map (·.1)) ∧ (∀ p ∈ ps, (∃ t, p.1 = V.ref t ∧ SqT K H t (p.2.map V.int)) ∧ p.2 ≠ []) ∧
  ∀ (qs : List (V × List Int)) p, qs.Pairwise (fun v u => lexL u.2 v.2 = false) → qs.Perm ps → H p = none → Q (.ref p) (upd H p (.lst (qs.map (·.1))))
/-- the ints of a tuple in the heap -/
def heapI (h : Heap) (u : Value) : List Int := match u with
  | .ref a => (match h.get? a with
    | some o => (match o.data with
      | .seq its _ => its.toList.map SrtO.iv
      | _ => [])
    | none => [])
  | _ => []
theorem heapI_eq {h : Heap} {a : Addr} {o : Obj} {its : Array Value} {n : Nat} {ns : List Int} (ho : h.get? a = some o) (hd : o.data = .seq its n) (hi : IntsAre its.toList ns) : heapI h (.ref a) = ns := by
  show (match h.get? a with | some o => (match o.data with | .seq its _ => its.toList.map SrtO.iv | _ => []) | none => []) = ns
  rw [ho]
  show (match o.data with | .seq its _ => its.toList.map SrtO.iv | _ => []) = ns
  rw [hd]
  exact SrtO.iv_ints hi
section
variable {X : Cx}
theorem cr_sortedL : CallR X (.builtin "sorted") (rSortedL X.K) := by
  intro pins s σ H vs us Q I r h
  obtain ⟨a, ps, rfl, hs, hx, q⟩ := h
  obtain ⟨its, rv, hl, hz⟩ := I.list hs
  obtain ⟨u, rfl, ru⟩ := vals1 r
  obtain rfl : u = Value.ref a := ru
  obtain ⟨e1, e2⟩ := refs_back rv fun x m => by
    obtain ⟨p, hp, rfl⟩ := List.mem_map.mp m
    obtain ⟨⟨t, e, _⟩, _⟩ := hx p hp
    exact ⟨t, e⟩
  have tup : ∀ p ∈ ps, ∃ t, p.1 = V.ref t ∧ IsTupI s.heap (.ref t) p.2 ∧ heapI s.heap (.ref t) = p.2 := fun p hp => by
    obtain ⟨⟨t, e, ht⟩, _⟩ := hx p hp
    obtain ⟨its2, r2, ⟨o, ho, hc, n, hd⟩, _⟩ := I.tuple ht
    have hi : IntsAre its2.toArray.toList p.2 := r2.ints
    exact ⟨t, e, ⟨t, o, its2.toArray, n, rfl, ho, hc, hd, hi⟩, heapI_eq ho hd hi⟩
  have e3 : its.map (fun u => (backV u, heapI s.heap u)) = ps := by
    have e4 : ps.map (fun p => (p.1, heapI s.heap (match p.1 with | .ref t => .ref t | _ => .none))) = ps := by
      refine (List.map_congr_left fun p hp => ?_).trans (List.map_id ps)
      obtain ⟨t, q1, _, q2⟩ := tup p hp
      show (p.1, heapI s.heap (match p.1 with | .ref t => .ref t | _ => .none)) = p
      rw [q1]
      show (V.ref t, heapI s.heap (.ref t)) = p
      rw [q2, ← q1]
    rw [← e4]
    have e5 : ps.map (fun p => (p.1, heapI s.heap (match p.1 with | .ref t => .ref t | _ => .none))) = (ps.map (·.1)).map fun v => (v, heapI s.heap (match v with | .ref t => .ref t | _ => .none)) := by rw [List.map_map]; rfl
    rw [e5, e1, List.map_map]
    refine List.map_congr_left fun u hu => ?_
    obtain ⟨t, rfl⟩ := e2 u hu
    rfl
  refine sorted_tupI (k := heapI s.heap) hl.isList (by rw [← rv.length]; exact hz) (fun v hv => ?_) fun h' d out h1 h2 kp hd hn => ?_
  · have hm : (backV v, heapI s.heap v) ∈ ps := by rw [← e3]; exact List.mem_map.mpr ⟨v, hv, rfl⟩
    obtain ⟨t, rfl⟩ := e2 v hv
    obtain ⟨t', q1, q2, q3⟩ := tup _ hm
    injection q1 with q1
    subst q1
    exact ⟨q2, (hx _ hm).2⟩
  · have h3 : ∀ u ∈ out, ∃ a, u = Value.ref a := fun u hu => e2 u (h2.perm.mem_iff.mp hu)
    obtain ⟨n, hn⟩ := hn
    have hb : (out.map fun u => (backV u, heapI s.heap u)).Perm ps := by
      rw [← e3]
      exact h2.perm.map _
    have e6 : (out.map fun u => (backV u, heapI s.heap u)).map (·.1) = out.map backV := by rw [List.map_map]; rfl
    have qq := q (out.map fun u => (backV u, heapI s.heap u)) d (List.pairwise_map.mpr h1) hb (I.hok.fresh hd)
    rw [e6] at qq
    refine ⟨.ref d, upd H d (.lst (out.map backV)), I.laid (t' := s.toks) kp hd ⟨?_, out, n, vals_back h3, hn⟩, rfl, qq⟩
    rw [← e6, List.length_map, hb.length_eq, ← List.length_map (f := (·.1))]
    exact hz
theorem cr_sorted : CallR X (.builtin "sorted") (fun vs H Q => rSortedI X.K vs H Q ∨ rSortedL X.K vs H Q) := by
  intro pins s σ H vs us Q I r h
  rcases h with h | h
  · exact cr_sortedI pins s σ H vs us Q I r h
  · exact cr_sortedL pins s σ H vs us Q I r h
end
theorem rowsOf_reps {F : Fx} {X : Addr → Prop} {H : Hp} : ∀ {xs : List M.D} {rs : List (List Int)} {vs : List V}, rowsOf xs = some rs → Reps F X H xs vs → ∃ ps : List (V × List Int), vs = ps.map (·.1) ∧ rs = ps.map (·.2) ∧ ∀ p ∈ ps, ((∃ t, p.1 = V.ref t ∧ SqT F.K H t (p.2.map V.int)) ∧ p.2 ≠ []) ∧ Rep F X H (.tup (p.2.map .int)) p.1
  | [], rs, vs, h, hr => by
    unfold rowsOf at h
    cases h
    have : vs = [] := List.eq_nil_of_length_eq_zero hr.length
    subst this
    exact ⟨[], rfl, rfl, fun p hp => by cases hp⟩
  | x :: xs, rs, vs, h, hr => by
    rw [Reps] at hr
    obtain ⟨v, vs, rfl, hv, hr2⟩ := hr
    unfold rowsOf at h
    split at h
    · rename_i q; cases q
    · rename_i ys r q
      injection q with q1 q2
      subst q1 q2
      split at h
      · rename_i n ns rs2 h1 h2
        cases h
        obtain ⟨ps, i1, i2, i3⟩ := rowsOf_reps h2 hr2
        have hv2 := hv
        rw [Rep] at hv2
        obtain ⟨t, ws, rfl, e1, e2, e3⟩ := hv2
        have e4 := intsOf_reps h1 e3
        subst e4
        refine ⟨(V.ref t, n :: ns) :: ps, by rw [i1]; rfl, by rw [i2]; rfl, fun p hp => ?_⟩
        rcases List.mem_cons.mp hp with rfl | hp
        · refine ⟨⟨⟨t, rfl, e1⟩, by simp⟩, ?_⟩
          rw [Rep]
          exact ⟨t, _, rfl, e1, e2, reps_ints _⟩
        · exact i3 p hp
      · cases h
    · cases h
theorem op1_sorted {F : Fx} (st : Stab F) : Op1 F opSorted (fun v H Q => rSortedI F.K [v] H Q ∨ rSortedL F.K [v] H Q) := by
  intro B ρ e S σ H x v r Q s hx hf k
  unfold opSorted at hf
  split at hf
  · rename_i xs q
    cases q
    obtain ⟨a, vs, rfl, h1, h2, h3⟩ := hx.lst
    split at hf
    · rename_i ns hn
      cases hf
      have := intsOf_reps hn h3
      subst this
      refine .inl ⟨a, ns, rfl, SqL.of h1, fun ns' p hp hs hl => ?_⟩
      have e : ns' = ns.mergeSort fun a b => decide (a ≤ b) := by
        refine List.Perm.eq_of_pairwise (le := (· ≤ ·)) (fun a b _ _ => Int.le_antisymm) hs ?_ (hp.trans (List.mergeSort_perm ..).symm)
        exact (List.pairwise_mergeSort (le := fun a b : Int => decide (a ≤ b)) (by intro a b c; simp; omega) (by intro a b; simp; omega) ns).imp (by simp)
      rw [← e] at k
      refine s.newLst st (xs := ns'.map .int) ?_ (reps_ints ns') k p hl
      rw [List.length_map, hp.length_eq]
      simpa using h2
    · split at hf
      · rename_i rs hr
        cases hf
        obtain ⟨ps, rfl, rfl, e2⟩ := rowsOf_reps hr h3
        refine .inr ⟨a, ps, rfl, SqL.of h1, fun p hp => (e2 p hp).1, fun qs p hs hp hl => ?_⟩
        have e3 : qs.map (·.2) = (ps.map (·.2)).mergeSort leL := by
          refine List.Perm.eq_of_pairwise (le := fun a b => leL a b = true) (fun a b _ _ q1 q2 => ?_) ?_ ?_ ((hp.map _).trans (List.mergeSort_perm ..).symm)
          · unfold leL at q1 q2
            exact lexL_anti a b (by simpa using q2) (by simpa using q1)
          · refine List.pairwise_map.mpr (hs.imp fun {u v} h => ?_)
            show (!lexL v.2 u.2) = true
            rw [h]; rfl
          · refine List.pairwise_mergeSort ?_ ?_ _
            · intro a b c h1 h2
              unfold leL at h1 h2 ⊢
              have := lexL_tr a b c (by simpa using h1) (by simpa using h2)
              rw [this]; rfl
            · intro a b
              unfold leL
              cases h : lexL a b with
              | false => simp
              | true => rw [lexL_asym _ _ h]; rfl
        have e4 : Reps F (Ex B ρ S) H (((ps.map (·.2)).mergeSort leL).map fun r => .tup (r.map .int)) (qs.map (·.1)) := by
          rw [← e3, List.map_map]
          have : ∀ zs : List (V × List Int), (∀ z ∈ zs, z ∈ ps) → Reps F (Ex B ρ S) H (zs.map ((fun r : List Int => M.D.tup (r.map .int)) ∘ (·.2))) (zs.map (·.1)) := by
            intro zs
            induction zs with
            | nil => intro _; exact Reps.nil
            | cons z zs ih =>
              intro hz
              exact Reps.cons (e2 z (hz z (List.mem_cons_self ..))).2 (ih fun y hy => hz y (List.mem_cons_of_mem _ hy))
          exact this qs fun z hz => hp.mem_iff.mp hz
        refine s.newLst st ?_ e4 k p hl
        rw [List.length_map, hp.length_eq]
        simpa using h2
      · cases hf
  · cases hf
section
variable {F : Fx} {W : WX} {X : Cx} {a : Expr} {ma : ME} {pos pp : Pos}
theorem te_sorted (st : Stab F) (hK : X.K = F.K) (hg : Gl X "sorted") (hm : X.mg "sorted" = none) (ha : PE X a (TrE F W ma)) (he : starEach [a] X.env = (false, eval a X.env) :: starEach [] X.env) : PE X (.Call (.Name "sorted" pp) [a] [] pos) (TrE F W (mOp opSorted [ma])) :=
  te_call1 st cr_sorted (hK ▸ op1_sorted st) hg hm (by rfl) ha (by decide) (by decide) he
end
end M

/-! Sound30: list(range(..)), tuple(range(..)). -/
namespace M
open PySem L2
open PySem (Str)
theorem reps_map {F : Fx} {X : Addr → Prop} {H : Hp} {α : Type} (f : α → M.D) (g : α → V) (h : ∀ x, Rep F X H (f x) (g x)) : ∀ xs : List α, Reps F X H (xs.map f) (xs.map g)
  | [] => Reps.nil
  | x :: xs => Reps.cons (h x) (reps_map f g h xs)
theorem reps_rng {F : Fx} {X : Addr → Prop} {H : Hp} (a b : Int) : Reps F X H (rangeD a b) (rgV a b) := by
  unfold rangeD rgV
  exact reps_map _ _ (fun x => by rw [Rep]) _
theorem rg_ok {a b : Int} (h1 : -8388608 ≤ a) (h2 : a ≤ 8388608) (h3 : -8388608 ≤ b) (h4 : b ≤ 8388608) : RgOk a b := ⟨by omega, by omega, by omega, by omega, by omega⟩
section
variable {F : Fx} {W : WX} {X : Cx} {a b : Expr} {ma mb : ME} {pos pp p2 pos2 : Pos}
theorem op1_rgL (st : Stab F) : Op1 F opRgL1 (fun v H Q => ∃ n, v = .int n ∧ RgOk 0 n ∧ ∀ q, H q = none → Q (.ref q) (upd H q (.lst (rgV 0 n)))) := by
  intro B ρ e S σ H x v r Q s hx hf k
  unfold opRgL1 at hf
  split at hf
  · rename_i n q
    cases q
    split at hf
    · rename_i hc
      cases hf
      refine ⟨n, by rw [hx.int], rg_ok (by omega) (by omega) hc.1 hc.2, fun p hp => s.newLst st ?_ (reps_rng 0 n) k p hp⟩
      rw [rgV_length]; show _ ≤ LIM; unfold LIM; omega
    · cases hf
  · cases hf
theorem op2_rgL (st : Stab F) : Op2 F opRgL2 (fun v w H Q => ∃ i j, v = .int i ∧ w = .int j ∧ RgOk i j ∧ ∀ q, H q = none → Q (.ref q) (upd H q (.lst (rgV i j)))) := by
  intro B ρ e S σ H x y v w r Q s hx hy hf k
  unfold opRgL2 at hf
  split at hf
  · rename_i i j q
    cases q
    split at hf
    · rename_i hc
      cases hf
      refine ⟨i, j, by rw [hx.int], by rw [hy.int], rg_ok hc.1 hc.2.1 hc.2.2.1 hc.2.2.2, fun p hp => s.newLst st ?_ (reps_rng i j) k p hp⟩
      rw [rgV_length]; show _ ≤ LIM; unfold LIM; omega
    · cases hf
  · cases hf
theorem op1_rgT (st : Stab F) : Op1 F opRgT1 (fun v H Q => ∃ n, v = .int n ∧ RgOk 0 n ∧ ∀ q, H q = none → Q (.ref q) (upd H q (.tup (rgV 0 n)))) := by
  intro B ρ e S σ H x v r Q s hx hf k
  unfold opRgT1 at hf
  split at hf
  · rename_i n q
    cases q
    split at hf
    · rename_i hc
      cases hf
      refine ⟨n, by rw [hx.int], rg_ok (by omega) (by omega) hc.1 hc.2, fun p hp => s.newTup st ?_ (reps_rng 0 n) k p hp⟩
      rw [rgV_length]; show _ ≤ LIM; unfold LIM; omega
    · cases hf
  · cases hf
theorem op2_rgT (st : Stab F) : Op2 F opRgT2 (fun v w H Q => ∃ i j, v = .int i ∧ w = .int j ∧ RgOk i j ∧ ∀ q, H q = none → Q (.ref q) (upd H q (.tup (rgV i j)))) := by
  intro B ρ e S σ H x y v w r Q s hx hy hf k
  unfold opRgT2 at hf
  split at hf
  · rename_i i j q
    cases q
    split at hf
    · rename_i hc
      cases hf
      refine ⟨i, j, by rw [hx.int], by rw [hy.int], rg_ok hc.1 hc.2.1 hc.2.2.1 hc.2.2.2, fun p hp => s.newTup st ?_ (reps_rng i j) k p hp⟩
      rw [rgV_length]; show _ ≤ LIM; unfold LIM; omega
    · cases hf
  · cases hf
theorem te_listR1 (st : Stab F) (hc : X.calm = true) (hg : Gl X "list") (hm : X.mg "list" = none) (hg2 : Gl X "range") (hm2 : X.mg "range" = none) (ha : PE X a (TrE F W ma)) (he : starEach [a] X.env = (false, eval a X.env) :: starEach [] X.env)
    (he2 : starEach [.Call (.Name "range" p2) [a] [] pos2] X.env = (false, eval (.Call (.Name "range" p2) [a] [] pos2) X.env) :: starEach [] X.env) : PE X (.Call (.Name "list" pp) [.Call (.Name "range" p2) [a] [] pos2] [] pos) (TrE F W (mOp opRgL1 [ma])) :=
  PE_imp (pe_listRg hc hg hm (prg_1 hg2 hm2 ha he) he2) fun σ H Q h => te_un st (op1_rgL st) h
theorem te_tupR1 (st : Stab F) (hc : X.calm = true) (hg : Gl X "tuple") (hm : X.mg "tuple" = none) (hg2 : Gl X "range") (hm2 : X.mg "range" = none) (ha : PE X a (TrE F W ma)) (he : starEach [a] X.env = (false, eval a X.env) :: starEach [] X.env)
    (he2 : starEach [.Call (.Name "range" p2) [a] [] pos2] X.env = (false, eval (.Call (.Name "range" p2) [a] [] pos2) X.env) :: starEach [] X.env) : PE X (.Call (.Name "tuple" pp) [.Call (.Name "range" p2) [a] [] pos2] [] pos) (TrE F W (mOp opRgT1 [ma])) :=
  PE_imp (pe_tupRg hc hg hm (prg_1 hg2 hm2 ha he) he2) fun σ H Q h => te_un st (op1_rgT st) h
theorem te_listR2 (st : Stab F) (hc : X.calm = true) (hg : Gl X "list") (hm : X.mg "list" = none) (hg2 : Gl X "range") (hm2 : X.mg "range" = none) (ha : PE X a (TrE F W ma)) (hb : PE X b (TrE F W mb)) (he : starEach [a, b] X.env = (false, eval a X.env) :: starEach [b] X.env) (hb2 : starEach [b] X.env = (false, eval b X.env) :: starEach [] X.env) (hp : (backTo pos2 (starEach [b] X.env)).any (·.1) = false)
    (he2 : starEach [.Call (.Name "range" p2) [a, b] [] pos2] X.env = (false, eval (.Call (.Name "range" p2) [a, b] [] pos2) X.env) :: starEach [] X.env) : PE X (.Call (.Name "list" pp) [.Call (.Name "range" p2) [a, b] [] pos2] [] pos) (TrE F W (mOp opRgL2 [ma, mb])) :=
  PE_imp (pe_listRg hc hg hm (prg_2 hg2 hm2 ha hb he hb2 hp) he2) fun σ H Q h => te_bin st (op2_rgL st) h
theorem te_tupR2 (st : Stab F) (hc : X.calm = true) (hg : Gl X "tuple") (hm : X.mg "tuple" = none) (hg2 : Gl X "range") (hm2 : X.mg "range" = none) (ha : PE X a (TrE F W ma)) (hb : PE X b (TrE F W mb)) (he : starEach [a, b] X.env = (false, eval a X.env) :: starEach [b] X.env) (hb2 : starEach [b] X.env = (false, eval b X.env) :: starEach [] X.env) (hp : (backTo pos2 (starEach [b] X.env)).any (·.1) = false)
    (he2 : starEach [.Call (.Name "range" p2) [a, b] [] pos2] X.env = (false, eval (.Call (.Name "range" p2) [a, b] [] pos2) X.env) :: starEach [] X.env) : PE X (.Call (.Name "tuple" pp) [.Call (.Name "range" p2) [a, b] [] pos2] [] pos) (TrE F W (mOp opRgT2 [ma, mb])) :=
  PE_imp (pe_tupRg hc hg hm (prg_2 hg2 hm2 ha hb he hb2 hp) he2) fun σ H Q h => te_bin st (op2_rgT st) h
end
end M

/-! Sound31: {}, isinstance of two kinds, defs that call themselves. -/
namespace M
open PySem L2
open PySem (Str)
open PySem.Spec PyProof.Rows
section
variable {F : Fx} {W : WX} {X : Cx} {a b : Expr} {ma mb : ME} {pos pp p1 p2 pt : Pos}
theorem te_dict0 (st : Stab F) : PE X (.Dict [] [] pos) (TrE F W mDict0) := PE_imp pe_dnewK fun σ H Q h => by
  obtain ⟨B, ρ, e, S, s, hp⟩ := h
  intro p hq
  refine hp _ _ (s.alloc st hq (fun ps z => by cases z)) (ExtE.alloc hq) ⟨p, rfl, Nw.of hq, ?_, [], .inl ⟨[], upd_same, rfl, rfl⟩, Nat.zero_le _, Reps.nil⟩
  rintro (z | ⟨n, q, z⟩)
  · exact s.bt p z (Nw.of hq)
  · cases hc : cellOf S n with
    | none => exact q hc
    | some c =>
      obtain ⟨o', e', _⟩ := (s.cell n c hc).at_
      rw [z, hq] at e'; cases e'
theorem tyX_upd {K : PySem.W.Frag} {H : Hp} {v : V} {t : Value} {p : Addr} {o : HO} (hp : H p = none) (h : TyX K H v t) : TyX K (upd H p o) v t := by
  have kp : ∀ {a u}, H a = some u → upd H p o a = some u := fun {a u} q => keeps_upd hp a u q
  cases h with
  | base b => exact .base (match b with
    | .non => .non
    | .bl x => .bl x
    | .int i => .int i
    | .str x => .str x
    | .flt x => .flt x
    | .lst e => .lst (kp e)
    | .frz e => .frz (kp e)
    | .tup e => .tup (kp e)
    | .dK e => .dK (kp e)
    | .dT e => .dT (kp e)
    | .ins e c1 c2 c3 c4 c5 => .ins (kp e) c1 c2 c3 c4 c5)
  | byt b => exact .byt b
  | set e => exact .set (kp e)
  | kList e c => exact .kList e c
  | kTuple e c => exact .kTuple e c
  | kDict e c => exact .kDict e c
  | fTuple e => exact .fTuple (kp e)
  | fDict e => exact .fDict (kp e)
theorem op1_isK2 (st : Stab F) {t1 t2 : String} (h1 : t1 ∈ kindsT) (h2 : t2 ∈ kindsT) : Op1 F (opIsK2 t1 t2) (fun v H Q => [V.ty t1, V.ty t2].length ≤ sizeLine ∧ ∀ p, H p = none → rIsiT F.K [v, .ref p] (upd H p (.tup [.ty t1, .ty t2])) Q) := by
  intro B ρ e S σ H x v r Q s hx hf k
  refine ⟨by rw [sizeLine_eq]; show 2 ≤ _; decide, fun p hp => ?_⟩
  cases k1 : isKind t1 x with
  | none => simp [opIsK2, k1] at hf
  | some b1 => cases k2 : isKind t2 x with
    | none => simp [opIsK2, k1, k2] at hf
    | some b2 =>
      have hf : rb (b1 || b2) = some r := by simpa [opIsK2, k1, k2] using hf
      cases hf
      obtain ⟨a1, a2⟩ := isKind_kb h1 k1
      obtain ⟨_, a4⟩ := isKind_kb h2 k2
      refine ⟨v, p, [.ty t1, .ty t2], .type (kindOf x), [.type t1, .type t2], b1 || b2, rfl, upd_same, .cons (.ty _) (.cons (.ty _) .nil), tyX_upd hp (tyX_of hx a1), ?_, ?_⟩
      · refine kitAny_cons (kit_ty a2) (fun z => ?_) (fun z => by rw [z]; rfl)
        refine kitAny_cons (kit_ty a4) (fun z2 => ?_) (fun z2 => by rw [z2]; simp)
        rw [z, z2]; exact kitAny_nil
      · exact k _ _ ((s.alloc st hp).mono st fun a q => .inl q) (ExtE.alloc hp) (by simp only [RepR, Rep])
theorem te_isK2 {t1 t2 : String} {z1 z2 : Str} {kk : Nat} (st : Stab F) (hK : X.K = F.K) (h1 : t1 ∈ kindsT) (h2 : t2 ∈ kindsT) (hg : Gl X "isinstance") (hm : X.mg "isinstance" = none) (hg1 : Gl X z1) (hm1 : X.mg z1 = none) (hv1 : bootBuiltins z1 = some (.type t1)) (hn1 : z1 ≠ "__name__") (hd1 : (z1 == ("__debug__" : Str)) = false)
    (hg2 : Gl X z2) (hm2 : X.mg z2 = none) (hv2 : bootBuiltins z2 = some (.type t2)) (hn2 : z2 ≠ "__name__") (hd2 : (z2 == ("__debug__" : Str)) = false) (ha : PE X a (TrE F W ma))
    (e1 : starEach [a, .Tuple [.Name z1 p1, .Name z2 p2] kk pt] X.env = (false, eval a X.env) :: starEach [.Tuple [.Name z1 p1, .Name z2 p2] kk pt] X.env) : PE X (.Call (.Name "isinstance" pp) [a, .Tuple [.Name z1 p1, .Name z2 p2] kk pt] [] pos) (TrE F W (mOp (opIsK2 t1 t2) [ma])) :=
  PE_imp (pe_callB call_isiT hg hm (by decide +kernel) (pa_cons ha (pa_cons (pe_tup (pa_cons (pe_bltn hg1 hm1 hv1 rfl hn1 hd1 : PE X (.Name z1 p1) (tC (.ty t1))) (pa_cons (pe_bltn hg2 hm2 hv2 rfl hn2 hd2 : PE X (.Name z2 p2) (tC (.ty t2))) pa_nil))) pa_nil) e1) (by decide) (by decide) e1 rfl)
    fun σ H Q h => te_un (rr := fun v H Q => [V.ty t1, V.ty t2].length ≤ sizeLine ∧ ∀ p, H p = none → rIsiT X.K [v, .ref p] (upd H p (.tup [.ty t1, .ty t2])) Q) st (hK ▸ op1_isK2 st h1 h2) h
end
/-- a def of which nothing is said -/
theorem ok_no {P : Program} {w : World} {K : PySem.W.Frag} {mg : Str → Option Value} {base : Heap} {T : List (Addr × Str)} {y : Str} {sd : Stmt} {f : Addr} {fd : FuncData} {ps : List Str} {k np : Nat}
    (Fd : L2.Fun K y y sd f fd) (hmg : mg y = some (.ref f)) (hb : Binds K fd ps []) (hnp : ps.length = np) : OkAt P w K mg base T y f fd k ps noFn np :=
  ⟨hmg, Fd.kp, hb, ⟨fun vs H Q E h => h.1.trans hnp.symm, fun A outer s H args us vs Q E hr he hbd hv hs => by
    obtain ⟨_, κ, g, B, ρ, S, as, _, _, _, hp⟩ := hs
    exact hp.elim⟩⟩
end M

/-! Sound32: dicts of ints that are written and sorted; sorted pairs of an int and a tuple of ints. -/
namespace M
open PySem L2
open PySem (Str)
open PySem.Spec PyProof.Rows
section
variable {F : Fx} {B : Addr → Prop} {ρ : Nat → Addr} {e : Env} {S : Sto} {σ : L2.St} {H : Hp} {X : Addr → Prop}
theorem Tb.putK {T : List (Addr × Str)} {H : Hp} {p : Addr} {vs ws : List (Key × V)} (t : Tb T H) (hp : H p = some (.dK ws)) : Tb T (upd H p (.dK vs)) := by
  have e1 : ∀ b o, H b = some o → (∀ ws, o ≠ .dK ws) → upd H p (.dK vs) b = some o := fun b o q nn => by
    have : b ≠ p := fun z => by rw [z, hp] at q; cases q; exact nn _ rfl
    rw [upd_ne this]; exact q
  refine ⟨fun q hq => ?_⟩
  obtain ⟨ps, q1, q2⟩ := t.tabs q hq
  exact ⟨ps, e1 _ _ q1 (fun _ z => by cases z), q2.1, fun ps' cv hc => by
    obtain ⟨c, e2, e3⟩ := q2.2 ps' cv hc
    exact ⟨c, e2, e1 _ _ e3 (fun _ z => by cases z)⟩⟩
theorem Sim.wrK (st : Stab F) (s : Sim F B ρ e S σ H) {n : Nat} {ks us ks' us' : List M.D} {ps ps' : List (Key × V)} (hc : cellOf S n = some (.k ks us)) (h1 : H (ρ n) = some (.dK ps)) (hk : ks'.map keyD = ps'.map (fun p => some p.1)) (hl : ps'.length ≤ LIM) (hr : Reps F (Ex B ρ S) H us' (ps'.map (·.2))) :
    Sim F B ρ e (S.set n (some (.k ks' us'))) σ (upd H (ρ n) (.dK ps')) ∧ ExtE ρ S H (S.set n (some (.k ks' us'))) (upd H (ρ n) (.dK ps')) := by
  have hn : n < S.length := by
    by_cases h : n < S.length
    · exact h
    · rw [cellOf, List.getElem?_eq_none (by omega)] at hc; cases hc
  have live : cellOf S n ≠ none := by rw [hc]; simp
  have hco : ∀ k, cellOf (S.set n (some (.k ks' us'))) k = if k = n then some (.k ks' us') else cellOf S k := fun k => by
    rw [cellOf_set]
    by_cases h : k = n
    · subst h; simp [hn]
    · rw [if_neg fun q => h q.1, if_neg h]
  have hlv : ∀ k, cellOf (S.set n (some (.k ks' us'))) k ≠ none → cellOf S k ≠ none := fun k q => by
    by_cases h : k = n
    · subst h; exact live
    · rw [hco, if_neg h] at q; exact q
  have hex : ∀ a, Ex B ρ (S.set n (some (.k ks' us'))) a → Ex B ρ S a := Ex.live hlv
  have kp : Keeps H (upd H (ρ n) (.dK ps')) := fun a o m q => by
    have : a ≠ ρ n := fun z => by rw [z, h1] at q; cases q; cases m
    rw [upd_ne this]; exact q
  have mv : ∀ a u, (∀ ps, u ≠ HO.tbl ps) → ¬ Ex B ρ S a → H a = some u → upd H (ρ n) (.dK ps') a = some u ∧ ¬ Ex B ρ (S.set n (some (.k ks' us'))) a := fun a u _ nn q => by
    have : a ≠ ρ n := fun z => nn (.inr ⟨n, live, z.symm⟩)
    exact ⟨by rw [upd_ne this]; exact q, fun z => nn (hex a z)⟩
  refine ⟨⟨s.len, fun i x q => ?_, fun i k q => ⟨by rw [List.length_set]; exact (s.slotC i k q).1, fun z => (s.slotC i k q).2 (hlv k z)⟩, fun k d q => ?_, fun k l h1 h2 => s.inj k l (hlv k h1) (hlv l h2), fun k q => s.nb k (hlv k q), fun a q => ?_, s.uq, ?_⟩, ⟨List.length_set, hlv, fun a o nn t q => ?_, fun a q => ?_⟩⟩
  · obtain ⟨v, q1, q2⟩ := s.slot i x q
    exact ⟨v, q1, q2.move st kp mv⟩
  · rw [hco] at q
    by_cases h : k = n
    · subst h
      rw [if_pos rfl] at q
      cases q
      exact ⟨ps'.map (·.2), .inl ⟨ps', upd_same, hk, rfl⟩, by rw [List.length_map]; exact hl, hr.move st kp mv⟩
    · rw [if_neg h] at q
      refine (s.cell k d q).move st (fun o z => ?_) kp mv
      have : ρ k ≠ ρ n := fun y => h (s.inj k n (by rw [q]; simp) live y)
      rw [upd_ne this]; exact z
  · by_cases z : a = ρ n
    · subst z; exact fun w => w.no upd_same (fun _ z => by cases z)
    · exact fun w => s.bt a q fun o' y => w o' (by rw [upd_ne z]; exact y)
  · exact s.tb.putK h1
  · rw [upd_ne (fun z => nn n live z.symm)]; exact q
  · by_cases z : a = ρ n
    · subst z; exact fun o' y => (q.no upd_same (fun _ z => by cases z)).elim
    · exact fun o' y => q o' (by rw [upd_ne z]; exact y)
theorem intsOf_eq : ∀ {xs : List M.D} {ns : List Int}, intsOf xs = some ns → xs = ns.map .int
  | [], _, h => by cases h; rfl
  | x :: xs, ns, h => by
    cases x with
    | int i =>
      unfold intsOf at h
      split at h
      · rename_i is q
        cases h
        rw [intsOf_eq q]; rfl
      · cases h
    | _ => cases h
theorem keys_int : ∀ {ns : List Int} {ps : List (Key × V)}, (ns.map M.D.int).map keyD = ps.map (fun p => some p.1) → ps.map (·.1) = ns.map Sum.inl
  | [], [], _ => rfl
  | [], _ :: _, h => by simp at h
  | _ :: _, [], h => by simp at h
  | n :: ns, p :: ps, h => by
    simp only [List.map_cons, List.cons.injEq, keyD, Option.some.injEq] at h
    rw [List.map_cons, List.map_cons, ← h.1, keys_int h.2]
theorem dct_ints {ks : List M.D} {ns : List Int} {a : Addr} {vs : List V} (hn : intsOf ks = some ns) (h : DctAt H a ks vs) : ∃ ps : List (Key × V), H a = some (.dK ps) ∧ ps.map (·.1) = ns.map Sum.inl ∧ vs = ps.map (·.2) := by
  have e := intsOf_eq hn
  subst e
  rcases h with ⟨ps, h1, h2, h3⟩ | ⟨ps, h1, h2, h3, h4⟩
  · exact ⟨ps, h1, keys_int h2, h3⟩
  · cases ns with
    | nil =>
      cases ps with
      | nil => exact absurd rfl h4
      | cons p ps => simp at h2
    | cons n ns =>
      cases ps with
      | nil => simp at h2
      | cons p ps => simp [keyT] at h2
theorem keys_D : ∀ {ns : List Int} {ps : List (Key × V)}, ps.map (·.1) = ns.map Sum.inl → (ns.map M.D.int).map keyD = ps.map (fun p => some p.1)
  | [], [], _ => rfl
  | [], _ :: _, h => by simp at h
  | _ :: _, [], h => by simp at h
  | n :: ns, p :: ps, h => by
    simp only [List.map_cons, List.cons.injEq] at h
    simp only [List.map_cons, keyD, List.cons.injEq]
    exact ⟨by rw [h.1], keys_D h.2⟩
theorem reps_put {x : M.D} {v : V} {k : Int} (hx : Rep F X H x v) : ∀ {ns : List Int} {us : List M.D} {ps : List (Key × V)}, ps.map (·.1) = ns.map Sum.inl → Reps F X H us (ps.map (·.2)) →
    Reps F X H ((ns.zip us).map fun p => if p.1 = k then x else p.2) ((ps.map fun kv => if kv.1 = .inl k then (kv.1, v) else kv).map (·.2))
  | [], us, [], _, h => by exact Reps.nil
  | [], _, _ :: _, h, _ => by simp at h
  | _ :: _, _, [], h, _ => by simp at h
  | n :: ns, us, p :: ps, h, hr => by
    simp only [List.map_cons, List.cons.injEq] at h
    cases us with
    | nil => rw [List.map_cons, Reps] at hr; cases hr
    | cons u us =>
      rw [List.map_cons, Reps] at hr
      obtain ⟨w, r, e, h1, h2⟩ := hr
      injection e with e1 e2
      subst e1 e2
      simp only [List.zip_cons_cons, List.map_cons]
      refine Reps.cons ?_ (reps_put hx h.2 h2)
      by_cases q : n = k
      · subst q
        rw [if_pos rfl, if_pos h.1]; exact hx
      · rw [if_neg q, if_neg (fun z => q (by rw [h.1] at z; cases z; rfl))]; exact h1
theorem keys_put {v : V} {k : Int} : ∀ {ns : List Int} {ps : List (Key × V)}, ps.map (·.1) = ns.map Sum.inl → (ps.map fun kv => if kv.1 = .inl k then (kv.1, v) else kv).map (·.1) = ns.map Sum.inl := fun {ns ps} h => by
  rw [← h, List.map_map]
  refine List.map_congr_left fun p _ => ?_
  show (if p.1 = Sum.inl k then (p.1, v) else p).1 = p.1
  split <;> rfl
theorem any_key {k : Int} : ∀ {ns : List Int} {ps : List (Key × V)}, ps.map (·.1) = ns.map Sum.inl → (ps.any fun kv => decide (kv.1 = .inl k)) = ns.any fun i => decide (i = k)
  | [], [], _ => rfl
  | [], _ :: _, h => by simp at h
  | _ :: _, [], h => by simp at h
  | n :: ns, p :: ps, h => by
    simp only [List.map_cons, List.cons.injEq] at h
    rw [List.any_cons, List.any_cons, any_key h.2, h.1]
    congr 1
    by_cases q : n = k
    · rw [q]; simp
    · rw [decide_eq_false q, decide_eq_false (fun z => q (by cases z; rfl))]
theorem reps_snoc {x : M.D} {v : V} (hx : Rep F X H x v) : ∀ {xs : List M.D} {vs : List V}, Reps F X H xs vs → Reps F X H (xs ++ [x]) (vs ++ [v])
  | [], vs, h => by rw [Reps] at h; subst h; exact Reps.cons hx Reps.nil
  | y :: xs, vs, h => by
    rw [Reps] at h
    obtain ⟨w, r, rfl, h1, h2⟩ := h
    exact Reps.cons h1 (reps_snoc hx h2)
end
section
variable {F : Fx} {W : WX} {X : Cx} {i : Nat} {y : Str} {a b : Expr} {ma mj : ME} {p1 pos : Pos}
/-- d[j] = e -/
theorem ts_setIxK {kp : Pos} (hu : X.A.units + 64 < cLine) (st : Stab F) (hN : X.N[i]? = some y) (hv : Vis X.env.scope y) (hd : (y == ("__debug__" : Str)) = false) (hcd : (y == ("__classdict__" : Str)) = false) (ha : PE X a (TrE F W ma)) (hj : PE X b (TrE F W mj))
    (hs : swapsWithSole [.Subscript (.Name y p1) b kp] a pos.line X.env = pure false) (hw : swappedStores [.Subscript (.Name y p1) b kp] a X.env = pure none)
    (h1 : (assignEach [.Subscript (.Name y p1) b kp] X.env).map (·.2) = [assign (.Subscript (.Name y p1) b kp) X.env])
    (hg : ∀ {to ti : TE} {t : TSet}, PE X (.Name y p1) to → PE X b ti → PSet X t → PG X (.Subscript (.Name y p1) b kp) (gSub to ti t)) :
    PS X (.Assign [.Subscript (.Name y p1) b kp] a pos) (TrS F W (mSetIx i mj ma M.putK)) :=
  PS_imp (ps_asg ha (hg (pe_var hN hv hd hcd) hj (set_dict (by omega))) hs hw h1) fun D σ H h => by
    obtain ⟨B, ρ, e, S, s, hp⟩ := h
    refine stepSD st s hp fun z S1 v H1 s1 x1 r1 hp => ?_
    split at hp
    · exact hp.elim
    rename_i hL
    obtain ⟨n, he, hc0⟩ := hasC_cases hL
    refine ⟨_, var_cell s1 he hc0, ?_⟩
    have hp := x1.ext.after hp
    refine stepSD st s1 hp fun z2 S2 w H2 s2 x2 r2 hp => ?_
    obtain ⟨n', c, c', he', hc, hf, hp⟩ := updC_cases hp
    rw [he] at he'; cases he'
    cases c with
    | l xs => cases z2 <;> cases hf
    | k ks us =>
      cases z2 with
      | int kk =>
        simp only [M.putK] at hf
        split at hf
        · rename_i ns hns
          split at hf
          · rename_i hlen
            obtain ⟨vs, d1, d2, d3⟩ := s2.cell n _ hc
            obtain ⟨ps, q1, q2, q3⟩ := dct_ints hns d1
            have ek := intsOf_eq hns
            have el : ps.length = ns.length := by have := congrArg List.length q2; simpa using this
            rw [Rep] at r2
            subst r2 q3
            have rv := s1.repE st x2 (fun _ q => q) r1
            have hz : ps.length < sizeLine := by rw [el, ← LIM_eq]; exact hlen
            have ea := any_key (k := kk) q2
            split at hf
            · rename_i ht
              cases hf
              have ep : L2.putK ps (Sum.inl kk) v = ps.map fun kv => if kv.1 = .inl kk then (kv.1, v) else kv := by
                unfold L2.putK
                rw [if_pos (ea.trans ht)]
              obtain ⟨s3, x3⟩ := s2.wrK st (ps' := L2.putK ps (Sum.inl kk) v) hc q1 (ks' := ks) (us' := (ns.zip us).map fun p => if p.1 = kk then z else p.2) (by rw [ek, ep]; exact keys_D (keys_put q2)) (by rw [ep, List.length_map, el]; exact Nat.le_of_lt hlen) (by rw [ep]; exact reps_put rv q2 d3)
              exact ⟨_, _, rfl, DPut.k (k := .inl kk) q1 hz, hp ρ σ _ s3 (x2.trans x3).ext⟩
            · rename_i ht
              cases hf
              have ep : L2.putK ps (Sum.inl kk) v = ps ++ [(Sum.inl kk, v)] := by
                unfold L2.putK
                rw [if_neg (fun z => ht (ea.symm.trans z))]
              obtain ⟨s3, x3⟩ := s2.wrK st (ps' := L2.putK ps (Sum.inl kk) v) hc q1 (ks' := ks ++ [.int kk]) (us' := us ++ [z]) (by
                have : ks ++ [M.D.int kk] = (ns ++ [kk]).map M.D.int := by rw [ek]; simp
                rw [this, ep]; exact keys_D (by rw [List.map_append, q2]; simp)) (by rw [ep, List.length_append, el]; exact hlen) (by rw [ep, List.map_append]; exact reps_snoc rv d3)
              exact ⟨_, _, rfl, DPut.k (k := .inl kk) q1 hz, hp ρ σ _ s3 (x2.trans x3).ext⟩
          · cases hf
        · cases hf
      | _ => cases hf
/-! ### sorted(d) -/
def rSortedDI : List V → Hp → VK → Prop := fun xs H Q => ∃ (a : Addr) (kvs : List (Key × V)) (ks : List Int), xs = [.ref a] ∧ Rd H a (.dK kvs) ∧ kvs.map (·.1) = ks.map Sum.inl ∧ ks.length < 64 ∧
    ∀ (ys : List Int) (p : Addr), ys.Perm ks → ys.Pairwise (· ≤ ·) → H p = none → Q (.ref p) (upd H p (.lst (ys.map V.int)))
theorem op1_sortedD (st : Stab F) : Op1 F opSortedD (fun v H Q => rSortedDI [v] H Q) := by
  intro B ρ e S σ H x v r Q s hx hf k
  unfold opSortedD at hf
  split at hf
  · rename_i ks us q
    cases q
    split at hf
    · rename_i ns hns
      split at hf
      · rename_i hlt
        cases hf
        simp only [RepV] at hx
        obtain ⟨a, vs, rfl, d1, d2, d3⟩ := hx
        obtain ⟨ps, q1, q2, q3⟩ := dct_ints hns d1
        refine ⟨a, ps, ns, rfl, Rd.of q1, q2, hlt, fun ns' p hp hs hl => ?_⟩
        have e : ns' = ns.mergeSort fun a b => decide (a ≤ b) := by
          refine List.Perm.eq_of_pairwise (le := (· ≤ ·)) (fun a b _ _ => Int.le_antisymm) hs ?_ (hp.trans (List.mergeSort_perm ..).symm)
          exact (List.pairwise_mergeSort (le := fun a b : Int => decide (a ≤ b)) (by intro a b c; simp; omega) (by intro a b; simp; omega) ns).imp (by simp)
        rw [← e] at k
        refine s.newLst st (xs := ns'.map .int) ?_ (reps_ints ns') k p hl
        rw [List.length_map, hp.length_eq]
        exact Nat.le_trans (Nat.le_of_lt hlt) (by decide)
      · cases hf
    · cases hf
  · cases hf
theorem te_sortedD {pp : Pos} (st : Stab F) (hcalm : X.calm = true) (hg : Gl X "sorted") (hm : X.mg "sorted" = none) (ha : PE X a (TrE F W ma)) (he : starEach [a] X.env = (false, eval a X.env) :: starEach [] X.env) : PE X (.Call (.Name "sorted" pp) [a] [] pos) (TrE F W (mOp opSortedD [ma])) :=
  te_call1 st (rr := rSortedDI) (call_sortedDI hcalm) (op1_sortedD st) hg hm (by rfl) ha (by decide) (by decide) he
end
/-! ### sorted(xs), pairs -/
theorem lexL_lt : ∀ xs ys : List Int, decide (xs < ys) = lexL xs ys
  | [], [] => by unfold lexL; simp
  | [], _ :: _ => by unfold lexL; simp
  | _ :: _, [] => by unfold lexL; simp
  | x :: xs, y :: ys => by
    conv => rhs; unfold lexL
    rw [← lexL_lt xs ys]
    by_cases e : x = y
    · simp [e, List.cons_lt_cons_iff]
    · simp [e, List.cons_lt_cons_iff]
def encP (r : Int × List Int) : PyData := .tuple [.int r.1, .tuple (r.2.map .int)]
theorem alike_tup (xs ys : List Int) : PySem.W.alike (.tuple (xs.map .int)) (.tuple (ys.map .int)) = true := by
  rw [PySem.W.alike]; exact PySem.W.alike_ints xs ys
theorem lt_tup (xs ys : List Int) : PySem.W.dataLt (.tuple (xs.map .int)) (.tuple (ys.map .int)) = lexL xs ys := by
  rw [PySem.W.dataLt_tuple, ← lexL_lt]
  exact PySem.W.dataLt_ints xs ys
theorem lt_pair (a b : Int × List Int) : PySem.W.dataLt (encP a) (encP b) = lexL (a.1 :: a.2) (b.1 :: b.2) := by
  unfold encP
  rw [PySem.W.dataLt_pair (by simp [PySem.W.alike]) (alike_tup _ _), PySem.W.dataLt_int, lt_tup]
  have e : (if PyData.eqv (.tuple (a.2.map .int)) (.tuple (b.2.map .int)) = true then false else lexL a.2 b.2) = lexL a.2 b.2 := by
    split
    · rename_i h
      have h2 := (PySem.W.toks_eqv _ _ (alike_tup a.2 b.2)).1 h
      rw [← lt_tup]
      unfold PySem.W.dataLt
      rw [h2]
      exact (PyProof.Rows.lex_irrefl _).symm
    · rfl
  rw [e]
  conv => rhs; unfold lexL
  simp only [PyData.eqv, beq_iff_eq]
theorem le_pair {β : Type} (k : β → Int × List Int) : PySem.W.dataLe false (fun b => encP (k b)) = fun a b => leP (k a) (k b) := by
  funext a b
  rw [PySem.W.dataLe_eq]
  show (!PySem.W.dataLt (encP (k b)) (encP (k a))) = _
  rw [lt_pair]
  rfl
theorem each_vals {β : Type} {f : β → V} : ∀ {bs : List β} {us : List Value}, Vals (bs.map f) us → PySem.W.EachIs (fun u b => RelV (f b) u) us bs
  | [], _, h => by
    cases h
    exact .nil
  | b :: bs, _, h => by
    rw [List.map_cons] at h
    cases h with
    | cons r t => exact .cons r (each_vals t)
theorem vals_each {β : Type} {f : β → V} : ∀ {bs : List β} {us : List Value}, PySem.W.EachIs (fun u b => RelV (f b) u) us bs → Vals (bs.map f) us
  | _, _, .nil => .nil
  | _, _, .cons r t => .cons r (vals_each t)
theorem reads_ints {h : Heap} : ∀ {us : List Value} {ns : List Int}, IntsAre us ns → ∃ as, ReadsAll h us (ns.map .int) as
  | _, _, .nil => ⟨[], .nil⟩
  | _, _, .cons x t r => by
    obtain ⟨as, q⟩ := reads_ints (h := h) r
    exact ⟨[] ++ as, .cons (.int _ _) q⟩
def rSortedPr (K : PySem.W.Frag) : List V → Hp → VK → Prop := fun vs H Q => ∃ (a : Addr) (ps : List (V × (Int × List Int))), vs = [V.ref a] ∧ SqL K H a (ps.map (·.1)) ∧ (∀ p ∈ ps, ∃ t u, p.1 = V.ref t ∧ SqT K H t [.int p.2.1, .ref u] ∧ SqT K H u (p.2.2.map V.int)) ∧
  ∀ p, H p = none → Q (.ref p) (upd H p (.lst ((ps.mergeSort fun a b => leP a.2 b.2).map (·.1))))
theorem each_of_mem {α β : Type} {R S : α → β → Prop} : ∀ {as : List α} {bs : List β}, PySem.W.EachIs R as bs → (∀ a b, b ∈ bs → R a b → S a b) → PySem.W.EachIs S as bs
  | _, _, .nil, _ => .nil
  | _, _, .cons r t, h => .cons (h _ _ (List.mem_cons_self ..) r) (each_of_mem t fun a b m => h a b (List.mem_cons_of_mem _ m))
section
variable {F : Fx} {W : WX} {X : Cx} {a : Expr} {ma : ME} {pos pp : Pos}
theorem cr_sortedPr (hu : X.A.units + 64 < cLine) : CallR X (.builtin "sorted") (rSortedPr X.K) := by
  intro pins s σ H vs us Q I r h
  obtain ⟨a, ps, rfl, hs, hx, q⟩ := h
  obtain ⟨its, rv, hl, hz⟩ := I.list hs
  obtain ⟨u, rfl, ru⟩ := vals1 r
  obtain rfl : u = Value.ref a := ru
  have ev := each_vals rv
  refine PySem.W.sorted_data (enc := fun p => encP p.2) (bs := ps) hl.isList ev (each_of_mem ev fun v p hp hr => ?_) (PySem.W.AllAlike.of fun b b' => ?_) (PySem.W.Sortable.tuples fun b => ⟨_, _, rfl⟩) (by simpa using hz) (fun b _ => ?_) fun out ho hout => ?_
  · obtain ⟨t, u, e, h1, h2⟩ := hx p hp
    rw [e] at hr
    obtain rfl : v = Value.ref t := hr
    obtain ⟨its1, r1, ⟨o1, ho1, hc1, n1, hd1⟩, _⟩ := I.tuple h1
    obtain ⟨its2, r2, ⟨o2, ho2, hc2, n2, hd2⟩, _⟩ := I.tuple h2
    obtain ⟨u1, u2, rfl, ri, rj⟩ := vals2 r1
    obtain ⟨t1, rfl⟩ := ri
    obtain rfl : u2 = Value.ref u := rj
    obtain ⟨as, ra⟩ := reads_ints (h := s.heap) r2.ints
    exact ⟨_, .tuple ho1 hc1 hd1 (.cons (.int _ _) (.cons (.tuple ho2 hc2 hd2 (by simpa using ra)) .nil))⟩
  · show PySem.W.alike (encP _) (encP _) = true
    simp only [encP, PySem.W.alike, PySem.W.alikeAll, PySem.W.alike_ints, Bool.and_self]
  · have : (encP b.2).depth ≤ 8 := by
      simp only [encP, PyData.depth, PyData.depthAll, PySem.W.depth_ints]
      omega
    omega
  · rw [le_pair] at hout
    obtain ⟨n, hn⟩ := sortedAll_at s.heap its out.toArray
    have hv := vals_each hout
    refine ⟨.ref (s.heap.objs.size + 1), upd H (s.heap.objs.size + 1) (.lst ((ps.mergeSort fun a b => leP a.2 b.2).map (·.1))), I.laid (t' := s.toks) (fun b o e => sortedAll_old e) (Nat.le_succ _) ⟨?_, out, n, hv, hn⟩, rfl, q _ (I.hok.fresh (Nat.le_succ _))⟩
    rw [hv.length, ho, ← List.length_map (f := (·.1)) (as := ps)]
    exact hz
theorem pairs_reps {Y : Addr → Prop} {H : Hp} : ∀ {xs : List M.D} {rs : List (Int × List Int)} {vs : List V}, pairsOf xs = some rs → Reps F Y H xs vs →
    ∃ ps : List (V × (Int × List Int)), vs = ps.map (·.1) ∧ rs = ps.map (·.2) ∧ ∀ p ∈ ps, (∃ t u, p.1 = V.ref t ∧ SqT F.K H t [.int p.2.1, .ref u] ∧ SqT F.K H u (p.2.2.map V.int)) ∧ Rep F Y H (.tup [.int p.2.1, .tup (p.2.2.map .int)]) p.1
  | [], rs, vs, h, hr => by
    unfold pairsOf at h
    cases h
    rw [Reps] at hr
    subst hr
    exact ⟨[], rfl, rfl, fun p hp => by cases hp⟩
  | x :: xs, rs, vs, h, hr => by
    rw [Reps] at hr
    obtain ⟨v, vs, rfl, hv, hr2⟩ := hr
    unfold pairsOf at h
    split at h
    · rename_i q; cases q
    · rename_i n ys r q
      injection q with q1 q2
      subst q1 q2
      split at h
      · rename_i ns rs2 h1 h2
        cases h
        obtain ⟨ps, i1, i2, i3⟩ := pairs_reps h2 hr2
        have e4 := intsOf_eq h1
        subst e4
        have hv2 := hv
        simp only [Rep, Reps] at hv2
        obtain ⟨t, ws, rfl, e1, e2, v1, r1, rfl, rfl, v2, r2, rfl, ⟨u, ws2, rfl, f1, f2, f3⟩, rfl⟩ := hv2
        have e5 := intsOf_reps h1 f3
        subst e5
        refine ⟨(V.ref t, (n, ns)) :: ps, by rw [i1]; rfl, by rw [i2]; rfl, fun p hp => ?_⟩
        rcases List.mem_cons.mp hp with rfl | hp
        · exact ⟨⟨t, u, rfl, e1, f1⟩, hv⟩
        · exact i3 p hp
      · cases h
    · cases h
theorem reps_zip {Y : Addr → Prop} {H : Hp} {ps : List (V × (Int × List Int))} : ∀ (zs : List (V × (Int × List Int))), (∀ z ∈ zs, z ∈ ps) → (∀ p ∈ ps, Rep F Y H (.tup [.int p.2.1, .tup (p.2.2.map .int)]) p.1) →
    Reps F Y H (zs.map fun p => .tup [.int p.2.1, .tup (p.2.2.map .int)]) (zs.map (·.1))
  | [], _, _ => Reps.nil
  | z :: zs, h1, h2 => Reps.cons (h2 z (h1 z (List.mem_cons_self ..))) (reps_zip zs (fun y hy => h1 y (List.mem_cons_of_mem _ hy)) h2)
theorem op1_sortedPr (st : Stab F) : Op1 F opSortedP (fun v H Q => rSortedPr F.K [v] H Q) := by
  intro B ρ e S σ H x v r Q s hx hf k
  unfold opSortedP at hf
  split at hf
  · rename_i xs q
    cases q
    obtain ⟨a, vs, rfl, h1, h2, h3⟩ := hx.lst
    split at hf
    · rename_i rs hr
      cases hf
      obtain ⟨ps, rfl, rfl, e2⟩ := pairs_reps hr h3
      refine ⟨a, ps, rfl, SqL.of h1, fun p hp => (e2 p hp).1, fun p hl => ?_⟩
      have e3 : (ps.map (·.2)).mergeSort leP = (ps.mergeSort fun a b => leP a.2 b.2).map (·.2) := (List.map_mergeSort (f := (·.2)) (r := fun a b : V × (Int × List Int) => leP a.2 b.2) (s := leP) (fun a _ b _ => rfl)).symm
      rw [e3, List.map_map] at k
      refine s.newLst st ?_ (reps_zip (ps := ps) _ (fun z hz => List.mem_mergeSort.mp hz) fun p hp => (e2 p hp).2) k p hl
      rw [List.length_map, List.length_mergeSort]
      simpa using h2
    · cases hf
  · cases hf
theorem te_sortedP (hu : X.A.units + 64 < cLine) (st : Stab F) (hK : X.K = F.K) (hg : Gl X "sorted") (hm : X.mg "sorted" = none) (ha : PE X a (TrE F W ma)) (he : starEach [a] X.env = (false, eval a X.env) :: starEach [] X.env) : PE X (.Call (.Name "sorted" pp) [a] [] pos) (TrE F W (mOp opSortedP [ma])) :=
  te_call1 st (cr_sortedPr hu) (hK ▸ op1_sortedPr st) hg hm (by rfl) ha (by decide) (by decide) he
end
end M

/-! Sound33: sorted of a tuple of ints. -/
namespace M
open PySem L2
open PySem (Str)
open PySem.Spec PyProof.Rows
def rSortedTI (K : PySem.W.Frag) : List V → Hp → VK → Prop := fun xs H Q => ∃ (a : Addr) (ks : List Int), xs = [.ref a] ∧ SqT K H a (ks.map V.int) ∧ ks.length < 64 ∧
    ∀ (ys : List Int) (p : Addr), ys.Perm ks → ys.Pairwise (· ≤ ·) → H p = none → Q (.ref p) (upd H p (.lst (ys.map V.int)))
section
variable {F : Fx} {W : WX} {X : Cx} {a : Expr} {ma : ME} {pos pp : Pos}
theorem cr_sortedTI : CallR X (.builtin "sorted") (rSortedTI X.K) := by
  intro pins s σ H xs us Q I r q
  obtain ⟨a, ks, ex, hd, h64, q⟩ := q
  subst ex
  obtain ⟨u, eu, rx⟩ := vals1 r
  subst eu
  cases rx
  obtain ⟨its, rv, ⟨o, ho, hc, n, hdd⟩, _⟩ := I.tuple hd
  have hi : IntsAre its ks := rv.ints
  have hl : its.length = ks.length := hi.length
  refine Calls.call_function_entry PyProof.Rows.kind_sorted PyProof.Rows.plain_sorted PyProof.Rows.entry_sorted (PyProof.Rows.args_sorted1 _) ?_
  unfold Builtin.«sorted»
  refine wpAny_bind (m := checkCount "sorted" 1 1 _) (wpAny_pure ?_)
  refine wpAny_bind (wpAny_collect_seq a (.inr rfl) ho hc hdd (fun h' hk => ?_) (by simp only [List.size_toArray]; rw [hl, sizeLine_eq]; omega))
  have hS : IntsAre its.toArray.toList ks := by simpa using hi
  have hal : its.toArray.toList.length = ks.length := by simpa using hl
  have I1 : Inv X pins σ H { s with heap := h' } := I.kept (t' := s.toks) hk
  refine wpAny_bind (wpAny_newList ?_ (by rw [hal, sizeLine_eq]; omega))
  have hoL : (h'.push (seqObj "list" its.toArray.toList.toArray 0)).get? h'.objs.size = some (seqObj "list" its.toArray.toList.toArray 0) := Heap.get?_push_size _ rfl
  show wpAny _ _ _ _ _ { s with heap := h'.push (seqObj "list" its.toArray.toList.toArray 0) }
  refine wpAny_bind (wpAny_holding (wpAny_call_entry PyProof.Rows.slot_list_sort ⟨_, hoL, rfl⟩ PyProof.Rows.entry_list_sort
    (PyProof.Rows.list_sort_tree (s := { s with heap := h'.push (seqObj "list" its.toArray.toList.toArray 0) }) hoL hS (by rw [hal]; exact h64) fun out ys g1 g2 g3 => ⟨_, rfl, ?_⟩) (PyProof.Rows.args_list_sort _)))
  obtain ⟨e', he'⟩ := PyProof.Rows.sortedHeap_at (vs := its.toArray.toList) (out := out) hoL
  have hlen : (ys.map V.int).length ≤ sizeLine := by
    rw [List.length_map, g2.length_eq]
    exact Nat.le_trans (Nat.le_of_lt h64) (by decide)
  refine wpAny_pure ⟨_, rfl, .ref h'.objs.size, upd H h'.objs.size (.lst (ys.map V.int)), I1.laid (t' := s.toks) (fun b u e => ?_) (Nat.le_refl _)
    (show ObjOk X.prog X.w _ _ _ (.lst (ys.map V.int)) from ⟨hlen, out.toList, e', vals_of_ints g1, by rw [Array.toArray_toList]; exact he'⟩), rfl, q ys _ g2 g3 (I1.hok.fresh (Nat.le_refl _))⟩
  have hb : b < h'.objs.size := Heap.lt_size e
  rw [PyProof.Rows.sortedHeap_old (Nat.ne_of_lt hb) (by rw [size_push']; exact Nat.lt_succ_of_lt hb)]
  exact Heap.get?_push_of_some _ e
theorem op1_sortedT (st : Stab F) : Op1 F opSortedT (fun v H Q => rSortedTI F.K [v] H Q) := by
  intro B ρ e S σ H x v r Q s hx hf k
  unfold opSortedT at hf
  split at hf
  · rename_i xs q
    cases q
    split at hf
    · rename_i ns hns
      split at hf
      · rename_i hlt
        cases hf
        obtain ⟨a, vs, rfl, d1, d2, d3⟩ := hx.tup
        have := intsOf_reps hns d3
        subst this
        refine ⟨a, ns, rfl, d1, hlt, fun ns' p hp hs hl => ?_⟩
        have e : ns' = ns.mergeSort fun a b => decide (a ≤ b) := by
          refine List.Perm.eq_of_pairwise (le := (· ≤ ·)) (fun a b _ _ => Int.le_antisymm) hs ?_ (hp.trans (List.mergeSort_perm ..).symm)
          exact (List.pairwise_mergeSort (le := fun a b : Int => decide (a ≤ b)) (by intro a b c; simp; omega) (by intro a b; simp; omega) ns).imp (by simp)
        rw [← e] at k
        refine s.newLst st (xs := ns'.map .int) ?_ (reps_ints ns') k p hl
        rw [List.length_map, hp.length_eq]
        exact Nat.le_trans (Nat.le_of_lt hlt) (by decide)
      · cases hf
    · cases hf
  · cases hf
theorem te_sortedT (st : Stab F) (hK : X.K = F.K) (hg : Gl X "sorted") (hm : X.mg "sorted" = none) (ha : PE X a (TrE F W ma)) (he : starEach [a] X.env = (false, eval a X.env) :: starEach [] X.env) : PE X (.Call (.Name "sorted" pp) [a] [] pos) (TrE F W (mOp opSortedT [ma])) :=
  te_call1 st cr_sortedTI (hK ▸ op1_sortedT st) hg hm (by rfl) ha (by decide) (by decide) he
end
end M

/-! Sound34: defs as values, calls of names that hold them. -/
namespace M
open PySem L2
open PySem (Str)
open PySem.Spec PyProof.Rows
section
variable {F : Fx} {W : WX} {X : Cx} {a : Expr} {es : List Expr} {pos p1 : Pos} {x z : Str} {i k : Nat}
theorem te_fn {np : Nat} {ps : List Str} {fm : Fn} (hmg : X.mg = F.mg) (o : Ok X.prog X.w X.K X.mg X.base F.T z k ps fm np) (hg : Gl X z) (hd : (z == ("__debug__" : Str)) = false) : PE X (.Name z pos) (TrE F W (mK (.fn z))) := by
  obtain ⟨f, fd, h1, _⟩ := o.ex
  refine te_const (v := .ref f) (pe_glob hg h1 rfl hd) fun _ _ => ?_
  rw [Rep]
  exact ⟨f, rfl, hmg ▸ h1⟩
/-- of each def of a table: it keeps its promise -/
def Tab (P : Program) (w : World) (K : PySem.W.Frag) (mg : Str → Option Value) (base : Heap) (T : List (Addr × Str)) (k n : Nat) (tb : List (Str × Fn)) : Prop := ∀ z fm, lookF tb z = some fm → ∃ j ps, j ≤ k ∧ Ok P w K mg base T z j ps fm n
theorem Tab.nil {P : Program} {w : World} {K : PySem.W.Frag} {mg : Str → Option Value} {base : Heap} {T : List (Addr × Str)} {k n : Nat} : Tab P w K mg base T k n [] := fun z fm h => by cases h
theorem Tab.cons {P : Program} {w : World} {K : PySem.W.Frag} {mg : Str → Option Value} {base : Heap} {T : List (Addr × Str)} {k n j : Nat} {ps : List Str} {fm : Fn} {y : Str} {tb : List (Str × Fn)} (o : Ok P w K mg base T y j ps fm n) (hj : j ≤ k) (t : Tab P w K mg base T k n tb) : Tab P w K mg base T k n ((y, fm) :: tb) := fun z gm h => by
  unfold lookF at h
  split at h
  · rename_i e
    have e : y = z := e
    subst e
    cases h
    exact ⟨j, ps, hj, o⟩
  · exact t z gm h
theorem te_callF {tb : List (Str × Fn)} {mss : List ME} (st : Stab F) (tk : Takes X W) (hK : X.K = F.K) (hmg : X.mg = F.mg) (A : Tab X.prog X.w X.K X.mg X.base F.T k mss.length tb) (hr : Room k X.A) (hN : X.N[i]? = some x) (hv : Vis X.env.scope x)
    (ha : PA X (a :: es) (TrA F W mss)) (hdb : (x == ("__debug__" : Str)) = false) (hcd : (x == ("__classdict__" : Str)) = false) (he : starEach (a :: es) X.env = (false, eval a X.env) :: starEach es X.env) (hpl : (backTo pos (starEach es X.env)).any (·.1) = false) :
    PE X (.Call (.Name x p1) (a :: es) [] pos) (TrE F W (mCallF tb i mss)) := by
  refine ⟨fun pins s σ H Q I h => ?_⟩
  obtain ⟨B, ρ, e, S, s0, hp⟩ := h
  unfold mCallF at hp
  split at hp
  · rename_i z hz
    split at hp
    · rename_i fm hf
      obtain ⟨j, ps, hj, o⟩ := A z fm hf
      obtain ⟨f, fd, h1, h2, h3, h4⟩ := o.ex
      obtain ⟨v, hv1, hv2⟩ := s0.slot i _ hz
      rw [Rep] at hv2
      obtain ⟨a', rfl, ha'⟩ := hv2
      have ea : a' = f := by
        have := ha'.symm.trans (hmg ▸ h1)
        cases this; rfl
      subst ea
      refine wpAny_Call_Name_kw (thn ((pe_var (pos := p1) hN hv hdb hcd).run pins s σ H (fun v H1 => v = .ref a' ∧ H1 = H) I ⟨.ref a', hv1, rfl, rfl⟩) fun u s1 ⟨v, H1, I1, r1, q1⟩ => ?_)
      obtain ⟨rfl, rfl⟩ := q1
      cases r1
      have hc := call_sp (np := mss.length) st rfl (show TrE F W (mCall fm mss) σ H1 Q from ⟨B, ρ, e, S, s0, hp⟩)
      refine PySem.W.callWith_K (h₀ := X.base) I.ok.mod.kin h2 (thn (ha.run pos pins s1 σ _ _ I1 hc) fun us s2 ⟨vs, H2, I2, r, q⟩ => ⟨I2.kIn, ?_⟩) he hpl
      exact run_fnS (E := L2.WE W) (hK ▸ hmg ▸ h4) (hr.mono hj) h3 (passAt tk σ) I2 r q
    · exact hp.elim
  · exact hp.elim
end
end M

/-! Sound35: min of ints, len of a set of ints. -/
namespace M
open PySem L2
open PySem (Str)
open PySem.Spec PyProof.Rows
theorem minL_mem : ∀ (ns : List Int) (n : Int), minL n ns ∈ n :: ns
  | [], n => by simp [minL]
  | x :: xs, n => by
    unfold minL
    have := minL_mem xs (if x < n then x else n)
    rcases List.mem_cons.mp this with h | h
    · rw [h]
      split <;> simp
    · simp [h]
theorem minL_le : ∀ (ns : List Int) (n : Int), ∀ y ∈ n :: ns, minL n ns ≤ y
  | [], n => by simp [minL]
  | x :: xs, n => by
    intro y hy
    unfold minL
    have h0 := minL_le xs (if x < n then x else n) _ (List.mem_cons_self ..)
    rcases List.mem_cons.mp hy with rfl | hy
    · split at h0 <;> rename_i c
      · rw [if_pos c]; omega
      · rw [if_neg c]; exact h0
    · rcases List.mem_cons.mp hy with rfl | hy
      · split at h0 <;> rename_i c
        · rw [if_pos c]; exact h0
        · rw [if_neg c]; omega
      · exact minL_le xs _ y (List.mem_cons_of_mem _ hy)
section
variable {F : Fx} {W : WX} {X : Cx} {a : Expr} {ma : ME} {pos pp p2 q : Pos}
theorem op1_minL : Op1 F opMinL (fun v H Q => rMin F.K [v] H Q) := by
  intro B ρ e S σ H x v r Q s hx hf k
  unfold opMinL at hf
  split at hf
  · rename_i xs q
    cases q
    obtain ⟨a, vs, rfl, h1, h2, h3⟩ := hx.lst
    split at hf
    · rename_i n ns hn
      cases hf
      have := intsOf_reps hn h3
      subst this
      refine ⟨a, n :: ns, rfl, SqL.of h1, by simp, fun m hm hle => ?_⟩
      have e : m = minL n ns := Int.le_antisymm (hle _ (minL_mem ns n)) (minL_le ns n m hm)
      rw [e]
      exact k.int s
    · cases hf
  · cases hf
theorem te_minL (st : Stab F) (hK : X.K = F.K) (hc : X.calm = true) (hg : Gl X "min") (hm : X.mg "min" = none) (ha : PE X a (TrE F W ma)) (he : starEach [a] X.env = (false, eval a X.env) :: starEach [] X.env) : PE X (.Call (.Name "min" pp) [a] [] pos) (TrE F W (mOp opMinL [ma])) :=
  te_call1 st (cr_min hc) (hK ▸ op1_minL) hg hm (by rfl) ha (by decide) (by decide) he
theorem seen_first (ns : List Int) : (PyProof.Rows.firstMet (fun i => ns.getD i 0) ns.length) = ns.foldl seen [] := by
  have e : (List.range ns.length).map (fun i => ns.getD i 0) = ns := by
    apply List.ext_getElem
    · simp
    · intro i h1 h2
      simp [List.getD_eq_getElem?_getD, List.getElem?_eq_getElem h2]
  unfold PyProof.Rows.firstMet
  rw [e]
  rfl
def rLenSet (K : PySem.W.Frag) : V → Hp → VK → Prop := fun x H Q => ∃ (l : Addr) (ns : List Int), x = V.ref l ∧ SqL K H l (ns.map V.int) ∧ ns.length < 64 ∧ Q (.int (ns.foldl seen []).length) H
theorem pe_lenSet {ta : TE} (hc : X.calm = true) (hg : Gl X "len") (hm : X.mg "len" = none) (hg2 : Gl X "set") (hm2 : X.mg "set" = none) (ha : PE X a ta)
    (na : starEach [a] X.env = (false, eval a X.env) :: starEach [] X.env := by rfl) : PE X (.Call (.Name "len" pp) [.Call (.Name "set" p2) [a] [] q] [] pos) (fun σ H Q => ta σ H fun x H1 => rLenSet X.K x H1 Q) := by
  refine ⟨fun pins s σ H Q I h => ?_⟩
  refine Call_ (ld_blt I hg hm PySem.boot_len ?_)
  refine PyProof.Rows.callWith_builtin1 (PyProof.Rows.args_cons ?_ rfl) rfl rfl
  refine Call_ (ld_blt I hg2 hm2 PyProof.Rows.boot_set ?_)
  refine PyProof.Rows.callWith_type1 (PyProof.Rows.args_cons (thn (ha.run pins s σ H _ I h) fun v s1 ⟨x, H1, I1, r1, q1⟩ => PyProof.Rows.args_nil ?_) na) na rfl
  obtain ⟨l, ns, rfl, hq, h1, q1⟩ := q1
  cases r1
  obtain ⟨its, r, pl, hz⟩ := I1.list hq
  have hl : its.toArray.size = ns.length := by rw [List.size_toArray, ← r.length, List.length_map]
  refine call_set_list (I1.ok.hd hc) pl.isList (ns := ns) (by simpa using r.ints) (by unfold scanBound; omega) fun h' tk hS hk => ?_
  rw [hl, seen_first] at hS
  have ln : (ns.foldl seen []).length ≤ ns.length := by rw [← seen_first]; exact PyProof.Rows.firstMet_length_le _ _
  refine PyProof.Rows.args_nil ?_
  obtain ⟨o, es, ep, t, ho, hex, hd, _, _, _, hf, hn⟩ := hS
  have I2 : Inv X pins σ H1 { s1 with heap := h', toks := tk } := I1.kept fun b o e => hk b o (Heap.lt_size e) e
  refine call_len_set ho hex hd hf (by rw [hn] <;> omega) ⟨.int (ns.foldl seen []).length, H1, I2.tok _, ⟨_, by rw [hn]⟩, q1⟩
theorem op1_lenSet : Op1 F opLenSet (rLenSet F.K) := by
  intro B ρ e S σ H x v r Q s hx hf k
  unfold opLenSet at hf
  split at hf
  · rename_i xs q
    cases q
    obtain ⟨a, vs, rfl, h1, h2, h3⟩ := hx.lst
    split at hf
    · rename_i ns hn
      split at hf
      · rename_i hlt
        cases hf
        have := intsOf_reps hn h3
        subst this
        exact ⟨a, ns, rfl, SqL.of h1, hlt, k.int s⟩
      · cases hf
    · cases hf
  · cases hf
theorem te_lenSet (st : Stab F) (hK : X.K = F.K) (hc : X.calm = true) (hg : Gl X "len") (hm : X.mg "len" = none) (hg2 : Gl X "set") (hm2 : X.mg "set" = none) (ha : PE X a (TrE F W ma)) (he : starEach [a] X.env = (false, eval a X.env) :: starEach [] X.env) :
    PE X (.Call (.Name "len" pp) [.Call (.Name "set" p2) [a] [] q] [] pos) (TrE F W (mOp opLenSet [ma])) :=
  PE_imp (pe_lenSet hc hg hm hg2 hm2 ha he) fun σ H Q h => te_un st (hK ▸ op1_lenSet) h
end
end M

/-! Sound36: what is fresh becomes data at once. -/
namespace M
open PySem L2
open PySem (Str)
section
variable {F : Fx} {W : WX} {X : Cx} {a : Expr} {m : ME}
theorem te_fr (st : Stab F) (ha : PE X a (TrE F W m)) : PE X a (TrE F W (mFr m)) :=
  PE_imp ha fun σ H Q h => by
    obtain ⟨B, ρ, e, S, s, hp⟩ := h
    refine stepE st s hp (fun c S' q => q) fun r S1 v H1 s1 x1 r1 hp => ?_
    obtain ⟨x, S2, e2, s2, x2, h2, hp⟩ := toD_ok st (fun _ q => q) s1 r1 hp.bind
    exact hp v H1 s2 (x1.trans x2) h2
end
end M

/-! Sound37: lambdas that are kept in lists. -/
namespace M
open PySem L2
open PySem (Str)
open PySem.Spec PyProof.Rows
/-- a lambda without parameters, as it stands in the text -/
structure Lam where
  params : Arguments
  body : Expr
  scope : Scope
/-- the function that was made of it lies at f -/
def CloO (q : Str) (cells : List (Str × Addr)) (l : Lam) (f c' : Addr) : HO := .ext fun h => ∃ pm ctv, h.get? f = some (PySem.W.kla_obj "<lambda>" q l.params l.body l.scope (cloFrom cells l.scope.names []) pm c' ctv)
def κL (q : Str) (cells : List (Str × Addr)) (tb : List Lam) : Nat → V → Hp → Prop := fun k v H => ∃ l f c', tb[k]? = some l ∧ v = .ref f ∧ H f = some (CloO q cells l f c') ∧ H c' = some (LamX.CodeO c' q)
theorem stab_κL {F : Fx} {q : Str} {cells : List (Str × Addr)} {tb : List Lam} (h : F.κ = κL q cells tb) : Stab F where
  mv := fun k v H H' z kp => by
    rw [h] at z ⊢
    obtain ⟨l, f, c', h1, h2, h3, h4⟩ := z
    exact ⟨l, f, c', h1, h2, kp _ _ rfl h3, kp _ _ rfl h4⟩
  nn := fun k v H z => by
    rw [h] at z
    obtain ⟨l, f, c', h1, rfl, h3, h4⟩ := z
    intro y; cases y
section
variable {F : Fx} {W : WX} {X : Cx} {pins : List (Addr × Obj)} {σ : L2.St} {H HZ : Hp} {s : Shared}
/-- the lambda is made, and known from now on -/
theorem lam_trk {T : List (Addr × Str)} {c P : Addr} {l : Lam} {pos : Pos} {E Q : Value → Shared → Prop} (I : Inv X pins σ H s) (TB : LamX.TabB X.base X.mg c P) (hcode : X.env.code = .ref c) (hm : (P, X.env.qual ++ "<lambda>") ∈ T)
    (hu : ∀ p ∈ T, p.1 = P → p.2 = X.env.qual ++ "<lambda>") (hT : LamX.Tabs T H) (hdef : defaultsOf l.params X.env = ([], [])) (hfree : ∀ y ∈ l.scope.names, y.2 = .free → ∃ c, X.env.cells.lookup y.1 = some c)
    (h : ∀ f c' H1 s', Inv X pins σ H1 s' → LamX.ExtN H H1 → LamX.Tabs T H1 → H1 f = some (CloO (X.env.qual ++ "<lambda>") X.env.cells l f c') → H1 c' = some (LamX.CodeO c' (X.env.qual ++ "<lambda>")) → Q (.ref f) s') :
    wpAny (model X.prog X.w) X.A (eval (.Lambda l.params l.body l.scope pos) X.env) Q E s := by
  obtain ⟨ps, hP, ht, ha⟩ := hT _ hm
  have hPo : s.heap.get? P = some { cls := .none, data := .fields ps } := I.hok P _ hP
  have hbl := TB.bm.keeps I.bk
  have fin : ∀ {H1 : Hp} {h1 h2 : Heap} {g : Addr} {c' : Addr} {t1 t2 : Nat} {pm ctv : Value}, Inv X pins σ H1 { s with heap := h1, toks := t1 } → LamX.ExtN H H1 → LamX.Tabs T H1 → H1 c' = some (LamX.CodeO c' (X.env.qual ++ "<lambda>")) → h1.objs.size ≤ g → (∀ b u, h1.get? b = some u → h2.get? b = some u) →
      h2.get? g = some (PySem.W.kla_obj "<lambda>" (X.env.qual ++ "<lambda>") l.params l.body l.scope (cloFrom X.env.cells l.scope.names []) pm c' ctv) → Q (.ref g) { s with heap := h2, toks := t2 } := by
    intro H1 h1 h2 g c' t1 t2 pm ctv I1 x1 T1 hc hg kp hget
    have new : H1 g = none := I1.hok.fresh hg
    have I2 := I1.laid (a := g) (o := CloO (X.env.qual ++ "<lambda>") X.env.cells l g c') (h' := h2) (t' := t2) kp hg ⟨⟨pm, ctv, hget⟩, ⟨_, hget⟩, fun _ _ ⟨pm, ctv, q⟩ st => ⟨pm, ctv, st _ q⟩⟩
    have up : ∀ b o, H1 b = some o → upd H1 g (CloO (X.env.qual ++ "<lambda>") X.env.cells l g c') b = some o := fun b o e => by
      rw [upd_ne (ne_of_none e new)]; exact e
    exact h g c' _ _ I2 (x1.trans (.of up)) (T1.ext up) upd_same (up _ _ hc)
  refine PySem.W.kla_eval hdef ?_
  rcases hc : codeAmong pos ps.toList with _ | cv
  · refine PySem.W.kla_makeFunction (closure_ok hfree) I.ok.glob (I.mod.glob.keeps I.bk) hcode (TB.code.keeps I.bk) hPo ht hc TB.gP hbl ?_
    intro c' ctv h' tk hx hge hlt hrec htb
    obtain ⟨c2, oc, vs, t, e2, hoc, hd, hv⟩ := hrec
    cases e2
    have newC : H c' = none := I.hok.fresh hge
    have I1 := LamX.inv_table (t' := tk) (more := #[rawInt pos.line, rawInt pos.col, .ref c']) I hP hx htb hge ⟨oc, vs, t, hoc, hd, hv⟩
    have x1 : LamX.ExtN H (upd (upd H P (.tbl (ps ++ #[rawInt pos.line, rawInt pos.col, .ref c']))) c' (LamX.CodeO c' (X.env.qual ++ "<lambda>"))) := by
      intro b o e n
      have bP : b ≠ P := by
        rintro rfl
        rw [hP] at e; cases e
        exact n _ rfl
      rw [upd_ne (ne_of_none e newC), upd_ne bP]
      exact e
    have T1 : LamX.Tabs T (upd (upd H P (.tbl (ps ++ #[rawInt pos.line, rawInt pos.col, .ref c']))) c' (LamX.CodeO c' (X.env.qual ++ "<lambda>"))) := by
      intro p hp
      by_cases hb : p.1 = P
      · have eL : (ps ++ #[rawInt pos.line, rawInt pos.col, .ref c']).toList = ps.toList ++ [rawInt pos.line, rawInt pos.col, .ref c'] := by simp
        refine ⟨ps ++ #[rawInt pos.line, rawInt pos.col, .ref c'], ?_, ?_, ?_⟩
        · rw [hb, upd_ne (ne_of_none hP newC)]
          exact upd_same
        · rw [eL]
          exact TriplesOk_snoc _ _ _ _ ht
        · intro p' w hw
          rw [eL] at hw
          rw [hu p hp hb]
          refine (LamX.among_app _ ht hw).elim (fun z => ?_) fun z => ⟨c', z, upd_same⟩
          obtain ⟨c0, q1, q2⟩ := ha p' w z
          exact ⟨c0, q1, x1 _ _ q2 LamX.codeO_ne⟩
      · obtain ⟨qs, a1, a2, a3⟩ := hT p hp
        refine ⟨qs, ?_, a2, fun p' w hw => ?_⟩
        · rw [upd_ne (ne_of_none a1 newC), upd_ne hb]
          exact a1
        · obtain ⟨c0, q1, q2⟩ := a3 p' w hw
          exact ⟨c0, q1, x1 _ _ q2 LamX.codeO_ne⟩
    exact fin I1 x1 T1 upd_same (Nat.le_refl _) (fun b u e => Heap.get?_push_of_some _ e) (Heap.get?_push_size _ rfl)
  · obtain ⟨c', rfl, hco⟩ := ha pos cv hc
    refine PySem.W.kla_makeFunctionHit (closure_ok hfree) I.ok.glob (I.mod.glob.keeps I.bk) hcode (TB.code.keeps I.bk) hPo ht hc hbl ?_
    intro ctv h' tk hx hsz
    exact fin (h1 := h') (t1 := s.toks) (I.kept hx) (LamX.ExtN.refl H) hT hco (Nat.le_refl _) (fun b u e => Heap.get?_push_of_some _ e) (Heap.get?_push_size _ rfl)
/-- lambda: .. , as a value -/
theorem te_clo {c P : Addr} {l : Lam} {k : Nat} {tb : List Lam} {pos : Pos} (st : Stab F) (hκ : F.κ = κL (X.env.qual ++ "<lambda>") X.env.cells tb) (hk : tb[k]? = some l) (TB : LamX.TabB X.base X.mg c P) (hcode : X.env.code = .ref c) (hmT : (P, X.env.qual ++ "<lambda>") ∈ F.T)
    (hu : ∀ p ∈ F.T, p.1 = P → p.2 = X.env.qual ++ "<lambda>") (L : LamX.LamS X.env.scope l.scope) (hdef : defaultsOf l.params X.env = ([], [])) : PE X (.Lambda l.params l.body l.scope pos) (TrE F W (mK (.clo k))) := by
  refine ⟨fun pins s σ H Q I ⟨B, ρ, e, S, sm, hp⟩ => ?_⟩
  refine lam_trk I TB hcode hmT hu sm.tb.tabs hdef (L.has I.ok) fun f c' H1 s' I1 x1 T1 hf hc => ?_
  obtain ⟨s1, y1⟩ := sm.extN st x1 T1
  refine ⟨.ref f, H1, I1, rfl, hp (.ref f) H1 s1 y1 ?_⟩
  simp only [RepR, Rep]
  rw [hκ]
  exact ⟨l, f, c', hk, rfl, hf, hc⟩
/-- x(), where x holds a lambda of the caller's -/
theorem clo_act {CXg : CXT} {Eg E : XK} {Ng : List Str} {qg a : Str} {sg : Scope} {g f c' : Addr} {cdg : Value} {l : Lam} {k i : Nat} {pn : List (Addr × Obj)} {xe : Value → Shared → Prop} {tb : TE} {p1 p2 : Pos}
    (I : Inv X pins σ H s) (L : LamX.LamS X.env.scope l.scope)
    (hbind : ∀ (pm ctv : Value), bindArgs (PySem.W.kla_fn "<lambda>" (X.env.qual ++ "<lambda>") l.params l.body l.scope (cloFrom X.env.cells l.scope.names []) pm (.ref c') ctv) ⟨[], []⟩ = pure [])
    (tk : Takes ((cxOf CXg X.prog X.w X.K X.mg X.base Ng qg sg g cdg X.A X.stack s H Eg).tr pn xe) W) (hW : ∀ cls d σ' H', E cls d H' → W cls d σ' H') (hr : Room (k + 1) (X.A.deeper (envOfC qg sg s.heap.objs.size g cdg)))
    (hbody : ∀ (A : Around) (outer : List PySem.Env) (s : Shared) (H : Hp), Room k (A.deeper (LamX.lamEnv X l.scope s.heap.objs.size f c')) → PE (LamX.lamCx X A outer s H E l.scope f c') l.body tb)
    (hN : Ng[i]? = some a) (hv : Vis sg a) (hd : (a == ("__debug__" : Str)) = false) (hcd : (a == ("__classdict__" : Str)) = false) :
    PE ((cxOf CXg X.prog X.w X.K X.mg X.base Ng qg sg g cdg X.A X.stack s H Eg).tr pn xe) (.Call (.Name a p1) [] [] p2)
      (fun σZ HZ Q => σZ[i]? = some (some (.ref f)) ∧ HZ c' = some (LamX.CodeO c' (X.env.qual ++ "<lambda>")) ∧ HZ f = some (CloO (X.env.qual ++ "<lambda>") X.env.cells l f c') ∧ tb σ HZ Q) := by
  refine ⟨fun pinsZ sZ σZ HZ Q IZ ⟨z1, z2, z3, z4⟩ => ?_⟩
  have go := (pe_var (pos := p1) (i := i) hN hv hd hcd).run pinsZ sZ σZ HZ (fun v H1 => v = .ref f ∧ H1 = HZ) IZ ⟨.ref f, z1, rfl, rfl⟩
  refine wpAny_Call_Name_kw (thn go fun u s1 ⟨v, H1, I1, r1, e1, e2⟩ => ?_)
  subst e1 e2
  obtain rfl : u = Value.ref f := r1
  obtain ⟨⟨pm, ctv, hf⟩, _, _⟩ := I1.hok f _ z3
  obtain ⟨⟨oc, vs, t, hoc, hdc, hvc⟩, _, _⟩ := I1.hok c' _ z2
  refine PySem.W.callWith_F0 ⟨_, _, _, _, hf⟩ ?_
  have un : Un (frs X.stack) [] H H1 s.heap s1.heap := I1.base
  refine wpAny_call (codeAny_mono (R := CR (L2.CX X.prog X.w) (envOfC qg sg s.heap.objs.size g cdg :: X.stack) X.prog X.w H1 s1 Q E) ?_ fun r s' hq => ?_)
  · refine PySem.W.kla_callFunE hr.depth hf rfl L.co L.gen rfl ⟨c', oc, vs, t, rfl, hoc, hdc, hvc⟩ ?_
    have hb0 : bindArgs (PySem.W.kla_fn "<lambda>" (X.env.qual ++ "<lambda>") l.params l.body l.scope (cloFrom X.env.cells l.scope.names []) pm (.ref c') ctv) { pos := [] ++ [] } = pure [] := hbind pm ctv
    rw [hb0]
    have own1 : ∀ y ∈ l.scope.names, y.2 ≠ .cell := fun y hy => (L.own y hy).2
    refine wpAny_pure (wpAny_newFunctionEnv own1 (fun y hy => nomatch hy) (fun h1 hns hsb => ⟨I1.nolimit.fresh _ hsb, ?_⟩) L.kind)
    have kp : ∀ b o, s1.heap.get? b = some o → h1.get? b = some o := fun b o e => by
      have ne : b ≠ s1.heap.objs.size := Nat.ne_of_lt (Heap.lt_size e)
      exact hsb.extBut b o ne (Heap.get?_push_of_some _ e)
    have J := LamX.lam_start2 (E := E) (f := f) (c' := c') (tk := s1.toks + ([] : List (Str × Value)).length) I L I1.env0 hr.hd un hns kp
    have run := (hbody _ _ s1 H1 (hr.deeper _)).run [] _ _ H1 Q J z4
    show codeAny _ _ (.expr l.body (LamX.lamEnv X l.scope s1.heap.objs.size f c')) _ _
    refine PySem.W.kla_codeExpr (wpAny_mono run ?_ ?_)
    · rintro v s' ⟨w', H', J', rv, q⟩
      exact ⟨w', H', J'.os, J'.bare, J'.base, J'.hok, rv, q⟩
    · exact fun e s' hq => hq
  · cases r with
    | error e => exact passes_call tk hW pinsZ σZ H1 s1 e s' I1 hq
    | ok fl => cases fl with
      | ret u => exact I1.after hq
      | _ => exact hq.elim
/-- what is to be known of a lambda of the text -/
def LamOk (X : Cx) (F : Fx) (r : Nat) (l : Lam) (mb : ME) : Prop := LamX.LamS X.env.scope l.scope ∧ (∀ (q : Str) (cl : List (Str × Addr)) (pm cv ctv : Value), bindArgs (PySem.W.kla_fn "<lambda>" q l.params l.body l.scope cl pm cv ctv) ⟨[], []⟩ = pure []) ∧
  ∀ (A : Around) (outer : List PySem.Env) (s : Shared) (H : Hp) (E : XK) (f c' : Addr), Room r (A.deeper (LamX.lamEnv X l.scope s.heap.objs.size f c')) → PE (LamX.lamCx X A outer s H E l.scope f c') l.body (TrE F (fun cls d _ H => E cls d H) mb)
def LamsOk (X : Cx) (F : Fx) (r : Nat) : List Lam → List ME → Prop
  | [], [] => True
  | l :: ls, mb :: ms => LamOk X F r l mb ∧ LamsOk X F r ls ms
  | _, _ => False
theorem LamsOk.get {r : Nat} : ∀ {ls : List Lam} {ms : List ME} {k : Nat} {l : Lam} {mb : ME}, LamsOk X F r ls ms → ls[k]? = some l → ms[k]? = some mb → LamOk X F r l mb
  | [], _, _, _, _, _, e, _ => by simp at e
  | _ :: _, [], _, _, _, h, _, _ => h.elim
  | l :: ls, m :: ms, 0, _, _, h, e1, e2 => by
    simp at e1 e2
    subst e1 e2
    exact h.1
  | l :: ls, m :: ms, k + 1, _, _, h, e1, e2 => LamsOk.get (k := k) h.2 (by simpa using e1) (by simpa using e2)
end
theorem law_sim {K : PySem.W.Frag} {mg : Str → Option Value} {T : List (Addr × Str)} {κ : Nat → V → Hp → Prop} {ns : List Int} {a : Addr} {H : Hp} (hl : ns.length ≤ LIM) (hT : LamX.Tabs T H) (hS : SqL K H a (ns.map V.int)) :
    Sim (fx0 K mg T κ G0) (fun _ => False) (fun _ => 0) [some (.d (.rol (ns.map M.D.int)))] [] [some (.ref a)] H := by
  refine ⟨rfl, fun i x q => ?_, fun i n q => ?_, fun n c q => ?_, fun n m q => ?_, fun n q => ?_, fun a q => q.elim, fun i q => ?_, ⟨hT⟩⟩
  · cases i with
    | zero =>
      have : M.D.rol (ns.map M.D.int) = x := by simpa using q
      subst this
      refine ⟨.ref a, rfl, ?_⟩
      rw [Rep]
      refine ⟨a, ns.map V.int, rfl, ?_, by simpa using hl, reps_ints ns⟩
      rcases hS with (q | q) | q
      · exact .inr (.inr ⟨q, fun z => z.elim id fun ⟨m, h1, _⟩ => h1 rfl⟩)
      · exact .inl q
      · exact .inr (.inl (.inr q))
    | succ i => simp at q
  · cases i with
    | zero => simp at q
    | succ i => simp at q
  · simp [cellOf] at q
  · simp [cellOf] at q
  · simp [cellOf] at q
  · cases q
/-- the law's def, whose lambdas are kept in lists -/
theorem fn_lawC {P : Program} {w : World} {K : PySem.W.Frag} {mg : Str → Option Value} {base : Heap} {T : List (Addr × Str)} {y qual : Str} {sd : Stmt} {f : Addr} {fd : FuncData} {N : List Str} {k : Nat} {muts : List Bool} {m : MS} (tb : List Lam)
    (Fd : L2.Fun K y qual sd f fd) (Sc : FnScope N ["_law_script"] (defScope sd)) (hN : N.length = 1 + muts.length)
    (hbody : ∀ (cdv : Value), fd.code = cdv → ∀ (A : Around) (outer : List PySem.Env) (s : Shared) (H : Hp) (E : XK), Room k (A.deeper (envOfC qual (defScope sd) s.heap.objs.size f cdv)) →
      Takes (cxOf (L2.CX P w) P w K mg base N qual (defScope sd) f cdv A outer s H E) (fun cls d _ H => E cls d H) →
      PassesOwn (model P w) (cxOf (L2.CX P w) P w K mg base N qual (defScope sd) f cdv A outer s H E).A (cxOf (L2.CX P w) P w K mg base N qual (defScope sd) f cdv A outer s H E).env (cxOf (L2.CX P w) P w K mg base N qual (defScope sd) f cdv A outer s H E).xe →
      (A.deeper (envOfC qual (defScope sd) s.heap.objs.size f cdv)).units + 64 < cLine → (A.deeper (envOfC qual (defScope sd) s.heap.objs.size f cdv)).units + 65 < cLine → ∀ F : Fx, F.K = K → F.mg = mg → F.T = T → F.ml = mlOf muts 1 → Stab F →
      F.κ = κL ((envOfC qual (defScope sd) s.heap.objs.size f cdv).qual ++ "<lambda>") (envOfC qual (defScope sd) s.heap.objs.size f cdv).cells tb →
      PSs (cxOf (L2.CX P w) P w K mg base N qual (defScope sd) f cdv A outer s H E) (defBody sd) (TrS F (fun cls d _ H => E cls d H) m))
    (h : ∀ ns : List Int, ns.length ≤ 63 → mkFn 1 muts m G0 [.d (.rol (ns.map M.D.int))] [] = .ok (.d (.bl true)) []) :
    FnOk P w K mg base (L2.CX P w) (k + 1) f fd ["_law_script"] (spLawT K T) := by
  obtain ⟨oc, od, kV, doc, pm, an, cdv, ct, osl, hfd, lk, hcd⟩ := Fd.ex
  have hcode : fd.code = cdv := by rw [hfd]
  subst hfd
  refine L2.fn_of lk hcd Sc (fun vs H Q E ⟨a, ns, e, _⟩ => by rw [e]; rfl) fun A outer s H vs Q E hr hsp => ?_
  obtain ⟨a, ns, rfl, hl, hT, hS, hq⟩ := hsp
  let κ := κL ((envOfC qual (defScope sd) s.heap.objs.size f cdv).qual ++ "<lambda>") (envOfC qual (defScope sd) s.heap.objs.size f cdv).cells tb
  let F : Fx := ⟨K, mg, κ, T, 0, mlOf muts 1, G0⟩
  have same : SameF (fx0 K mg T κ G0) F := ⟨rfl, rfl, rfl, rfl⟩
  have stF : Stab F := stab_κL rfl
  have s0 := law_sim (mg := mg) (κ := κ) (Nat.le_trans hl (by decide)) (fun p hp => LamX.TabS.nil (hT p hp)) hS
  refine ⟨_, hbody cdv hcode A outer s H E hr (takes_of rfl rfl rfl rfl) (passes_of rfl) hr.units (by have := hr.un; omega) F rfl rfl rfl rfl stF rfl, (fun _ => False), (fun _ => 0), [some (.d (.rol (ns.map M.D.int)))] ++ M.frame muts 0, [] ++ List.replicate (muts.countP id) none, entry_sim (as := [.d (.rol (ns.map M.D.int))]) (vs := [.ref a]) same rfl rfl hN s0, ?_⟩
  have hp := h ns hl
  unfold mkFn at hp
  rw [if_pos (show [M.A.d (.rol (ns.map M.D.int))].length = 1 from rfl)] at hp
  refine leave_post (S := []) (k := muts.countP id) same stF rfl ?_
  have hp : outOf 0 (m G0 ([some (M.A.d (.rol (ns.map M.D.int)))] ++ M.frame muts 0) ([] ++ List.replicate (muts.countP id) none)) = .ok (.d (.bl true)) [] := hp
  show PostO (outOf 0 (m G0 _ _)) _ _
  rw [hp]
  intro v H' _ _ r
  have r : v = .bl true := by simpa only [RepR, Rep] using r
  subst r
  exact hq H'
/-! the lambdas of a def's loop, in their order -/
def lamX : Expr → List Lam
  | .Lambda p b sc _ => [⟨p, b, sc⟩]
  | _ => []
def lamE : Expr → List Lam
  | .List es _ => es.flatMap lamX
  | .Call (.Attribute _ _ _) [e] _ _ => lamX e
  | _ => []
def lamT : Stmt → List Lam
  | .Assign _ e _ => lamE e
  | .Expr e _ => lamE e
  | _ => []
def lamB : Stmt → List Lam
  | .For _ _ body _ _ => body.flatMap lamT
  | _ => []
def lamsL (body : List Stmt) : List Lam := body.flatMap lamB
section
variable {F : Fx} {W : WX} {X : Cx}
theorem te_clo2 {c P : Addr} {params : Arguments} {body : Expr} {scope : Scope} {k : Nat} {tb : List Lam} {pos : Pos} (st : Stab F) (hκ : F.κ = κL (X.env.qual ++ "<lambda>") X.env.cells tb) (hk : tb[k]? = some ⟨params, body, scope⟩) (TB : LamX.TabB X.base X.mg c P) (hcode : X.env.code = .ref c) (hmT : (P, X.env.qual ++ "<lambda>") ∈ F.T)
    (hu : ∀ p ∈ F.T, p.1 = P → p.2 = X.env.qual ++ "<lambda>") (L : LamX.LamS X.env.scope scope) (hdef : defaultsOf params X.env = ([], [])) : PE X (.Lambda params body scope pos) (TrE F W (mK (.clo k))) :=
  te_clo (l := ⟨params, body, scope⟩) st hκ hk TB hcode hmT hu L hdef
end
end M

/-! Sound38: a comprehension that knows, in its block, how its def's frame stood. -/
namespace M
open PySem L2
open PySem (Str)
open PySem.Spec PyProof.Rows
/-- at a block's entry: the def's frame, the iterator's objects -/
structure Stood (X : Cx) (pins : List (Addr × Obj)) (σ : L2.St) (Hb : Hp) (sb : Shared) (fp : List Addr) : Prop where
  inv : Inv X pins σ Hb sb
  fps : ∀ a ∈ fp, FpOk X pins Hb a
section
variable {X : Cx}
theorem block_run {pins : List (Addr × Obj)} {s : Shared} {σ : L2.St} {H : Hp} {Q : VK} {elt tg iter : Expr} {scope : Scope} {own : List (Str × Nat)} {pos p' : Pos} {wi : TI} {g : TG} {tt : TT} {te : TE}
    (calm : X.calm = true) (nd : X.N.Nodup) (I : Inv X pins σ H s) (hi : PI X tg iter wi) (ok : BlkOk X.N X.env.scope scope own)
    (hg : ∀ sb Hb C cl fp, PG (X.blk sb Hb scope (compEnvC scope cl C X.env) fp) tg g)
    (ht : ∀ sb Hb C cl fp, PTs (X.blk sb Hb scope (compEnvC scope cl C X.env) fp) [] tt)
    (he : ∀ sb Hb C cl fp, Stood X pins σ Hb sb fp → PE (X.blk sb Hb scope (compEnvC scope cl C X.env) fp) elt fun τ HZ Q => L2.wipe τ (own.map (·.2)) = L2.wipe σ (own.map (·.2)) ∧ te τ HZ Q)
    (hs : ∀ x, foldedSetIterable iter X.env x = pure x) (h : tLc wi g tt te (own.map (·.2)) σ H Q) :
    wpAny (model X.prog X.w) X.A (comprehension (.ListComp elt [⟨tg, iter, [], 0⟩] scope pos) scope X.env p' (newList []) false (eval iter X.env) none)
      (fun u s' => ∃ v H', Inv X pins σ H' s' ∧ L2.RelV v u ∧ Q v H') X.xe s := by
  have fr : ∀ y ∈ scope.names, y.2 = .free → ∃ c, X.env.cells.lookup y.1 = some c := by
    intro y hy e
    exact I.ok.has _ (ok.free y hy e)
  have oneName : ∀ y ∈ scope.names, y.2 = .local → scope.names.lookup y.1 = some .local := by
    intro y hy e
    rw [ok.uniq y hy, e]
  refine wpAny_comprehension_free (use := none) rfl hs (closure_ok fr) ok.kind oneName ?_
  refine thn (hi.run pins s σ H _ I h) fun x1 t1 got => thn got fun x2 t2 got2 => ?_
  obtain ⟨it, fp, tn, J, Hi, rfl, Ii, T, stI, fI, q⟩ := got2
  have stL := Heap.get?_push_size t2.heap (o := { cls := .type "list", data := .seq ([] : List Value).toArray }) rfl
  refine wpAny_newObj_type (newEnv_comp ?_) (by show 0 ≤ sizeLine; decide)
  obtain ⟨D, eD⟩ : ∃ D, D = t2.heap.objs.size := ⟨_, rfl⟩
  rw [← eD] at stL ⊢
  have newD : Hi D = none := Ii.hok.fresh (Nat.le_of_eq eD.symm)
  obtain ⟨Wt, ⟨m0, w0⟩, turn⟩ := q D newD
  obtain ⟨sb, eb⟩ : ∃ sb : Shared, sb = { t2 with heap := t2.heap.push { cls := .type "list", data := .seq ([] : List Value).toArray } } := ⟨_, rfl⟩
  obtain ⟨Hb, eH⟩ : ∃ Hb : Hp, Hb = upd Hi D (.lst []) := ⟨_, rfl⟩
  have hb : sb.heap = t2.heap.push { cls := .type "list", data := .seq ([] : List Value).toArray } := by rw [eb]
  have Ib : Inv X pins σ Hb sb := by
    rw [eb, eH]
    exact Ii.laid (t' := t2.toks) (fun b o e => Heap.get?_push_of_some _ e) (Nat.le_of_eq eD.symm) ⟨Nat.zero_le _, [], 0, .nil, stL⟩
  have there : ∀ a ∈ fp, a < t2.heap.objs.size := by
    intro a ha
    obtain ⟨o, e, _⟩ := T.obj _ _ stI a ha
    exact Heap.lt_size e
  have fb : ∀ a ∈ fp, FpOk X pins Hb a ∧ a < sb.heap.objs.size := by
    intro a ha
    have lt := there a ha
    refine ⟨⟨?_, (fI a ha).2⟩, ?_⟩
    · rw [eH, upd_ne (Nat.ne_of_lt (by rw [eD]; exact lt))]
      exact (fI a ha).1
    · rw [hb, Heap.size_push]
      exact Nat.lt_succ_of_lt lt
  have old : ∀ a o, t2.heap.get? a = some o → sb.heap.get? a = some o := fun a o e => by
    rw [hb]; exact Heap.get?_push_of_some _ e
  have I0 := block_start Ib ok nd fb
  rw [← eH] at w0
  rw [← eb]
  clear eb
  obtain ⟨cl, ecl⟩ : ∃ cl, cl = cellsFrom (sb.heap.objs.size + 1) scope.names (cloFrom X.env.cells scope.names []) := ⟨_, rfl⟩
  obtain ⟨ce, ece⟩ : ∃ ce, ce = compEnvC scope cl sb.heap.objs.size X.env := ⟨_, rfl⟩
  have pg := hg sb Hb sb.heap.objs.size cl fp
  have pt := ht sb Hb sb.heap.objs.size cl fp
  have pe := he sb Hb sb.heap.objs.size cl fp ⟨Ib, fun a ha => (fb a ha).1⟩
  have ceL : ce.locals = sb.heap.objs.size := by rw [ece]; rfl
  obtain ⟨s0, es0⟩ : ∃ s0 : Shared, s0 = { sb with heap := pushCells (sb.heap.push { cls := .type "dict", data := .dict #[] }) scope.names } := ⟨_, rfl⟩
  have old0 : ∀ a o, t2.heap.get? a = some o → s0.heap.get? a = some o := fun a o e => by
    rw [es0]; exact pushCells_keeps _ _ _ _ (Heap.get?_push_of_some _ (old a o e))
  rw [← ecl, ← ece, ← es0] at I0
  rw [← ece] at pg pt pe
  show codeAny _ _ (.compStart (.ListComp elt [⟨tg, iter, [], 0⟩] scope pos) 0 (.ref it) (.ref D) (compEnvC scope (cellsFrom (sb.heap.objs.size + 1) scope.names (cloFrom X.env.cells scope.names [])) sb.heap.objs.size X.env)) (compPost (model X.prog X.w) X.A X.xe none _ (.ref D) sb.heap.objs.size) { sb with heap := pushCells (sb.heap.push { cls := .type "dict", data := .dict #[] }) scope.names }
  rw [← ecl, ← ece, ← es0]
  have st0 : tn 0 s0.heap := T.keep _ _ _ stI fun a _ o e => old0 a o e
  have fpB : ∀ {τ : L2.St} {HZ : Hp} {sZ : Shared}, Inv (X.blk sb Hb scope ce fp) [] τ HZ sZ → (∀ a ∈ fp, HZ a = none) → ∀ a ∈ fp, FpOk (X.blk sb Hb scope ce fp) [] HZ a := by
    intro τ HZ sZ IZ hn a ha
    refine ⟨hn a ha, (IZ.ok.exf a ha).1, IZ.ok.exfs a ha, .inl ha, ?_, fun p hp => ?_⟩
    · exact fun y c e => (IZ.ok.exf a ha).2 y c e
    · cases hp
  let Turns : Nat → Shared → Prop := fun n sZ => ∃ i HZ, Inv (X.blk sb Hb scope ce fp) [] (L2.wipe σ (own.map (·.2))) HZ sZ ∧ tn i sZ.heap ∧ (∀ a ∈ fp, HZ a = none) ∧ Wt i n HZ
  have first : Turns m0 s0 := ⟨0, Hb, I0, st0, fun a ha => (fb a ha).1.1, w0⟩
  have walk : codeAny (model X.prog X.w) X.A (.compLoop (.ListComp elt [⟨tg, iter, [], 0⟩] scope pos) 0 (.ref it) (.ref D) ce)
      (compPost (model X.prog X.w) X.A X.xe none (fun u s' => ∃ v H', Inv X pins σ H' s' ∧ L2.RelV v u ∧ Q v H') (.ref D) sb.heap.objs.size) s0 := by
    refine compLoop_any Turns ?_ m0 first
    rintro n s1 ⟨i, H1, I1, st1, n1, w1⟩
    rcases turn i n H1 w1 with ⟨stop, qq⟩ | ⟨go, Nx, hNx, step⟩
    · refine thnF (T.done (X.blk sb Hb scope ce fp) rfl rfl rfl calm i [] s1 _ H1 (fun _ _ => False) I1 (fpB I1 n1) st1 stop) fun r s2 ⟨hr, I2⟩ => ?_
      subst hr
      have Iz : Inv X pins σ H1 s2 := Ib.call' (ch := fp) I2.os I2.base I2.hok I2.bare fun a ha => by
        obtain ⟨_, z1, _, z3, z4, z5⟩ := (fb a ha).1
        exact ⟨z3, z1, z4, z5⟩
      have free : H1 sb.heap.objs.size = none := by rw [← ceL]; exact I2.free
      obtain ⟨mp, ns, _⟩ := I2.loc
      have ns : s2.heap.Ns ce.locals mp := ns
      rw [ceL] at ns
      obtain ⟨f0, f1, f2, f3, f4, f5⟩ := Ib.fpOk (Nat.le_refl _) free
      exact ⟨mp, ns, fun h' same => ⟨.ref D, H1, Iz.turned (t' := s2.toks) (fun b o hb e => (same.2 b hb).trans e) f0 f1 f3 f4 f5, rfl, qq⟩⟩
    · refine thnF (T.item (X.blk sb Hb scope ce fp) rfl rfl rfl calm i [] s1 _ H1 (fun _ _ => False) I1 (fpB I1 n1) st1 go) fun r s2 ⟨u, hr, h2⟩ => ?_
      subst hr
      refine thnF h2 fun _ s3 ⟨x, H3, I3, r3, y3, st3, n3⟩ => ?_
      have P3 := I3.pinned (fpB I3 n3) (T.obj _ _ st3)
      refine thnF (pg.run _ s3 _ H3 x u _ P3 r3 (step x H3 y3)) fun _ s4 ⟨τ, H4, I4, hw, q4⟩ => ?_
      refine thnF (pt.run _ s4 τ H4 _ I4 q4) fun b s5 ⟨H5, I5, q5⟩ => ?_
      have ends : ∀ {s' : Shared} {H' : Hp}, Inv (X.blk sb Hb scope ce fp) ([] ++ pinsAt fp s3.heap) τ H' s' → Nx H' → ∃ m, m < n ∧ Turns m s' := by
        intro s' H' I' nx
        obtain ⟨m', lt, w'⟩ := hNx H' nx
        have kept : ∀ a ∈ fp, ∀ o, s3.heap.get? a = some o → s'.heap.get? a = some o ∧ H' a = none := by
          intro a ha o e
          have z := I'.pin (a, o) (List.mem_append_right _ (List.mem_append_right _ (mem_pinsAt ha e)))
          exact ⟨z.1, z.2.1⟩
        have len : (L2.wipe σ (own.map (·.2))).length = τ.length := by rw [← hw, wipe_length]
        have back := (I'.unpinned (pins := [])).weak len fun j v e => by
          rw [← hw] at e
          exact (wipe_some e).1
        have stN : tn (i + 1) s'.heap := T.keep _ _ _ st3 fun a ha o e => (kept a ha o e).1
        exact ⟨m', lt, i + 1, H', back, stN, fun a ha => by
          obtain ⟨o, e, _⟩ := T.obj _ _ st3 a ha
          exact (kept a ha o e).2, w'⟩
      cases b with
      | false => exact ends I5 (by simpa using q5)
      | true =>
        have q5 : te τ H5 fun y H4 => ∃ acc, H4 D = some (.lst acc) ∧ acc.length < sizeLine ∧ Nx (upd H4 D (.lst (acc ++ [y]))) := by simpa using q5
        refine thnF (pe.run _ s5 τ H5 _ I5 ⟨hw, q5⟩) fun z s6 ⟨yv, H6, I6, r6, acc, at6, lt6, nx⟩ => ?_
        exact app_ok (X := X.blk sb Hb scope ce fp) I6 at6 lt6 r6 fun s7 I7 => ends I7 nx
  exact codeAny_compStart_list walk (T.self X.A 0 _ _ _ st0 walk)
theorem te_lcI {F : Fx} {W : WX} {elt tgE iter : Expr} {scope : Scope} {own : List (Str × Nat)} {pos : Pos} {it : MI} {tgm : Tg} {ma : ME} (st : Stab F) (hc : X.calm = true) (hN : X.N.Nodup) (hK : X.K = F.K)
    (hi : PI X tgE iter (TrI F W it)) (ok : BlkOk X.N X.env.scope scope own) (hown : ∀ i ∈ tgm.ix, i ∈ own.map (·.2))
    (hg : ∀ sb Hb C cl fp, PG (X.blk sb Hb scope (compEnvC scope cl C X.env) fp) tgE (gTg X.K tgm))
    (ht : ∀ sb Hb C cl fp, PTs (X.blk sb Hb scope (compEnvC scope cl C X.env) fp) [] (TrC F none))
    (he : ∀ pins σ0 sb Hb C cl fp, Stood X pins σ0 Hb sb fp → PE (X.blk sb Hb scope (compEnvC scope cl C X.env) fp) elt fun τ HZ Q => L2.wipe τ (own.map (·.2)) = L2.wipe σ0 (own.map (·.2)) ∧ TrE F W0 ma τ HZ Q)
    (hs : ∀ x, foldedSetIterable iter X.env x = pure x) : PE X (.ListComp elt [⟨tgE, iter, [], 0⟩] scope pos) (TrE F W (mLc it tgm (own.map (·.2)) none ma)) := by
  refine ⟨fun pins s σ H Q I h => ?_⟩
  rw [eval_ListComp]
  exact block_run hc hN I hi ok hg ht (fun sb Hb C cl fp S => he pins σ sb Hb C cl fp S) hs (lc_read st hK hown h)
/-- a def that calls what it got, handed a lambda of the def's, in a comprehension's block -/
theorem te_refV {F : Fx} {W : WX} {pins : List (Addr × Obj)} {σ0 : L2.St} {sb : Shared} {Hb : Hp} {fp : List Addr} {scope : Scope} {cenv : PySem.Env} {ow : List Nat} {errs : List Str} {R : M.D → Sto → O M.R} {tbm : List ME} {tb : List Lam} {y v : Str} {i k : Nat} {p p2 pos : Pos}
    (S0 : Stood X pins σ0 Hb sb fp) (st : Stab F) (hK : X.K = F.K) (hmg : X.mg = F.mg) (o : RefOk X.prog X.w X.K X.mg X.base F.T y errs R) (hg : Gl (X.blk sb Hb scope cenv fp) y) (hdb : (y == ("__debug__" : Str)) = false)
    (hN : X.N[i]? = some v) (hv : Vis cenv.scope v) (hd : (v == ("__debug__" : Str)) = false) (hcd : (v == ("__classdict__" : Str)) = false) (hκ : F.κ = κL (X.env.qual ++ "<lambda>") X.env.cells tb) (hr : Room (k + 2) X.A) (hl : LamsOk X F k tb tbm) :
    PE (X.blk sb Hb scope cenv fp) (.Call (.Name y p) [.Name v p2] [] pos) fun τ HZ Q => L2.wipe τ ow = L2.wipe σ0 ow ∧ TrE F W (mRefV errs R i ow tbm) τ HZ Q := by
  obtain ⟨g, Ng, a, pg, bg, sg, dV, kV, doc, pm, cdv, ct, oc, an, od, osl, h1, h2, h3, h4, h5, h6, h7, h8, h9, h10, h11⟩ := o.ex
  have hG := h11 (X.blk sb Hb scope cenv fp) F.κ (X.env.qual ++ "<lambda>") rfl rfl rfl rfl rfl (hr.mono (by omega))
  refine ⟨fun pB s τ H Q I ⟨hw, B, ρ, e, S, sm, hp⟩ => ?_⟩
  unfold mRefV at hp
  split at hp
  case h_2 => exact hp.elim
  rename_i kk he
  split at hp
  case h_2 => exact hp.elim
  rename_i mb hmb
  obtain ⟨w, hσ, hrep⟩ := sm.slot i (.clo kk) he
  rw [Rep, hκ] at hrep
  obtain ⟨l, f, c', hk, rfl, hf, hc⟩ := hrep
  obtain ⟨L, hbind, hbody⟩ := hl.get hk hmb
  have same : SameF F (fx0 F.K F.mg F.T F.κ G0) := ⟨rfl, rfl, rfl, rfl⟩
  have tr : TrE F W (mRef errs R mb) (L2.wipe τ ow) H Q := by
    refine ⟨B, ρ, M.wipe e ow, S, sm.wipe ow, ?_⟩
    cases hm : mRef errs R mb F.g (M.wipe e ow) S with
    | no => rw [hm] at hp; exact hp.elim
    | ex c S' =>
      exfalso
      unfold mRef at hm
      split at hm
      · exact o.noex _ _ _ _ hm
      · split at hm
        · exact o.noex _ _ _ _ hm
        · cases hm
      · cases hm
    | ok r S' =>
      rw [hm] at hp
      intro v1 H' s' x' r'
      refine hp v1 H' ?_ x' r'
      refine Sim.ret st same.symm sm (s'.bare same rfl) x' fun a q => ?_
      cases r with
      | d y => exact .inl q
      | c n => exact .inl q
      | f c =>
        rcases q with q | q
        · exact .inl q
        · obtain ⟨ad, rfl, g2, _⟩ := r'
          injection q with q
          rw [← q]; exact .inr g2
  obtain ⟨hT, hq⟩ := ref_ok st (hmg ▸ o.known) o.noex tr
  obtain ⟨Ech, a1, a2⟩ := hq H (LamX.ExtN.refl H) hT
  refine wpAny_Call_Name_kw (ld_glob I hg h1 ?_ hdb)
  refine PySem.W.callWith_K (h₀ := X.base) I.ok.mod.kin h2 ?_ (by rfl) (by rfl)
  show wpAny _ _ (spliced ((false, eval (.Name v p2) cenv) :: backTo pos (starEach [] cenv))) _ _ s
  have go := (pe_var (X := X.blk sb Hb scope cenv fp) (pos := p2) (i := i) hN hv hd hcd).run pB s τ H (fun v H1 => v = .ref f ∧ H1 = H) I ⟨.ref f, hσ, rfl, rfl⟩
  refine Calls.spliced_cons (thn go fun u s1 ⟨v1, H1, I1, r1, e1, e2⟩ => ?_)
  subst e1 e2
  obtain rfl : u = Value.ref f := r1
  refine Calls.spliced_nil ⟨I1.kIn, ?_⟩
  have Iz : Inv X pins σ0 H1 s1 := S0.inv.call' (ch := fp) I1.os I1.base I1.hok I1.bare fun a ha => by
    obtain ⟨_, z1, _, z3, z4, z5⟩ := S0.fps a ha
    exact ⟨z3, z1, z4, z5⟩
  have Iw : Inv X pins (L2.wipe τ ow) H1 s1 := by
    rw [hw]
    exact Iz.weak (wipe_length ..) fun j v e => (wipe_some e).1
  refine wpAny_call (codeAny_mono (R := CR C8.CX0 X.stack X.prog X.w H1 s1 Q C8.E0) ?_ fun r s2 z => ?_)
  · refine LamX.run_ofS (N := Ng) (ps := [a]) (us := [.ref f]) (vs := [.ref f]) h3 h4 h6 hr I1.env0 (h5 s1 [.ref f] I1.kIn rfl) (.cons rfl .nil) rfl fun hr' => ?_
    obtain ⟨t', ht', hq'⟩ := hG f c' s1 H1 Q (fun E H' Q' => H' f = some (CloO (X.env.qual ++ "<lambda>") X.env.cells l f c') ∧ TrE F (fun cls d _ H => E cls d H) mb (L2.wipe τ ow) H' Q')
      (fun W pn xe E q1 q2 tk hW => clo_act (i := 0) Iw L (fun _ _ => hbind _ _ _ _ _) tk hW hr' (fun A outer s H hr2 => hbody A outer s H E f c' hr2) h7 h8 h9 h10) hc (by
        show TRef X.K X.mg F.T F.κ errs R _ H1 Q
        rw [hK, hmg]; exact ⟨Ech, fun Qn hQ => ⟨hf, a1 Qn hQ⟩, a2⟩)
    exact ⟨t', ht'.nox, hq'⟩
  · cases r with
    | error e => exact (show False from z).elim
    | ok fl => cases fl with
      | ret u => exact I1.after z
      | _ => exact z.elim
end
end M

/-! Sound39: dicts of ints that are read. -/
namespace M
open PySem L2
open PySem (Str)
section
variable {F : Fx} {X0 : Addr → Prop} {H : Hp}
theorem reps_find {k : Int} : ∀ {ns : List Int} {us : List M.D} {ps : List (Key × V)} {p : Int × M.D}, ps.map (·.1) = ns.map Sum.inl → Reps F X0 H us (ps.map (·.2)) → ((ns.zip us).find? fun p => decide (p.1 = k)) = some p → ∃ v, valV ps (Sum.inl k) = some v ∧ Rep F X0 H p.2 v
  | [], _, _, _, _, _, h => by simp at h
  | _ :: _, _, [], _, h, _, _ => by simp at h
  | n :: ns, us, q :: ps, p, h, hr, hf => by
    simp only [List.map_cons, List.cons.injEq] at h
    cases us with
    | nil => simp at hf
    | cons u us =>
      rw [List.map_cons, Reps] at hr
      obtain ⟨w, r, e, h1, h2⟩ := hr
      injection e with e1 e2
      subst e1 e2
      rw [List.zip_cons_cons, List.find?_cons] at hf
      by_cases c : n = k
      · subst c
        simp at hf
        subst hf
        exact ⟨q.2, valV_pos h.1, h1⟩
      · simp [c] at hf
        obtain ⟨v, g1, g2⟩ := reps_find h.2 h2 (by simpa using hf)
        refine ⟨v, ?_, g2⟩
        rw [valV_neg (fun z => c (by rw [h.1] at z; cases z; rfl))]; exact g1
theorem op2_getK : Op2 F opGetK fun x y H Q => ∃ a v, x = .ref a ∧ DGet H a y (some v) ∧ Q v H := by
  intro B ρ e S σ H x y v w r Q s hx hy hf k
  unfold opGetK at hf
  split at hf
  · rename_i ks us kk q
    cases q
    split at hf
    · rename_i ns hns
      cases hz : (ns.zip us).find? fun p => decide (p.1 = kk) with
      | none => rw [hz] at hf; cases hf
      | some p =>
        rw [hz] at hf; cases hf
        have hx : ∃ a vs, v = .ref a ∧ DctAt H a ks vs ∧ vs.length ≤ LIM ∧ Reps F _ H us vs := hx
        obtain ⟨a, vs, rfl, d1, d2, d3⟩ := hx
        obtain ⟨ps, q1, q2, q3⟩ := dct_ints hns d1
        subst q3
        obtain ⟨u, g1, g2⟩ := reps_find q2 d3 hz
        have ew := hy.int
        subst ew
        refine ⟨a, u, rfl, ?_, k.dat s g2⟩
        rw [← g1]
        exact DGet.k (k := .inl kk) q1
    · cases hf
  · cases hf
theorem op2_ninK : Op2 F opNotInK fun y x H Q => ∃ a o, x = .ref a ∧ DGet H a y o ∧ Q (.bl (!o.isSome)) H := by
  intro B ρ e S σ H x y v w r Q s hx hy hf k
  unfold opNotInK at hf
  split at hf
  · rename_i kk ks us q
    cases q
    split at hf
    · rename_i ns hns
      cases hf
      have hy : ∃ a vs, w = .ref a ∧ DctAt H a ks vs ∧ vs.length ≤ LIM ∧ Reps F _ H us vs := hy
      obtain ⟨a, vs, rfl, d1, d2, d3⟩ := hy
      obtain ⟨ps, q1, q2, q3⟩ := dct_ints hns d1
      have ew := hx.int
      subst ew
      have ea := any_key (k := kk) q2
      have ev := valV_any (Sum.inl kk : Key) ps
      refine ⟨a, _, rfl, DGet.k (k := .inl kk) q1, ?_⟩
      rw [← ev, ea]
      exact k.bl s
    · cases hf
  · cases hf
theorem op1_lenK : Op1 F opLenK fun v H Q => ∃ a kvs, [v] = [V.ref a] ∧ H a = some (.dK kvs) ∧ Q (.int kvs.length) H := by
  intro B ρ e S σ H x v r Q s hx hf k
  unfold opLenK at hf
  split at hf
  · rename_i ks us q
    cases q
    split at hf
    · rename_i ns hns
      cases hf
      have hx : ∃ a vs, v = .ref a ∧ DctAt H a ks vs ∧ vs.length ≤ LIM ∧ Reps F _ H us vs := hx
      obtain ⟨a, vs, rfl, d1, d2, d3⟩ := hx
      obtain ⟨ps, q1, q2, q3⟩ := dct_ints hns d1
      have el : ps.length = ns.length := by have := congrArg List.length q2; simpa using this
      refine ⟨a, ps, rfl, q1, ?_⟩
      rw [el]
      exact k.int s
    · cases hf
  · cases hf
end
section
variable {F : Fx} {W : WX} {X : Cx} {a b : Expr} {ma mb : ME} {pp pos : Pos}
theorem te_lenK (st : Stab F) (hg : Gl X "len") (hm : X.mg "len" = none) (ha : PE X a (TrE F W ma)) (he : starEach [a] X.env = (false, eval a X.env) :: starEach [] X.env) : PE X (.Call (.Name "len" pp) [a] [] pos) (TrE F W (mOp opLenK [ma])) :=
  te_call1 st call_lenD op1_lenK hg hm (by rfl) ha (by decide) (by decide) he
theorem te_getK (hu : X.A.units + 64 < cLine) (st : Stab F) (hs : NoSl b) (ha : PE X a (TrE F W ma)) (hb : PE X b (TrE F W mb)) : PE X (.Subscript a b pos) (TrE F W (mOp opGetK [ma, mb])) :=
  PE_imp (pe_dget (by omega) ha hb hs) fun σ H Q h => te_bin st op2_getK h
theorem te_ninK (hu : X.A.units + 64 < cLine) (st : Stab F) (hm : behindInMarks .NotIn b = false) (ha : PE X a (TrE F W ma)) (hb : PE X b (TrE F W mb)) : PE X (.Compare a [.NotIn] [b] pos) (TrE F W (mOp opNotInK [ma, mb])) :=
  PE_imp (pe_cmp (pc_dnotin (by omega) ha hb) hm) fun σ H Q h => te_bin st op2_ninK h
theorem tb_ninK (hu : X.A.units + 64 < cLine) (st : Stab F) (hm : behindInMarks .NotIn b = false) (ha : PE X a (TrE F W ma)) (hb : PE X b (TrE F W mb)) : PT X (.Compare a [.NotIn] [b] pos) (TrB F W (mOp opNotInK [ma, mb])) :=
  PT_imp (pt_cmp (pc_dnotin (by omega) ha hb) hm) fun σ H Q h => te_bin st op2_ninK h.toE
end
end M

/-! Sound40: x[j] += e; a name that stands for another's list until it has one of its own. -/
namespace M
open PySem L2
open PySem (Str)
section
variable {X : Cx}
theorem get_list : PGet X (rIxL X.K) := by
  intro pins s σ H x y v u Q I rx ry h
  obtain ⟨p, xs, i, z, rfl, rfl, hq, he, q⟩ := h
  cases rx
  obtain ⟨t, rfl⟩ := ry
  obtain ⟨its, r, pl, hz⟩ := I.list hq
  obtain ⟨j, h1, h2, h3, h4, h5⟩ := atI_get he
  obtain ⟨w, ew, rw'⟩ := r.get h2
  have hl := r.length
  have hn := line63
  have fin : EP X pins σ Q w s := ⟨z, H, I, rw', q⟩
  by_cases h0 : 0 ≤ i
  · have hj : i.toNat = j := by
      rw [seqIndex_of h0 h5] at h1
      exact Option.some.inj h1
    exact wpAny_getItem_list pl.isList h0 (by omega) (by rw [hj]; simpa using ew) fin
  · have hj : (i + (its.toArray.size : Int)).toNat = j := by
      rw [seqIndex_neg (by omega) h4] at h1
      rw [List.size_toArray, ← hl]
      exact Option.some.inj h1
    exact wpAny_getItem_list_neg pl.isList (by omega) (by rw [List.size_toArray] <;> omega) (by omega) (by rw [hj]; simpa using ew) fin
end
section
variable {F : Fx} {W : WX} {X : Cx} {B B' B2 : Addr → Prop} {ρ ρ' ρ0 : Nat → Addr} {e e' e2 : M.Env} {S S' S0 S1 S2 : Sto} {σ σ' σ2 : L2.St} {H H' H0 H1 H2 : Hp} {a b : Expr} {m ma mb mj : ME} {pos p1 p2 p3 : Pos} {i j l n : Nat} {y z u : Str}
theorem ts_augIx {kp : Pos} (st : Stab F) (hK : X.K = F.K) (hN : X.N[i]? = some y) (hv : Vis X.env.scope y) (hd : (y == ("__debug__" : Str)) = false) (hcd : (y == ("__classdict__" : Str)) = false) (ha : PE X a (TrE F W ma)) (hj : PE X b (TrE F W mj))
    (hs : ∀ ov iv new, augStore b ov iv new = (do holding [new, ov, iv] (setItem ov iv new); release [new, ov, iv] []; pure .next)) :
    PS X (.AugAssign (.Subscript (.Name y p1) b kp) .Add a pos) (TrS F W (mAugIx i mj ma)) :=
  PS_imp (ps_augS (pe_var hN hv hd hcd) hj get_list ha ip_add set_list hs) fun D σ H h => by
    obtain ⟨B, ρ, e, S, s, hp⟩ := h
    unfold mAugIx at hp
    split at hp
    · exact hp.elim
    rename_i hL
    obtain ⟨n, he, hc0⟩ := hasC_cases hL
    refine ⟨_, var_cell s he hc0, ?_⟩
    refine stepSD st s hp fun z2 S1 w H1 s1 x1 r1 hp => ?_
    rw [he] at hp
    simp only at hp
    split at hp
    · rename_i xs k hc
      split at hp
      · rename_i q hq
        split at hp
        · rename_i old ho
          obtain ⟨vs, h1, h2, h3⟩ := cell_l s1 hc
          obtain ⟨ov, h4, h5⟩ := h3.get ho
          rw [Rep] at h5 r1
          subst h5 r1
          have hat : L2.atI vs k = some (.int old) := by
            unfold L2.atI
            rw [h3.length, ← ixN_eq, hq]
            exact h4
          refine ⟨ρ n, vs, k, .int old, rfl, rfl, hK ▸ SqL.of h1, hat, ?_⟩
          have hp := x1.ext.after hp
          refine stepSD st s1 hp fun y2 S2 w2 H2 s2 x2 r2 hp => ?_
          split at hp
          · rename_i add
            rw [Rep] at r2
            subst r2
            refine ⟨old, add, rfl, rfl, ?_⟩
            obtain ⟨n', c, c', he', hc2, hf, hp⟩ := updC_cases hp
            rw [he] at he'; cases he'
            cases c with
            | k ks us => cases hf
            | l xs2 =>
              simp only [putL] at hf
              split at hf
              · rename_i q2 hq2
                cases hf
                obtain ⟨vs2, g1, g2, g3⟩ := cell_l s2 hc2
                obtain ⟨s3, x3, _⟩ := s2.wr st (ws := vs2.set q2 (.int (old + add))) hc2 (by simpa using g2) (g3.set q2 (show Rep F (Ex B ρ S2) H2 (.int (old + add)) (.int (old + add)) by rw [Rep]))
                exact ⟨_, vs2, k, q2, rfl, rfl, g1, by rw [g3.length]; exact ixN_L hq2, hp ρ σ _ s3 (x2.trans x3).ext⟩
              · cases hf
          · exact hp.elim
        · exact hp.elim
      · exact hp.elim
    · exact hp.elim
theorem Sim.park (s : Sim F B ρ e S σ H) (hn : n < S.length) (h0 : F.n0 ≤ n) (hc : cellOf S n = none) (hu : ∀ k : Nat, e[k]? ≠ some (some (A.c n))) : Sim F B ρ (e.set l (some (.c n))) S σ H := by
  have hs : ∀ (k : Nat) (q : Option A), (e.set l (some (.c n)))[k]? = some q → (k = l ∧ q = some (.c n)) ∨ (k ≠ l ∧ e[k]? = some q) := fun k q h => by
    by_cases hk : l = k
    · subst hk
      by_cases hl : l < e.length
      · rw [List.getElem?_set_self hl] at h
        exact .inl ⟨rfl, by injection h with h; exact h.symm⟩
      · rw [List.getElem?_eq_none (by simpa using hl)] at h; cases h
    · rw [List.getElem?_set_ne hk] at h
      exact .inr ⟨fun z => hk z.symm, h⟩
  refine ⟨by simp [s.len], fun k x q => ?_, fun k m q => ?_, s.cell, s.inj, s.nb, s.bt, fun k hk m q => ?_, s.tb⟩
  · rcases hs k _ q with ⟨_, z⟩ | ⟨_, z⟩
    · cases z
    · exact s.slot k x z
  · rcases hs k _ q with ⟨_, z⟩ | ⟨_, z⟩
    · cases z
      exact ⟨hn, fun w => absurd hc w⟩
    · exact s.slotC k m z
  · rcases hs k _ q with ⟨z0, z⟩ | ⟨z0, z⟩
    · cases z
      refine ⟨h0, fun j hj w => ?_⟩
      rcases hs j _ w with ⟨y, _⟩ | ⟨_, y⟩
      · exact hj (y.trans z0.symm)
      · exact hu j y
    · obtain ⟨q1, q2⟩ := s.uq k hk m z
      refine ⟨q1, fun j hj w => ?_⟩
      rcases hs j _ w with ⟨_, y⟩ | ⟨_, y⟩
      · cases y
        exact hu k z
      · exact q2 j hj y
/-- x = e, x a name of a list to come -/
theorem ts_alias {p' : Pos} (st : Stab F) (hN : X.N.Nodup) (hi : X.N[i]? = some y) (hx : Loc X.env.scope y) (ha : PE X a (TrE F W ma)) (hs : swapsWith a (some (.Name y p')) pos.line X.env = pure false)
    (hf : X.fn y = true ∨ X.env.scope.names.lookup y = some .local) (hm : i ∈ F.ml) (hil : i ≠ l) : PS X (.Assign [.Name y p'] a pos) (TrS F W (mAlias i l ma)) :=
  PS_imp (ps_set hN hi hx ha hs hf) fun D σ H h => by
    obtain ⟨B, ρ, e, S, s, hp⟩ := h
    refine stepSD st s hp fun z S1 v H1 s1 x1 r1 hp => ?_
    split at hp
    · rename_i n he
      split at hp
      · exact hp.elim
      · rename_i hc
        have hc : cellOf S1 n = none := by simpa using hc
        have hl := (s1.slotC i n he).1
        obtain ⟨h0, hu⟩ := s1.uq i hm n he
        have s2 := (Sim.put (i := i) s1 r1)
        have s3 := Sim.park (l := l) s2 hl h0 hc fun k q => by
          by_cases hk : i = k
          · subst hk
            rw [List.getElem?_set_self (by exact (List.getElem?_eq_some_iff.mp he).1)] at q
            cases q
          · rw [List.getElem?_set_ne hk] at q
            exact hu k (fun z => hk z.symm) q
        rw [List.set_comm _ _ hil] at s3
        exact hp ρ _ H1 s3 x1.ext
    · exact hp.elim
/-- a, b = b, e, where b stands for what another holds -/
theorem ts_shiftD {k1 k2 : Nat} {pt pt2 : Pos} (st : Stab F) (hc : X.calm = true) (hN : X.N.Nodup) (hi : X.N[i]? = some y) (hj : X.N[j]? = some z) (hij : i ≠ j) (hlj : l ≠ j) (hli : l ≠ i)
    (hx : X.env.scope.names.lookup y = some .local) (hy : X.env.scope.names.lookup z = some .local) (hd : (z == ("__debug__" : Str)) = false) (hcd : (z == ("__classdict__" : Str)) = false) (hb : PE X b (TrE F W mb))
    (hs1 : starEach [.Name z p3, b] X.env = (false, eval (.Name z p3) X.env) :: starEach [b] X.env) (hs2 : starEach [b] X.env = (false, eval b X.env) :: starEach [] X.env) (hm : j ∈ F.ml) (hlm : l ∈ F.ml)
    (hw : swappedStores [.Tuple [.Name y p1, .Name z p2] k1 pt] (.Tuple [.Name z p3, b] k2 pt2) X.env = pure (some [y, z])) (hs : swapsWithSole [.Tuple [.Name y p1, .Name z p2] k1 pt] (.Tuple [.Name z p3, b] k2 pt2) pos.line X.env = pure false) :
    PS X (.Assign [.Tuple [.Name y p1, .Name z p2] k1 pt] (.Tuple [.Name z p3, b] k2 pt2) pos) (TrS F W (mShiftD i j l mb)) :=
  PS_imp (ps_par hc hN hi hj hij hx hy (pa_cons (pe_var hj (.inl hy) hd hcd) (pa_cons hb pa_nil hs2) hs1) hw hs) fun D σ H h => by
    obtain ⟨B, ρ, e, S, s, hp⟩ := h
    unfold mShiftD at hp
    split at hp
    · rename_i x n hej hel
      split at hp
      · exact hp.elim
      rename_i hcn
      have hcn : cellOf S n = none := by simpa using hcn
      obtain ⟨vx, hvx, rx⟩ := s.slot j x hej
      refine ⟨_, hvx, ?_⟩
      refine stepS st s hp fun r S1 v H1 s1 x1 r1 hp => ?_
      refine ⟨vx, v, rfl, ?_⟩
      split at hp
      · rename_i cw
        obtain ⟨ad, rfl, h1, h2, h3⟩ := r1
        have s1 : Sim F (fun b => B b ∨ V.ref ad = .ref b) ρ e S1 σ H1 := s1
        have hc1 : cellOf S1 n = none := by
          cases q : cellOf S1 n with
          | none => rfl
          | some c => exact absurd hcn (x1.live n (by rw [q]; simp))
        have hl := (s1.slotC l n hel).1
        obtain ⟨h0, hu⟩ := s1.uq l hlm n hel
        obtain ⟨vx', hvx', rx'⟩ := s1.slot j x hej
        rw [hvx] at hvx'
        cases hvx'
        have s2 := Sim.put (i := i) (s1.clearE (i := l)) rx'
        have hno : ∀ k : Nat, ((e.set l none).set i (some (.d x)))[k]? ≠ some (some (A.c n)) := fun k q => by
          by_cases hk : i = k
          · subst hk
            by_cases hh : i < (e.set l none).length
            · rw [List.getElem?_set_self hh] at q; cases q
            · rw [List.getElem?_eq_none (by simpa using hh)] at q; cases q
          · rw [List.getElem?_set_ne hk] at q
            by_cases hk2 : l = k
            · subst hk2
              rw [List.getElem?_set_self (List.getElem?_eq_some_iff.mp hel).1] at q; cases q
            · rw [List.getElem?_set_ne hk2] at q
              exact hu k (fun z => hk2 z.symm) q
        have s3 := Sim.park (l := j) s2 hl h0 hc1 hno
        have hje : ((((e.set l none).set i (some (.d x))).set j (some (.c n))))[j]? = some (some (.c n)) := by
          rw [List.getElem?_set_self]
          simp only [List.length_set]
          exact (List.getElem?_eq_some_iff.mp hej).1
        obtain ⟨s4, _, hn0⟩ := Sim.setC (c := cw) st s3 hje hm h2 h3
        exact hp _ _ H1 s4 (Ext.setC x1 hn0 h1)
      · exact hp.elim
    · exact hp.elim
theorem ts_shiftA {k1 k2 : Nat} {pt pt2 : Pos} (st : Stab F) (hc : X.calm = true) (hN : X.N.Nodup) (hi : X.N[i]? = some y) (hj : X.N[j]? = some z) (hij : i ≠ j) (hlj : l ≠ j) (hli : l ≠ i)
    (hx : X.env.scope.names.lookup y = some .local) (hy : X.env.scope.names.lookup z = some .local) (hd : (z == ("__debug__" : Str)) = false) (hcd : (z == ("__classdict__" : Str)) = false) (hb : PE X b (TrE F W mb))
    (hs1 : starEach [.Name z p3, b] X.env = (false, eval (.Name z p3) X.env) :: starEach [b] X.env) (hs2 : starEach [b] X.env = (false, eval b X.env) :: starEach [] X.env) (hm : j ∈ F.ml) (hlm : l ∈ F.ml)
    (hw : swappedStores [.Tuple [.Name y p1, .Name z p2] k1 pt] (.Tuple [.Name z p3, b] k2 pt2) X.env = pure (some [y, z])) (hs : swapsWithSole [.Tuple [.Name y p1, .Name z p2] k1 pt] (.Tuple [.Name z p3, b] k2 pt2) pos.line X.env = pure false) :
    PS X (.Assign [.Tuple [.Name y p1, .Name z p2] k1 pt] (.Tuple [.Name z p3, b] k2 pt2) pos) (TrS F W (mShiftA i j l mb)) :=
  PS_imp (PS_or (ts_shift st hc hN hi hj hij hx hy hd hcd hb hs1 hs2 hm hw hs) (ts_shiftD st hc hN hi hj hij hlj hli hx hy hd hcd hb hs1 hs2 hm hlm hw hs)) fun D σ H h => by
    obtain ⟨B, ρ, e, S, s, hp⟩ := h
    unfold mShiftA at hp
    split at hp
    · exact .inr ⟨B, ρ, e, S, s, hp⟩
    · exact .inl ⟨B, ρ, e, S, s, hp⟩
/-- a, b = two new lists -/
theorem ts_parCC {k1 k2 : Nat} {pt pt2 : Pos} (st : Stab F) (hc : X.calm = true) (hN : X.N.Nodup) (hi : X.N[i]? = some y) (hj : X.N[j]? = some z) (hij : i ≠ j)
    (hx : X.env.scope.names.lookup y = some .local) (hy : X.env.scope.names.lookup z = some .local) (ha : PE X a (TrE F W ma)) (hb : PE X b (TrE F W mb))
    (hs1 : starEach [a, b] X.env = (false, eval a X.env) :: starEach [b] X.env) (hs2 : starEach [b] X.env = (false, eval b X.env) :: starEach [] X.env) (hm : i ∈ F.ml) (hm2 : j ∈ F.ml)
    (hw : swappedStores [.Tuple [.Name y p1, .Name z p2] k1 pt] (.Tuple [a, b] k2 pt2) X.env = pure (some [y, z])) (hs : swapsWithSole [.Tuple [.Name y p1, .Name z p2] k1 pt] (.Tuple [a, b] k2 pt2) pos.line X.env = pure false) :
    PS X (.Assign [.Tuple [.Name y p1, .Name z p2] k1 pt] (.Tuple [a, b] k2 pt2) pos) (TrS F W (mParCC i j ma mb)) :=
  PS_imp (ps_par hc hN hi hj hij hx hy (pa_cons ha (pa_cons hb pa_nil hs2) hs1) hw hs) fun D σ H h => by
    obtain ⟨B, ρ, e, S, s, hp⟩ := h
    unfold mParCC at hp
    refine stepS st s hp fun r S1 v H1 s1 x1 r1 hp => ?_
    refine ⟨addR B r v, ρ, e, S1, s1, ?_⟩
    cases hmb : mb F.g e S1 with
    | no => rw [hmb] at hp; exact hp.elim
    | ex c S2 => rw [hmb] at hp; exact fun H' s' x' cl hc => hp ρ σ H' (s'.mono st addR_le) (x1.trans x').ext cl hc
    | ok r2 S2 =>
      rw [hmb] at hp
      intro w H2 s2 x2 r2'
      refine ⟨v, w, rfl, ?_⟩
      simp only [O.bindS] at hp
      split at hp
      · rename_i c1 c2 n m he1 he2
        obtain ⟨ad, rfl, h1, h2, h3⟩ := r1
        obtain ⟨ad2, rfl, g1, g2, g3⟩ := r2'
        have s1 : Sim F (fun b => B b ∨ V.ref ad = .ref b) ρ e S1 σ H1 := s1
        have s2 : Sim F (fun b => (B b ∨ V.ref ad = .ref b) ∨ V.ref ad2 = .ref b) ρ e S2 σ H2 := s2
        obtain ⟨s3, hl3, hn3⟩ := Sim.setC (B := fun b => B b ∨ V.ref ad = .ref b) (i := j) (n := m) (c := c2) st s2 he2 hm2 g2 g3
        have hnm : n ≠ m := fun z => by
          subst z
          exact (s.uq i hm n he1).2 j (fun q => hij q.symm) he2
        have exs : ∀ b, Ex B (fun k => if k = m then ad2 else ρ k) (S2.set m (some c2)) b → Ex B ρ S2 b ∨ b = ad2 := fun b q => by
          rcases q with q | ⟨k, hk, q⟩
          · exact .inl (.inl q)
          · by_cases h : k = m
            · simp only [if_pos h] at q; exact .inr q.symm
            · simp only [if_neg h] at q
              rw [cellOf_set, if_neg fun z => h z.1] at hk
              exact .inl (.inr ⟨k, hk, q⟩)
        have hne : ad ≠ ad2 := fun z => by
          subst z
          exact g2 (.inl (.inr rfl))
        have n1 : ¬ Ex B (fun k => if k = m then ad2 else ρ k) (S2.set m (some c2)) ad := fun q => by
          rcases exs ad q with q | q
          · exact h2 (Ex.live x2.live ad q)
          · exact hne q
        have exs2 : ∀ b, Ex (fun b => B b ∨ V.ref ad = .ref b) (fun k => if k = m then ad2 else ρ k) (S2.set m (some c2)) b → Ex (fun b => B b ∨ V.ref ad = .ref b) ρ S1 b ∨ b = ad2 := fun b q => by
          rcases q with q | ⟨k, hk, q⟩
          · exact .inl (.inl q)
          · by_cases h : k = m
            · simp only [if_pos h] at q; exact .inr q.symm
            · simp only [if_neg h] at q
              rw [cellOf_set, if_neg fun z => h z.1] at hk
              exact .inl (.inr ⟨k, x2.live k hk, q⟩)
        have c1' : CellAt F (Ex (fun b => B b ∨ V.ref ad = .ref b) (fun k => if k = m then ad2 else ρ k) (S2.set m (some c2))) H2 ad c1 := by
          refine h3.move st (fun o q => ?_) (s1.keeps (n0 := 0) x2.ext) fun b o nt nx q => ⟨?_, fun y => ?_⟩
          · by_cases t : ∀ ps, o ≠ HO.tbl ps
            · exact x2.fr ad o (fun k hk z => h2 (.inr ⟨k, hk, z⟩)) t q
            · obtain ⟨ps, rfl⟩ := Classical.not_forall_not.mp t
              cases c1 with
              | l xs => obtain ⟨us, z, _⟩ := h3; rw [q] at z; cases z
              | k ks xs =>
                obtain ⟨us, z, _⟩ := h3
                obtain ⟨o', z1, _, z2⟩ := z.at_
                rw [q] at z1; cases z1
                exact absurd rfl (z2 ps)
          · exact x2.fr b o (fun k hk z => nx (.inr ⟨k, hk, z⟩)) nt q
          · rcases exs2 b y with y | y
            · exact nx y
            · subst y
              exact g1.no q nt
        obtain ⟨s4, hl4, hn4⟩ := Sim.setC (B := B) (i := i) (n := n) (c := c1) st s3 he1 hm n1 c1'
        rw [List.set_comm _ _ (fun z => hij z.symm)] at s4
        have x12 := x1.trans x2
        have xa : Ext F.n0 ρ S H (fun k => if k = m then ad2 else ρ k) (S2.set m (some c2)) H2 := Ext.setC x12 hn3 (x1.tr ad2 g1)
        have xb : Ext F.n0 ρ S H (fun k => if k = n then ad else if k = m then ad2 else ρ k) ((S2.set m (some c2)).set n (some c1)) H2 := by
          refine ⟨by rw [List.length_set]; exact xa.len, fun k hk => by simp only [if_neg (show ¬ k = n by omega)]; exact xa.low k hk, fun k hk => ?_, xa.fr, xa.tr⟩
          by_cases h : k = n
          · exact .inr ⟨by omega, by simp only [if_pos h]; exact h1⟩
          · rw [cellOf_set, if_neg fun q => h q.1] at hk
            simp only [if_neg h]
            exact xa.live k hk
        exact hp _ _ H2 s4 xb
      · exact hp.elim
end
end M

/-! Sound41: len of a set of a tuple's ints. -/
namespace M
open PySem L2
open PySem (Str)
open PySem.Spec PyProof.Rows
theorem seen_nodup : ∀ (ns acc : List Int), acc.Nodup → (ns.foldl seen acc).Nodup
  | [], acc, h => h
  | n :: ns, acc, h => by
    refine seen_nodup ns _ ?_
    unfold seen
    split
    · exact h
    · rename_i hc
      refine List.nodup_append.mpr ⟨h, by simp, fun x hx y hy e => hc (List.any_eq_true.mpr ⟨x, hx, ?_⟩)⟩
      rw [List.mem_singleton.mp hy] at e
      simp [e]
theorem seen_mem : ∀ (ns acc : List Int) (x : Int), x ∈ ns.foldl seen acc ↔ x ∈ acc ∨ x ∈ ns
  | [], acc, x => by simp
  | n :: ns, acc, x => by
    rw [List.foldl_cons, seen_mem ns]
    unfold seen
    split
    · rename_i hc
      obtain ⟨y, hy, e⟩ := List.any_eq_true.mp hc
      have e : y = n := by simpa using e
      subst e
      constructor
      · rintro (h | h)
        · exact .inl h
        · exact .inr (List.mem_cons_of_mem _ h)
      · rintro (h | h)
        · exact .inl h
        · rcases List.mem_cons.mp h with rfl | h
          · exact .inl hy
          · exact .inr h
    · rw [List.mem_append, List.mem_singleton, List.mem_cons, or_assoc]
theorem setR_card {w : World} {h : Heap} {a : Addr} {ns : List Int} {c : Nat} (R : SetR w h a (fun j => decide (j ∈ ns)) c) : c = (ns.foldl seen []).length := by
  obtain ⟨o, es, ep, t, ho, hex, hd, g, nd, hm, hb, hf, hn, hr, hl⟩ := R
  have p : (es.toList.map keyOf).Perm (ns.foldl seen []) := (List.perm_ext_iff_of_nodup nd (seen_nodup ns [] List.nodup_nil)).mpr fun x => by
    rw [← hm x, seen_mem]
    simp
  have := p.length_eq
  rw [List.length_map, Array.length_toList] at this
  omega
section
variable {F : Fx} {W : WX} {X : Cx} {a : Expr} {ma : ME} {pos pp p2 q : Pos}
def rLenSetT (K : PySem.W.Frag) : V → Hp → VK → Prop := fun x H Q => ∃ (l : Addr) (ns : List Int), x = V.ref l ∧ SqT K H l (ns.map V.int) ∧ ns.length < 64 ∧ Q (.int (ns.foldl seen []).length) H
theorem pe_lenSetT {ta : TE} (hc : X.calm = true) (hg : Gl X "len") (hm : X.mg "len" = none) (hg2 : Gl X "set") (hm2 : X.mg "set" = none) (ha : PE X a ta)
    (na : starEach [a] X.env = (false, eval a X.env) :: starEach [] X.env := by rfl) : PE X (.Call (.Name "len" pp) [.Call (.Name "set" p2) [a] [] q] [] pos) (fun σ H Q => ta σ H fun x H1 => rLenSetT X.K x H1 Q) := by
  refine ⟨fun pins s σ H Q I h => ?_⟩
  refine Call_ (ld_blt I hg hm PySem.boot_len ?_)
  refine PyProof.Rows.callWith_builtin1 (PyProof.Rows.args_cons ?_ rfl) rfl rfl
  refine Call_ (ld_blt I hg2 hm2 PyProof.Rows.boot_set ?_)
  refine PyProof.Rows.callWith_type1 (PyProof.Rows.args_cons (thn (ha.run pins s σ H _ I h) fun v s1 ⟨x, H1, I1, r1, q1⟩ => PyProof.Rows.args_nil ?_) na) na rfl
  obtain ⟨l, ns, rfl, hq, h1, q1⟩ := q1
  cases r1
  obtain ⟨its, r, pl, hz⟩ := I1.tuple hq
  refine call_set_tupI ns (I1.ok.hd hc) pl (by simpa using r.ints) (by unfold scanBound; omega) fun h' tk c R hc1 hk => ?_
  have hcard := setR_card R
  refine PyProof.Rows.args_nil ?_
  obtain ⟨o, es, ep, t, ho, hex, hd, _, _, _, _, hf, hn, _, _⟩ := R
  have I2 : Inv X pins σ H1 { s1 with heap := h', toks := tk } := I1.kept fun b o e => hk b o e
  refine call_len_set ho hex hd hf (by rw [hn] <;> omega) ⟨.int (ns.foldl seen []).length, H1, I2.tok _, ⟨_, by rw [hn, hcard]⟩, q1⟩
theorem op1_lenSetT : Op1 F opLenSetT (rLenSetT F.K) := by
  intro B ρ e S σ H x v r Q s hx hf k
  unfold opLenSetT at hf
  split at hf
  · rename_i xs q
    cases q
    obtain ⟨a, vs, rfl, h1, h2, h3⟩ := hx.tup
    split at hf
    · rename_i ns hn
      split at hf
      · rename_i hlt
        cases hf
        have := intsOf_reps hn h3
        subst this
        exact ⟨a, ns, rfl, h1, hlt, k.int s⟩
      · cases hf
    · cases hf
  · cases hf
theorem te_lenSetT (st : Stab F) (hK : X.K = F.K) (hc : X.calm = true) (hg : Gl X "len") (hm : X.mg "len" = none) (hg2 : Gl X "set") (hm2 : X.mg "set" = none) (ha : PE X a (TrE F W ma)) (he : starEach [a] X.env = (false, eval a X.env) :: starEach [] X.env) :
    PE X (.Call (.Name "len" pp) [.Call (.Name "set" p2) [a] [] q] [] pos) (TrE F W (mOp opLenSetT [ma])) :=
  PE_imp (pe_lenSetT hc hg hm hg2 hm2 ha he) fun σ H Q h => te_un st (hK ▸ op1_lenSetT) h
end
end M

/-! Sound42: a tuple of texts that a module keeps. -/
namespace M
open PySem L2
open PySem (Str)
open PySem.Spec PyProof.Rows
/-- a tuple of texts of the text as it was written -/
def KTup (K : PySem.W.Frag) (a : Addr) (xs : List Str) : Prop := ∃ (o : Obj) (its : Array Value) (n : Nat), K.lookup a = some o ∧ o.cls = .type "tuple" ∧ o.data = .seq its n ∧ its.size ≤ sizeLine ∧ Vals (xs.map V.str) its.toList ∧ ∀ s ∈ xs, txtOk s = true
section
variable {F : Fx} {W : WX} {X : Cx} {y : Str} {pos : Pos}
theorem reps_strs {Y : Addr → Prop} {H : Hp} : ∀ xs : List Str, (∀ s ∈ xs, txtOk s = true) → Reps F Y H (xs.map M.D.str) (xs.map V.str)
  | [], _ => Reps.nil
  | x :: xs, h => Reps.cons (by rw [Rep]; exact ⟨rfl, h x (List.mem_cons_self ..)⟩) (reps_strs xs fun s hs => h s (List.mem_cons_of_mem _ hs))
theorem te_gtup (xs : List Str) (hK : X.K = F.K) (hg : Gl X y) (hm : ∃ a, X.mg y = some (.ref a) ∧ KTup F.K a xs) (hl : xs.length ≤ LIM) (hd : (y == ("__debug__" : Str)) = false) : PE X (.Name y pos) (TrE F W (mK (.tup (xs.map M.D.str)))) := by
  obtain ⟨a, h1, o, its, n, k1, k2, k3, k4, k5, k6⟩ := hm
  exact te_const (v := .ref a) (pe_glob hg h1 rfl hd) fun Y H => by
    rw [Rep]
    exact ⟨a, xs.map V.str, rfl, .inr ⟨o, its, n, k1, k2, k3, k4, k5⟩, by rw [List.length_map]; exact hl, reps_strs xs k6⟩
end
end M

/-! Sound43: sorted of tuples of ints among which () may stand. -/
namespace M
open PySem L2
open PySem (Str)
open PySem.Spec PyProof.Rows
theorem lexHT : ∀ xs ys : List Int, HT.lexLt xs ys = lexL xs ys
  | [], [] => by unfold lexL; rfl
  | [], _ :: _ => by unfold lexL; rfl
  | _ :: _, [] => by unfold lexL; rfl
  | x :: xs, y :: ys => by
    show (if x = y then HT.lexLt xs ys else decide (x < y)) = _
    conv => rhs; unfold lexL
    rw [lexHT xs ys]
section
variable {prog : Program} {w : World} {A : Around} {E : Value → Shared → Prop} {s : Shared}
theorem tupI_lt {v u : Value} {ns ms : List Int} {κ : SortKind} (hκ : κ = oneType' ∨ κ = general') (hu : A.units < cLine) (hv : IsTupI s.heap v ns) (hw : IsTupI s.heap u ms) : wpAny (model prog w) A (keyLt' κ v u) (fun r s' => s' = s ∧ r = lexL ns ms) (fun _ _ => False) s := by
  obtain ⟨a, ⟨cls, dd, data, sl⟩, its, n, rfl, ho, hc, hd, hi⟩ := hv
  obtain ⟨b, ⟨cls2, dd2, data2, sl2⟩, its2, n2, rfl, ho2, hc2, hd2, hi2⟩ := hw
  simp only at hc hd hc2 hd2
  subst hc hd hc2 hd2
  have fin : s = s ∧ HT.lexLt ns ms = lexL ns ms := ⟨rfl, lexHT ns ms⟩
  rcases hκ with rfl | rfl
  · rw [keyLt'_oneType, oneLt'_eq]
    simp only [if_true]
    refine wpAny_bind (wpAny_cRoomFor hu ?_)
    refine wpAny_bind (wpAny_callSpecialIfBound?_slot (T := "tuple") ⟨_, ho, rfl⟩ PySem.F.slot_tuple_lt (call_meets PySem.F.slot_tuple_lt ⟨_, ho, rfl⟩ PySem.F.entry_tuple_lt (PySem.F.args_tuple_lt_2 _ _) (HT.tuple_lt_ints a b its its2 n n2 dd dd2 sl sl2 ns ms hi hi2) ⟨ho, ho2, ?_⟩))
    exact wpAny_truthy_bool fin
  · show wpAny (model prog w) A (oneLt' false (.ref a) (.ref b)) _ _ s
    refine PySem.W.kat_one _ _ (HT.lt_tupInts ⟨_, ho, rfl, _, rfl⟩ ⟨_, ho2, rfl, _, rfl⟩ hi hi2 hu ?_)
    exact fin
theorem firsts_mix {k : Value → List Int} : ∀ {vs : List Value}, (∀ v ∈ vs, IsTupI s.heap v (k v)) → ∃ fs : List (Option Value), fs.map (·.isSome) = vs.map (fun v => !(k v).isEmpty) ∧ ∀ (Q : List (Option Value) → Shared → Prop) (E : Value → Shared → Prop), Q fs s → wpAny (model prog w) A (vs.mapM firstOfTuple') Q E s
  | [], _ => ⟨[], rfl, fun Q E h => by rw [List.mapM_nil]; exact wpAny_pure h⟩
  | v :: vs, hp => by
    obtain ⟨fs, h1, h2⟩ := firsts_mix (vs := vs) fun v' hm => hp v' (List.mem_cons_of_mem _ hm)
    obtain ⟨a, o, its, n, e, ho, hc, hd, hi⟩ := hp v (List.mem_cons_self ..)
    subst e
    refine ⟨its[0]? :: fs, ?_, fun Q E h => ?_⟩
    · rw [List.map_cons, List.map_cons, h1]
      congr 1
      have hl := hi.length
      rw [Array.length_toList] at hl
      generalize k (.ref a) = ns at hl
      cases ns with
      | nil => 
        have : its.size = 0 := by simpa using hl
        simp [Array.getElem?_eq_none, this]
      | cons x r =>
        have : 0 < its.size := by rw [hl]; simp
        simp [Array.getElem?_eq_getElem this]
    · rw [List.mapM_cons]
      refine wpAny_bind ?_
      rw [PySem.W.kas_first_eq]
      refine wpAny_bind (PySem.W.Looks.here (show PySem.W.Looks (model prog w) s.heap (typeOf (.ref a)) o.cls from (PySem.W.Looks.ld ho).andThen .now) ?_)
      rw [hc, if_neg (by first | decide | simp)]
      refine wpAny_bind (listItems_at ho hd (wpAny_pure ?_))
      exact wpAny_bind (h2 _ _ (wpAny_pure h))
theorem kind_mix {k : Value → List Int} {vs : List Value} (h0 : ∃ v ∈ vs, k v = []) (hp : ∀ v ∈ vs, IsTupI s.heap v (k v)) : ∃ κ, (κ = oneType' ∨ κ = general') ∧ ∀ (Q : SortKind → Shared → Prop) (E : Value → Shared → Prop), Q κ s → wpAny (model prog w) A (keyKind' vs.toArray) Q E s := by
  obtain ⟨fs, h1, h2⟩ := firsts_mix (prog := prog) (w := w) (A := A) hp
  have hall : ¬ (fs.toArray.all fun x => x.isSome) = true := by
    intro q
    obtain ⟨v, hv, e⟩ := h0
    rw [List.all_toArray, List.all_eq_true] at q
    have : (!(k v).isEmpty) ∈ fs.map (·.isSome) := by rw [h1]; exact List.mem_map.mpr ⟨v, hv, rfl⟩
    obtain ⟨x, hx, ex⟩ := List.mem_map.mp this
    rw [q x hx, e] at ex
    simp at ex
  by_cases hs : (fs.toArray[0]?.bind id).isSome = true
  · refine ⟨general', .inr rfl, fun Q E h => ?_⟩
    rw [keyKind'_eq, List.mapM_toArray, map_eq_pure_bind]
    refine wpAny_bind (wpAny_bind (h2 _ _ (wpAny_pure ?_)))
    rw [if_neg hall, if_pos hs]
    exact wpAny_pure h
  · refine ⟨oneType', .inl rfl, fun Q E h => ?_⟩
    rw [keyKind'_eq, List.mapM_toArray, map_eq_pure_bind]
    refine wpAny_bind (wpAny_bind (h2 _ _ (wpAny_pure ?_)))
    rw [if_neg hall, if_neg hs]
    rw [oneTypeOnly'_eq, List.mapM_toArray, map_eq_pure_bind]
    refine wpAny_bind (wpAny_bind (wpAny_bind (PySem.W.kas_mapM (r := Value.type "tuple") _ (fun v hv Q' hq => ?_) (wpAny_pure ?_))))
    · obtain ⟨a, o, its, n, e, ho, hc, hd, hi⟩ := hp v hv
      subst e
      refine PySem.W.Looks.here (show PySem.W.Looks (model prog w) s.heap (typeOf (.ref a)) o.cls from (PySem.W.Looks.ld ho).andThen .now) ?_
      rw [hc]; exact hq
    · obtain ⟨v, hv, _⟩ := h0
      obtain ⟨v1, rest, rfl⟩ : ∃ v1 rest, vs = v1 :: rest := by
        cases vs with
        | nil => cases hv
        | cons a b => exact ⟨a, b, rfl⟩
      have hall2 : ((List.map (fun _ => Value.type "tuple") (v1 :: rest)).toArray.all fun x => x == Value.type "tuple") = true := by
        simp only [List.all_toArray, List.all_map, List.all_eq_true]
        intro _ _
        rfl
      have h00 : (List.map (fun _ => Value.type "tuple") (v1 :: rest)).toArray[0]? = some (Value.type "tuple") := by simp
      rw [h00]
      simp only [hall2, if_true]
      exact wpAny_pure (wpAny_pure h)
theorem tupI_sortable0 {a : Addr} {vs : List Value} {k : Value → List Int} (hu : A.units < cLine) (h0 : 0 < vs.length) (hp : ∀ v ∈ vs, IsTupI s.heap v (k v)) (ha : ∀ o, s.heap.get? a = some o → o.cls ≠ .type "tuple") : SrtO.SortableO prog w A s a vs fun v u => lexL (k v) (k u) := by
  by_cases hn : ∃ v ∈ vs, k v = []
  · intro h' keep
    have hp' : ∀ v ∈ vs, IsTupI h' v (k v) := fun v hm => (hp v hm).keeps fun b o e c => keep b o (fun z => by subst z; exact ha o e c) e
    obtain ⟨κ, h1, h2⟩ := kind_mix (prog := prog) (w := w) (A := A) (s := { s with heap := h' }) hn hp'
    refine ⟨κ, fun Q E hq => h2 Q E hq, fun p q hm hm' => ?_⟩
    exact tupI_lt (s := { s with heap := h' }) h1 hu (hp' _ hm) (hp' _ hm')
  · exact tupI_sortable h0 (fun v hv => ⟨hp v hv, fun e => hn ⟨v, hv, e⟩⟩) ha
theorem sorted_tupI0 {l : Addr} {vs : List Value} {k : Value → List Int} {Q : Value → Shared → Prop} (hu : A.units + 2 < cLine) (hl : s.heap.IsList l vs.toArray) (hz : vs.length ≤ sizeLine) (hp : ∀ v ∈ vs, IsTupI s.heap v (k v))
    (h : ∀ (h' : Heap) (d : Addr) (out : List Value), SrtO.Srtd (fun v u => lexL (k v) (k u)) out → SrtO.Stb (fun v u => lexL (k v) (k u)) out vs → (∀ b o, s.heap.get? b = some o → h'.get? b = some o) → s.heap.objs.size ≤ d → (∃ n, h'.get? d = some (seqObj "list" out.toArray n)) → Q (.ref d) { s with heap := h' }) :
    wpAny (model prog w) A (call (.builtin "sorted") [.ref l]) Q E s := by
  refine SrtO.sorted_ord (swoL k) hl hz (fun h2 h₁ a ha kk => ?_) fun out hs hb => ?_
  · refine tupI_sortable0 (s := { s with heap := h₁ }) (by show A.units + 1 + 1 < cLine; omega) (by omega) (fun v hm => (hp v hm).keeps fun b o e _ => (kk b o e).2) fun o e => ?_
    have e' : some o = some (seqObj "list" vs.toArray 0) := e.symm.trans ha
    cases e'
    intro c
    exact absurd (Value.type.inj c) (by decide)
  · exact h _ _ out hs hb (fun b o e => sortedAll_old e) (Nat.le_succ _) (sortedAll_at s.heap vs out.toArray)
end
/-- sorted(xs), xs a list of tuples of ints -/
def rSortedL0 (K : PySem.W.Frag) : List V → Hp → VK → Prop := fun vs H Q => ∃ (a : Addr) (ps : List (V × List Int)), vs = [V.ref a] ∧ SqL K H a (ps.map (·.1)) ∧ (∀ p ∈ ps, ∃ t, p.1 = V.ref t ∧ SqT K H t (p.2.map V.int)) ∧
  ∀ (qs : List (V × List Int)) p, qs.Pairwise (fun v u => lexL u.2 v.2 = false) → qs.Perm ps → H p = none → Q (.ref p) (upd H p (.lst (qs.map (·.1))))
section
variable {X : Cx}
theorem cr_sortedL0 (hu : X.A.units + 64 < cLine) : CallR X (.builtin "sorted") (rSortedL0 X.K) := by
  intro pins s σ H vs us Q I r h
  obtain ⟨a, ps, rfl, hs, hx, q⟩ := h
  obtain ⟨its, rv, hl, hz⟩ := I.list hs
  obtain ⟨u, rfl, ru⟩ := vals1 r
  obtain rfl : u = Value.ref a := ru
  obtain ⟨e1, e2⟩ := refs_back rv fun x m => by
    obtain ⟨p, hp, rfl⟩ := List.mem_map.mp m
    obtain ⟨t, e, _⟩ := hx p hp
    exact ⟨t, e⟩
  have tup : ∀ p ∈ ps, ∃ t, p.1 = V.ref t ∧ IsTupI s.heap (.ref t) p.2 ∧ heapI s.heap (.ref t) = p.2 := fun p hp => by
    obtain ⟨t, e, ht⟩ := hx p hp
    obtain ⟨its2, r2, ⟨o, ho, hc, n, hd⟩, _⟩ := I.tuple ht
    have hi : IntsAre its2.toArray.toList p.2 := r2.ints
    exact ⟨t, e, ⟨t, o, its2.toArray, n, rfl, ho, hc, hd, hi⟩, heapI_eq ho hd hi⟩
  have e3 : its.map (fun u => (backV u, heapI s.heap u)) = ps := by
    have e4 : ps.map (fun p => (p.1, heapI s.heap (match p.1 with | .ref t => .ref t | _ => .none))) = ps := by
      refine (List.map_congr_left fun p hp => ?_).trans (List.map_id ps)
      obtain ⟨t, q1, _, q2⟩ := tup p hp
      show (p.1, heapI s.heap (match p.1 with | .ref t => .ref t | _ => .none)) = p
      rw [q1]
      show (V.ref t, heapI s.heap (.ref t)) = p
      rw [q2, ← q1]
    rw [← e4]
    have e5 : ps.map (fun p => (p.1, heapI s.heap (match p.1 with | .ref t => .ref t | _ => .none))) = (ps.map (·.1)).map fun v => (v, heapI s.heap (match v with | .ref t => .ref t | _ => .none)) := by rw [List.map_map]; rfl
    rw [e5, e1, List.map_map]
    refine List.map_congr_left fun u hu => ?_
    obtain ⟨t, rfl⟩ := e2 u hu
    rfl
  refine sorted_tupI0 (k := heapI s.heap) (by omega) hl.isList (by rw [← rv.length]; exact hz) (fun v hv => ?_) fun h' d out h1 h2 kp hd hn => ?_
  · have hm : (backV v, heapI s.heap v) ∈ ps := by rw [← e3]; exact List.mem_map.mpr ⟨v, hv, rfl⟩
    obtain ⟨t, rfl⟩ := e2 v hv
    obtain ⟨t', q1, q2, q3⟩ := tup _ hm
    injection q1 with q1
    subst q1
    exact q2
  · have h3 : ∀ u ∈ out, ∃ a, u = Value.ref a := fun u hu => e2 u (h2.perm.mem_iff.mp hu)
    obtain ⟨n, hn⟩ := hn
    have hb : (out.map fun u => (backV u, heapI s.heap u)).Perm ps := by
      rw [← e3]
      exact h2.perm.map _
    have e6 : (out.map fun u => (backV u, heapI s.heap u)).map (·.1) = out.map backV := by rw [List.map_map]; rfl
    have qq := q (out.map fun u => (backV u, heapI s.heap u)) d (List.pairwise_map.mpr h1) hb (I.hok.fresh hd)
    rw [e6] at qq
    refine ⟨.ref d, upd H d (.lst (out.map backV)), I.laid (t' := s.toks) kp hd ⟨?_, out, n, vals_back h3, hn⟩, rfl, qq⟩
    rw [← e6, List.length_map, hb.length_eq, ← List.length_map (f := (·.1))]
    exact hz
end
theorem rowsOf0_reps {F : Fx} {X : Addr → Prop} {H : Hp} : ∀ {xs : List M.D} {rs : List (List Int)} {vs : List V}, rowsOf0 xs = some rs → Reps F X H xs vs → ∃ ps : List (V × List Int), vs = ps.map (·.1) ∧ rs = ps.map (·.2) ∧ ∀ p ∈ ps, (∃ t, p.1 = V.ref t ∧ SqT F.K H t (p.2.map V.int)) ∧ Rep F X H (.tup (p.2.map .int)) p.1
  | [], rs, vs, h, hr => by
    unfold rowsOf0 at h
    cases h
    have : vs = [] := List.eq_nil_of_length_eq_zero hr.length
    subst this
    exact ⟨[], rfl, rfl, fun p hp => by cases hp⟩
  | x :: xs, rs, vs, h, hr => by
    rw [Reps] at hr
    obtain ⟨v, vs, rfl, hv, hr2⟩ := hr
    unfold rowsOf0 at h
    split at h
    · rename_i q; cases q
    · rename_i ys r q
      injection q with q1 q2
      subst q1 q2
      split at h
      · rename_i ns rs2 h1 h2
        cases h
        obtain ⟨ps, i1, i2, i3⟩ := rowsOf0_reps h2 hr2
        have hv2 := hv
        rw [Rep] at hv2
        obtain ⟨t, ws, rfl, e1, e2, e3⟩ := hv2
        have e4 := intsOf_reps h1 e3
        subst e4
        refine ⟨(V.ref t, ns) :: ps, by rw [i1]; rfl, by rw [i2]; rfl, fun p hp => ?_⟩
        rcases List.mem_cons.mp hp with rfl | hp
        · refine ⟨⟨t, rfl, e1⟩, ?_⟩
          rw [Rep]
          exact ⟨t, _, rfl, e1, e2, reps_ints _⟩
        · exact i3 p hp
      · cases h
    · cases h
theorem op1_sortedL0 {F : Fx} (st : Stab F) : Op1 F opSortedL0 (fun v H Q => rSortedL0 F.K [v] H Q) := by
  intro B ρ e S σ H x v r Q s hx hf k
  unfold opSortedL0 at hf
  split at hf
  · rename_i xs q
    cases q
    obtain ⟨a, vs, rfl, h1, h2, h3⟩ := hx.lst
    split at hf
    · rename_i rs hr
      cases hf
      obtain ⟨ps, rfl, rfl, e2⟩ := rowsOf0_reps hr h3
      refine ⟨a, ps, rfl, SqL.of h1, fun p hp => (e2 p hp).1, fun qs p hs hp hl => ?_⟩
      have e3 : qs.map (·.2) = (ps.map (·.2)).mergeSort leL := by
        refine List.Perm.eq_of_pairwise (le := fun a b => leL a b = true) (fun a b _ _ q1 q2 => ?_) ?_ ?_ ((hp.map _).trans (List.mergeSort_perm ..).symm)
        · unfold leL at q1 q2
          exact lexL_anti a b (by simpa using q2) (by simpa using q1)
        · refine List.pairwise_map.mpr (hs.imp fun {u v} h => ?_)
          show (!lexL v.2 u.2) = true
          rw [h]; rfl
        · refine List.pairwise_mergeSort ?_ ?_ _
          · intro a b c h1 h2
            unfold leL at h1 h2 ⊢
            have := lexL_tr a b c (by simpa using h1) (by simpa using h2)
            rw [this]; rfl
          · intro a b
            unfold leL
            cases h : lexL a b with
            | false => simp
            | true => rw [lexL_asym _ _ h]; rfl
      have e4 : Reps F (Ex B ρ S) H (((ps.map (·.2)).mergeSort leL).map fun r => .tup (r.map .int)) (qs.map (·.1)) := by
        rw [← e3, List.map_map]
        have : ∀ zs : List (V × List Int), (∀ z ∈ zs, z ∈ ps) → Reps F (Ex B ρ S) H (zs.map ((fun r : List Int => M.D.tup (r.map .int)) ∘ (·.2))) (zs.map (·.1)) := by
          intro zs
          induction zs with
          | nil => intro _; exact Reps.nil
          | cons z zs ih =>
            intro hz
            exact Reps.cons (e2 z (hz z (List.mem_cons_self ..))).2 (ih fun y hy => hz y (List.mem_cons_of_mem _ hy))
        exact this qs fun z hz => hp.mem_iff.mp hz
      refine s.newLst st ?_ e4 k p hl
      rw [List.length_map, hp.length_eq]
      simpa using h2
    · cases hf
  · cases hf
section
variable {F : Fx} {W : WX} {X : Cx} {a : Expr} {ma : ME} {pos pp : Pos}
theorem te_sortedL0 (hu : X.A.units + 64 < cLine) (st : Stab F) (hK : X.K = F.K) (hg : Gl X "sorted") (hm : X.mg "sorted" = none) (ha : PE X a (TrE F W ma)) (he : starEach [a] X.env = (false, eval a X.env) :: starEach [] X.env) : PE X (.Call (.Name "sorted" pp) [a] [] pos) (TrE F W (mOp opSortedL0 [ma])) :=
  te_call1 st (cr_sortedL0 hu) (hK ▸ op1_sortedL0 st) hg hm (by rfl) ha (by decide) (by decide) he
end
end M

/-! Sound44: sorted of the set of a list's few ints. -/
namespace M
open PySem L2
open PySem (Str)
open PySem.Spec PyProof.Rows
/-- a set as it is born -/
def bornSet (w : World) : Obj := { cls := .type "set", dict := none, data := .set #[] 0 (.fresh 0 0 (!w.params.followText "set-order")) }
theorem seen_few {ns : List Int} (h : ∀ x ∈ ns, 0 ≤ x ∧ x < 60) : (ns.foldl seen []).length ≤ 60 := by
  have sub : ∀ x ∈ ns.foldl seen [], x ∈ (List.range 60).map Int.ofNat := fun x hx => by
    have hx := (seen_mem ns [] x).mp hx
    have := h x (by simpa using hx)
    exact List.mem_map.mpr ⟨x.toNat, List.mem_range.mpr (by omega), by show ((x.toNat : Nat) : Int) = x; omega⟩
  have key : ∀ (xs ys : List Int), xs.Nodup → (∀ x ∈ xs, x ∈ ys) → xs.length ≤ ys.length := by
    intro xs
    induction xs with
    | nil => intro ys _ _; simp
    | cons x xs ih =>
      intro ys nd hs
      have hm := hs x (List.mem_cons_self ..)
      have := ih (ys.erase x) (List.nodup_cons.mp nd).2 fun y hy => by
        have hne : y ≠ x := fun e => (List.nodup_cons.mp nd).1 (e ▸ hy)
        exact (List.mem_erase_of_ne hne).mpr (hs y (List.mem_cons_of_mem _ hy))
      rw [List.length_erase_of_mem hm] at this
      have := List.length_pos_of_mem hm
      simp only [List.length_cons]
      omega
  have := key _ _ (seen_nodup ns [] List.nodup_nil) sub
  simpa using this
section
variable {P : Program} {w : World} {A : Around} {E : Value → Shared → Prop} {s : Shared}
theorem bornSet_R {h : Heap} {a : Addr} (ho : h.get? a = some (bornSet w)) : ∃ c, SetR w h a (fun j => decide (j ∈ ([] : List Int))) c := ⟨0, setR_new_at (ns := []) ho⟩
theorem setLoop {I S : Addr} {fp wr : List Addr} {Pv : Nat → Value → Prop} {St : Nat → Shared → Prop} {ns : List Int} {n : Nat} {R : Result → Shared → Prop} (W : WalksS P w A.in1 I fp wr (fun a b => b = a) n Pv St) (hS : S ∉ fp)
    (h60 : ∀ x ∈ ns, 0 ≤ x ∧ x < 60) (hn : ns.length = n) (hv : ∀ i v, Pv i v → ∃ k t, ns[i]? = some k ∧ v = .int k t) :
    ∀ (m i : Nat) (s : Shared), i + m = n → St i s → (∃ c, SetR w s.heap S (fun j => decide (j ∈ ns.take i)) c) →
      (∀ h' tk c, (∀ b o, b ≠ S → b ∉ wr → s.heap.get? b = some o → h'.get? b = some o) → SetR w h' S (fun j => decide (j ∈ ns)) c → R (.ok (.ret .none)) { s with heap := h', toks := tk }) →
      codeAny (model P w) A (.builtin "set.update.loop" ⟨[.ref S, .ref I], []⟩) R s := by
  intro m
  induction m with
  | zero =>
    rintro i s rfl st ⟨c, r⟩ k
    refine codeAny_builtin PyProof.Rows.F.entry_set_update_loop ?_
    rw [PySem.Around.under_plainId PyProof.Rows.F.plain_set_update_loop]
    show wpAny (model P w) A.in1 (pyNext (.ref I) >>= fun _ => _) _ _ s
    refine wpAny_bind (W.done s _ _ st fun s2 mv => wpAny_pure ?_)
    rw [mv.eq_with]
    refine k s2.heap s2.toks c (fun b o _ hb e => mv.heap b o hb e) ?_
    have r := r.at (h' := s2.heap) fun o e => mv.heap S o (fun q => hS (W.sub S q)) e
    rw [List.take_of_length_le (by omega)] at r
    exact r
  | succ m ih =>
    rintro i s e st ⟨c, r⟩ k
    refine codeAny_builtin PyProof.Rows.F.entry_set_update_loop ?_
    rw [PySem.Around.under_plainId PyProof.Rows.F.plain_set_update_loop]
    show wpAny (model P w) A.in1 (pyNext (.ref I) >>= fun _ => _) _ _ s
    refine wpAny_bind (W.item i s _ _ (by omega) st fun v s2 pv st2 mv => ?_)
    obtain ⟨z, t, hz, rfl⟩ := hv i v pv
    have r2 := r.at (h' := s2.heap) fun o e => mv.heap S o (fun q => hS (W.sub S q)) e
    have few : c ≤ 60 := by
      rw [setR_card r2]
      exact seen_few fun x hx => h60 x (List.mem_of_mem_take hx)
    show wpAny (model P w) A.in1 (holding [Value.int z t] (setAdd S (.int z t)) >>= fun _ => _) _ _ s2
    refine wpAny_bind (wpAny_holding ?_)
    unfold setAdd
    refine wpAny_holding (wpAny_bind ((intKind P w).pyHash (k := z) (intKind_is _ _ _ _) ?_))
    refine setR_add_hashed (s := { s2 with toks := s2.toks + 1 }) r2 (by unfold scanBound; omega) fun h3 sb r3 => wpAny_pure ⟨PySem.Code.quiet_builtin _ (by decide +kernel), ?_⟩
    refine ih (i + 1) { s2 with heap := h3, toks := s2.toks + 1 } (by omega) (W.frame _ s2 _ _ st2 (Nat.le_succ _) fun b hb o q => (sb.2 b fun z => hS (z ▸ hb)).trans q) ⟨_, r3.congr fun j => ?_⟩ fun h4 tk4 c4 k4 r4 => ?_
    · rw [List.take_add_one, hz]
      simp [List.mem_append]
    · have e2 := mv.eq_with
      have := k h4 tk4 c4 (fun b o hb hw q => k4 b o hb hw ((sb.2 b hb).trans (mv.heap b o hw q))) r4
      rw [e2]
      exact this
theorem setInit {S l : Addr} {items : Array Value} {ns : List Int} {R : PySem.Fin → Shared → Prop} (hh : A.handled = none) (hS : s.heap.get? S = some (bornSet w)) (hl : s.heap.IsList l items) (hi : IntsAre items.toList ns) (h60 : ∀ x ∈ ns, 0 ≤ x ∧ x < 60)
    (k : ∀ h' tk c, (∀ b o, b ≠ S → s.heap.get? b = some o → h'.get? b = some o) → SetR w h' S (fun j => decide (j ∈ ns)) c → R (.done (.ret .none)) { s with heap := h', toks := tk }) :
    wpAny (model P w) A (Builtin.«set.__init__» ⟨[.ref S, .ref l], []⟩) R E s := by
  have hsz : ns.length = items.size := by
    have := hi.length
    simpa using this.symm
  have hSl : l ≠ S := by
    rintro rfl
    obtain ⟨o, ho, hc, _⟩ := hl
    rw [hS] at ho
    cases ho
    exact absurd (Value.type.inj hc) (by decide)
  have lS := Heap.lt_size hS
  obtain ⟨⟨cls, dd, data, sl⟩, ho, hc, ep, hd⟩ := id hl
  simp only at hc hd
  subst hc hd
  have a1 := PySem.F.sub_list_set
  have a2 := PySem.F.sub_list_frozenset
  have a3 : (Value.type "list" == Value.type "dict") = false := by decide
  unfold Builtin.«set.__init__» noKeywords Builtin.Frozenset.updateFrom
  generalize ei : pyIter = it
  wp_walk
  subst ei
  have hit : Heap.get? (s.heap.push { cls := .type "list_iterator", data := .fields #[.ref l, .int 0 0] }) S = some (bornSet w) := Heap.get?_push_of_some _ hS
  have hll := hl.push { cls := .type "list_iterator", data := .fields #[.ref l, .int 0 0] }
  have ll := Heap.lt_size ho
  have off : S ∉ [s.heap.objs.size, l] := by
    simp only [List.mem_cons, List.not_mem_nil, or_false, not_or]
    exact ⟨Nat.ne_of_lt lS, fun q => hSl q.symm⟩
  refine wpAny_pyIter_list hl (wpAny_bind (wpAny_runValue ?_))
  refine setLoop (WalksS.of_in1 (Walks.list (A := A.in1.in1) (by simp [hh]) s.heap.objs.size l (Nat.ne_of_lt ll) items).toS) off h60 hsz (fun i v hv => ?_) items.size 0 _ (by omega) ⟨⟨_, Heap.get?_push_size _ rfl, rfl, rfl⟩, hll⟩ (bornSet_R hit) fun h' tk c keep r => ?_
  · obtain ⟨lt, _⟩ := Array.getElem?_eq_some_iff.mp hv
    obtain ⟨t, e⟩ := hi.int_at i v (by rw [Array.getElem?_toList]; exact hv)
    have lt' : i < ns.length := by omega
    refine ⟨ns[i], t, List.getElem?_eq_getElem lt', ?_⟩
    rw [e, List.getD_eq_getElem?_getD, List.getElem?_eq_getElem lt']
    rfl
  · refine wpAny_pure ?_
    show wpAny (model P w) A (ret Value.none) R E _
    exact wpAny_pure (k h' tk c (fun b o hb e => keep b o hb (by simpa using Nat.ne_of_lt (Heap.lt_size e)) (Heap.get?_push_of_some _ e)) r)
theorem setCall {l : Addr} {items : Array Value} {ns : List Int} {Q : Value → Shared → Prop} (hh : A.handled = none) (hl : s.heap.IsList l items) (hi : IntsAre items.toList ns) (h60 : ∀ x ∈ ns, 0 ≤ x ∧ x < 60)
    (k : ∀ h' tk c, (∀ b o, s.heap.get? b = some o → h'.get? b = some o) → SetR w h' s.heap.objs.size (fun j => decide (j ∈ ns)) c → Q (.ref s.heap.objs.size) { s with heap := h', toks := tk }) :
    wpAny (model P w) A (call (.type "set") [.ref l]) Q E s := by
  obtain ⟨c, tl, m1⟩ := PySem.F.called_set.mro
  have m2 := PySem.F.called_set.made
  have m3 := PySem.F.called_set.sub
  have m4 := PySem.F.called_set.notType
  have m5 := PySem.F.called_set.canCreate
  have m6 := PySem.F.typeCall_set_1 (.ref l)
  refine wpAny_call (codeAny_of_tree ?_)
  show wpAny (model P w) _ (callAny (.type "set") _) _ _ s
  refine wpAny_pure ⟨PySem.Code.quiet_builtin _ (by decide +kernel), ?_⟩
  refine codeAny_builtin PySem.F.entry_type_call ?_
  rw [PySem.Around.under_plain (weight_type_call_type "set" [.ref l] []) rfl]
  repeat (any_goals (first | assumption | wp_step))

  refine codeAny_mono (code_set_led1 (.ref l) (E := E) (Q₁ := fun obj s₁ => obj = .ref s.heap.objs.size ∧ s₁ = { s with heap := s.heap.push (bornSet w) }) ⟨rfl, rfl⟩) fun r s₁ hr => ?_
  cases r with
  | error e => exact hr
  | ok fl =>
    cases fl with
    | ret obj =>
      obtain ⟨rfl, rfl⟩ := hr
      have hS : (s.heap.push (bornSet w)).get? s.heap.objs.size = some (bornSet w) := Heap.get?_push_size _ rfl
      have hT : Shared.TypeIs { s with heap := s.heap.push (bornSet w) } (.ref s.heap.objs.size) "set" := ⟨_, hS, rfl⟩
      have hli := PySem.F.called_set.init.lookup
      have hbi := PySem.F.called_set.init.bind (.ref s.heap.objs.size)
      repeat (any_goals (first | assumption | wp_step))

      refine codeAny_mono (codeAny_call_builtin (R := wants (fun r s₂ => r = .none ∧ ∃ h' tk c, s₂ = { s with heap := h', toks := tk } ∧ SetR w h' s.heap.objs.size (fun j => decide (j ∈ ns)) c ∧
          (∀ b o, s.heap.get? b = some o → h'.get? b = some o)) E) PySem.F.called_set.init.plain PySem.F.entry_set_init (check_set_init_1 hT ?_)) fun r₂ s₂ hr₂ => ?_
      · refine setInit (by simp [hh]) hS (hl.push _) hi h60 fun h' tk c keep R => ?_
        refine ⟨rfl, h', tk, c, rfl, R, fun b o e => keep b o (Nat.ne_of_lt (Heap.lt_size e)) (Heap.get?_push_of_some _ e)⟩
      · cases r₂ with
        | error e => exact hr₂
        | ok fl₂ =>
          cases fl₂ with
          | ret r =>
            obtain ⟨rfl, h', tk, c, rfl, hS', hk'⟩ := hr₂
            repeat (any_goals (first | assumption | wp_step))
            exact k _ _ _ hk' hS'
          | _ => exact hr₂.elim
    | _ => exact hr.elim
end
section
variable {F : Fx} {W : WX} {X : Cx} {a : Expr} {ma : ME} {pos pp p2 q : Pos}
def rSortedSetL (K : PySem.W.Frag) : V → Hp → VK → Prop := fun x H Q => ∃ (l : Addr) (ns : List Int), x = V.ref l ∧ SqL K H l (ns.map V.int) ∧ (∀ x ∈ ns, 0 ≤ x ∧ x < 60) ∧
  ∀ (ms : List Int) (p : Addr), ms.Pairwise (· < ·) → (∀ k : Int, k ∈ ms ↔ k ∈ ns) → ms.length < 64 → H p = none → Q (.ref p) (upd H p (.lst (ms.map V.int)))
theorem pe_sortedSetL {ta : TE} (hc : X.calm = true) (hg : Gl X "sorted") (hm : X.mg "sorted" = none) (hg2 : Gl X "set") (hm2 : X.mg "set" = none) (ha : PE X a ta)
    (na : starEach [a] X.env = (false, eval a X.env) :: starEach [] X.env := by rfl) : PE X (.Call (.Name "sorted" pp) [.Call (.Name "set" p2) [a] [] q] [] pos) (fun σ H Q => ta σ H fun x H1 => rSortedSetL X.K x H1 Q) := by
  refine ⟨fun pins s σ H Q I h => ?_⟩
  refine Call_ (ld_blt I hg hm PyProof.Rows.boot_sorted ?_)
  refine PyProof.Rows.callWith_builtin1 (PyProof.Rows.args_cons ?_ rfl) rfl rfl
  refine Call_ (ld_blt I hg2 hm2 PyProof.Rows.boot_set ?_)
  refine PyProof.Rows.callWith_type1 (PyProof.Rows.args_cons (thn (ha.run pins s σ H _ I h) fun v s1 ⟨x, H1, I1, r1, q1⟩ => PyProof.Rows.args_nil ?_) na) na rfl
  obtain ⟨l, ns, rfl, hq, h1, q1⟩ := q1
  cases r1
  obtain ⟨its, r, pl, hz⟩ := I1.list hq
  refine setCall (I1.ok.hd hc) pl.isList (by simpa using r.ints) h1 fun h' tk c hk R => ?_
  have hcard := setR_card R
  have few := seen_few h1
  refine PyProof.Rows.args_nil ?_
  have I2 : Inv X pins σ H1 { s1 with heap := h', toks := tk } := I1.kept fun b o e => hk b o e
  refine sorted_set R (I2.ok.hd hc) (by omega) fun s' p out c2 ms k g o hp hg hi hs hm hl => ?_
  have hlen : (ms.map V.int).length ≤ sizeLine := by rw [List.length_map, hl, sizeLine_eq]; omega
  have hn : H1 p = none := I2.hok.fresh hp
  have J : Inv X pins σ (upd H1 p (.lst (ms.map V.int))) { s1 with heap := s'.heap, gens := s'.gens, drawn := s'.drawn, toks := s'.toks } :=
    Inv.call (s := { s1 with heap := h', toks := tk }) (ch := []) I2 (Un.laid k hp hn) (I2.hok.laid k hp ⟨hlen, out.toList, c2, vals_of_ints hi, hg⟩) (by rw [g]; exact I2.bare) (fun _ z => nomatch z)
  have e : s' = { s1 with heap := s'.heap, gens := s'.gens, drawn := s'.drawn, toks := s'.toks } := by
    obtain ⟨h3, g3, d3, t3, o3⟩ := s'
    have : o3 = s1.os := o
    subst this
    rfl
  rw [e]
  exact ⟨.ref p, _, J, rfl, q1 ms p hs (fun j => by rw [hm j]; simp) (by omega) hn⟩
theorem sorted_uniq {xs ys : List Int} (h1 : xs.Pairwise (· < ·)) (h2 : ys.Pairwise (· < ·)) (h : ∀ k, k ∈ xs ↔ k ∈ ys) : xs = ys := by
  have n1 : xs.Nodup := h1.imp fun h => Int.ne_of_lt h
  have n2 : ys.Nodup := h2.imp fun h => Int.ne_of_lt h
  exact List.Perm.eq_of_pairwise (le := fun a b => a < b) (fun a b _ _ q1 q2 => absurd (Int.lt_trans q1 q2) (Int.lt_irrefl _)) h1 h2 ((List.perm_ext_iff_of_nodup n1 n2).mpr h)
theorem op1_sortedSetL (st : Stab F) : Op1 F opSortedSet (rSortedSetL F.K) := by
  intro B ρ e S σ H x v r Q s hx hf k
  unfold opSortedSet at hf
  split at hf
  · rename_i xs q
    cases q
    obtain ⟨a, vs, rfl, h1, h2, h3⟩ := hx.lst
    split at hf
    · rename_i ns hn
      split at hf
      · rename_i hall
        cases hf
        have := intsOf_reps hn h3
        subst this
        have hall : ∀ x ∈ ns, 0 ≤ x ∧ x < 60 := fun x hx => by
          have := List.all_eq_true.mp hall x hx
          simpa using this
        refine ⟨a, ns, rfl, SqL.of h1, hall, fun ms p hs hm hl hp => ?_⟩
        have e : ms = ((List.range 60).map Int.ofNat).filter fun i => decide (i ∈ ns) := by
          refine sorted_uniq hs (List.Pairwise.filter _ (List.pairwise_map.mpr (List.pairwise_lt_range.imp fun h => Int.ofNat_lt.mpr h))) fun k => ?_
          rw [hm, List.mem_filter, List.mem_map]
          constructor
          · intro hk
            have := hall k hk
            exact ⟨⟨k.toNat, List.mem_range.mpr (by omega), by show ((k.toNat : Nat) : Int) = k; omega⟩, by simpa using hk⟩
          · rintro ⟨_, hk⟩
            simpa using hk
        rw [← e] at k
        refine s.newLst st ?_ (reps_ints ms) k p hp
        rw [List.length_map]
        unfold LIM
        omega
      · cases hf
    · cases hf
  · cases hf
theorem te_sortedSet (st : Stab F) (hK : X.K = F.K) (hc : X.calm = true) (hg : Gl X "sorted") (hm : X.mg "sorted" = none) (hg2 : Gl X "set") (hm2 : X.mg "set" = none) (ha : PE X a (TrE F W ma)) (he : starEach [a] X.env = (false, eval a X.env) :: starEach [] X.env) :
    PE X (.Call (.Name "sorted" pp) [.Call (.Name "set" p2) [a] [] q] [] pos) (TrE F W (mOp opSortedSet [ma])) :=
  PE_imp (pe_sortedSetL hc hg hm hg2 hm2 ha he) fun σ H Q h => te_un st (hK ▸ op1_sortedSetL st) h
end
end M

/-! Sound45: the dict of a list of pairs (int, x); k in a dict. -/
namespace M
open PySem L2
open PySem (Str)
open PySem.Spec PyProof.Rows
/-- a pair of the denotation, a pair of the dict -/
def PRel (F : Fx) (X : Addr → Prop) (H : Hp) (p : Int × M.D) (q : Key × V) : Prop := q.1 = .inl p.1 ∧ Rep F X H p.2 q.2
theorem pr_any {F : Fx} {X : Addr → Prop} {H : Hp} {k : Int} : ∀ {m : List (Int × M.D)} {ks : List (Key × V)}, Paired (PRel F X H) m ks → (ks.any fun kv => decide (kv.1 = .inl k)) = m.any fun p => decide (p.1 = k)
  | _, _, .nil => rfl
  | _, _, .cons (a := p) (b := q) h t => by
    rw [List.any_cons, List.any_cons, pr_any t]
    have : decide (q.1 = .inl k) = decide (p.1 = k) := by
      rw [h.1]
      by_cases c : p.1 = k
      · rw [c]; simp
      · rw [decide_eq_false c, decide_eq_false fun z => c (by cases z; rfl)]
    rw [this]
theorem pr_map {F : Fx} {X : Addr → Prop} {H : Hp} {k : Int} {x : M.D} {v : V} (hx : Rep F X H x v) : ∀ {m : List (Int × M.D)} {ks : List (Key × V)}, Paired (PRel F X H) m ks →
    Paired (PRel F X H) (m.map fun p => if p.1 = k then (p.1, x) else p) (ks.map fun kv => if kv.1 = .inl k then (kv.1, v) else kv)
  | _, _, .nil => .nil
  | _, _, .cons (a := p) (b := q) h t => by
    rw [List.map_cons, List.map_cons]
    refine .cons ?_ (pr_map hx t)
    by_cases c : p.1 = k
    · rw [if_pos c, if_pos (by rw [h.1, c])]
      exact ⟨h.1, hx⟩
    · rw [if_neg c, if_neg fun z => c (by rw [h.1] at z; cases z; rfl)]
      exact h
theorem pr_app {F : Fx} {X : Addr → Prop} {H : Hp} {p : Int × M.D} {q : Key × V} (hx : PRel F X H p q) : ∀ {m : List (Int × M.D)} {ks : List (Key × V)}, Paired (PRel F X H) m ks → Paired (PRel F X H) (m ++ [p]) (ks ++ [q])
  | _, _, .nil => .cons hx .nil
  | _, _, .cons h t => .cons h (pr_app hx t)
theorem pr_put {F : Fx} {X : Addr → Prop} {H : Hp} {k : Int} {x : M.D} {v : V} (hx : Rep F X H x v) {m : List (Int × M.D)} {ks : List (Key × V)} (h : Paired (PRel F X H) m ks) : Paired (PRel F X H) (putI m k x) (L2.putK ks (.inl k) v) := by
  unfold putI L2.putK
  rw [pr_any h]
  split
  · exact pr_map hx h
  · exact pr_app ⟨rfl, hx⟩ h
theorem pr_merge {F : Fx} {X : Addr → Prop} {H : Hp} : ∀ {m2 : List (Int × M.D)} {k2 : List (Key × V)} {m : List (Int × M.D)} {ks : List (Key × V)}, Paired (PRel F X H) m2 k2 → Paired (PRel F X H) m ks → Paired (PRel F X H) (mergeI m m2) (mergeK ks k2)
  | _, _, m, ks, .nil, h => h
  | _, _, m, ks, .cons (a := p) (b := q) h1 t, h => by
    show Paired _ (mergeI (putI m p.1 p.2) _) (mergeK (L2.putK ks q.1 q.2) _)
    refine pr_merge t ?_
    rw [h1.1]
    exact pr_put h1.2 h
theorem pr_keys {F : Fx} {X : Addr → Prop} {H : Hp} : ∀ {m : List (Int × M.D)} {ks : List (Key × V)}, Paired (PRel F X H) m ks → (m.map fun p => M.D.int p.1).map keyD = ks.map fun p => some p.1
  | _, _, .nil => rfl
  | _, _, .cons (a := p) (b := q) h t => by
    rw [List.map_cons, List.map_cons, List.map_cons, pr_keys t, h.1]
    rfl
theorem pr_reps {F : Fx} {X : Addr → Prop} {H : Hp} : ∀ {m : List (Int × M.D)} {ks : List (Key × V)}, Paired (PRel F X H) m ks → Reps F X H (m.map (·.2)) (ks.map (·.2))
  | _, _, .nil => Reps.nil
  | _, _, .cons h t => Reps.cons h.2 (pr_reps t)
theorem pairsI_reps {F : Fx} {X : Addr → Prop} {H : Hp} : ∀ {xs : List M.D} {ps : List (Int × M.D)} {vs : List V}, pairsI xs = some ps → Reps F X H xs vs →
    ∃ (as : List Addr) (kvs : List (Key × V)), vs = as.map V.ref ∧ Paired (fun p kv => SqT F.K H p [kV kv.1, kv.2]) as kvs ∧ Paired (PRel F X H) ps kvs
  | [], ps, vs, h, hr => by
    unfold pairsI at h
    cases h
    have : vs = [] := List.eq_nil_of_length_eq_zero hr.length
    subst this
    exact ⟨[], [], rfl, .nil, .nil⟩
  | x :: xs, ps, vs, h, hr => by
    rw [Reps] at hr
    obtain ⟨v, vs, rfl, hv, hr2⟩ := hr
    unfold pairsI at h
    split at h
    · rename_i q; cases q
    · rename_i k y r q
      injection q with q1 q2
      subst q1 q2
      split at h
      · rename_i qs h1
        cases h
        obtain ⟨as, kvs, i1, i2, i3⟩ := pairsI_reps h1 hr2
        rw [Rep] at hv
        obtain ⟨t, ws, rfl, e1, e2, e3⟩ := hv
        rw [Reps] at e3
        obtain ⟨v1, ws1, rfl, f1, e3⟩ := e3
        rw [Reps] at e3
        obtain ⟨v2, ws2, rfl, f2, e3⟩ := e3
        have e4 : ws2 = [] := List.eq_nil_of_length_eq_zero e3.length
        subst e4
        subst f1
        exact ⟨t :: as, (.inl k, v2) :: kvs, by rw [i1]; rfl, .cons e1 i2, .cons ⟨rfl, f2⟩ i3⟩
      · cases h
    · cases h
/-- a new dict -/
theorem Sim.newDct {F : Fx} {B : Addr → Prop} {ρ : Nat → Addr} {e : Env} {S : Sto} {σ : L2.St} {H : Hp} {Q : VK} (st : Stab F) (s : Sim F B ρ e S σ H) {m : List (Int × M.D)} {kvs : List (Key × V)} (hl : kvs.length ≤ LIM) (h : Paired (PRel F (Ex B ρ S) H) m kvs)
    (k : ∀ v H', Sim F (addR B (.f (.k (m.map fun p => M.D.int p.1) (m.map (·.2)))) v) ρ e S σ H' → ExtE ρ S H S H' → RepR F B ρ S H H' (.f (.k (m.map fun p => M.D.int p.1) (m.map (·.2)))) v → Q v H') (p : Addr) (hp : H p = none) : Q (.ref p) (upd H p (.dK kvs)) := by
  refine k _ _ (s.alloc st hp (fun ps z => by cases z)) (ExtE.alloc hp) ⟨p, rfl, Nw.of hp, ?_, kvs.map (·.2), .inl ⟨kvs, upd_same, pr_keys h, rfl⟩, by rw [List.length_map]; exact hl, reps_alloc st hp (pr_reps h) ?_⟩
  · rintro (z | ⟨n, q, z⟩)
    · exact s.bt p z (Nw.of hp)
    · cases hc : cellOf S n with
      | none => exact q hc
      | some c =>
        obtain ⟨o', e', _⟩ := (s.cell n c hc).at_
        rw [z, hp] at e'; cases e'
  · rintro a ((z | z) | z)
    · exact .inl (.inl z)
    · injection z with z; exact .inr z.symm
    · exact .inl (.inr z)
def rDictP (K : PySem.W.Frag) : List V → Hp → VK → Prop := fun xs H Q => ∃ (a : Addr) (ps : List Addr) (kvs : List (Key × V)), xs = [.ref a] ∧ SqL K H a (ps.map V.ref) ∧ Paired (fun p kv => SqT K H p [kV kv.1, kv.2]) ps kvs ∧
    ∀ p, H p = none → Q (.ref p) (upd H p (.dK (mergeK [] kvs)))
theorem paired_len {α β : Type} {R : α → β → Prop} : ∀ {xs : List α} {ys : List β}, Paired R xs ys → xs.length = ys.length
  | _, _, .nil => rfl
  | _, _, .cons _ t => by rw [List.length_cons, List.length_cons, paired_len t]
theorem op1_dictP {F : Fx} (st : Stab F) : Op1 F opDictP (fun v H Q => rDictP F.K [v] H Q) := by
  intro B ρ e S σ H x v r Q s hx hf k
  unfold opDictP at hf
  split at hf
  · rename_i xs q
    cases q
    obtain ⟨a, vs, rfl, h1, h2, h3⟩ := hx.lst
    split at hf
    · rename_i ps hn
      cases hf
      obtain ⟨as, kvs, rfl, i2, i3⟩ := pairsI_reps hn h3
      refine ⟨a, as, kvs, rfl, SqL.of h1, i2, fun p hp => ?_⟩
      have hm := pr_merge i3 (.nil : Paired (PRel F (Ex B ρ S) H) [] [])
      refine s.newDct st ?_ hm k p hp
      have := length_mergeK kvs []
      have := paired_len i2
      rw [List.length_map] at h2
      simp only [List.length_nil] at *
      omega
    · cases hf
  · cases hf
theorem op2_inK {F : Fx} : Op2 F opInK fun y x H Q => ∃ a o, x = .ref a ∧ DGet H a y o ∧ Q (.bl o.isSome) H := by
  intro B ρ e S σ H x y v w r Q s hx hy hf k
  unfold opInK at hf
  split at hf
  · rename_i kk ks us q
    cases q
    split at hf
    · rename_i ns hns
      cases hf
      have hy : ∃ a vs, w = .ref a ∧ DctAt H a ks vs ∧ vs.length ≤ LIM ∧ Reps F _ H us vs := hy
      obtain ⟨a, vs, rfl, d1, d2, d3⟩ := hy
      obtain ⟨ps, q1, q2, q3⟩ := dct_ints hns d1
      have ew := hx.int
      subst ew
      have ea := any_key (k := kk) q2
      have ev := valV_any (Sum.inl kk : Key) ps
      refine ⟨a, _, rfl, DGet.k (k := .inl kk) q1, ?_⟩
      rw [← ev, ea]
      exact k.bl s
    · cases hf
  · cases hf
section
variable {F : Fx} {W : WX} {X : Cx} {a b : Expr} {ma mb : ME} {pp pos : Pos}
theorem te_dictP (st : Stab F) (hK : X.K = F.K) (hc : X.calm = true) (hg : Gl X "dict") (hm : X.mg "dict" = none) (ha : PE X a (TrE F W ma)) (he : starEach [a] X.env = (false, eval a X.env) :: starEach [] X.env) : PE X (.Call (.Name "dict" pp) [a] [] pos) (TrE F W (mOp opDictP [ma])) :=
  te_callT1 (rr := rDictP X.K) st (call_dictP hc) (hK ▸ op1_dictP st) hg hm (by rfl) ha (by decide) (by decide) he
theorem te_inK (hu : X.A.units + 64 < cLine) (st : Stab F) (hm : behindInMarks .In b = false) (ha : PE X a (TrE F W ma)) (hb : PE X b (TrE F W mb)) : PE X (.Compare a [.In] [b] pos) (TrE F W (mOp opInK [ma, mb])) :=
  PE_imp (pe_cmp (pc_din (by omega) ha hb) hm) fun σ H Q h => te_bin st op2_inK h
theorem tb_inK (hu : X.A.units + 64 < cLine) (st : Stab F) (hm : behindInMarks .In b = false) (ha : PE X a (TrE F W ma)) (hb : PE X b (TrE F W mb)) : PT X (.Compare a [.In] [b] pos) (TrB F W (mOp opInK [ma, mb])) :=
  PT_imp (pt_cmp (pc_din (by omega) ha hb) hm) fun σ H Q h => te_bin st op2_inK h.toE
end
end M

/-! Sound46: min of a list of tuples of ints. -/
namespace M
open PySem L2
open PySem (Str)
open PySem.Spec PyProof.Rows
open PySem.W (Tup Holds HoldAll)
theorem listLt_lexL : ∀ xs ys : List Int, PySem.W.listLt xs ys = lexL xs ys
  | [], [] => by unfold lexL PySem.W.listLt; rfl
  | [], _ :: _ => by unfold lexL PySem.W.listLt; rfl
  | _ :: _, [] => by unfold lexL PySem.W.listLt; rfl
  | x :: xs, y :: ys => by
    unfold lexL PySem.W.listLt
    rw [listLt_lexL xs ys]
    rfl
theorem minR_mem : ∀ (rs : List (List Int)) (r : List Int), minR r rs ∈ r :: rs
  | [], r => by simp [minR]
  | x :: xs, r => by
    unfold minR
    have := minR_mem xs (if lexL x r then x else r)
    rcases List.mem_cons.mp this with h | h
    · rw [h]
      split <;> simp
    · simp [h]
theorem minR_le : ∀ (rs : List (List Int)) (r : List Int), ∀ y ∈ r :: rs, lexL y (minR r rs) = false
  | [], r => by
    intro y hy
    have : y = r := by simpa using hy
    subst this
    exact lexL_refl _
  | x :: xs, r => by
    intro y hy
    unfold minR
    have h0 := minR_le xs (if lexL x r then x else r) _ (List.mem_cons_self ..)
    rcases List.mem_cons.mp hy with rfl | hy
    · split at h0 <;> rename_i c
      · rw [if_pos c]
        exact lexL_tr _ _ _ h0 (lexL_asym _ _ c)
      · rw [if_neg c]; exact h0
    · rcases List.mem_cons.mp hy with rfl | hy
      · split at h0 <;> rename_i c
        · rw [if_pos c]; exact h0
        · rw [if_neg c]
          exact lexL_tr _ _ _ h0 (by simpa using c)
      · exact minR_le xs _ y (List.mem_cons_of_mem _ hy)
theorem minOf_minR (r : Tup Int) : ∀ rs : List (Tup Int), (PySem.W.minOf r rs).items = minR r.items (rs.map (·.items))
  | [] => rfl
  | x :: rs => by
    show (PySem.W.minOf (if PySem.W.DatumOrd.lt x r = true then x else r) rs).items = _
    rw [minOf_minR _ rs, List.map_cons]
    conv => rhs; unfold minR
    have e : PySem.W.DatumOrd.lt x r = lexL x.items r.items := listLt_lexL _ _
    rw [e]
    split <;> rfl
section
variable {X : Cx}
/-- min(xs), xs a list of tuples of ints -/
def rMinR (K : PySem.W.Frag) : List V → Hp → VK → Prop := fun vs H Q => ∃ (a : Addr) (ps : List (V × List Int)) (r : List Int) (rs : List (List Int)), vs = [V.ref a] ∧ SqL K H a (ps.map (·.1)) ∧ ps.map (·.2) = r :: rs ∧ (∀ p ∈ ps, ∃ t, p.1 = V.ref t ∧ SqT K H t (p.2.map V.int)) ∧
  ∀ p ∈ ps, p.2 = minR r rs → Q p.1 H
theorem rows_hold {pins : List (Addr × Obj)} {σ : L2.St} {H : Hp} {s : Shared} (I : Inv X pins σ H s) : ∀ {ps : List (V × List Int)} {us : List Value}, Vals (ps.map (·.1)) us → (∀ p ∈ ps, ∃ t, p.1 = V.ref t ∧ SqT X.K H t (p.2.map V.int)) → HoldAll s.heap us (ps.map fun p => Tup.mk p.2)
  | [], _, .nil, _ => HoldAll.nil
  | p :: ps, u :: us, .cons r t, h => by
    obtain ⟨a, e, ht⟩ := h p List.mem_cons_self
    have r : L2.RelV p.1 u := r
    rw [e] at r
    obtain rfl : u = Value.ref a := r
    obtain ⟨its2, r2, ⟨o, ho, hc, n, hd⟩, _⟩ := I.tuple ht
    have hi : IntsAre its2.toArray.toList p.2 := r2.ints
    exact HoldAll.cons (PySem.W.holds_tup ⟨o, ho, hc, n, hd⟩ (HoldAll.of_ints hi)) (rows_hold I t fun q hq => h q (List.mem_cons_of_mem _ hq))
theorem ints_same : ∀ {vs : List Value} {ns ms : List Int}, IntsAre vs ns → IntsAre vs ms → ns = ms
  | _, _, _, .nil, h => by cases h; rfl
  | _, _, _, .cons n t h1, h => by
    cases h with
    | cons m t2 h2 => rw [ints_same h1 h2]
theorem holds_same {h : Heap} {v : Value} {t u : Tup Int} (h1 : Holds h v t) (h2 : Holds h v u) : t = u := by
  obtain ⟨as, h1⟩ := h1
  obtain ⟨bs, h2⟩ := h2
  have h1 : Reads h v (.tuple (t.items.map PySem.W.Datum.toD)) as := h1
  have h2 : Reads h v (.tuple (u.items.map PySem.W.Datum.toD)) bs := h2
  cases h1 with
  | tuple ho hc hd hr =>
    cases h2 with
    | tuple ho2 hc2 hd2 hr2 =>
      rw [ho] at ho2
      cases ho2
      rw [hd] at hd2
      cases hd2
      have i1 := HoldAll.toInts (ns := t.items) ⟨_, hr⟩
      have i2 := HoldAll.toInts (ns := u.items) ⟨_, hr2⟩
      have := ints_same i1 i2
      cases t; cases u
      exact congrArg Tup.mk this
theorem cr_minR (hc : X.calm = true) (hu : X.A.units + 64 < cLine) : CallR X (.builtin "min") (rMinR X.K) := by
  intro pins s σ H vs us Q I r h
  obtain ⟨a, ps, r0, rs, rfl, hs, hps, hx, q⟩ := h
  obtain ⟨its, rv, hl, hz⟩ := I.list hs
  obtain ⟨u, rfl, ru⟩ := vals1 r
  obtain rfl : u = Value.ref a := ru
  have hh := rows_hold I rv hx
  cases ps with
  | nil => cases hps
  | cons p0 ps =>
    injection hps with e1 e2
    subst e1 e2
    refine PySem.W.min_list_datum (α := Tup Int) (x := Tup.mk p0.2) (xs := ps.map fun p => Tup.mk p.2) (I.ok.hd hc) hl.isList (show HoldAll s.heap its.toArray.toList (Tup.mk p0.2 :: ps.map fun p => Tup.mk p.2) from hh) (by show X.A.units + 1 + 1 < cLine; omega) fun i v h' tk hi hv hk => ?_
    obtain ⟨x, hx1, hx2⟩ := HoldAll.at hh (i := i) (v := v) (by simpa using hi)
    have hx3 := holds_same (hx2.keeps hk) hv
    rw [List.getElem?_map, Option.map_eq_some_iff] at hx1
    obtain ⟨p, hp, rfl⟩ := hx1
    have hpm : p ∈ p0 :: ps := List.mem_of_getElem? hp
    obtain ⟨w, hw1, hw2⟩ := rv.get (i := i) (x := p.1) (by rw [List.getElem?_map, hp]; rfl)
    have hvw : w = v := by
      have : its[i]? = some v := by simpa using hi
      rw [this] at hw1
      exact (Option.some.inj hw1).symm
    subst hvw
    have e3 := congrArg Tup.items hx3
    rw [minOf_minR, List.map_map] at e3
    exact ⟨p.1, H, I.kept hk, hw2, q p hpm e3⟩
end
section
variable {F : Fx} {W : WX} {X : Cx} {a : Expr} {ma : ME} {pos pp : Pos}
theorem op1_minR : Op1 F opMinR (fun v H Q => rMinR F.K [v] H Q) := by
  intro B ρ e S σ H x v r Q s hx hf k
  unfold opMinR at hf
  split at hf
  · rename_i xs q
    cases q
    obtain ⟨a, vs, rfl, h1, h2, h3⟩ := hx.lst
    split at hf
    · rename_i r0 rs hr
      cases hf
      obtain ⟨ps, rfl, e1, e2⟩ := rowsOf_reps hr h3
      refine ⟨a, ps, r0, rs, rfl, SqL.of h1, e1.symm, fun p hp => (e2 p hp).1.1, fun p hp e => ?_⟩
      have := (e2 p hp).2
      rw [e] at this
      exact k.dat s this
    · cases hf
  · cases hf
theorem te_minR (hu : X.A.units + 64 < cLine) (st : Stab F) (hK : X.K = F.K) (hc : X.calm = true) (hg : Gl X "min") (hm : X.mg "min" = none) (ha : PE X a (TrE F W ma)) (he : starEach [a] X.env = (false, eval a X.env) :: starEach [] X.env) : PE X (.Call (.Name "min" pp) [a] [] pos) (TrE F W (mOp opMinR [ma])) :=
  te_call1 st (cr_minR hc hu) (hK ▸ op1_minR) hg hm (by rfl) ha (by decide) (by decide) he
end
end M

/-! Sound47: a name takes over another name's list. -/
namespace M
open PySem L2
open PySem (Str)
section
variable {F : Fx} {W : WX} {X : Cx} {B : Addr → Prop} {ρ : Nat → Addr} {e : M.Env} {S : Sto} {σ : L2.St} {H : Hp} {pos p1 p2 : Pos} {i j l k n m : Nat} {y z : Str}
theorem noOther_ne (h : noOther i m e = true) {q : Nat} (hq : q ≠ i) : e[q]? ≠ some (some (A.c m)) := fun w => by
  have w2 : (e.set i none)[q]? = some (some (A.c m)) := by rw [List.getElem?_set_ne (fun z => hq z.symm)]; exact w
  have := List.all_eq_true.mp h _ (List.mem_of_getElem? w2)
  simp at this
/-- two slots change: i has j's cell, j has the dead cell m -/
theorem Sim.swap (s : Sim F B ρ e S σ H) (hij : i ≠ j) (hm : j ∈ F.ml) (hi : i < e.length) (hej : e[j]? = some (some (A.c n))) (hc : cellOf S n ≠ none) (hcm : cellOf S m = none) (hml : m < S.length) (h0 : F.n0 ≤ m) (hu : ∀ q : Nat, q ≠ i → e[q]? ≠ some (some (A.c m))) :
    Sim F B ρ ((e.set j (some (.c m))).set i (some (.c n))) S (σ.set i (some (V.ref (ρ n)))) H := by
  have hnm : n ≠ m := fun z => by subst z; exact hc hcm
  have hjl : j < e.length := (List.getElem?_eq_some_iff.mp hej).1
  have hs : ∀ (q : Nat) (a : Option A), ((e.set j (some (.c m))).set i (some (.c n)))[q]? = some a → (q = i ∧ a = some (.c n)) ∨ (q = j ∧ a = some (.c m)) ∨ (q ≠ i ∧ q ≠ j ∧ e[q]? = some a) := fun q a h => by
    by_cases h1 : i = q
    · subst h1
      rw [List.getElem?_set_self (by simpa using hi)] at h
      exact .inl ⟨rfl, by injection h with h; exact h.symm⟩
    · rw [List.getElem?_set_ne h1] at h
      by_cases h2 : j = q
      · subst h2
        rw [List.getElem?_set_self hjl] at h
        exact .inr (.inl ⟨rfl, by injection h with h; exact h.symm⟩)
      · rw [List.getElem?_set_ne h2] at h
        exact .inr (.inr ⟨fun z => h1 z.symm, fun z => h2 z.symm, h⟩)
  obtain ⟨u0, u1⟩ := s.uq j hm n hej
  refine ⟨by simp [s.len], fun q x h => ?_, fun q c h => ?_, s.cell, s.inj, s.nb, s.bt, fun q hq c h => ?_, s.tb⟩
  · rcases hs q _ h with ⟨_, z⟩ | ⟨_, z⟩ | ⟨h1, h2, z⟩
    · cases z
    · cases z
    · obtain ⟨v, g1, g2⟩ := s.slot q x z
      exact ⟨v, by rw [List.getElem?_set_ne (fun w => h1 w.symm)]; exact g1, g2⟩
  · rcases hs q _ h with ⟨z0, z⟩ | ⟨z0, z⟩ | ⟨h1, h2, z⟩
    · cases z
      subst z0
      exact ⟨(s.slotC j n hej).1, fun _ => List.getElem?_set_self (by rw [s.len]; exact hi)⟩
    · cases z
      exact ⟨hml, fun w => absurd hcm w⟩
    · obtain ⟨g1, g2⟩ := s.slotC q c z
      exact ⟨g1, fun w => by rw [List.getElem?_set_ne (fun w => h1 w.symm)]; exact g2 w⟩
  · rcases hs q _ h with ⟨z0, z⟩ | ⟨z0, z⟩ | ⟨h1, h2, z⟩
    · cases z
      subst z0
      refine ⟨u0, fun q' hq' w => ?_⟩
      rcases hs q' _ w with ⟨y0, _⟩ | ⟨_, y⟩ | ⟨_, y2, y⟩
      · exact hq' y0
      · cases y; exact hnm rfl
      · exact u1 q' y2 y
    · cases z
      subst z0
      refine ⟨h0, fun q' hq' w => ?_⟩
      rcases hs q' _ w with ⟨_, y⟩ | ⟨y0, _⟩ | ⟨y1, _, y⟩
      · cases y; exact hnm rfl
      · exact hq' y0
      · exact hu q' y1 y
    · obtain ⟨g1, g2⟩ := s.uq q hq c z
      refine ⟨g1, fun q' hq' w => ?_⟩
      rcases hs q' _ w with ⟨_, y⟩ | ⟨_, y⟩ | ⟨_, _, y⟩
      · cases y; exact u1 q h2 z
      · cases y; exact hu q h1 z
      · exact g2 q' hq' y
theorem ts_move (st : Stab F) (hN : X.N.Nodup) (hi : X.N[i]? = some y) (hj : X.N[j]? = some z) (hij : i ≠ j) (hx : Loc X.env.scope y) (hz : X.env.scope.names.lookup z = some .local) (hd : (z == ("__debug__" : Str)) = false) (hcd : (z == ("__classdict__" : Str)) = false)
    (hs : swapsWith (.Name z p2) (some (.Name y p1)) pos.line X.env = pure false) (hf : X.fn y = true ∨ X.env.scope.names.lookup y = some .local) (hm : j ∈ F.ml) (hlm : l ∈ F.ml) (hkm : k ∈ F.ml) (hjl : j ≠ l) :
    PS X (.Assign [.Name y p1] (.Name z p2) pos) (TrS F W (mMove i j l k)) :=
  PS_imp (ps_set hN hi hx (pe_var hj (.inl hz) hd hcd) hs hf) fun D σ H h => by
    obtain ⟨B, ρ, e, S, s, hp⟩ := h
    unfold mMove at hp
    split at hp
    · rename_i n b hej hek
      split at hp
      · exact hp.elim
      rename_i hn
      have hc : cellOf S n ≠ none := fun q => hn (by rw [q]; rfl)
      refine ⟨_, var_cell s hej hc, ?_⟩
      split at hp
      · rename_i x hei
        split at hp
        · rename_i m hel
          split at hp
          · exact hp.elim
          rename_i hcm
          have hcm : cellOf S m = none := by simpa using hcm
          obtain ⟨h0, hu⟩ := s.uq l hlm m hel
          have s1 := s.clearE (i := l)
          have s2 := Sim.swap (i := i) (j := j) (n := n) (m := m) s1 hij hm (by rw [List.length_set]; exact (List.getElem?_eq_some_iff.mp hei).1) (by rw [List.getElem?_set_ne (fun w => hjl w.symm)]; exact hej) hc hcm (s.slotC l m hel).1 h0 fun q hq w => by
            by_cases hql : l = q
            · subst hql
              rw [List.getElem?_set_self (List.getElem?_eq_some_iff.mp hel).1] at w
              cases w
            · rw [List.getElem?_set_ne hql] at w
              exact hu q (fun w => hql w.symm) w
          exact hp ρ _ H s2 Ext.refl
        · exact hp.elim
      · rename_i m hei
        split at hp
        · rename_i hb
          obtain ⟨hb, hno⟩ := hb
          have hmn : n ≠ m := fun w => (s.uq j hm n hej).2 i hij (by rw [w]; exact hei)
          have s1 := s.kill st (n := m)
          have hcn : cellOf (S.set m none) n ≠ none := by
            rw [cellOf_set, if_neg fun w => hmn w.1]
            exact hc
          have hml := (s.slotC i m hei).1
          have hcm : cellOf (S.set m none) m = none := by
            rw [cellOf_set, if_pos ⟨rfl, hml⟩]
          have s2 := Sim.swap (i := i) (j := j) (n := n) (m := m) s1 hij hm (List.getElem?_eq_some_iff.mp hei).1 hej hcn hcm (by rw [List.length_set]; exact hml) (Nat.le_trans (s.uq k hkm b hek).1 hb) fun q hq => noOther_ne hno hq
          have x : ExtE ρ S H (S.set m none) H := ⟨by rw [List.length_set], fun q w => (cellOf_kill w).1, fun _ _ _ _ w => w, fun _ w => w⟩
          exact hp ρ _ H s2 x.ext
        · exact hp.elim
      · exact hp.elim
    · exact hp.elim
end
end M

/-! Sound48: a list of the def's own is lent to a call. -/
namespace M
open PySem L2
open PySem (Str)
theorem lset_same {α : Type} {l : List α} {i : Nat} {x : α} (h : l[i]? = some x) : l.set i x = l := by
  refine List.ext_getElem? fun j => ?_
  by_cases c : i = j
  · subst c
    rw [List.getElem?_set_self (List.getElem?_eq_some_iff.mp h).1, h]
  · rw [List.getElem?_set_ne c]
section
variable {F : Fx} {X Y : Addr → Prop} {H : Hp}
mutual
theorem Rep.free : ∀ {x : M.D} {v : V}, lfree x = true → Rep F X H x v → Rep F Y H x v
  | .non, _, _, h => by simpa only [Rep] using h
  | .bl _, _, _, h => by simpa only [Rep] using h
  | .int _, _, _, h => by simpa only [Rep] using h
  | .str _, _, _, h => by simpa only [Rep] using h
  | .tup xs, _, hf, h => by
    simp only [Rep] at h ⊢
    obtain ⟨a, vs, e, h1, h2, h3⟩ := h
    exact ⟨a, vs, e, h1, h2, Reps.free (by simpa [lfree] using hf) h3⟩
  | .lst xs, _, hf, _ => by simp [lfree] at hf
  | .dct ks xs, _, hf, _ => by simp [lfree] at hf
  | .rol xs, _, hf, _ => by simp [lfree] at hf
  | .fn _, _, _, h => by simpa only [Rep] using h
  | .clo _, _, _, h => by simpa only [Rep] using h
  | .exc _, _, _, h => by simpa only [Rep] using h
theorem Reps.free : ∀ {xs : List M.D} {vs : List V}, lfrees xs = true → Reps F X H xs vs → Reps F Y H xs vs
  | [], _, _, h => by simpa only [Reps] using h
  | x :: xs, _, hf, h => by
    simp only [Reps] at h ⊢
    obtain ⟨v, r, e, h1, h2⟩ := h
    have hf : lfree x = true ∧ lfrees xs = true := by simpa [lfrees] using hf
    exact ⟨v, r, e, Rep.free hf.1 h1, Reps.free hf.2 h2⟩
end
theorem CellAt.free {a : Addr} {c : C} (hf : freeC (some c) = true) (h : CellAt F X H a c) : CellAt F Y H a c := by
  cases c with
  | l xs =>
    obtain ⟨vs, h1, h2, h3⟩ := h
    exact ⟨vs, h1, h2, h3.free hf⟩
  | k ks xs => simp [freeC] at hf
end
section
variable {F : Fx} {W : WX} {X : Cx} {B : Addr → Prop} {ρ : Nat → Addr} {e : M.Env} {S S2 : Sto} {σ : L2.St} {H H2 : Hp} {a : Expr} {m : ME} {i n : Nat} {xs ys : List M.D} {v : V}
theorem freeS_cell (h : freeS S = true) {k : Nat} {c : C} (hc : cellOf S k = some c) : freeC (some c) = true := by
  unfold cellOf at hc
  cases q : S[k]? with
  | none => rw [q] at hc; cases hc
  | some o =>
    rw [q] at hc
    have hc : o = some c := hc
    subst hc
    exact List.all_eq_true.mp h _ (List.mem_of_getElem? q)
theorem revive (st : Stab F) (s : Sim F B ρ e S σ H) (hc : cellOf S n = some (.l xs)) {e' : M.Env} (s2 : Sim F (addR B (.f (.l ys)) v) ρ e' S2 σ H2) (x2 : ExtE ρ (S.set n none) H S2 H2) (r2 : RepR F B ρ S2 H H2 (.f (.l ys)) v)
    (hn : cellOf S2 n = none) (hy : lfrees ys = true) (hS : freeS S2 = true) :
    Sim F (addR B (.f (.l ys)) v) ρ e (S2.set n (some (.l xs))) σ H2 ∧ ExtE ρ S H (S2.set n (some (.l xs))) H2 ∧ RepR F B ρ (S2.set n (some (.l xs))) H H2 (.f (.l ys)) v := by
  have hcn : cellOf S n ≠ none := by rw [hc]; simp
  obtain ⟨vs, h1, h2, h3⟩ := cell_l s hc
  obtain ⟨p, rfl, p1, p2, p3⟩ := r2
  have hpa : p ≠ ρ n := fun z => by subst z; exact (p1.no h1 (fun _ z => by cases z)).elim
  have hln : n < S.length := by
    by_cases h : n < S.length
    · exact h
    · rw [cellOf, List.getElem?_eq_none (by omega)] at hc; cases hc
  have hl2 : S2.length = S.length := by rw [x2.len, List.length_set]
  have hco : ∀ k, cellOf (S2.set n (some (.l xs))) k = if k = n then some (.l xs) else cellOf S2 k := fun k => by
    rw [cellOf_set]
    by_cases h : k = n
    · subst h; simp [hl2, hln]
    · rw [if_neg fun q => h q.1, if_neg h]
  have lv1 : ∀ k, cellOf (S.set n none) k ≠ none → cellOf S k ≠ none ∧ k ≠ n := fun k q => cellOf_kill q
  have lv : ∀ k, cellOf (S2.set n (some (.l xs))) k ≠ none → cellOf S k ≠ none := fun k q => by
    rw [hco] at q
    by_cases h : k = n
    · subst h; exact hcn
    · rw [if_neg h] at q
      exact (lv1 k (x2.live k q)).1
  have x3 : ExtE ρ S H (S2.set n (some (.l xs))) H2 := ⟨by rw [List.length_set, hl2], lv, fun b o nn t q => x2.fr b o (fun k hk => nn k (lv1 k hk).1) t q, x2.tr⟩
  have ha2 : H2 (ρ n) = some (.lst vs) := x2.fr _ _ (fun k hk z => (lv1 k hk).2 (s.inj k n (lv1 k hk).1 hcn z)) (fun _ z => by cases z) h1
  have hfr : ∀ b, addR B (.f (.l ys)) (.ref p) b → B b ∨ Nw H b := fun b q => by
    rcases q with q | q
    · exact .inl q
    · injection q with q
      subst q
      exact .inr p1
  refine ⟨⟨?_, fun k x q => ?_, fun k q h => ?_, fun k c q => ?_, fun k l q1 q2 => s.inj k l (lv k q1) (lv l q2), fun k q => ?_, s2.bt, s.uq, s2.tb⟩, x3, ⟨p, rfl, p1, ?_, ?_⟩⟩
  · exact s.len
  · obtain ⟨w, g1, g2⟩ := s.slot k x q
    exact ⟨w, g1, s.repX st (n0 := 0) x3.ext hfr g2⟩
  · obtain ⟨g1, g2⟩ := s.slotC k q h
    exact ⟨by rw [List.length_set, hl2]; exact g1, fun z => g2 (lv q z)⟩
  · rw [hco] at q
    by_cases h : k = n
    · subst h
      rw [if_pos rfl] at q
      cases q
      exact ⟨vs, ha2, h2, s.repsX st (n0 := 0) x3.ext hfr h3⟩
    · rw [if_neg h] at q
      exact (s2.cell k c q).free (freeS_cell hS q)
  · rw [hco] at q
    by_cases h : k = n
    · subst h
      rintro (z | z)
      · exact s.nb k hcn z
      · injection z with z
        exact hpa z
    · rw [if_neg h] at q
      exact s2.nb k q
  · rintro (z | ⟨k, hk, z⟩)
    · exact p2 (.inl z)
    · rw [hco] at hk
      by_cases h : k = n
      · subst h; exact hpa z.symm
      · rw [if_neg h] at hk
        exact p2 (.inr ⟨k, hk, z⟩)
  · exact p3.free (c := .l ys) hy
/-- a call that reads a list of the def's own -/
theorem te_bor (st : Stab F) (ha : PE X a (TrE F W m)) : PE X a (TrE F W (mBor i m)) :=
  PE_imp ha fun σ H Q h => by
    obtain ⟨B, ρ, e, S, s, hp⟩ := h
    unfold mBor at hp
    split at hp
    · rename_i n he
      split at hp
      · rename_i xs hc
        have hcn : cellOf S n ≠ none := by rw [hc]; simp
        have s1 := s.kill st (n := n)
        obtain ⟨vs, h1, h2, h3⟩ := cell_l s hc
        have hk := s.killed hc
        have lv : ∀ k, cellOf (S.set n none) k ≠ none → cellOf S k ≠ none := fun k q => (cellOf_kill q).1
        have rx : Rep F (Ex B ρ (S.set n none)) H (.lst xs) (.ref (ρ n)) := by
          rw [Rep]
          exact ⟨ρ n, vs, rfl, h1, hk, h2, h3.mono st (Ex.live lv)⟩
        have hv := var_cell s he hcn
        have s2 : Sim F B ρ (e.set i (some (.d (.lst xs)))) (S.set n none) σ H := by
          have := s1.put (i := i) rx
          rwa [lset_same hv] at this
        refine ⟨B, ρ, _, _, s2, ?_⟩
        split at hp
        · rename_i ys S2 hm
          rw [hm]
          intro v H2 t x2 r2
          split at hp
          · rename_i hq
            have hq : (cellOf S2 n).isNone = true ∧ lfrees ys = true ∧ freeS S2 = true := by simpa using hq
            obtain ⟨q1, q2, q3⟩ := hq
            obtain ⟨z1, z2, z3⟩ := revive st s hc t x2 r2 (by simpa using q1) q2 q3
            exact hp v H2 z1 z2 z3
          · exact hp.elim
        · exact hp.elim
      · exact hp.elim
    · exact ⟨B, ρ, e, S, s, hp⟩
end
end M

/-! Sound49: texts joined, searched, repeated, read from their end. -/
namespace M
open PySem L2
open PySem (Str)
open PySem.Spec PyProof.Rows
theorem strsOf_reps {F : Fx} {Y : Addr → Prop} {H : Hp} : ∀ {xs : List M.D} {ys : List Str} {vs : List V}, strsOf xs = some ys → Reps F Y H xs vs → vs = ys.map V.str ∧ ∀ s ∈ ys, txtOk s = true
  | [], ys, vs, h, hr => by
    unfold strsOf at h
    cases h
    rw [Reps] at hr
    exact ⟨hr, fun s hs => by cases hs⟩
  | x :: xs, ys, vs, h, hr => by
    rw [Reps] at hr
    obtain ⟨v, vs, rfl, hv, hr2⟩ := hr
    unfold strsOf at h
    split at h
    · rename_i q; cases q
    · rename_i s r q
      injection q with q1 q2
      subst q1 q2
      split at h
      · rename_i zs h1
        cases h
        obtain ⟨i1, i2⟩ := strsOf_reps h1 hr2
        rw [Rep] at hv
        obtain ⟨rfl, hs⟩ := hv
        refine ⟨by rw [i1]; rfl, fun z hz => ?_⟩
        rcases List.mem_cons.mp hz with rfl | hz
        · exact hs
        · exact i2 z hz
      · cases h
    · cases h
theorem joinL_nil : ∀ ys : List (List Nat), TL.joinL [] ys = ys.flatten
  | [] => rfl
  | [p] => by simp [TL.joinL]
  | p :: q :: r => by
    rw [TL.joinL, joinL_nil (q :: r)]
    simp
theorem join_flat (ys : List Str) : PySem.Txt.join ⟨#[]⟩ ys = ⟨(ys.flatMap fun y => y.cps.toList).toArray⟩ := by
  have e := SX.join_S [] (ys.map fun y => y.cps.toList)
  rw [joinL_nil, List.map_map] at e
  have e1 : ys.map (SX.S ∘ fun y => y.cps.toList) = ys := by
    conv => rhs; rw [← List.map_id ys]
    refine List.map_congr_left fun y _ => ?_
    show (⟨y.cps.toList.toArray⟩ : Str) = y
    simp
  rw [e1] at e
  rw [List.flatMap_def]
  exact e
section
variable {F : Fx} {W : WX} {X : Cx} {a o b : Expr} {ma mo mb : ME} {pos apos cpos p1 p2 p3 : Pos}
theorem ty_str {Y : Addr → Prop} {H : Hp} {x : M.D} {v : V} (h : RepV F Y H x v) (k : isKind "str" x = some true) : tyV F.K "str" v H := by
  cases x with
  | str s =>
    obtain ⟨rfl, _⟩ := h.str
    exact rfl
  | _ => simp [isKind] at k
def rJoin (K : PySem.W.Frag) : V → List V → Hp → VK → Prop := fun x xs H Q => ∃ a p, ∃ ys : List Str, x = .str a ∧ xs = [.ref p] ∧ (SqL K H p (ys.map V.str) ∨ SqT K H p (ys.map V.str)) ∧
    (ys.map (·.length)).sum + ys.length * a.length ≤ 16777216 ∧ Q (.str (Txt.join a ys)) H
theorem op2_join : Op2 F opJoin0 (fun v w H Q => rJoin F.K v [w] H Q) := by
  intro B ρ e S σ H x y v w r Q s hx hy hf k
  unfold opJoin0 at hf
  split at hf
  · rename_i z xs q
    cases q
    split at hf
    · rename_i hz
      split at hf
      · rename_i ys hys
        split at hf
        · rename_i hsz
          cases hf
          obtain ⟨rfl, hz1⟩ := hx.str
          obtain ⟨p, vs, rfl, h1, h2, h3⟩ := hy.lst
          obtain ⟨rfl, hok⟩ := strsOf_reps hys h3
          subst hz
          refine ⟨_, p, ys, rfl, rfl, .inl (SqL.of h1), ?_, ?_⟩
          · have e0 : (⟨#[]⟩ : Str).length = 0 := rfl
            rw [e0, Nat.mul_zero, Nat.add_zero]
            exact hsz
          · rw [join_flat]
            refine k.str s (txtOk_mk (fun c hc => ?_) ?_)
            · have hc : c ∈ ys.flatMap fun y => y.cps.toList := by simpa using hc
              obtain ⟨y, hy, hc⟩ := List.mem_flatMap.mp hc
              exact txtOk_all (hok y hy) c hc
            · have e : ((ys.flatMap fun y => y.cps.toList).toArray).size = (ys.map fun y : Str => y.length).sum := by
                rw [List.size_toArray, List.length_flatMap]
                rfl
              show ((ys.flatMap fun y => y.cps.toList).toArray).size ≤ LIM
              rw [e]
              exact hsz
        · cases hf
      · cases hf
    · cases hf
  · cases hf
theorem te_joinS (hK : X.K = F.K) (st : Stab F) (ho : PE X o (TrE F W mo)) (ha : PE X a (TrE F W ma)) (hb : attributeBase o "join" X.env (eval o X.env) = eval o X.env)
    (hf : ((backTo cpos (starEach [a] X.env)).all (fun x => !x.1) && (backToKw cpos (keywordEach [] X.env)).all (fun x => x.1.isSome) && decide ([a].length + ([] : List Keyword).length + (if ([] : List Keyword).isEmpty then 0 else 1) < 30)) = true)
    (hl : (apos.endLine == cpos.line) = true) (hs : starEach [a] X.env = (false, eval a X.env) :: starEach [] X.env) : PE X (.Call (.Attribute o "join" apos) [a] [] cpos) (TrE F W (mMeth "str" opJoin0 mo ma)) :=
  PE_imp (pe_bm PySem.F.plainAttrs_str PySem.F.slot_str_join PySem.F.type_str_join (r := rJoin X.K) mt_join ho (pa_cons ha pa_nil hs) hb hf hl hs rfl) fun σ H Q h => by
    rw [hK]; exact te_meth st ty_str op2_join h
def rIdxS : V → List V → Hp → VK → Prop := fun x xs H Q => ∃ a b i rest, x = .str a ∧ xs = [.str b] ∧ Builtin.Str.occurrences a b 0 a.length 1 = i :: rest ∧ Q (.int (i : Nat)) H
theorem op2_idxS : Op2 F opIdxS (fun v w H Q => rIdxS v [w] H Q) := by
  intro B ρ e S σ H x y v w r Q s hx hy hf k
  unfold opIdxS at hf
  split at hf
  · rename_i z c q
    cases q
    obtain ⟨rfl, _⟩ := hx.str
    obtain ⟨rfl, _⟩ := hy.str
    split at hf
    · rename_i h
      obtain ⟨rfl, rfl⟩ := h
      cases hf
      exact ⟨_, _, 0, [], rfl, rfl, by decide +kernel, k.int s⟩
    · split at hf
      · rename_i h
        obtain ⟨rfl, rfl⟩ := h
        cases hf
        exact ⟨_, _, 1, [], rfl, rfl, by decide +kernel, k.int s⟩
      · split at hf
        · rename_i h
          obtain ⟨rfl, rfl⟩ := h
          cases hf
          exact ⟨_, _, 2, [], rfl, rfl, by decide +kernel, k.int s⟩
        · cases hf
  · cases hf
theorem te_idxS (st : Stab F) (ho : PE X o (TrE F W mo)) (ha : PE X a (TrE F W ma)) (hb : attributeBase o "index" X.env (eval o X.env) = eval o X.env)
    (hf : ((backTo cpos (starEach [a] X.env)).all (fun x => !x.1) && (backToKw cpos (keywordEach [] X.env)).all (fun x => x.1.isSome) && decide ([a].length + ([] : List Keyword).length + (if ([] : List Keyword).isEmpty then 0 else 1) < 30)) = true)
    (hl : (apos.endLine == cpos.line) = true) (hs : starEach [a] X.env = (false, eval a X.env) :: starEach [] X.env) (hK : X.K = F.K) : PE X (.Call (.Attribute o "index" apos) [a] [] cpos) (TrE F W (mMeth "str" opIdxS mo ma)) :=
  PE_imp (pe_bm PySem.F.plainAttrs_str PySem.F.slot_str_index PySem.F.type_str_index (r := rIdxS) mt_sindex ho (pa_cons ha pa_nil hs) hb hf hl hs rfl) fun σ H Q h => by
    rw [hK]; exact te_meth st ty_str op2_idxS h
theorem te_gstr {i : Str} {y : Str} (hg : Gl X y) (hm : ∃ t, X.mg y = some (.str i t)) (hd : (y == ("__debug__" : Str)) = false) (h : txtOk i = true) : PE X (.Name y pos) (TrE F W (mK (.str i))) :=
  te_const (v := .str i) (let ⟨_, h⟩ := hm; pe_glob hg h ⟨_, rfl⟩ hd) fun _ _ => by rw [Rep]; exact ⟨rfl, h⟩
/-- one sign, many times -/
def rMulS : R2 := fun x y H Q => ∃ (c : Nat) (n : Int), x = .str ⟨#[c]⟩ ∧ y = .int n ∧ 2 ≤ n ∧ n ≤ 1000 ∧ Q (.str ⟨(List.replicate n.toNat c).toArray⟩) H
theorem rep_fold (c : Nat) : ∀ (k : Nat) (acc : Array Nat), (List.replicate k #[c]).foldl (· ++ ·) acc = acc ++ (List.replicate k c).toArray
  | 0, acc => by simp
  | k + 1, acc => by
    rw [List.replicate_succ, List.foldl_cons, rep_fold c k, List.replicate_succ]
    refine Array.ext' ?_
    simp
theorem op_mulS : OpR X (binaryOp .Mult) rMulS := by
  intro pins s σ H x y v u Q I rx ry h
  obtain ⟨c, n, rfl, rfl, h0, h1, q⟩ := h
  obtain ⟨t, rfl⟩ := rx
  obtain ⟨t2, rfl⟩ := ry
  have e : PySem.Txt.mul ⟨#[c]⟩ n = ⟨(List.replicate n.toNat c).toArray⟩ := by
    unfold PySem.Txt.mul
    rw [if_neg (by omega), if_neg (by
      have e1 : (n == 1) = false := by
        rw [beq_eq_false_iff_ne]; omega
      have e2 : ((⟨#[c]⟩ : Str).length == 0) = false := rfl
      rw [e1, e2]
      simp), rep_fold]
    simp
  refine PySem.SB.mul (PyProof.Rows.mulOk_of 1 1000 (by exact Nat.le_refl 1) h1 (by omega) (by decide) (by decide)) fun t' k => ?_
  rw [e]
  exact ⟨.str _, H, I.tok k, ⟨t', rfl⟩, q⟩
theorem op2_mulS : Op2 F opMulS rMulS := by
  intro B ρ e S σ H x y v w r Q s hx hy hf k
  unfold opMulS at hf
  split at hf
  · rename_i z n q
    cases q
    obtain ⟨rfl, hz⟩ := hx.str
    have ew := hy.int
    subst ew
    split at hf
    · rename_i c hc
      split at hf
      · rename_i hn
        cases hf
        have ez : z = ⟨#[c]⟩ := by
          obtain ⟨zc⟩ := z
          have hc : zc.toList = [c] := hc
          have : zc = #[c] := by
            rw [← Array.toArray_toList (xs := zc), hc]
          rw [this]
        refine ⟨c, n, by rw [ez], rfl, hn.1, hn.2, k.str s (txtOk_mk (fun d hd => ?_) ?_)⟩
        · have hd : d ∈ List.replicate n.toNat c := by simpa using hd
          rw [(List.mem_replicate.mp hd).2]
          exact txtOk_all hz c (by rw [hc]; simp)
        · show ((List.replicate n.toNat c).toArray).size ≤ LIM
          rw [List.size_toArray, List.length_replicate]
          unfold LIM
          omega
      · cases hf
    · cases hf
  · cases hf
theorem te_mulS (st : Stab F) (ha : PE X a (TrE F W ma)) (hb : PE X b (TrE F W mb)) : PE X (.BinOp a .Mult b pos) (TrE F W (mOp opMulS [ma, mb])) :=
  PE_imp (pe_op op_mulS ha hb) fun σ H Q h => te_bin st op2_mulS h
/-- a text from its end -/
theorem back_str (x : Str) (t u : Tok) : sliceMade x t none none (some (-1, u)) = .str ⟨x.cps.toList.reverse.toArray⟩ := by
  unfold sliceMade
  have h1 : ((((some ((-1 : Int), u)).map (·.1)).getD 1 == 1)) = false := rfl
  rw [h1, Bool.false_and, if_neg (by simp)]
  have e : (slicePicked x none none (some (-1, u))).filterMap (x.cps[·]?) = x.cps.toList.reverse := by
    show (Builtin.Str.strSliceIndices none none (-1) x.length).filterMap (x.cps[·]?) = _
    rw [PyProof.Rows.picked_rev, PyProof.Rows.filterMap_get, List.map_map]
    · refine List.ext_getElem (by simp [Str.length]) fun i h1 h2 => ?_
      have hi : i < x.cps.size := by simpa [Str.length] using h1
      simp only [List.getElem_map, List.getElem_range, Function.comp_apply, List.getElem_reverse, Array.getElem_toList, Array.length_toList]
      have hj : x.cps.size - 1 - i < x.cps.size := by omega
      simp [Array.getD, Str.length, hj]
    · intro i hi
      obtain ⟨k, hk, rfl⟩ := List.mem_map.mp hi
      have hk' : k < x.length := List.mem_range.mp hk
      show x.length - 1 - k < x.length
      omega
  rw [e]
def tRevS (te : TE) : TE := fun σ H Q => te σ H fun x H1 => ∃ z : Str, x = .str z ∧ z.length ≤ sizeLine ∧ Q (.str ⟨z.cps.toList.reverse.toArray⟩) H1
theorem pe_revS {te : TE} {k : Nat} (he : PE X a te) : PE X (.Subscript a (.Slice none none (some (.UnaryOp .USub (.Constant (.int 1) k p1) p2)) p3) pos) (tRevS te) := by
  refine ⟨fun pins s σ H Q I h => ?_⟩
  refine Subscript_ (thn (he.run pins s σ H _ I h) fun v s1 ⟨x, H1, I1, r1, q1⟩ => ?_)
  obtain ⟨z, ex, hz, q⟩ := q1
  subst ex
  obtain ⟨t, rfl⟩ := r1
  have hst : PO X (some (.UnaryOp .USub (.Constant (.int 1) k p1) p2)) (tPart (tUn (rU fun i => .int (-i)) (tC (.int 1)))) := po_some (pe_un un_neg pe_int)
  refine wpAny_Slice (thn (po_none.run pins s1 σ H1 (fun o H2 => o = none ∧ H2 = H1) I1 ⟨rfl, rfl⟩) fun vl s2 ⟨l, H2, I2, pl, el, e2⟩ => ?_)
  subst el e2
  refine thn (po_none.run pins s2 σ H2 (fun o H3 => o = none ∧ H3 = H2) I2 ⟨rfl, rfl⟩) fun vu s3 ⟨u, H3, I3, pu, eu, e3⟩ => ?_
  subst eu e3
  refine thn (hst.run pins s3 σ H3 (fun o H4 => o = some (-1) ∧ H4 = H3) I3 ⟨1, rfl, -1, rfl, rfl, rfl⟩) fun vs s4 ⟨o, H4, I4, ps, eo, e4⟩ => ?_
  subst eo e4
  cases pl
  cases pu
  cases ps with
  | int i t2 =>
  have I5 : Inv X pins σ H4 { s4 with heap := s4.heap.push { cls := .type "slice", data := .fields #[.none, .none, .int (-1) t2] } } := I4.kept (t' := s4.toks) fun b ob q => Heap.get?_push_of_some _ q
  show wpAny (model X.prog X.w) X.A (subscriptTail a (.Slice none none (some (.UnaryOp .USub (.Constant (.int 1) k p1) p2)) p3) (.str z t) (.ref s4.heap.objs.size)) (EP X pins σ Q) X.xe { s4 with heap := s4.heap.push { cls := .type "slice", data := .fields #[.none, .none, .int (-1) t2] } }
  refine PyProof.Rows.tail_any (ops := [.ref s4.heap.objs.size, .str z t]) (typeIs_str _ z t) (PySem.F.slot_str_getitem.lookup) ?_ (by with_unfolding_all rfl)
  refine wpAny_getItem_str_slice (l := none) (u := none) (st := some (-1, t2)) ⟨_, Heap.get?_push_size _ rfl, rfl, rfl⟩ rfl ?_
  rw [back_str]
  exact ⟨by show (z.cps.toList.reverse.toArray).size ≤ sizeLine; simpa [Str.length] using hz, .str _, H4, I5.tok _, ⟨_, rfl⟩, q⟩
theorem op1_revS : Op1 F opRevS (fun x H Q => ∃ z : Str, x = .str z ∧ z.length ≤ sizeLine ∧ Q (.str ⟨z.cps.toList.reverse.toArray⟩) H) := by
  intro B ρ e S σ H x v r Q s hx hf k
  unfold opRevS at hf
  split at hf
  · rename_i z q
    cases q
    cases hf
    obtain ⟨rfl, hz⟩ := hx.str
    refine ⟨z, rfl, txtOk_len hz, k.str s (txtOk_mk (fun c hc => ?_) ?_)⟩
    · have hc : c ∈ z.cps.toList := by simpa using hc
      exact txtOk_all hz c hc
    · show (z.cps.toList.reverse.toArray).size ≤ LIM
      have := txtOk_len hz
      rw [LIM_eq]
      simpa [Str.length] using this
  · cases hf
theorem te_revS {k : Nat} (st : Stab F) (ha : PE X a (TrE F W ma)) : PE X (.Subscript a (.Slice none none (some (.UnaryOp .USub (.Constant (.int 1) k p1) p2)) p3) pos) (TrE F W (mOp opRevS [ma])) :=
  PE_imp (pe_revS ha) fun σ H Q h => te_un st op1_revS h
end
end M

/-! Sound50: the law's own call where nothing is guarded: its def may ask repr. -/
namespace M
open PySem L2
open PySem (Str)
open PySem.Spec PyProof.Rows
/-- a promise kept where nothing is guarded -/
def FnG (P : Program) (w : World) (K : PySem.W.Frag) (mg : Str → Option Value) (base : Heap) (CX : CXT) (k : Nat) (f : Addr) (fd : FuncData) (ps : List Str) (sp : Sp) : Prop :=
  ∀ (A : Around) (outer : List PySem.Env) (s : Shared) (H : Hp) (args : Args) (us : List Value) (vs : List V) (Q : VK) (E : XK), A.guards = some [] → Room k A → Env0 P w K mg base A outer s H → BindsTo s fd args (ps.zip us) → Vals vs us → sp vs H Q E →
    codeAny (model P w) A (.call (.ref f) args) (CR CX outer P w H s Q E) s
/-- the law's def, asked where nothing is guarded -/
theorem fn_lawG {P : Program} {w : World} {K : PySem.W.Frag} {mg : Str → Option Value} {base : Heap} {T : List (Addr × Str)} {y qual : Str} {sd : Stmt} {f : Addr} {fd : FuncData} {N : List Str} {k : Nat} {muts : List Bool} {m : MS} (tb : List Lam)
    (Fd : L2.Fun K y qual sd f fd) (Sc : FnScope N ["_law_script"] (defScope sd)) (hN : N.length = 1 + muts.length)
    (hbody : ∀ (cdv : Value), fd.code = cdv → ∀ (A : Around) (outer : List PySem.Env) (s : Shared) (H : Hp) (E : XK), (A.deeper (envOfC qual (defScope sd) s.heap.objs.size f cdv)).guards = some [] → Room k (A.deeper (envOfC qual (defScope sd) s.heap.objs.size f cdv)) →
      Takes (cxOf (L2.CX P w) P w K mg base N qual (defScope sd) f cdv A outer s H E) (fun cls d _ H => E cls d H) →
      PassesOwn (model P w) (cxOf (L2.CX P w) P w K mg base N qual (defScope sd) f cdv A outer s H E).A (cxOf (L2.CX P w) P w K mg base N qual (defScope sd) f cdv A outer s H E).env (cxOf (L2.CX P w) P w K mg base N qual (defScope sd) f cdv A outer s H E).xe →
      (A.deeper (envOfC qual (defScope sd) s.heap.objs.size f cdv)).units + 64 < cLine → (A.deeper (envOfC qual (defScope sd) s.heap.objs.size f cdv)).units + 65 < cLine → ∀ F : Fx, F.K = K → F.mg = mg → F.T = T → F.ml = mlOf muts 1 → Stab F →
      F.κ = κL ((envOfC qual (defScope sd) s.heap.objs.size f cdv).qual ++ "<lambda>") (envOfC qual (defScope sd) s.heap.objs.size f cdv).cells tb →
      PSs (cxOf (L2.CX P w) P w K mg base N qual (defScope sd) f cdv A outer s H E) (defBody sd) (TrS F (fun cls d _ H => E cls d H) m))
    (h : ∀ ns : List Int, ns.length ≤ 63 → mkFn 1 muts m G0 [.d (.rol (ns.map M.D.int))] [] = .ok (.d (.bl true)) []) :
    FnG P w K mg base (L2.CX P w) (k + 1) f fd ["_law_script"] (spLawT K T) := by
  obtain ⟨oc, od, kV, doc, pm, an, cdv, ct, osl, hfd, lk, hcd⟩ := Fd.ex
  have hcode : fd.code = cdv := by rw [hfd]
  subst hfd
  intro A outer s H args us vs Q E hgd hr0 e0 hb r hsp
  obtain ⟨a, ns, rfl, hl, hT, hS, hq⟩ := hsp
  refine LamX.run_ofS lk hcd Sc hr0 e0 hb r rfl fun hr => ?_
  let κ := κL ((envOfC qual (defScope sd) s.heap.objs.size f cdv).qual ++ "<lambda>") (envOfC qual (defScope sd) s.heap.objs.size f cdv).cells tb
  let F : Fx := ⟨K, mg, κ, T, 0, mlOf muts 1, G0⟩
  have same : SameF (fx0 K mg T κ G0) F := ⟨rfl, rfl, rfl, rfl⟩
  have stF : Stab F := stab_κL rfl
  have s0 := law_sim (mg := mg) (κ := κ) (Nat.le_trans hl (by decide)) (fun p hp => LamX.TabS.nil (hT p hp)) hS
  refine ⟨_, hbody cdv hcode A outer s H E hgd hr (takes_of rfl rfl rfl rfl) (passes_of rfl) hr.units (by have := hr.un; omega) F rfl rfl rfl rfl stF rfl, (fun _ => False), (fun _ => 0), [some (.d (.rol (ns.map M.D.int)))] ++ M.frame muts 0, [] ++ List.replicate (muts.countP id) none, entry_sim (as := [.d (.rol (ns.map M.D.int))]) (vs := [.ref a]) same rfl rfl hN s0, ?_⟩
  have hp := h ns hl
  unfold mkFn at hp
  rw [if_pos (show [M.A.d (.rol (ns.map M.D.int))].length = 1 from rfl)] at hp
  refine leave_post (S := []) (k := muts.countP id) same stF rfl ?_
  have hp : outOf 0 (m G0 ([some (M.A.d (.rol (ns.map M.D.int)))] ++ M.frame muts 0) ([] ++ List.replicate (muts.countP id) none)) = .ok (.d (.bl true)) [] := hp
  show PostO (outOf 0 (m G0 _ _)) _ _
  rw [hp]
  intro v H' _ _ r
  have r : v = .bl true := by simpa only [RepR, Rep] using r
  subst r
  exact hq H'
/-- the heap that is tracked at the law's call: the tables in ts, the script at a (if it is no object of the text) -/
def startHp (ts : List Addr) (scr : Prop) [Decidable scr] (a : Addr) (u : HO) : Hp := fun b => if b ∈ ts then some (.tbl #[]) else if scr ∧ b = a then some u else none
section
variable {ts : List Addr} {scr : Prop} [Decidable scr] {a : Addr} {u : HO}
theorem startHp_t {b : Addr} (h : b ∈ ts) : startHp ts scr a u b = some (.tbl #[]) := if_pos h
theorem startHp_a (h : a ∉ ts) (q : scr) : startHp ts scr a u a = some u := (if_neg h).trans (if_pos ⟨q, rfl⟩)
theorem startHp_or (b : Addr) : (b ∈ ts ∧ startHp ts scr a u b = some (.tbl #[])) ∨ (b ∉ ts ∧ scr ∧ b = a ∧ startHp ts scr a u b = some u) ∨ (b ∉ ts ∧ startHp ts scr a u b = none) := by
  by_cases h : b ∈ ts
  · exact .inl ⟨h, startHp_t h⟩
  · by_cases q : scr ∧ b = a
    · exact .inr (.inl ⟨h, q.1, q.2, (if_neg h).trans (if_pos q)⟩)
    · exact .inr (.inr ⟨h, (if_neg h).trans (if_neg q)⟩)
end
/-- the law's call by such a promise -/
theorem law_callG {P : Program} {w : World} {K : PySem.W.Frag} {mg mb : Str → Option Value} {CX : CXT} {k : Nat} {fa a : Addr} {cs : List (Addr × Addr)} {fd : FuncData} {x : Str} {sp : Sp} {s1 : Shared} {vs : List Value} {ns : List Int}
    (inK : K.In s1.heap) (gm : s1.heap.Ns mainGlobals mg) (gb : s1.heap.Ns builtinsNs mb) (eb : ∀ x : Str, x ≠ "__name__" → mb x = bootBuiltins x) (nl : s1.heap.NoLimit) (ng : s1.gens = #[])
    (tbl : ∀ p ∈ cs, s1.heap.get? p.2 = some { cls := .none, data := .fields #[] }) (tbK : ∀ p ∈ cs, K.lookup p.2 = none) (cod : ∀ p ∈ cs, PySem.W.CodeHd s1.heap p.1 p.2)
    (mod : ∃ (bm : Addr) (ob : Obj), mg "__builtins__" = some (.ref bm) ∧ bm ≠ builtinsNs ∧ s1.heap.get? bm = some ob ∧ ob.cls = .type "module" ∧ ob.dict = some builtinsNs ∧ ob.data = .plain)
    (scr : s1.heap.get? a = some { cls := .type "list", data := .seq vs.toArray }) (hints : IntsAre vs ns) (few : ns.length ≤ sizeLine) (room : Room k callerA)
    (F : ∀ base : Heap, K.In base → base.Ns mainGlobals mg → (∀ p ∈ cs, LamX.TabB base mg p.1 p.2) → FnG P w K mg base CX k fa fd [x] sp) (bnd : ∀ (s : Shared) (u : Value), BindsTo s fd ⟨[u], []⟩ [(x, u)])
    (prom : ∀ H : Hp, (∀ p ∈ cs, H p.2 = some (.tbl #[])) → SqL K H a (ns.map V.int) → sp [.ref a] H (fun v _ => v = .bl true) fun _ _ _ => False)
    (noX : ∀ H e s', CX [] H s1 (fun _ _ _ => False) e s' → False) :
    codeAny (model P w) callerA (.call (.ref fa) ⟨[.ref a], []⟩) (fun r s' => r = .ok (.ret (.bool true)) ∧ OldK s1.heap s'.heap ∧ s'.os = s1.os ∧ AllBare s'.gens) s1 := by
  have rel := vals_ints hints
  have len := hints.length
  obtain ⟨ts, ets⟩ : ∃ ts, ts = cs.map (·.2) := ⟨_, rfl⟩
  have mem : ∀ p ∈ cs, p.2 ∈ ts := fun p hp => ets ▸ List.mem_map.mpr ⟨p, hp, rfl⟩
  have of_mem : ∀ b ∈ ts, s1.heap.get? b = some { cls := .none, data := .fields #[] } ∧ K.lookup b = none := by
    intro b hb
    rw [ets] at hb
    obtain ⟨p, hp, rfl⟩ := List.mem_map.mp hb
    exact ⟨tbl p hp, tbK p hp⟩
  have aT : a ∉ ts := fun z => by
    have := (of_mem a z).1
    rw [scr] at this
    cases (congrArg Obj.data (Option.some.inj this) : Data.seq vs.toArray _ = Data.fields #[])
  obtain ⟨H, eH⟩ : ∃ H, H = startHp ts (K.lookup a = none) a (.frz { cls := .type "list", data := .seq vs.toArray } (.lst (ns.map V.int))) := ⟨_, rfl⟩
  have or_ : ∀ b, (b ∈ ts ∧ H b = some (.tbl #[])) ∨ (b ∉ ts ∧ K.lookup a = none ∧ b = a ∧ H b = some (.frz { cls := .type "list", data := .seq vs.toArray } (.lst (ns.map V.int)))) ∨ (b ∉ ts ∧ H b = none) := fun b => by rw [eH]; exact startHp_or b
  have tabs : ∀ p ∈ cs, H p.2 = some (.tbl #[]) := fun p hp => by rw [eH]; exact startHp_t (mem p hp)
  have sq : SqL K H a (ns.map V.int) := by
    cases hk : K.lookup a with
    | none => exact .inl (.inr ⟨_, by rw [eH]; exact startHp_a aT hk⟩)
    | some o =>
      have e := inK a o hk
      rw [scr] at e
      cases e
      exact .inr ⟨_, vs.toArray, _, hk, rfl, rfl, rfl, by rw [List.size_toArray, len]; exact few, by simpa using rel⟩
  have hok : HOk P w H s1.heap := by
    intro b u e
    rcases or_ b with ⟨h, q⟩ | ⟨_, _, h, q⟩ | ⟨_, q⟩
    · rw [q] at e; cases e
      exact (of_mem b h).1
    · rw [q] at e; cases e
      subst h
      exact ⟨scr, by rw [List.length_map]; exact few, vs, _, rel, scr⟩
    · rw [q] at e; cases e
  -- an object that is neither the script nor a table is part of the base
  have free : ∀ {b : Addr} {o : Obj}, s1.heap.get? b = some o → (∀ l n, o.data ≠ .seq l n) → o.data ≠ .fields #[] → H b = none := by
    intro b o e n1 n2
    rcases or_ b with ⟨h, _⟩ | ⟨_, _, h, _⟩ | ⟨_, q⟩
    · rw [(of_mem b h).1] at e; cases e
      exact absurd rfl n2
    · rw [h, scr] at e; cases e
      exact absurd rfl (n1 _ _)
    · exact q
  have inB : ∀ {b : Addr} {o : Obj}, s1.heap.get? b = some o → H b = none → (hidT s1.heap H).get? b = some o := fun e n => hidT_get e n
  have nsB : ∀ {b : Addr} {m : Str → Option Value}, s1.heap.Ns b m → (hidT s1.heap H).Ns b m := by
    rintro b m ⟨o, es, ep, e, d, r⟩
    exact ⟨o, es, ep, inB e (free e (by rw [d]; intro l n z; cases z) (by rw [d]; intro z; cases z)), d, r⟩
  have kB : K.In (hidT s1.heap H) := by
    intro b o e
    refine inB (inK b o e) ?_
    rcases or_ b with ⟨h, _⟩ | ⟨_, h, z, _⟩ | ⟨_, q⟩
    · rw [(of_mem b h).2] at e; cases e
    · rw [z, h] at e; cases e
    · exact q
  have mB : L2.Mod K mg (hidT s1.heap H) := by
    refine ⟨kB, nsB gm, ⟨mb, nsB gb, eb⟩, ?_⟩
    obtain ⟨mc, h1, h2⟩ := nl
    exact ⟨mc, nsB h1, h2⟩
  have tB : ∀ p ∈ cs, LamX.TabB (hidT s1.heap H) mg p.1 p.2 := by
    intro p hp
    have hT := tbl p hp
    constructor
    · obtain ⟨o, us, file, tf, flags, tg, inF, text, tt, e1, r1, r2, rest⟩ := cod p hp
      refine ⟨o, us, file, tf, flags, tg, inF, text, tt, inB e1 (free e1 ?_ ?_), r1, r2, rest⟩
      · rw [r2]; intro l n z; cases z
      · intro z
        rw [r2] at z; cases z
        have := rest.1
        simp at this
    · obtain ⟨bm, ob, b1, b2, b3, b4, b5, b6⟩ := mod
      refine ⟨bm, ob, b1, b2, ?_, ?_, inB b3 (free b3 (by rw [b6]; intro l n z; cases z) (by rw [b6]; intro z; cases z)), b4, b5, b6⟩
      · rintro rfl
        obtain ⟨o, es, ep, e, hd, _⟩ := gm
        rw [e] at b3; cases b3
        rw [hd] at b6; cases b6
      · rintro rfl
        rw [hT] at b3; cases b3
        cases b6
    · intro z
      obtain ⟨o, es, ep, e, hd, _⟩ := gm
      rw [z, hT] at e; cases e
      cases hd
  have env : Env0 P w K mg (hidT s1.heap H) callerA [] s1 H := ⟨rfl, mB, fun b o e => of_hidT e, Nat.le_of_eq (hidT_size _ _), trivial, fun b hb => (nomatch hb), hok, .of_eq ng⟩
  refine codeAny_mono (F _ kB (nsB gm) tB callerA [] s1 H ⟨[.ref a], []⟩ [.ref a] [.ref a] _ _ rfl room env (bnd s1 (.ref a)) (.cons rfl .nil) (prom H tabs sq)) ?_
  intro r s' h
  rcases r with e | fl
  · exact (noX H e s' h).elim
  rcases fl with _ | _ | _ | u
  all_goals first | exact False.elim h | skip
  obtain ⟨v, H', os, bare, un, hok', rv, rfl⟩ := h
  obtain rfl : u = Value.bool true := rv
  have grown : ∀ b ∈ ts, ∃ more : Array Value, s'.heap.get? b = some { cls := .none, data := .fields more } := by
    intro b hb
    obtain ⟨more, z⟩ := un.tbls b #[] (by rw [eH]; exact startHp_t hb)
    exact ⟨_, hok' b _ z⟩
  have same : ∀ b o, b ∉ ts → s1.heap.get? b = some o → s'.heap.get? b = some o := by
    intro b o nb e
    rcases or_ b with ⟨h, _⟩ | ⟨_, _, _, q⟩ | ⟨_, q⟩
    · exact absurd h nb
    · have z := un.frzs b _ _ q
      have e1 := (hok b _ q).1
      rw [e] at e1; cases e1
      exact (hok' b _ z).1
    · exact un.keep b o e q (fun z => nomatch (show b ∈ ([] : List Addr) from z)) (by simp)
  refine ⟨rfl, ⟨fun b o e => ?_, fun b o e => ?_⟩, os, bare⟩
  · by_cases hb : b ∈ ts
    · obtain ⟨more, hm⟩ := grown b hb
      rw [ets] at hb
      obtain ⟨p, hp, rfl⟩ := List.mem_map.mp hb
      rw [tbl p hp] at e; cases e
      exact .inr (.inl ⟨((cod p hp).tab (tbl p hp)).isCodeTable, rfl, #[], more, rfl, by rw [Array.empty_append]; exact hm⟩)
    · exact .inl (same b o hb e)
  · by_cases hb : b ∈ ts
    · exact (grown b hb).elim fun _ h => ⟨_, h⟩
    · exact ⟨o, same b o hb e⟩
/-- what is known of the law's promise at the head's heap -/
def LawAtG (l : PySem.W.OpenLaw) (w : World) (K : PySem.W.Frag) (CX : CXT) (k n : Nat) (x : Str) (mg : Str → Option Value) (fa : Addr) (h : Heap) : Prop :=
  ∃ (fd : FuncData) (cs : List (Addr × Addr)) (sp : Sp), ((∀ p ∈ cs, h.get? p.2 = some { cls := .none, data := .fields #[] }) ∧ (∀ p ∈ cs, K.lookup p.2 = none) ∧ ∀ p ∈ cs, PySem.W.CodeHd h p.1 p.2) ∧ (∀ (s : Shared) (v : Value), BindsTo s fd ⟨[v], []⟩ [(x, v)]) ∧
    (∀ (H : Hp) (a : Addr) (ns : List Int), ns.length ≤ n → (∀ p ∈ cs, H p.2 = some (.tbl #[])) → SqL K H a (ns.map V.int) → sp [.ref a] H (fun v _ => v = .bl true) fun _ _ _ => False) ∧
    ∀ base : Heap, K.In base → base.Ns mainGlobals mg → (∀ p ∈ cs, LamX.TabB base mg p.1 p.2) → FnG l.prog w K mg base CX k fa fd [x] sp
/-- the end of a law's row -/
theorem walk_tabsG {l : PySem.W.OpenLaw} {n k : Nat} {q : Program} {loose : List Str} {XP : (Str → Option Value) → Heap → Prop} {YP : World → Heap → Prop} {d : DefRec} {K : Params → PySem.W.Frag} {CX : World → CXT} {x : Str}
    (hn : l.most = some n) (hn2 : n ≤ sizeLine) (hdf : d.params.defaults = []) (hr : Room k callerA) (hY : ∀ (w : World) (h : Heap), YP w h → (K w.params).In h)
    (F : ∀ (w : World) (mg : Str → Option Value) (fa : Addr) (h : Heap), TabsOf q (K w.params) h → (K w.params).In h → h.Ns mainGlobals mg → mg d.name = some (.ref fa) → LawAtG l w (K w.params) (CX w) k n x mg fa h)
    (hCX : ∀ (w : World) (H : Hp) (s : Shared) (e : Value) (s' : Shared), CX w [] H s (fun _ _ _ => False) e s' → False) :
    PySem.W.WalkO q loose XP YP l.row.toRowW d [] (fun f vs => PySem.call f vs) := by
  refine Att.attach_callB hn hdf fun w s0 s1 mg mb fa o pm cd doc a vs ns G Y ho hd hcd hmg hobj hints hlen hbits hg => ?_
  have KX := hY w _ Y
  obtain ⟨fd, cs, sp, ⟨hT, nT, C⟩, hb, hsp, hF⟩ := F w mg fa _ (fun x d c P h1 h2 => PySem.W.tab_of G.T KX h1 h2) KX G.T.g hmg
  exact law_callG KX G.T.g G.T.b G.T.builtins G.T.nolimit hg hT nT C G.T.bmain hobj hints (Nat.le_trans hlen hn2) hr hF hb (fun H hH hS => hsp H a ns hlen hH hS) fun H e s' => hCX w H s1 e s'
/-- what the end asks, of the tables of T -/
theorem law_atG {l : PySem.W.OpenLaw} {q : Program} {w : World} {K : PySem.W.Frag} {k : Nat} {mg : Str → Option Value} {fa : Addr} {h : Heap} {fd : FuncData} {cs : List (Addr × Addr)} {T : List (Addr × Str)} (tabs : TabsOf q K h)
    (hcs : ∀ p ∈ cs, ∃ x d, (recsOf q).find? (fun e => e.name == x) = some d ∧ PySem.W.tabIn K x = some (p.1, p.2)) (nT : ∀ p ∈ cs, K.lookup p.2 = none) (hT : ∀ t ∈ T, ∃ p ∈ cs, p.2 = t.1)
    (hb : ∀ (s : Shared) (v : Value), BindsTo s fd ⟨[v], []⟩ [("_law_script", v)])
    (hF : ∀ base : Heap, K.In base → base.Ns mainGlobals mg → (∀ p ∈ cs, LamX.TabB base mg p.1 p.2) → FnG l.prog w K mg base (L2.CX l.prog w) k fa fd ["_law_script"] (spLawT K T)) :
    LawAtG l w K (L2.CX l.prog w) k 63 "_law_script" mg fa h := by
  refine ⟨fd, cs, spLawT K T, ⟨fun p hp => ?_, nT, fun p hp => ?_⟩, hb, fun H a ns hl hH hS => ⟨a, ns, rfl, hl, fun t ht => ?_, hS, fun _ => rfl⟩, hF⟩
  · obtain ⟨x, d, h1, h2⟩ := hcs p hp
    exact (tabs x d p.1 p.2 h1 h2).2
  · obtain ⟨x, d, h1, h2⟩ := hcs p hp
    exact (tabs x d p.1 p.2 h1 h2).1
  · obtain ⟨p, hp, e⟩ := hT t ht
    rw [← e]
    exact hH p hp
end M

/-! Sound51: repr where nothing is guarded. -/
namespace M
open PySem L2
open PySem (Str)
open PySem.Spec PyProof.Rows
mutual
theorem dp_of {F : Fx} {X : Addr → Prop} {H : Hp} : ∀ {x : M.D} {v : V} {d : PyData}, Rep F X H x v → pyd x = some d → Dp F.K H v d
  | .non, v, d, h, e => by
    have h : v = .non := by simpa only [Rep] using h
    rw [pyd] at e; cases e; subst h; exact .non
  | .bl b, v, d, h, e => by
    have h : v = .bl b := by simpa only [Rep] using h
    rw [pyd] at e; cases e; subst h; exact .bl _
  | .int i, v, d, h, e => by
    have h : v = .int i := by simpa only [Rep] using h
    rw [pyd] at e; cases e; subst h; exact .int _
  | .str s, v, d, h, e => by
    have h : v = .str s ∧ txtOk s = true := by simpa only [Rep] using h
    rw [pyd] at e; cases e; obtain ⟨h, _⟩ := h; subst h; exact .str _
  | .tup xs, v, d, h, e => by
    rw [pyd] at e
    obtain ⟨ds, e1, rfl⟩ := Option.map_eq_some_iff.mp e
    simp only [Rep] at h
    obtain ⟨a, vs, rfl, h1, _, h2⟩ := h
    exact .tup h1 (dps_of h2 e1)
  | .lst xs, v, d, h, e => by
    rw [pyd] at e
    obtain ⟨ds, e1, rfl⟩ := Option.map_eq_some_iff.mp e
    simp only [Rep] at h
    obtain ⟨a, vs, rfl, h1, _, _, h2⟩ := h
    exact .lst (SqL.of h1) (dps_of h2 e1)
  | .dct ks vs, v, d, h, e => by simp [pyd] at e
  | .rol xs, v, d, h, e => by simp [pyd] at e
  | .fn f, v, d, h, e => by simp [pyd] at e
  | .clo k, v, d, h, e => by simp [pyd] at e
  | .exc c, v, d, h, e => by simp [pyd] at e
theorem dps_of {F : Fx} {X : Addr → Prop} {H : Hp} : ∀ {xs : List M.D} {vs : List V} {ds : List PyData}, Reps F X H xs vs → pyds xs = some ds → DpAll F.K H vs ds
  | [], vs, ds, h, e => by
    rw [Reps] at h; subst h
    rw [pyds] at e; cases e; exact .nil
  | x :: xs, vs, ds, h, e => by
    rw [Reps] at h
    obtain ⟨v, r, rfl, h1, h2⟩ := h
    rw [pyds] at e
    split at e
    · rename_i d e1
      split at e
      · rename_i ds e2
        cases e
        exact .cons (dp_of h1 e1) (dps_of h2 e2)
      · cases e
    · cases e
end
mutual
theorem dp_nodict {K : PySem.W.Frag} {H : Hp} : ∀ {d : PyData} {v : V}, Dp K H v d → PyData.hasDict d = false
  | .none, _, _ => by simp only [PyData.hasDict]
  | .bool _, _, _ => by simp only [PyData.hasDict]
  | .int _, _, _ => by simp only [PyData.hasDict]
  | .str _, _, _ => by simp only [PyData.hasDict]
  | .list ds, _, h => by
    cases h with
    | lst _ ha => simp only [PyData.hasDict]; exact dps_nodict ha
  | .tuple ds, _, h => by
    cases h with
    | tup _ ha => simp only [PyData.hasDict]; exact dps_nodict ha
  | .dict _, _, h => by cases h
theorem dps_nodict {K : PySem.W.Frag} {H : Hp} : ∀ {ds : List PyData} {vs : List V}, DpAll K H vs ds → PyData.hasDictAll ds = false
  | [], _, _ => by simp only [PyData.hasDictAll]
  | d :: ds, _, h => by
    cases h with
    | cons h1 h2 => simp only [PyData.hasDictAll, dp_nodict h1, dps_nodict h2, Bool.or_self]
end
/-- what repr asks of a value -/
def rRepr (K : PySem.W.Frag) : List V → Hp → VK → Prop := fun xs H Q => ∃ x, xs = [x] ∧ ((∃ d, Dp K H x d ∧ PyData.showable d = true ∧ PyData.depth d < 50 ∧ (PyData.shown d).length ≤ sizeLine ∧ Q (.str (PyData.shown d)) H) ∨ ∃ a, x = .ref a ∧ H a = some (.dK []) ∧ Q (.str (tx "{}")) H)
theorem shown_empty : PyData.shown (.dict []) = tx "{}" := by decide +kernel
theorem call_repr {X : Cx} (hg : X.A.guards = some []) (hu : X.A.units + 64 < cLine) : CallR X (.builtin "repr") (rRepr X.K) := by
  intro pins s σ H xs us Q I r h
  obtain ⟨x, rfl, h⟩ := h
  obtain ⟨u, rfl, rv⟩ := vals1 r
  have fin : ∀ (z : Str), Q (.str z) H → ∀ (h' : Heap) (t : Tok) (tk : Nat), (∀ b o, s.heap.get? b = some o → h'.get? b = some o) → EP X pins σ Q (.str z t) { s with heap := h', toks := tk } :=
    fun z q h' t tk hk => ⟨.str z, H, I.kept hk, ⟨t, rfl⟩, q⟩
  rcases h with ⟨d, hd, hs, hdp, hl, q⟩ | ⟨a, rfl, ha, q⟩
  · cases hd with
    | non =>
      cases (show u = Value.none from rv)
      exact PySem.P.repr_of_none (fin _ q _ _ _ fun _ _ e => e)
    | bl b =>
      cases (show u = Value.bool b from rv)
      refine PySem.P.repr_of_bool ?_
      have := fin _ q s.heap s.toks (s.toks + 1) fun _ _ e => e
      cases b <;> exact this
    | int i =>
      obtain ⟨t, rfl⟩ := rv
      have hz : i.natAbs.log2 < 1920 := by simpa [PyData.showable] using hs
      exact PySem.P.repr_of_int hz (fin _ q _ _ _ fun _ _ e => e)
    | str z =>
      obtain ⟨t, rfl⟩ := rv
      exact PySem.P.repr_of_str (fin _ q _ _ _ fun _ _ e => e) hl
    | lst h1 h2 =>
      have hd : Dp X.K H _ _ := .lst h1 h2
      obtain ⟨as, rd⟩ := Dp.reads I _ _ u hd rv
      cases (show u = Value.ref _ from rv)
      exact repr_of_reads' rd hs (PyData.noDict_hsm (dp_nodict hd)) hg (by omega) (fun _ _ e => e) (fun h' t tk hk => fin _ q h' t tk hk) hl
    | tup h1 h2 =>
      have hd : Dp X.K H _ _ := .tup h1 h2
      obtain ⟨as, rd⟩ := Dp.reads I _ _ u hd rv
      cases (show u = Value.ref _ from rv)
      exact repr_of_reads' rd hs (PyData.noDict_hsm (dp_nodict hd)) hg (by omega) (fun _ _ e => e) (fun h' t tk hk => fin _ q h' t tk hk) hl
  · cases (show u = Value.ref a from rv)
    obtain ⟨_, hm, vs, rel, o, es, ep, h1, h2, h3, h4, h5, h6⟩ := dk_of I.hok ha
    have e1 : vs = [] := by
      have := rel.length
      simpa using this.symm
    subst e1
    have e2 : es.toList = [] := by
      have := h5.length
      simpa using this
    have hdep : X.A.units + (PyData.depth (.dict []) + 1) < cLine := by
      have : PyData.depth (.dict []) = 1 := rfl
      rw [this]; omega
    have rd : Reads s.heap (.ref a) (.dict []) ([a] ++ []) := Reads.dict h1 h2.1 h3 (by rw [e2]; exact .nil) (by rw [e2]; exact .nil)
    refine repr_of_reads' rd (by rfl) (fun _ z => ?_) hg hdep (fun _ _ e => e) (fun h' t tk hk => ?_) (by rw [shown_empty]; decide)
    · simp at z
      rw [z] at hm
      simp at hm
    · rw [shown_empty]
      exact fin _ q h' t tk hk
theorem op1_repr {F : Fx} : Op1 F opRepr (fun v H Q => rRepr F.K [v] H Q) := by
  intro B ρ e S σ H x v r Q s hx hf k
  unfold opRepr at hf
  split at hf
  · rename_i q
    cases q
    cases hf
    have hx : ∃ a vs, v = .ref a ∧ DctAt H a [] vs ∧ vs.length ≤ LIM ∧ Reps F (Ex B ρ S) H [] vs := hx
    obtain ⟨a, vs, rfl, d1, d2, d3⟩ := hx
    refine ⟨_, rfl, .inr ⟨a, rfl, ?_, k.str s (by decide +kernel)⟩⟩
    rcases d1 with ⟨ps, h1, h2, _⟩ | ⟨ps, h1, h2, _, h3⟩
    · have : ps = [] := by
        have := congrArg List.length h2
        simpa using this.symm
      rw [h1, this]
    · have : ps = [] := by
        have := congrArg List.length h2
        simpa using this.symm
      exact absurd this h3
  · rename_i y hn q
    cases q
    split at hf
    · rename_i d hd
      split at hf
      · rename_i hc
        cases hf
        simp only [Bool.and_eq_true, decide_eq_true_eq] at hc
        obtain ⟨⟨c1, c2⟩, c3⟩ := hc
        have c4 : (PyData.shown d).length ≤ sizeLine := by
          have := c3
          unfold txtOk at this
          simp only [Bool.and_eq_true, decide_eq_true_eq] at this
          rw [← LIM_eq]; exact this.2
        refine ⟨_, rfl, .inl ⟨d, ?_, c1, c2, c4, ?_⟩⟩
        · cases x with
          | dct ks vs => simp [pyd] at hd
          | lst xs =>
            rw [pyd] at hd
            obtain ⟨ds, e1, rfl⟩ := Option.map_eq_some_iff.mp hd
            obtain ⟨a, vs, rfl, h1, _, h2⟩ := (show ∃ a vs, v = .ref a ∧ H a = some (.lst vs) ∧ vs.length ≤ LIM ∧ Reps F (Ex B ρ S) H xs vs from hx)
            exact .lst (SqL.of h1) (dps_of h2 e1)
          | _ => exact dp_of (X := Ex B ρ S) hx hd
        · exact k.str s c3
      · cases hf
    · cases hf
  · cases hf
section
variable {F : Fx} {W : WX} {X : Cx} {a : Expr} {ma : ME} {pp pos : Pos}
theorem te_repr (hgd : X.A.guards = some []) (hu : X.A.units + 64 < cLine) (st : Stab F) (hK : X.K = F.K) (hg : Gl X "repr") (hm : X.mg "repr" = none) (ha : PE X a (TrE F W ma)) (he : starEach [a] X.env = (false, eval a X.env) :: starEach [] X.env) : PE X (.Call (.Name "repr" pp) [a] [] pos) (TrE F W (mOp opRepr [ma])) :=
  te_call1 st (call_repr hgd hu) (hK ▸ op1_repr) hg hm (by rfl) ha (by decide) (by decide) he
end
end M

/-! Sound52: a list that is data from a statement on. -/
namespace M
open PySem L2
open PySem (Str)
section
variable {F : Fx} {W : WX} {X : Cx} {B : Addr → Prop} {ρ : Nat → Addr} {e : M.Env} {S : Sto} {σ : L2.St} {H : Hp} {i n : Nat}
/-- a slot gets a dead cell -/
theorem Sim.dead (s : Sim F B ρ e S σ H) (hn : n < S.length) (h0 : F.n0 ≤ n) (hc : (cellOf S n).isNone = true) (hu : noOther i n e = true) : Sim F B ρ (e.set i (some (.c n))) S σ H := by
  have hc : cellOf S n = none := by simpa using hc
  have hs : ∀ (q : Nat) (a : Option A), (e.set i (some (.c n)))[q]? = some a → (q = i ∧ a = some (.c n)) ∨ (q ≠ i ∧ e[q]? = some a) := fun q a h => by
    by_cases h1 : i = q
    · subst h1
      by_cases hl : i < e.length
      · rw [List.getElem?_set_self hl] at h
        exact .inl ⟨rfl, by injection h with h; exact h.symm⟩
      · rw [List.getElem?_eq_none (by simpa using hl)] at h
        cases h
    · rw [List.getElem?_set_ne h1] at h
      exact .inr ⟨fun z => h1 z.symm, h⟩
  refine ⟨by simp [s.len], fun q x h => ?_, fun q c h => ?_, s.cell, s.inj, s.nb, s.bt, fun q hq c h => ?_, s.tb⟩
  · rcases hs q _ h with ⟨_, z⟩ | ⟨_, z⟩
    · cases z
    · exact s.slot q x z
  · rcases hs q _ h with ⟨_, z⟩ | ⟨_, z⟩
    · cases z
      exact ⟨hn, fun w => absurd hc w⟩
    · exact s.slotC q c z
  · rcases hs q _ h with ⟨z0, z⟩ | ⟨z0, z⟩
    · cases z
      subst z0
      refine ⟨h0, fun q' hq' w => ?_⟩
      rcases hs q' _ w with ⟨y0, _⟩ | ⟨_, y⟩
      · exact hq' y0
      · exact noOther_ne hu hq' y
    · obtain ⟨g1, g2⟩ := s.uq q hq c z
      refine ⟨g1, fun q' hq' w => ?_⟩
      rcases hs q' _ w with ⟨_, y⟩ | ⟨_, y⟩
      · cases y
        exact noOther_ne hu z0 z
      · exact g2 q' hq' y
theorem ts_frz {tail : List Stmt} {m : MS} (st : Stab F) (hm : i ∈ F.ml) (h : PSs X tail (TrS F W m)) : PSs X tail (TrS F W (mSeq [mFrz i m])) :=
  PSs_imp h fun D σ H ⟨B, ρ, e, S, s, hp⟩ => by
    have e0 : mSeq [mFrz i m] F.g e S = mFrz i m F.g e S := by
      unfold mSeq
      cases mFrz i m F.g e S <;> rfl
    rw [e0] at hp
    unfold mFrz at hp
    split at hp
    · rename_i n hei
      split at hp
      · rename_i c hc
        obtain ⟨l1, l2⟩ := s.slotC i n hei
        have hv : σ[i]? = some (some (.ref (ρ n))) := l2 (by rw [hc]; simp)
        have lv : ∀ m, cellOf (S.set n none) m ≠ none → cellOf S m ≠ none := fun m q => (cellOf_kill q).1
        have rep : Rep F (Ex B ρ (S.set n none)) H c.froz (.ref (ρ n)) :=
          ((s.cell n c hc).move st (Y := Ex B ρ (S.set n none)) (fun _ q => q) (fun _ _ _ q => q) fun a u _ n' q => ⟨q, fun y => n' (Ex.live lv a y)⟩).froz (s.killed hc)
        have s1 := (s.kill st (n := n)).put (i := i) rep
        have es : σ.set i (some (.ref (ρ n))) = σ := by
          apply List.ext_getElem?
          intro k
          by_cases q : i = k
          · subst q
            rw [List.getElem?_set_self (List.getElem?_eq_some_iff.mp hv).1, hv]
          · rw [List.getElem?_set_ne q]
        rw [es] at s1
        have x1 : ExtE ρ S H (S.set n none) H := ExtE.kill
        obtain ⟨u0, _⟩ := s.uq i hm n hei
        have ln : ∀ {ρ' S' H'}, Ext F.n0 ρ (S.set n none) H ρ' S' H' → n < S'.length := fun x => by rw [x.len, List.length_set]; exact l1
        refine ⟨B, ρ, _, _, s1, ?_⟩
        generalize m F.g (e.set i (some (.d c.froz))) (S.set n none) = o at hp ⊢
        cases o with
        | nx e' S' =>
          intro ρ' σ' H' s' x'
          simp only [unfrz] at hp
          split at hp
          · rename_i hb
            exact hp ρ' σ' H' (s'.dead (ln x') u0 hb.1 hb.2) (x1.ext.trans x')
          · exact hp.elim
        | bk e' S' =>
          intro ρ' σ' H' s' x'
          simp only [unfrz] at hp
          split at hp
          · rename_i hb
            exact hp ρ' σ' H' (s'.dead (ln x') u0 hb.1 hb.2) (x1.ext.trans x')
          · exact hp.elim
        | ct e' S' =>
          intro ρ' σ' H' s' x'
          simp only [unfrz] at hp
          split at hp
          · rename_i hb
            exact hp ρ' σ' H' (s'.dead (ln x') u0 hb.1 hb.2) (x1.ext.trans x')
          · exact hp.elim
        | ex c' e' S' =>
          intro ρ' σ' H' s' x' cl hcl
          simp only [unfrz] at hp
          split at hp
          · rename_i hb
            exact hp ρ' σ' H' (s'.dead (ln x') u0 hb.1 hb.2) (x1.ext.trans x') cl hcl
          · exact hp.elim
        | rt r S' =>
          intro ρ' e' σ' H' v s' x' r'
          exact hp ρ' e' σ' H' v s' (x1.ext.trans x') r'
        | no => exact hp
      · exact hp.elim
    · exact hp.elim
end
end M

/-! Sound53: an error that is made and kept. -/
namespace M
open PySem L2
open PySem (Str)
open PySem.Spec PyProof.Rows
/-- C(e): the error's object is new and known from now on -/
theorem pe_mkexc {X : Cx} {C : Addr} {bmB : List Value} {B newId initId : String} {x : Str} {e : Expr} {ta : TE} {p pos : Pos} (F : ExcBaseFacts B newId initId bmB) (q : PySem.W.excIn X.K C bmB newId = true) (gC : X.mg x = some (.ref C)) (kC : PySem.W.keepIn X.K (.ref C) = true) (hg : Gl X x)
    (he : PE X e ta) (hs : starEach [e] X.env = (false, eval e X.env) :: starEach [] X.env) (hdb : (x == ("__debug__" : Str)) = false) (hx : X.ex = []) :
    PE X (.Call (.Name x p) [e] [] pos) (fun σ H Q => ta σ H fun _ H1 => ∀ a, H1 a = none → Q (.ref a) (upd H1 a (ExcO a C))) := by
  refine ⟨fun pins s σ H Q I h => ?_⟩
  have bk : (backTo pos (starEach [] X.env)).any (·.1) = false := rfl
  refine wpAny_Call_Name_kw (ld_glob I hg gC ?_ hdb)
  refine PySem.W.callWith_K (h₀ := X.base) I.ok.mod.kin kC ?_ hs bk
  rw [hs]
  have arg := he.run pins s σ H _ I h
  refine Calls.spliced_cons (thn arg ?_)
  rintro u s1 ⟨v, H1, I1, r1, q1⟩
  refine Calls.spliced_nil ⟨I1.kIn, ?_⟩
  obtain ⟨bm, N, nm, qn, bs, hdct, sn, sub, ab, col, dd, k0, k1, k2, k3, k5, mN, hC, hN, hni, T⟩ := exc_obj I1.kIn q
  have few : [u].length ≤ sizeLine := by show 1 ≤ sizeLine; rw [sizeLine_eq]; omega
  refine wpAny_call_exc_subT F T hC hN hni (fun h' ad hm => ?_) few
  obtain ⟨t, there, _, _⟩ := hm.there
  have was : ∀ b o, X.s_0.heap.get? b = some o → b ≠ ad := by
    rintro b o e rfl
    obtain ⟨o', z⟩ := I1.base.there b o e (by rw [hx]; exact fun z => nomatch z)
    rw [hm.new] at z; cases z
  have nloc : ad ≠ X.env.locals := by
    rintro rfl
    obtain ⟨m, ⟨o, es, ep, e, _⟩, _⟩ := I1.loc
    rw [hm.new] at e; cases e
  have nfs : ad ∉ X.fs := fun hb => by
    obtain ⟨_, o, e, _⟩ := I1.ok.funs.mem hb
    exact was _ _ e rfl
  have none1 : H1 ad = none := I1.hok.gone hm.new
  have I2 : Inv X pins σ H1 { s1 with heap := h' } := I1.kept (t' := s1.toks) hm.keeps
  have I3 := I2.pins_of (pins' := (ad, { cls := .ref C, data := .fields #[.ref t, .none, .none, .none, .bool false, .none] }) :: pins) fun p hp => by
    rcases List.mem_cons.mp hp with rfl | hp
    · exact ⟨there, none1, nloc, nfs, fun v z => by cases z⟩
    · exact I2.pin p (List.mem_append.mpr (.inr hp))
  have I4 := track I3 hx (by
      cases q : X.s_0.heap.get? ad with
      | none => rfl
      | some o => exact absurd rfl (was _ _ q)) (fun p hp z => by
      obtain ⟨k, _⟩ := I1.pin p hp
      rw [z, hm.new] at k; cases k) ⟨rfl, rfl⟩ ⟨_, rfl⟩
  exact ⟨.ref ad, _, I4, rfl, q1 ad none1⟩
theorem te_mkexc {F : Fx} {W : WX} {X : Cx} {y m : Str} {j : Nat} {p p2 pos : Pos} (st : Stab F) (hmg : X.mg = F.mg) (x : ExcOk X.K X.mg y) (hg : Gl X y) (hdb : (y == ("__debug__" : Str)) = false) (hx : X.ex = []) :
    PE X (.Call (.Name y p) [.Constant (.str m) j p2] [] pos) (TrE F W (mK (.exc y))) := by
  obtain ⟨C, bm, B, n, i, h1, h2, h3, h4, h5, h6⟩ := x.ex
  refine PE_imp (pe_mkexc h1 h2 h3 h4 hg pe_str (by rfl) hdb hx) fun σ H Q ⟨B, ρ, e, S, s, hp⟩ => ?_
  show ∀ a, H a = none → Q (.ref a) (upd H a (ExcO a C))
  intro a ha
  refine hp (.ref a) _ ((s.alloc st ha (fun ps z => by unfold ExcO at z; cases z)).mono st fun a q => .inl q) (ExtE.alloc ha) ?_
  simp only [RepR, Rep]
  exact ⟨a, C, rfl, hmg ▸ h3, upd_same⟩
end M

/-! Sound54: sorted of the set of a tuple's few ints. -/
namespace M
open PySem L2
open PySem (Str)
open PySem.Spec PyProof.Rows
section
variable {F : Fx} {W : WX} {X : Cx} {a : Expr} {ma : ME} {pos pp p2 q : Pos}
def rSortedSetT (K : PySem.W.Frag) : V → Hp → VK → Prop := fun x H Q => ∃ (l : Addr) (ns : List Int), x = V.ref l ∧ SqT K H l (ns.map V.int) ∧ ns.length < 100 ∧ (∀ x ∈ ns, 0 ≤ x ∧ x < 60) ∧
  ∀ (ms : List Int) (p : Addr), ms.Pairwise (· < ·) → (∀ k : Int, k ∈ ms ↔ k ∈ ns) → ms.length < 64 → H p = none → Q (.ref p) (upd H p (.lst (ms.map V.int)))
theorem pe_sortedSetT {ta : TE} (hc : X.calm = true) (hg : Gl X "sorted") (hm : X.mg "sorted" = none) (hg2 : Gl X "set") (hm2 : X.mg "set" = none) (ha : PE X a ta)
    (na : starEach [a] X.env = (false, eval a X.env) :: starEach [] X.env := by rfl) : PE X (.Call (.Name "sorted" pp) [.Call (.Name "set" p2) [a] [] q] [] pos) (fun σ H Q => ta σ H fun x H1 => rSortedSetT X.K x H1 Q) := by
  refine ⟨fun pins s σ H Q I h => ?_⟩
  refine Call_ (ld_blt I hg hm PyProof.Rows.boot_sorted ?_)
  refine PyProof.Rows.callWith_builtin1 (PyProof.Rows.args_cons ?_ rfl) rfl rfl
  refine Call_ (ld_blt I hg2 hm2 PyProof.Rows.boot_set ?_)
  refine PyProof.Rows.callWith_type1 (PyProof.Rows.args_cons (thn (ha.run pins s σ H _ I h) fun v s1 ⟨x, H1, I1, r1, q1⟩ => PyProof.Rows.args_nil ?_) na) na rfl
  obtain ⟨l, ns, rfl, hq, h2, h1, q1⟩ := q1
  cases r1
  obtain ⟨its, r, pl, hz⟩ := I1.tuple hq
  refine call_set_tupI ns (I1.ok.hd hc) pl (by simpa using r.ints) (by unfold scanBound; omega) fun h' tk c R hc1 hk => ?_
  have hcard := setR_card R
  have few := seen_few h1
  refine PyProof.Rows.args_nil ?_
  have I2 : Inv X pins σ H1 { s1 with heap := h', toks := tk } := I1.kept fun b o e => hk b o e
  refine sorted_set R (I2.ok.hd hc) (by omega) fun s' p out c2 ms k g o hp hg hi hs hm hl => ?_
  have hlen : (ms.map V.int).length ≤ sizeLine := by rw [List.length_map, hl, sizeLine_eq]; omega
  have hn : H1 p = none := I2.hok.fresh hp
  have J : Inv X pins σ (upd H1 p (.lst (ms.map V.int))) { s1 with heap := s'.heap, gens := s'.gens, drawn := s'.drawn, toks := s'.toks } :=
    Inv.call (s := { s1 with heap := h', toks := tk }) (ch := []) I2 (Un.laid k hp hn) (I2.hok.laid k hp ⟨hlen, out.toList, c2, vals_of_ints hi, hg⟩) (by rw [g]; exact I2.bare) (fun _ z => nomatch z)
  have e : s' = { s1 with heap := s'.heap, gens := s'.gens, drawn := s'.drawn, toks := s'.toks } := by
    obtain ⟨h3, g3, d3, t3, o3⟩ := s'
    have : o3 = s1.os := o
    subst this
    rfl
  rw [e]
  exact ⟨.ref p, _, J, rfl, q1 ms p hs (fun j => by rw [hm j]; simp) (by omega) hn⟩
theorem op1_sortedSetT (st : Stab F) : Op1 F opSortedSetT (rSortedSetT F.K) := by
  intro B ρ e S σ H x v r Q s hx hf k
  unfold opSortedSetT at hf
  split at hf
  · rename_i xs q
    cases q
    obtain ⟨a, vs, rfl, h1, h2, h3⟩ := hx.tup
    split at hf
    · rename_i ns hn
      split at hf
      · rename_i hall
        cases hf
        have := intsOf_reps hn h3
        subst this
        rw [Bool.and_eq_true, decide_eq_true_iff] at hall
        obtain ⟨hall, hlt⟩ := hall
        have hall : ∀ x ∈ ns, 0 ≤ x ∧ x < 60 := fun x hx => by
          have := List.all_eq_true.mp hall x hx
          simpa using this
        refine ⟨a, ns, rfl, h1, hlt, hall, fun ms p hs hm hl hp => ?_⟩
        have e : ms = ((List.range 60).map Int.ofNat).filter fun i => decide (i ∈ ns) := by
          refine sorted_uniq hs (List.Pairwise.filter _ (List.pairwise_map.mpr (List.pairwise_lt_range.imp fun h => Int.ofNat_lt.mpr h))) fun k => ?_
          rw [hm, List.mem_filter, List.mem_map]
          constructor
          · intro hk
            have := hall k hk
            exact ⟨⟨k.toNat, List.mem_range.mpr (by omega), by show ((k.toNat : Nat) : Int) = k; omega⟩, by simpa using hk⟩
          · rintro ⟨_, hk⟩
            simpa using hk
        rw [← e] at k
        refine s.newLst st ?_ (reps_ints ms) k p hp
        rw [List.length_map]
        unfold LIM
        omega
      · cases hf
    · cases hf
  · cases hf
theorem te_sortedSetT (st : Stab F) (hK : X.K = F.K) (hc : X.calm = true) (hg : Gl X "sorted") (hm : X.mg "sorted" = none) (hg2 : Gl X "set") (hm2 : X.mg "set" = none) (ha : PE X a (TrE F W ma)) (he : starEach [a] X.env = (false, eval a X.env) :: starEach [] X.env) :
    PE X (.Call (.Name "sorted" pp) [.Call (.Name "set" p2) [a] [] q] [] pos) (TrE F W (mOp opSortedSetT [ma])) :=
  PE_imp (pe_sortedSetT hc hg hm hg2 hm2 ha he) fun σ H Q h => te_un st (hK ▸ op1_sortedSetT st) h
end
end M

/-! Sound55: a list of the def's own is lent to a call that gives data. -/
namespace M
open PySem L2
open PySem (Str)
section
variable {F : Fx} {W : WX} {X : Cx} {B : Addr → Prop} {ρ : Nat → Addr} {e : M.Env} {S S2 : Sto} {σ : L2.St} {H H2 : Hp} {a : Expr} {m : ME} {i n : Nat} {xs ys : List M.D} {v : V}
theorem reviveD (st : Stab F) (s : Sim F B ρ e S σ H) (hc : cellOf S n = some (.l xs)) {e' : M.Env} {x : M.D} (s2 : Sim F B ρ e' S2 σ H2) (x2 : ExtE ρ (S.set n none) H S2 H2) (r2 : Rep F (Ex B ρ S2) H2 x v)
    (hn : cellOf S2 n = none) (hy : lfree x = true) (hS : freeS S2 = true) :
    Sim F B ρ e (S2.set n (some (.l xs))) σ H2 ∧ ExtE ρ S H (S2.set n (some (.l xs))) H2 ∧ Rep F (Ex B ρ (S2.set n (some (.l xs)))) H2 x v := by
  have hcn : cellOf S n ≠ none := by rw [hc]; simp
  obtain ⟨vs, h1, h2, h3⟩ := cell_l s hc
  have hln : n < S.length := by
    by_cases h : n < S.length
    · exact h
    · rw [cellOf, List.getElem?_eq_none (by omega)] at hc; cases hc
  have hl2 : S2.length = S.length := by rw [x2.len, List.length_set]
  have hco : ∀ k, cellOf (S2.set n (some (.l xs))) k = if k = n then some (.l xs) else cellOf S2 k := fun k => by
    rw [cellOf_set]
    by_cases h : k = n
    · subst h; simp [hl2, hln]
    · rw [if_neg fun q => h q.1, if_neg h]
  have lv1 : ∀ k, cellOf (S.set n none) k ≠ none → cellOf S k ≠ none ∧ k ≠ n := fun k q => cellOf_kill q
  have lv : ∀ k, cellOf (S2.set n (some (.l xs))) k ≠ none → cellOf S k ≠ none := fun k q => by
    rw [hco] at q
    by_cases h : k = n
    · subst h; exact hcn
    · rw [if_neg h] at q
      exact (lv1 k (x2.live k q)).1
  have x3 : ExtE ρ S H (S2.set n (some (.l xs))) H2 := ⟨by rw [List.length_set, hl2], lv, fun b o nn t q => x2.fr b o (fun k hk => nn k (lv1 k hk).1) t q, x2.tr⟩
  have ha2 : H2 (ρ n) = some (.lst vs) := x2.fr _ _ (fun k hk z => (lv1 k hk).2 (s.inj k n (lv1 k hk).1 hcn z)) (fun _ z => by cases z) h1
  have hfr : ∀ b, B b → B b ∨ Nw H b := fun b q => .inl q
  refine ⟨⟨?_, fun k x q => ?_, fun k q h => ?_, fun k c q => ?_, fun k l q1 q2 => s.inj k l (lv k q1) (lv l q2), fun k q => ?_, s2.bt, s.uq, s2.tb⟩, x3, r2.free hy⟩
  · exact s.len
  · obtain ⟨w, g1, g2⟩ := s.slot k x q
    exact ⟨w, g1, s.repX st (n0 := 0) x3.ext hfr g2⟩
  · obtain ⟨g1, g2⟩ := s.slotC k q h
    exact ⟨by rw [List.length_set, hl2]; exact g1, fun z => g2 (lv q z)⟩
  · rw [hco] at q
    by_cases h : k = n
    · subst h
      rw [if_pos rfl] at q
      cases q
      exact ⟨vs, ha2, h2, s.repsX st (n0 := 0) x3.ext hfr h3⟩
    · rw [if_neg h] at q
      exact (s2.cell k c q).free (freeS_cell hS q)
  · rw [hco] at q
    by_cases h : k = n
    · subst h
      exact s.nb k hcn
    · rw [if_neg h] at q
      exact s2.nb k q
theorem te_borB (st : Stab F) (ha : PE X a (TrE F W m)) : PE X a (TrE F W (mBorB i m)) :=
  PE_imp ha fun σ H Q h => by
    obtain ⟨B, ρ, e, S, s, hp⟩ := h
    unfold mBorB at hp
    split at hp
    · rename_i n he
      split at hp
      · rename_i xs hc
        have hcn : cellOf S n ≠ none := by rw [hc]; simp
        have s1 := s.kill st (n := n)
        obtain ⟨vs, h1, h2, h3⟩ := cell_l s hc
        have hk := s.killed hc
        have lv : ∀ k, cellOf (S.set n none) k ≠ none → cellOf S k ≠ none := fun k q => (cellOf_kill q).1
        have rx : Rep F (Ex B ρ (S.set n none)) H (.lst xs) (.ref (ρ n)) := by
          rw [Rep]
          exact ⟨ρ n, vs, rfl, h1, hk, h2, h3.mono st (Ex.live lv)⟩
        have hv := var_cell s he hcn
        have s2 : Sim F B ρ (e.set i (some (.d (.lst xs)))) (S.set n none) σ H := by
          have := s1.put (i := i) rx
          rwa [lset_same hv] at this
        refine ⟨B, ρ, _, _, s2, ?_⟩
        split at hp
        · rename_i x S2 hm
          rw [hm]
          intro v H2 t x2 r2
          split at hp
          · rename_i hq
            have hq : (cellOf S2 n).isNone = true ∧ lfree x = true ∧ freeS S2 = true := by simpa using hq
            obtain ⟨q1, q2, q3⟩ := hq
            obtain ⟨z1, z2, z3⟩ := reviveD st s hc t x2 r2 (by simpa using q1) q2 q3
            exact hp v H2 z1 z2 z3
          · exact hp.elim
        · exact hp.elim
      · exact hp.elim
    · exact ⟨B, ρ, e, S, s, hp⟩
end
end M

/-! Sound56: lambdas with parameters, that take nothing from their def. -/
namespace M
open PySem L2
open PySem (Str)
open PySem.Spec PyProof.Rows
theorem cloFrom_nil {cells : List (Str × Addr)} : ∀ (names : List (Str × NameKind)) (acc : List (Str × Addr)), (∀ y ∈ names, y.2 ≠ .free) → cloFrom cells names acc = acc
  | [], _, _ => rfl
  | (n, k) :: r, acc, h => by
    unfold cloFrom
    have c : (k == NameKind.free) = false := by
      rw [Bool.eq_false_iff]
      intro z
      exact h (n, k) (List.mem_cons_self ..) (by simpa using z)
    rw [c]
    exact cloFrom_nil r acc fun y hy => h y (List.mem_cons_of_mem _ hy)
/-- what is to be known of such a lambda's head -/
structure LamP (l : Lam) (ps : List Str) : Prop where
  sc : FnScope ps ps l.scope
  bind : ∀ (q : Str) (pm cv ctv : Value) (us : List Value), us.length = ps.length → bindArgs (PySem.W.kla_fn "<lambda>" q l.params l.body l.scope [] pm cv ctv) ⟨us, []⟩ = pure (ps.zip us)
/-- it runs -/
theorem run_lamP {P : Program} {w : World} {K : PySem.W.Frag} {mg : Str → Option Value} {base : Heap} {q : Str} {cells : List (Str × Addr)} {l : Lam} {f c' : Addr} {k : Nat} {ps : List Str} (L : LamP l ps)
    {A : Around} {outer : List PySem.Env} {s : Shared} {H : Hp} {us : List Value} {vs : List V} {Q : VK} {E : XK} (hf : H f = some (CloO q cells l f c')) (hc : H c' = some (LamX.CodeO c' q)) (hr : Room (k + 1) A) (e0 : Env0 P w K mg base A outer s H) (r : Vals vs us) (hl : vs.length = ps.length)
    (hbody : Room k (A.deeper (envOfC q l.scope s.heap.objs.size f (.ref c'))) → ∃ te, PE (cxOf (L2.CX P w) P w K mg base ps q l.scope f (.ref c') A outer s H E) l.body te ∧ te (L2.start ps vs) H Q) :
    codeAny (model P w) A (.call (.ref f) ⟨us, []⟩) (CR (L2.CX P w) outer P w H s Q E) s := by
  obtain ⟨⟨pm, ctv, hf⟩, _, _⟩ := e0.hok f _ hf
  obtain ⟨⟨oc, vv, t, hoc, hdc, hvc⟩, _, _⟩ := e0.hok c' _ hc
  rw [cloFrom_nil _ _ L.sc.nofree] at hf
  have lim : s.heap.NoLimit := e0.mod.nolimit.keeps fun b o e => (e0.bs b o e).1
  have hul : us.length = ps.length := by rw [← r.length]; exact hl
  have hkind : ∀ y ∈ ps.zip us, l.scope.names.lookup y.1 = some .local ∨ (l.scope.names.lookup y.1 = some .cell ∧ ((cellsFrom (s.heap.objs.size + 1) l.scope.names []).lookup y.1).isSome = true) := fun ⟨n, v⟩ hy => by
    rcases L.sc.par n (List.of_mem_zip hy).1 with q | q
    · exact .inl q
    · exact .inr ⟨q, PySem.W.cellsFrom_some _ _ _ (.inl q)⟩
  refine PySem.W.kla_callFunE hr.depth hf rfl L.sc.co L.sc.gen rfl ⟨c', oc, vv, t, rfl, hoc, hdc, hvc⟩ ?_
  rw [L.bind q pm (.ref c') ctv us hul]
  refine wpAny_pure (wpAny_newFunctionEnv_cells L.sc.kind hkind fun env he s1 x => ?_)
  subst he
  refine ⟨lim.keeps x.toInCall.keep, PySem.W.kla_codeExpr ?_⟩
  obtain ⟨te, ht, hq⟩ := hbody (hr.deeper _)
  have I : Inv (cxOf (L2.CX P w) P w K mg base ps q l.scope f (.ref c') A outer s H E) [] (L2.start ps vs) H s1 := inv_start L.sc hr.hd e0 hl r x
  refine wpAny_mono (ht.run [] s1 (L2.start ps vs) H Q I hq) (fun v s' z => ?_) fun e s' z => z
  obtain ⟨w', H', J, rv, q⟩ := z
  exact ⟨w', H', J.os, J.bare, J.base, J.hok, rv, q⟩
section
variable {F F' : Fx} {W : WX} {X : Cx} {B B' B2 : Addr → Prop} {ρ ρ' ρ0 : Nat → Addr} {e e' e2 : M.Env} {S S' S0 S1 S2 : Sto} {σ σ' σ2 : L2.St} {H H' H0 H1 H2 : Hp} {Y : Addr → Prop} {x : M.D} {v w : V} {r : R} {p : Addr} {o : HO} {Q : VK} {a b c : Expr} {m ma mb mc mj : ME} {pos apos cpos p1 p2 p3 : Pos}
theorem tr_ret (st : Stab F) {D : Ends} (h : TrS F W (mRet ma) D σ H) : TrE F W ma σ H D.rt := by
  obtain ⟨B, ρ, e, S, s, hp⟩ := h
  refine stepS (Q := D.rt) st s hp fun r S1 v H1 s1 x1 r1 hp => ?_
  exact hp ρ e σ H1 v s1 x1.ext r1
/-- a lambda with parameters, and what it denotes -/
def LamPOk (P : Program) (w : World) (K : PySem.W.Frag) (mg : Str → Option Value) (base : Heap) (T : List (Addr × Str)) (r : Nat) (l : Lam) (np : Nat) (fm : Fn) : Prop := ∃ ps mb, LamP l ps ∧ ps.length = np ∧ fm = mkFn np [] (mRet mb) ∧
  ∀ (q : Str) (A : Around) (outer : List PySem.Env) (s : Shared) (H : Hp) (E : XK) (f c' : Addr), Room r (A.deeper (envOfC q l.scope s.heap.objs.size f (.ref c'))) → Takes (cxOf (L2.CX P w) P w K mg base ps q l.scope f (.ref c') A outer s H E) (fun cls d _ H => E cls d H) →
    ∀ F : Fx, F.K = K → F.mg = mg → F.T = T → Stab F → PE (cxOf (L2.CX P w) P w K mg base ps q l.scope f (.ref c') A outer s H E) l.body (TrE F (fun cls d _ H => E cls d H) mb)
def LamPsOk (P : Program) (w : World) (K : PySem.W.Frag) (mg : Str → Option Value) (base : Heap) (T : List (Addr × Str)) (r np : Nat) : List Lam → List Fn → Prop
  | [], [] => True
  | l :: ls, fm :: fs => LamPOk P w K mg base T r l np fm ∧ LamPsOk P w K mg base T r np ls fs
  | _, _ => False
theorem LamPsOk.get {P : Program} {w : World} {K : PySem.W.Frag} {mg : Str → Option Value} {base : Heap} {T : List (Addr × Str)} {r np : Nat} : ∀ {ls : List Lam} {fs : List Fn} {k : Nat} {l : Lam} {fm : Fn}, LamPsOk P w K mg base T r np ls fs → ls[k]? = some l → fs[k]? = some fm → LamPOk P w K mg base T r l np fm
  | [], _, _, _, _, _, e, _ => by simp at e
  | _ :: _, [], _, _, _, h, _, _ => h.elim
  | l :: ls, m :: ms, 0, _, _, h, e1, e2 => by
    simp at e1 e2
    subst e1 e2
    exact h.1
  | l :: ls, m :: ms, k + 1, _, _, h, e1, e2 => LamPsOk.get (k := k) h.2 (by simpa using e1) (by simpa using e2)
/-- a call's promise, and that the name holds what it held -/
theorem call_spκ (st : Stab F) {fm : Fn} {np : Nat} {mss : List ME} {i kk : Nat} (hnp : mss.length = np) (s : Sim F B ρ e S σ H) (he : e[i]? = some (some (.d (.clo kk)))) (hp : PostO (mCall fm mss F.g e S) (NP F B ρ e σ S H Q) (XP F W B ρ e σ S H)) :
    TrA F W mss σ H fun vs H1 => spF F.K F.mg F.T fm np vs H1 Q (L2.WE W σ) ∧ ∃ v, σ[i]? = some (some v) ∧ F.κ kk v H1 := by
  unfold mCall at hp
  refine ⟨B, ρ, e, S, s, ?_⟩
  cases hm : evRs mss F.g e S with
  | no => rw [hm] at hp; exact hp.elim
  | ex c S' => rw [hm] at hp; exact hp
  | ok rs S1 =>
  rw [hm, O.bind_ok] at hp
  intro vs H1 s1 x1 r1
  have hl := (RepRs.slots st r1).1
  have hl2 := evRs_len _ _ _ _ hm
  refine ⟨⟨by omega, F.κ, F.g, B, ρ, S1, rs.map toA, st.cong same0, by simp; omega, args_sim st same0 rfl s1 r1, hp.imp (fun r S2 hq v H2 s2 x2 r2 => ?_) fun c S2 hq H2 s2 x2 cl hc => ?_⟩, ?_⟩
  · have hb : ∀ a, addR B r v a → B a ∨ Nw H1 a := fun a q => by
      cases r with
      | d y => exact .inl q
      | c n => exact .inl q
      | f c =>
        rcases q with q | q
        · exact .inl q
        · obtain ⟨ad, rfl, g2, _⟩ := r2
          injection q with q
          rw [← q]; exact .inr g2
    exact hq v H2 (Sim.ret st same0.symm s1 s2 x2 hb) (x1.trans x2) ((r2.cong same0.symm).since fun a q => x1.none_ q)
  · exact hq H2 (Sim.ret st same0.symm s1 s2 x2 fun a q => .inl q) (x1.trans x2) cl hc
  · obtain ⟨v, h1, h2⟩ := s1.slot i (.clo kk) he
    exact ⟨v, h1, by simpa only [Rep] using h2⟩
/-- a lambda with parameters is made -/
theorem te_cloP {c P : Addr} {params : Arguments} {body : Expr} {scope : Scope} {k : Nat} {tb : List Lam} {pos : Pos} (st : Stab F) (hκ : F.κ = κL (X.env.qual ++ "<lambda>") X.env.cells tb) (hk : tb[k]? = some ⟨params, body, scope⟩) (TB : LamX.TabB X.base X.mg c P) (hcode : X.env.code = .ref c) (hmT : (P, X.env.qual ++ "<lambda>") ∈ F.T)
    (hu : ∀ p ∈ F.T, p.1 = P → p.2 = X.env.qual ++ "<lambda>") (nf : ∀ y ∈ scope.names, y.2 ≠ .free) (hdef : defaultsOf params X.env = ([], [])) : PE X (.Lambda params body scope pos) (TrE F W (mK (.clo k))) := by
  refine ⟨fun pins s σ H Q I ⟨B, ρ, e, S, sm, hp⟩ => ?_⟩
  refine lam_trk (l := ⟨params, body, scope⟩) I TB hcode hmT hu sm.tb.tabs hdef (fun y hy z => absurd z (nf y hy)) fun f c' H1 s' I1 x1 T1 hf hc => ?_
  obtain ⟨s1, y1⟩ := sm.extN st x1 T1
  refine ⟨.ref f, H1, I1, rfl, hp (.ref f) H1 s1 y1 ?_⟩
  simp only [RepR, Rep]
  rw [hκ]
  exact ⟨_, f, c', hk, rfl, hf, hc⟩
/-- x(a, ..), x holds a def or a lambda with parameters -/
theorem te_callFC {tb : List (Str × Fn)} {lt : List Fn} {lams : List Lam} {q : Str} {cells : List (Str × Addr)} {mss : List ME} {es : List Expr} {y : Str} {i k r : Nat} (st : Stab F) (tk : Takes X W) (hK : X.K = F.K) (hmg : X.mg = F.mg) (A : Tab X.prog X.w X.K X.mg X.base F.T k mss.length tb)
    (hκ : F.κ = κL q cells lams) (hl : LamPsOk X.prog X.w X.K X.mg X.base F.T r mss.length lams lt) (hr : Room k X.A) (hr2 : Room (r + 1) X.A) (hN : X.N[i]? = some y) (hv : Vis X.env.scope y)
    (ha : PA X (a :: es) (TrA F W mss)) (hdb : (y == ("__debug__" : Str)) = false) (hcd : (y == ("__classdict__" : Str)) = false) (he : starEach (a :: es) X.env = (false, eval a X.env) :: starEach es X.env) (hpl : (backTo pos (starEach es X.env)).any (·.1) = false) :
    PE X (.Call (.Name y p1) (a :: es) [] pos) (TrE F W (mCallFC tb lt i mss)) := by
  refine ⟨fun pins s σ H Q I h => ?_⟩
  obtain ⟨B, ρ, e, S, s0, hp⟩ := h
  unfold mCallFC at hp
  split at hp
  · rename_i z hz
    split at hp
    · rename_i fm hf
      exact (te_callF st tk hK hmg A hr hN hv ha hdb hcd he hpl).run pins s σ H Q I ⟨B, ρ, e, S, s0, by
        unfold mCallF
        rw [hz]
        simp only [hf]
        exact hp⟩
    · exact hp.elim
  · rename_i kk hz
    split at hp
    · rename_i fm hf
      obtain ⟨v0, hv1, hv2⟩ := s0.slot i _ hz
      have hv2 : F.κ kk v0 H := by simpa only [Rep] using hv2
      rw [hκ] at hv2
      obtain ⟨l, f, c0, hlk, rfl, _, _⟩ := hv2
      obtain ⟨ps, mb, L, hpl', rfl, hb⟩ := hl.get hlk hf
      refine wpAny_Call_Name_kw (thn ((pe_var (pos := p1) hN hv hdb hcd).run pins s σ H (fun v H1 => v = .ref f ∧ H1 = H) I ⟨.ref f, hv1, rfl, rfl⟩) fun u s1 ⟨v, H1, I1, r1, q1⟩ => ?_)
      obtain ⟨rfl, rfl⟩ := q1
      cases r1
      have hc := call_spκ (np := mss.length) st rfl s0 hz hp
      have hf0 : PySem.W.FnAt f s1.heap := by
        obtain ⟨v1, h1, h2⟩ := s0.slot i _ hz
        have h2 : F.κ kk v1 H1 := by simpa only [Rep] using h2
        rw [hκ] at h2
        obtain ⟨l1, f1, c1, g1, rfl, g3, g4⟩ := h2
        rw [hv1] at h1
        cases h1
        obtain ⟨⟨pm, ctv, hfo⟩, _, _⟩ := I1.hok f _ g3
        exact ⟨_, _, _, _, hfo⟩
      refine PySem.W.callWith_F hf0 (thn (ha.run pos pins s1 σ _ _ I1 hc) fun us s2 ⟨vs, H2, I2, r2, q2⟩ => ?_) he hpl
      obtain ⟨hsp, v2, w1, w2⟩ := q2
      rw [hv1] at w1
      cases w1
      rw [hκ] at w2
      obtain ⟨l2, f2, c2, g1, g2, g3, g4⟩ := w2
      cases g2
      rw [hlk] at g1
      cases g1
      have hlen : vs.length = ps.length := by rw [hpl']; exact hsp.1
      obtain ⟨⟨pm2, ctv2, hfo2⟩, _, _⟩ := I2.hok f _ g3
      refine ⟨⟨_, _, _, _, hfo2⟩, ?_⟩
      show wpAny _ _ (call (.ref f) ([] ++ us)) _ _ s2
      rw [List.nil_append]
      refine wpAny_call (codeAny_mono (R := CR (L2.CX X.prog X.w) X.stack X.prog X.w H2 s2 Q (L2.WE W σ)) ?_ fun r s' hq => ?_)
      · refine run_lamP (k := _) L g3 g4 hr2 I2.env0 r2 hlen fun hr3 => ?_
        obtain ⟨_, κ, g, B2, ρ2, S2, as, st2, hal, sm, hpo⟩ := hsp
        have same : SameF (fx0 F.K F.mg F.T κ g) ⟨F.K, F.mg, κ, F.T, S2.length, [], g⟩ := ⟨rfl, rfl, rfl, rfl⟩
        have stF : Stab ⟨F.K, F.mg, κ, F.T, S2.length, [], g⟩ := st2.cong same
        refine ⟨_, hb q X.A X.stack s2 H2 (L2.WE W σ) f c2 hr3 (takes_of rfl rfl rfl rfl) ⟨F.K, F.mg, κ, F.T, S2.length, [], g⟩ hK.symm hmg.symm rfl stF, ?_⟩
        have en := entry_sim (muts := []) (N := ps) same (by rfl) rfl (by rw [hal]; simpa using hpl') sm
        unfold mkFn at hpo
        rw [if_pos hal] at hpo
        have lp := leave_post (k := 0) same stF rfl hpo
        exact tr_ret (D := { nx := fun _ H' => Q .non H', rt := Q }) stF ⟨B2, ρ2, _, _, en, lp⟩
      · cases r with
        | error e => exact (passAt tk σ) pins H2 s2 e s' I2 hq
        | ok fl =>
          cases fl with
          | ret u => exact I2.after hq
          | next => exact False.elim hq
          | brk => exact False.elim hq
          | cont => exact False.elim hq
    · exact hp.elim
  · exact hp.elim
end
end M

/-! Sound57: a def whose lambdas are its own: what comes in and goes out holds none. -/
namespace M
open PySem L2
open PySem (Str)
open PySem.Spec PyProof.Rows
/-- the same but for the lambdas -/
structure SameK (F F' : Fx) : Prop where
  K : F.K = F'.K
  mg : F.mg = F'.mg
  T : F.T = F'.T
  ml : F.ml = F'.ml
  n0 : F.n0 = F'.n0
theorem SameK.symm {F F' : Fx} (h : SameK F F') : SameK F' F := ⟨h.K.symm, h.mg.symm, h.T.symm, h.ml.symm, h.n0.symm⟩
section
variable {F F' : Fx} {X : Addr → Prop} {H : Hp}
mutual
theorem Rep.reclo (h : SameK F F') : ∀ {x : M.D} {v : V}, noClo x = true → Rep F X H x v → Rep F' X H x v
  | .non, _, _, q => by simpa only [Rep] using q
  | .bl _, _, _, q => by simpa only [Rep] using q
  | .int _, _, _, q => by simpa only [Rep] using q
  | .str _, _, _, q => by simpa only [Rep] using q
  | .tup xs, _, n, q => by
    simp only [Rep] at q ⊢
    obtain ⟨a, vs, e, h1, h2, h3⟩ := q
    exact ⟨a, vs, e, h.K ▸ h1, h2, Reps.reclo h (by simpa [noClo] using n) h3⟩
  | .lst xs, _, n, q => by
    simp only [Rep] at q ⊢
    obtain ⟨a, vs, e, h1, h2, h3, h4⟩ := q
    exact ⟨a, vs, e, h1, h2, h3, Reps.reclo h (by simpa [noClo] using n) h4⟩
  | .dct ks xs, _, n, q => by
    simp only [Rep] at q ⊢
    obtain ⟨a, vs, e, h1, h2, h3, h4⟩ := q
    exact ⟨a, vs, e, h1, h2, h3, Reps.reclo h (by simpa [noClo] using n) h4⟩
  | .rol xs, _, n, q => by
    simp only [Rep] at q ⊢
    obtain ⟨a, vs, e, h1, h3, h4⟩ := q
    exact ⟨a, vs, e, h.K ▸ h1, h3, Reps.reclo h (by simpa [noClo] using n) h4⟩
  | .fn _, _, _, q => by
    simp only [Rep] at q ⊢
    rw [← h.mg]; exact q
  | .clo _, _, n, _ => by simp [noClo] at n
  | .exc _, _, _, q => by
    simp only [Rep] at q ⊢
    rw [← h.mg]; exact q
theorem Reps.reclo (h : SameK F F') : ∀ {xs : List M.D} {vs : List V}, noClos xs = true → Reps F X H xs vs → Reps F' X H xs vs
  | [], _, _, q => by simpa only [Reps] using q
  | x :: xs, _, n, q => by
    simp only [Reps] at q ⊢
    obtain ⟨v, r, e, h1, h2⟩ := q
    have n : noClo x = true ∧ noClos xs = true := by simpa [noClos] using n
    exact ⟨v, r, e, Rep.reclo h n.1 h1, Reps.reclo h n.2 h2⟩
end
theorem CellAt.reclo (h : SameK F F') {a : Addr} {c : C} (n : noCloC c = true) (q : CellAt F X H a c) : CellAt F' X H a c := by
  cases c with
  | l xs => obtain ⟨vs, h1, h2, h3⟩ := q; exact ⟨vs, h1, h2, h3.reclo h n⟩
  | k ks xs => obtain ⟨vs, h1, h2, h3⟩ := q; exact ⟨vs, h1, h2, h3.reclo h n⟩
end
theorem noCloS_cell {S : Sto} (h : noCloS S = true) {k : Nat} {c : C} (hc : cellOf S k = some c) : noCloC c = true := by
  unfold cellOf at hc
  cases q : S[k]? with
  | none => rw [q] at hc; cases hc
  | some o =>
    rw [q] at hc
    have hc : o = some c := hc
    subst hc
    exact List.all_eq_true.mp h _ (List.mem_of_getElem? q)
section
variable {F F' : Fx} {B : Addr → Prop} {ρ : Nat → Addr} {e : M.Env} {S : Sto} {σ : L2.St} {H H0 : Hp} {r : R} {v : V}
theorem Sim.reclo (h : SameK F F') (s : Sim F B ρ e S σ H) (he : ∀ (i : Nat) (x : M.D), e[i]? = some (some (.d x)) → noClo x = true) (hS : noCloS S = true) : Sim F' B ρ e S σ H where
  len := s.len
  slot := fun i x q => let ⟨v, h1, h2⟩ := s.slot i x q; ⟨v, h1, h2.reclo h (he i x q)⟩
  slotC := s.slotC
  cell := fun n c q => (s.cell n c q).reclo h (noCloS_cell hS q)
  inj := s.inj
  nb := s.nb
  bt := s.bt
  uq := fun i hi n q => by
    have := s.uq i (h.ml ▸ hi) n q
    rw [← h.n0]; exact this
  tb := h.T ▸ s.tb
theorem RepR.reclo (h : SameK F F') (n : noCloR r = true) (q : RepR F B ρ S H0 H r v) : RepR F' B ρ S H0 H r v := by
  cases r with
  | d x => exact Rep.reclo h n q
  | f c => obtain ⟨a, h1, h2, h3, h4⟩ := q; exact ⟨a, h1, h2, h3, h4.reclo h n⟩
  | c n => exact q
end
/-- THE RULE of a def that keeps lambdas -/
theorem fn_okK {P : Program} {w : World} {K : PySem.W.Frag} {mg : Str → Option Value} {base : Heap} {T : List (Addr × Str)} {y qual : Str} {sd : Stmt} {f : Addr} {fd : FuncData} {N ps : List Str} {k np : Nat} {muts : List Bool} {m : MS} (tb : List Lam)
    (Fd : L2.Fun K y qual sd f fd) (Sc : FnScope N ps (defScope sd)) (hnp : ps.length = np) (hN : N.length = np + muts.length)
    (hbody : ∀ (cdv : Value), fd.code = cdv → ∀ (A : Around) (outer : List PySem.Env) (s : Shared) (H : Hp) (E : XK), Room k (A.deeper (envOfC qual (defScope sd) s.heap.objs.size f cdv)) → ∀ F : Fx, F.K = K → F.mg = mg → F.T = T → F.ml = mlOf muts np → Stab F →
      F.κ = κL ((envOfC qual (defScope sd) s.heap.objs.size f cdv).qual ++ "<lambda>") (envOfC qual (defScope sd) s.heap.objs.size f cdv).cells tb →
      PSs (cxOf (L2.CX P w) P w K mg base N qual (defScope sd) f cdv A outer s H E) (defBody sd) (TrS F (fun cls d _ H => E cls d H) m)) :
    FnOk P w K mg base (L2.CX P w) (k + 1) f fd ps (spF K mg T (mkFnK np muts m) np) :=
  by
    obtain ⟨oc, od, kV, doc, pm, an, cdv, ct, osl, hfd, lk, hcd⟩ := Fd.ex
    have hcode : fd.code = cdv := by rw [hfd]
    subst hfd
    refine L2.fn_of lk hcd Sc (fun vs H Q E q => by rw [hnp]; exact q.1) fun A outer s H vs Q E hr hsp => ?_
    obtain ⟨hl, κ0, g, B, ρ, S, as, st, ha, s0, hp⟩ := hsp
    unfold mkFnK at hp
    split at hp
    case isFalse => exact hp.elim
    rename_i hno
    have hno : as.all noCloA = true ∧ noCloS S = true := by simpa using hno
    let κ := κL ((envOfC qual (defScope sd) s.heap.objs.size f cdv).qual ++ "<lambda>") (envOfC qual (defScope sd) s.heap.objs.size f cdv).cells tb
    let F : Fx := ⟨K, mg, κ, T, S.length, mlOf muts np, g⟩
    have same : SameF (fx0 K mg T κ g) F := ⟨rfl, rfl, rfl, rfl⟩
    have sk : SameK (fx0 K mg T κ0 g) (fx0 K mg T κ g) := ⟨rfl, rfl, rfl, rfl, rfl⟩
    have stF : Stab F := stab_κL rfl
    have s1 : Sim (fx0 K mg T κ g) B ρ (as.map some) S (vs.map some) H := s0.reclo sk (fun i x q => by
      have q := getElem?_map_some.mp q
      exact List.all_eq_true.mp hno.1 _ (List.mem_of_getElem? q)) hno.2
    refine ⟨_, hbody cdv hcode A outer s H E hr F rfl rfl rfl rfl stF rfl, B, ρ, as.map some ++ M.frame muts S.length, S ++ List.replicate (muts.countP id) none, entry_sim same (by rw [ha]) rfl (by rw [ha]; exact hN) s1, ?_⟩
    refine leave_post (κ := κ) (k := muts.countP id) same stF rfl ?_
    have e : mkFn np muts m g as S = outOf S.length (m g (as.map some ++ M.frame muts S.length) (S ++ List.replicate (muts.countP id) none)) := by
      unfold mkFn
      rw [if_pos ha]
    rw [e] at hp
    show PostO (outOf S.length (m g (as.map some ++ M.frame muts S.length) (S ++ List.replicate (muts.countP id) none))) _ _
    cases ho : outOf S.length (m g (as.map some ++ M.frame muts S.length) (S ++ List.replicate (muts.countP id) none)) with
    | no => rw [ho] at hp; exact hp.elim
    | ok r S' =>
      rw [ho] at hp
      simp only [lockO] at hp
      split at hp
      · rename_i hq
        have hq : noCloR r = true ∧ noCloS S' = true := by simpa using hq
        intro v H' s' x' r'
        exact hp v H' (s'.reclo sk.symm (fun i x q => by simp at q) hq.2) x' (r'.reclo sk.symm hq.1)
      · exact hp.elim
    | ex c S' =>
      rw [ho] at hp
      simp only [lockO] at hp
      split at hp
      · rename_i hq
        intro H' s' x' cl hc
        exact hp H' (s'.reclo sk.symm (fun i x q => by simp at q) hq) x' cl hc
      · exact hp.elim
theorem ok_ofK {P : Program} {w : World} {K : PySem.W.Frag} {mg : Str → Option Value} {base : Heap} {T : List (Addr × Str)} {y : Str} {sd : Stmt} {f : Addr} {fd : FuncData} {N ps : List Str} {k np : Nat} {muts : List Bool} {m : MS} (tb : List Lam)
    (Fd : L2.Fun K y y sd f fd) (hmg : mg y = some (.ref f)) (hb : Binds K fd ps []) (Sc : FnScope N ps (defScope sd)) (hnp : ps.length = np) (hN : N.length = np + muts.length)
    (hbody : ∀ (cdv : Value), fd.code = cdv → ∀ (A : Around) (outer : List PySem.Env) (s : Shared) (H : Hp) (E : XK), Room k (A.deeper (envOfC y (defScope sd) s.heap.objs.size f cdv)) →
      Takes (cxOf (L2.CX P w) P w K mg base N y (defScope sd) f cdv A outer s H E) (fun cls d _ H => E cls d H) →
      PassesOwn (model P w) (cxOf (L2.CX P w) P w K mg base N y (defScope sd) f cdv A outer s H E).A (cxOf (L2.CX P w) P w K mg base N y (defScope sd) f cdv A outer s H E).env (cxOf (L2.CX P w) P w K mg base N y (defScope sd) f cdv A outer s H E).xe →
      (A.deeper (envOfC y (defScope sd) s.heap.objs.size f cdv)).units + 64 < cLine → (A.deeper (envOfC y (defScope sd) s.heap.objs.size f cdv)).units + 65 < cLine → ∀ F : Fx, F.K = K → F.mg = mg → F.T = T → F.ml = mlOf muts np → Stab F →
      F.κ = κL ((envOfC y (defScope sd) s.heap.objs.size f cdv).qual ++ "<lambda>") (envOfC y (defScope sd) s.heap.objs.size f cdv).cells tb →
      PSs (cxOf (L2.CX P w) P w K mg base N y (defScope sd) f cdv A outer s H E) (defBody sd) (TrS F (fun cls d _ H => E cls d H) m)) : OkAt P w K mg base T y f fd (k + 1) ps (mkFnK np muts m) np :=
  ⟨hmg, Fd.kp, hb, fn_okK tb Fd Sc hnp hN fun cdv hc A outer s H E hr F h1 h2 h3 h4 st hκ => hbody cdv hc A outer s H E hr (takes_of rfl rfl rfl rfl) (passes_of rfl) hr.units (by have := hr.un; omega) F h1 h2 h3 h4 st hκ⟩
/-! the lambdas of a def, in their order -/
def lamT2 : Stmt → List Lam
  | .Assign _ e _ => lamE e
  | .Expr e _ => lamE e
  | .For _ it _ _ _ => lamE it
  | _ => []
def lamS : Stmt → List Lam
  | .Assign _ e _ => lamE e
  | .Expr e _ => lamE e
  | .For _ it body _ _ => lamE it ++ body.flatMap lamT2
  | _ => []
def lamsF (body : List Stmt) : List Lam := body.flatMap lamS
end M

/-! Sound58: len of the set of a list's few Nones and ints; x[2:0:-1]. -/
namespace M
open PySem L2
open PySem (Str)
open PySem.Spec PyProof.Rows
def seenN (os : List (Option Int)) : List (Option Int) := os.foldl seenO []
def keyN (o : Option Int) : Option Key := o.map Sum.inl
theorem keyN_inj {a b : Option Int} (h : keyN a = keyN b) : a = b := by
  cases a <;> cases b <;> simp [keyN] at h ⊢
  exact h
open Classical in
noncomputable def memN (os : List (Option Int)) : Option Key → Bool := fun k => decide (k ∈ (seenN os).map keyN)
def OptV (o : Option Int) (v : Value) : Prop := match o with
  | none => v = .none
  | some i => ∃ t, v = .int i t
theorem optV_is {P : Program} {w : World} {o : Option Int} {v : Value} (h : OptV o v) : (noneKind P w).is (keyN o) v = true := by
  cases o with
  | none => cases h; rfl
  | some i =>
    obtain ⟨t, rfl⟩ := h
    show keyIs (.inl i) (.int i t) = true
    simp [keyIs, Value.isInt]
theorem optV_scan {o : Option Int} {v : Value} (h : OptV o v) : v.scannable = true := by
  cases o with
  | none => cases h; rfl
  | some i => obtain ⟨t, rfl⟩ := h; rfl
inductive OptVs : List Value → List (Option Int) → Prop
  | nil : OptVs [] []
  | cons {v : Value} {vs : List Value} {o : Option Int} {os : List (Option Int)} (h : OptV o v) (r : OptVs vs os) : OptVs (v :: vs) (o :: os)
theorem OptVs.length : ∀ {vs : List Value} {os : List (Option Int)}, OptVs vs os → vs.length = os.length
  | _, _, .nil => rfl
  | _, _, .cons _ r => by simp [r.length]
theorem OptVs.at_ : ∀ {vs : List Value} {os : List (Option Int)}, OptVs vs os → ∀ (i : Nat) (v : Value), vs[i]? = some v → ∃ o, os[i]? = some o ∧ OptV o v
  | _, _, .nil, i, v, h => by simp at h
  | _, _, .cons (o := o) q r, 0, v, h => by
    simp at h
    subst h
    exact ⟨o, rfl, q⟩
  | _, _, .cons q r, i + 1, v, h => by
    obtain ⟨o, h1, h2⟩ := r.at_ i v (by simpa using h)
    exact ⟨o, by simpa using h1, h2⟩
theorem seenO_len (acc : List (Option Int)) (o : Option Int) : (seenO acc o).length ≤ acc.length + 1 := by
  unfold seenO
  split
  · omega
  · simp
theorem fold_len : ∀ (os acc : List (Option Int)), (os.foldl seenO acc).length ≤ acc.length + os.length
  | [], acc => by simp
  | o :: os, acc => by
    have h1 := fold_len os (seenO acc o)
    have h2 := seenO_len acc o
    rw [List.foldl_cons, List.length_cons]
    omega
theorem seenN_le (os : List (Option Int)) : (seenN os).length ≤ os.length := by
  have := fold_len os []
  simpa [seenN] using this
theorem seenN_snoc (os : List (Option Int)) (o : Option Int) : seenN (os ++ [o]) = if o ∈ seenN os then seenN os else seenN os ++ [o] := by
  unfold seenN
  rw [List.foldl_append]
  rfl
section
variable {P : Program} {w : World} {A : Around} {E : Value → Shared → Prop} {s : Shared}
theorem setOf_at {knd : PySem.KeyKind P w (Option Key)} {h h' : Heap} {a : Addr} {S : Option Key → Bool} {n : Nat} (r : h.SetOf knd a S n) (k : ∀ o, h.get? a = some o → h'.get? a = some o) : h'.SetOf knd a S n := by
  obtain ⟨o, es, ep, t, ho, q⟩ := r
  exact ⟨o, es, ep, t, k o ho, q⟩
theorem setOf_step {h : Heap} {a : Addr} {os : List (Option Int)} {o : Option Int} (r : h.SetOf (noneKind P w) a (fun k' => memN os k' || decide (k' = keyN o)) (if memN os (keyN o) then (seenN os).length else (seenN os).length + 1)) :
    h.SetOf (noneKind P w) a (memN (os ++ [o])) (seenN (os ++ [o])).length := by
  have mem : memN os (keyN o) = decide (o ∈ seenN os) := by
    unfold memN
    congr 1
    apply propext
    rw [List.mem_map]
    exact ⟨fun ⟨z, h1, h2⟩ => keyN_inj h2 ▸ h1, fun h => ⟨o, h, rfl⟩⟩
  have e1 : (fun k' => memN os k' || decide (k' = keyN o)) = memN (os ++ [o]) := by
    funext k'
    classical
    unfold memN
    rw [seenN_snoc]
    by_cases c : o ∈ seenN os
    · rw [if_pos c, Bool.eq_iff_iff, Bool.or_eq_true, decide_eq_true_iff, decide_eq_true_iff]
      exact ⟨fun z => z.elim id fun z => z ▸ List.mem_map.mpr ⟨o, c, rfl⟩, .inl⟩
    · rw [if_neg c, Bool.eq_iff_iff, Bool.or_eq_true, decide_eq_true_iff, decide_eq_true_iff, decide_eq_true_iff, List.map_append, List.mem_append, List.map_cons, List.map_nil, List.mem_singleton]
  have e2 : (if memN os (keyN o) then (seenN os).length else (seenN os).length + 1) = (seenN (os ++ [o])).length := by
    rw [mem, seenN_snoc]
    by_cases c : o ∈ seenN os
    · simp [c]
    · simp [c]
  rw [e1, e2] at r
  exact r
theorem bornSetN {h : Heap} {a : Addr} (ho : h.get? a = some (bornSet w)) : h.SetOf (noneKind P w) a (memN ([] : List (Option Int))) (seenN ([] : List (Option Int))).length :=
  ⟨_, #[], 0, _, ho, ⟨rfl, rfl, rfl⟩, rfl, fun e he => by simp at he, fun k => by simp [memN, seenN], by unfold scanBound; simp, by rfl, rfl⟩
theorem setLoopN {I S : Addr} {fp wr : List Addr} {Pv : Nat → Value → Prop} {St : Nat → Shared → Prop} {os : List (Option Int)} {n : Nat} {R : Result → Shared → Prop} (W : WalksS P w A.in1 I fp wr (fun a b => b = a) n Pv St) (hS : S ∉ fp)
    (h60 : os.length < 60) (hn : os.length = n) (hv : ∀ i v, Pv i v → ∃ o, os[i]? = some o ∧ OptV o v) :
    ∀ (m i : Nat) (s : Shared), i + m = n → St i s → s.heap.SetOf (noneKind P w) S (memN (os.take i)) (seenN (os.take i)).length →
      (∀ h' tk, (∀ b o, b ≠ S → b ∉ wr → s.heap.get? b = some o → h'.get? b = some o) → h'.SetOf (noneKind P w) S (memN os) (seenN os).length → R (.ok (.ret .none)) { s with heap := h', toks := tk }) →
      codeAny (model P w) A (.builtin "set.update.loop" ⟨[.ref S, .ref I], []⟩) R s := by
  intro m
  induction m with
  | zero =>
    rintro i s rfl st r k
    refine codeAny_builtin PyProof.Rows.F.entry_set_update_loop ?_
    rw [PySem.Around.under_plainId PyProof.Rows.F.plain_set_update_loop]
    show wpAny (model P w) A.in1 (pyNext (.ref I) >>= fun _ => _) _ _ s
    refine wpAny_bind (W.done s _ _ st fun s2 mv => wpAny_pure ?_)
    rw [mv.eq_with]
    refine k s2.heap s2.toks (fun b o _ hb e => mv.heap b o hb e) ?_
    have r := setOf_at r (h' := s2.heap) fun o e => mv.heap S o (fun q => hS (W.sub S q)) e
    rw [List.take_of_length_le (by omega)] at r
    exact r
  | succ m ih =>
    rintro i s e st r k
    refine codeAny_builtin PyProof.Rows.F.entry_set_update_loop ?_
    rw [PySem.Around.under_plainId PyProof.Rows.F.plain_set_update_loop]
    show wpAny (model P w) A.in1 (pyNext (.ref I) >>= fun _ => _) _ _ s
    refine wpAny_bind (W.item i s _ _ (by omega) st fun v s2 pv st2 mv => ?_)
    obtain ⟨z, hz, hzv⟩ := hv i v pv
    have r2 := setOf_at r (h' := s2.heap) fun o e => mv.heap S o (fun q => hS (W.sub S q)) e
    have few := seenN_le (os.take i)
    have fl : (os.take i).length ≤ 60 := by rw [List.length_take]; omega
    show wpAny (model P w) A.in1 (holding [v] (setAdd S v) >>= fun _ => _) _ _ s2
    refine wpAny_bind (wpAny_holding ?_)
    unfold setAdd
    refine wpAny_holding (wpAny_bind ((noneKind P w).pyHash (k := keyN z) (optV_is hzv) ?_))
    refine wpAny_setAddHashed_of (knd := noneKind P w) (s := { s2 with toks := s2.toks + 1 }) (optV_is hzv) (optV_scan hzv) r2 (by unfold scanBound; omega) fun h3 sb r3 => wpAny_pure ⟨PySem.Code.quiet_builtin _ (by decide +kernel), ?_⟩
    refine ih (i + 1) { s2 with heap := h3, toks := s2.toks + 1 } (by omega) (W.frame _ s2 _ _ st2 (Nat.le_succ _) fun b hb o q => (sb.2 b fun z => hS (z ▸ hb)).trans q) ?_ fun h4 tk4 k4 r4 => ?_
    · rw [List.take_add_one, hz]
      exact setOf_step r3
    · have e2 := mv.eq_with
      have := k h4 tk4 (fun b o hb hw q => k4 b o hb hw ((sb.2 b hb).trans (mv.heap b o hw q))) r4
      rw [e2]
      exact this
theorem setInitN {S l : Addr} {items : Array Value} {os : List (Option Int)} {R : PySem.Fin → Shared → Prop} (hh : A.handled = none) (hS : s.heap.get? S = some (bornSet w)) (hl : s.heap.IsList l items) (hi : OptVs items.toList os) (h60 : os.length < 60)
    (k : ∀ h' tk, (∀ b o, b ≠ S → s.heap.get? b = some o → h'.get? b = some o) → h'.SetOf (noneKind P w) S (memN os) (seenN os).length → R (.done (.ret .none)) { s with heap := h', toks := tk }) :
    wpAny (model P w) A (Builtin.«set.__init__» ⟨[.ref S, .ref l], []⟩) R E s := by
  have hsz : os.length = items.size := by
    have := hi.length
    simpa using this.symm
  have hSl : l ≠ S := by
    rintro rfl
    obtain ⟨o, ho, hc, _⟩ := hl
    rw [hS] at ho
    cases ho
    exact absurd (Value.type.inj hc) (by decide)
  have lS := Heap.lt_size hS
  obtain ⟨⟨cls, dd, data, sl⟩, ho, hc, ep, hd⟩ := id hl
  simp only at hc hd
  subst hc hd
  have a1 := PySem.F.sub_list_set
  have a2 := PySem.F.sub_list_frozenset
  have a3 : (Value.type "list" == Value.type "dict") = false := by decide
  unfold Builtin.«set.__init__» noKeywords Builtin.Frozenset.updateFrom
  generalize ei : pyIter = it
  wp_walk
  subst ei
  have hit : Heap.get? (s.heap.push { cls := .type "list_iterator", data := .fields #[.ref l, .int 0 0] }) S = some (bornSet w) := Heap.get?_push_of_some _ hS
  have hll := hl.push { cls := .type "list_iterator", data := .fields #[.ref l, .int 0 0] }
  have ll := Heap.lt_size ho
  have off : S ∉ [s.heap.objs.size, l] := by
    simp only [List.mem_cons, List.not_mem_nil, or_false, not_or]
    exact ⟨Nat.ne_of_lt lS, fun q => hSl q.symm⟩
  refine wpAny_pyIter_list hl (wpAny_bind (wpAny_runValue ?_))
  refine setLoopN (WalksS.of_in1 (Walks.list (A := A.in1.in1) (by simp [hh]) s.heap.objs.size l (Nat.ne_of_lt ll) items).toS) off h60 hsz (fun i v hv => ?_) items.size 0 _ (by omega) ⟨⟨_, Heap.get?_push_size _ rfl, rfl, rfl⟩, hll⟩ (bornSetN hit) fun h' tk keep r => ?_
  · obtain ⟨lt, _⟩ := Array.getElem?_eq_some_iff.mp hv
    exact hi.at_ i v (by rw [Array.getElem?_toList]; exact hv)
  · refine wpAny_pure ?_
    show wpAny (model P w) A (ret Value.none) R E _
    exact wpAny_pure (k h' tk (fun b o hb e => keep b o hb (by simpa using Nat.ne_of_lt (Heap.lt_size e)) (Heap.get?_push_of_some _ e)) r)
theorem setCallN {l : Addr} {items : Array Value} {os : List (Option Int)} {Q : Value → Shared → Prop} (hh : A.handled = none) (hl : s.heap.IsList l items) (hi : OptVs items.toList os) (h60 : os.length < 60)
    (k : ∀ h' tk, (∀ b o, s.heap.get? b = some o → h'.get? b = some o) → h'.SetOf (noneKind P w) s.heap.objs.size (memN os) (seenN os).length → Q (.ref s.heap.objs.size) { s with heap := h', toks := tk }) :
    wpAny (model P w) A (call (.type "set") [.ref l]) Q E s := by
  obtain ⟨c, tl, m1⟩ := PySem.F.called_set.mro
  have m2 := PySem.F.called_set.made
  have m3 := PySem.F.called_set.sub
  have m4 := PySem.F.called_set.notType
  have m5 := PySem.F.called_set.canCreate
  have m6 := PySem.F.typeCall_set_1 (.ref l)
  refine wpAny_call (codeAny_of_tree ?_)
  show wpAny (model P w) _ (callAny (.type "set") _) _ _ s
  refine wpAny_pure ⟨PySem.Code.quiet_builtin _ (by decide +kernel), ?_⟩
  refine codeAny_builtin PySem.F.entry_type_call ?_
  rw [PySem.Around.under_plain (weight_type_call_type "set" [.ref l] []) rfl]
  repeat (any_goals (first | assumption | wp_step))

  refine codeAny_mono (code_set_led1 (.ref l) (E := E) (Q₁ := fun obj s₁ => obj = .ref s.heap.objs.size ∧ s₁ = { s with heap := s.heap.push (bornSet w) }) ⟨rfl, rfl⟩) fun r s₁ hr => ?_
  cases r with
  | error e => exact hr
  | ok fl =>
    cases fl with
    | ret obj =>
      obtain ⟨rfl, rfl⟩ := hr
      have hS : (s.heap.push (bornSet w)).get? s.heap.objs.size = some (bornSet w) := Heap.get?_push_size _ rfl
      have hT : Shared.TypeIs { s with heap := s.heap.push (bornSet w) } (.ref s.heap.objs.size) "set" := ⟨_, hS, rfl⟩
      have hli := PySem.F.called_set.init.lookup
      have hbi := PySem.F.called_set.init.bind (.ref s.heap.objs.size)
      repeat (any_goals (first | assumption | wp_step))

      refine codeAny_mono (codeAny_call_builtin (R := wants (fun r s₂ => r = .none ∧ ∃ h' tk, s₂ = { s with heap := h', toks := tk } ∧ h'.SetOf (noneKind P w) s.heap.objs.size (memN os) (seenN os).length ∧
          (∀ b o, s.heap.get? b = some o → h'.get? b = some o)) E) PySem.F.called_set.init.plain PySem.F.entry_set_init (check_set_init_1 hT ?_)) fun r₂ s₂ hr₂ => ?_
      · refine setInitN (by simp [hh]) hS (hl.push _) hi h60 fun h' tk keep R => ?_
        refine ⟨rfl, h', tk, rfl, R, fun b o e => keep b o (Nat.ne_of_lt (Heap.lt_size e)) (Heap.get?_push_of_some _ e)⟩
      · cases r₂ with
        | error e => exact hr₂
        | ok fl₂ =>
          cases fl₂ with
          | ret r =>
            obtain ⟨rfl, h', tk, rfl, hS', hk'⟩ := hr₂
            repeat (any_goals (first | assumption | wp_step))
            exact k _ _ hk' hS'
          | _ => exact hr₂.elim
    | _ => exact hr.elim
end
section
variable {F : Fx} {W : WX} {X : Cx} {a : Expr} {ma : ME} {pos pp p2 q : Pos}
def optVV : Option Int → V
  | none => .non
  | some i => .int i
theorem optsN_reps {Y : Addr → Prop} {H : Hp} : ∀ {xs : List M.D} {os : List (Option Int)} {vs : List V}, optsN xs = some os → Reps F Y H xs vs → vs = os.map optVV
  | [], os, vs, h, r => by
    rw [Reps] at r; subst r
    simp [optsN] at h; subst h; rfl
  | x :: xs, os, vs, h, r => by
    rw [Reps] at r
    obtain ⟨v, q, rfl, r1, r2⟩ := r
    cases x with
    | non =>
      simp only [optsN] at h
      cases e1 : optsN xs with
      | none => simp [e1] at h
      | some js =>
        simp [e1] at h
        subst h
        rw [optsN_reps e1 r2]
        rw [Rep] at r1; subst r1
        rfl
    | int i =>
      simp only [optsN] at h
      cases e1 : optsN xs with
      | none => simp [e1] at h
      | some js =>
        simp [e1] at h
        subst h
        rw [optsN_reps e1 r2]
        rw [Rep] at r1; subst r1
        rfl
    | _ => simp [optsN] at h
theorem optVs_of : ∀ {os : List (Option Int)} {us : List Value}, Vals (os.map optVV) us → OptVs us os
  | [], _, r => by rw [List.map_nil] at r; cases r; exact .nil
  | o :: os, us, r => by
    rw [List.map_cons] at r
    cases r with
    | cons h1 h2 =>
      refine .cons ?_ (optVs_of h2)
      cases o with
      | none => exact h1
      | some i => exact h1
def rLenSetN (K : PySem.W.Frag) : V → Hp → VK → Prop := fun x H Q => ∃ (l : Addr) (os : List (Option Int)), x = V.ref l ∧ SqL K H l (os.map optVV) ∧ os.length < 60 ∧ Q (.int (seenN os).length) H
theorem pe_lenSetN {ta : TE} (hc : X.calm = true) (hg : Gl X "len") (hm : X.mg "len" = none) (hg2 : Gl X "set") (hm2 : X.mg "set" = none) (ha : PE X a ta)
    (na : starEach [a] X.env = (false, eval a X.env) :: starEach [] X.env := by rfl) : PE X (.Call (.Name "len" pp) [.Call (.Name "set" p2) [a] [] q] [] pos) (fun σ H Q => ta σ H fun x H1 => rLenSetN X.K x H1 Q) := by
  refine ⟨fun pins s σ H Q I h => ?_⟩
  refine Call_ (ld_blt I hg hm PySem.boot_len ?_)
  refine PyProof.Rows.callWith_builtin1 (PyProof.Rows.args_cons ?_ rfl) rfl rfl
  refine Call_ (ld_blt I hg2 hm2 PyProof.Rows.boot_set ?_)
  refine PyProof.Rows.callWith_type1 (PyProof.Rows.args_cons (thn (ha.run pins s σ H _ I h) fun v s1 ⟨x, H1, I1, r1, q1⟩ => PyProof.Rows.args_nil ?_) na) na rfl
  obtain ⟨l, os, rfl, hq, h1, q1⟩ := q1
  cases r1
  obtain ⟨its, r, pl, hz⟩ := I1.list hq
  refine setCallN (I1.ok.hd hc) pl.isList (by simpa using optVs_of r) h1 fun h' tk hk R => ?_
  have few := seenN_le os
  refine PyProof.Rows.args_nil ?_
  obtain ⟨o, es, ep, t, ho, hex, hd, _, _, _, hf, hn⟩ := R
  have I2 : Inv X pins σ H1 { s1 with heap := h', toks := tk } := I1.kept fun b o e => hk b o e
  refine call_len_set ho hex hd hf (by rw [hn] <;> omega) ⟨.int (seenN os).length, H1, I2.tok _, ⟨_, by rw [hn]⟩, q1⟩
theorem op1_lenSetN : Op1 F opLenSetN (rLenSetN F.K) := by
  intro B ρ e S σ H x v r Q s hx hf k
  unfold opLenSetN at hf
  split at hf
  · rename_i xs q
    cases q
    obtain ⟨a, vs, rfl, h1, h2, h3⟩ := hx.lst
    split at hf
    · rename_i os hn
      split at hf
      · rename_i hlt
        cases hf
        have := optsN_reps hn h3
        subst this
        exact ⟨a, os, rfl, SqL.of h1, hlt, k.int s⟩
      · cases hf
    · cases hf
  · cases hf
theorem te_lenSetN (st : Stab F) (hK : X.K = F.K) (hc : X.calm = true) (hg : Gl X "len") (hm : X.mg "len" = none) (hg2 : Gl X "set") (hm2 : X.mg "set" = none) (ha : PE X a (TrE F W ma)) (he : starEach [a] X.env = (false, eval a X.env) :: starEach [] X.env) :
    PE X (.Call (.Name "len" pp) [.Call (.Name "set" p2) [a] [] q] [] pos) (TrE F W (mOp opLenSetN [ma])) :=
  PE_imp (pe_lenSetN hc hg hm hg2 hm2 ha he) fun σ H Q h => te_un st (hK ▸ op1_lenSetN) h
end
/-! ### x[2:0:-1] -/
section
variable {prog : Program} {w : World} {A : Around} {E : Value → Shared → Prop} {s : Shared}
theorem sliceApplied_201 {sl : Addr} {vl vu vs : Value} {n : Nat} {Q : Int × Int × Nat → Shared → Prop} (hn : 1 ≤ n) (hs : s.heap.IsSliceOf sl vl vu vs) (pl : IsPart vl (some 2)) (pu : IsPart vu (some 0)) (ps : IsPart vs (some (-1)))
    (h : Q (((min 2 (n - 1) : Nat) : Int), -1, min 2 (n - 1)) s) : wpAny (model prog w) A (Builtin.Slice.sliceApplied (.ref sl) (pure (n : Int))) Q E s := by
  obtain ⟨os, hos, hcs, hds⟩ := id hs
  unfold Builtin.Slice.sliceApplied Builtin.Slice.sliceFields
  refine wpAny_bind (wpAny_bind (wpAny_field hos hds (x := vl) rfl (wpAny_bind (wpAny_field hos hds (x := vu) rfl (wpAny_bind (wpAny_field hos hds (x := vs) rfl (wpAny_pure ?_)))))))
  refine wpAny_bind (HT.slicePart_ ps ?_)
  show wpAny _ _ (if ((-1 : Int) == 0) = true then _ else _) _ _ s
  rw [if_neg (by decide)]
  refine wpAny_bind (HT.slicePart_ pl (wpAny_bind (HT.slicePart_ pu (wpAny_bind (wpAny_pure ?_)))))
  show wpAny _ _ (match Builtin.Slice.sliceAdjust (some 2) (some 0) (-1) (n : Int) with | (lo, hi) => pure (lo, (-1 : Int), Builtin.Slice.slicePlaces lo hi (-1))) _ _ s
  have e1 : Builtin.Slice.sliceAdjust (some 2) (some 0) (-1) (n : Int) = (((min 2 (n - 1) : Nat) : Int), 0) := by
    unfold Builtin.Slice.sliceAdjust
    simp
    omega
  rw [e1]
  have e2 : Builtin.Slice.slicePlaces ((min 2 (n - 1) : Nat) : Int) 0 (-1) = min 2 (n - 1) := by
    unfold Builtin.Slice.slicePlaces
    simp
    split
    · omega
    · omega
  show wpAny _ _ (pure (((min 2 (n - 1) : Nat) : Int), (-1 : Int), Builtin.Slice.slicePlaces ((min 2 (n - 1) : Nat) : Int) 0 (-1))) _ _ s
  rw [e2]
  exact wpAny_pure h
theorem pick_201 (x : Value) (r : List Value) : ((List.range (min 2 ((x :: r).toArray.size - 1))).filterMap fun (m : Nat) => (x :: r).toArray[(((min 2 ((x :: r).toArray.size - 1) : Nat) : Int) + (m : Int) * -1).toNat]?).toArray = (r.take 2).reverse.toArray := by
  match r with
  | [] => rfl
  | [a] => rfl
  | a :: b :: r =>
    have e : min 2 ((x :: a :: b :: r).toArray.size - 1) = 2 := by simp
    rw [e]
    rfl
theorem getItem_tuple_201 {t sl : Addr} {x : Value} {its : List Value} {vl vu vs : Value} {Q : Value → Shared → Prop} (ht : IsTup s.heap t (x :: its).toArray) (hs : s.heap.IsSliceOf sl vl vu vs) (pl : IsPart vl (some 2)) (pu : IsPart vu (some 0)) (ps : IsPart vs (some (-1)))
    (h : Q (.ref s.heap.objs.size) { s with heap := s.heap.push { cls := .type "tuple", data := .seq (its.take 2).reverse.toArray } }) : wpAny (model prog w) A (getItem (.ref t) (.ref sl)) Q E s := by
  have hfit : sizeOk (.seq (its.take 2).reverse.toArray) := by
    show (its.take 2).reverse.toArray.size ≤ sizeLine
    rw [List.size_toArray, List.length_reverse, List.length_take]
    exact Nat.le_trans (Nat.min_le_left ..) (by decide)
  obtain ⟨os, hos, hcs, hds⟩ := id hs
  have hTs : s.TypeIs (.ref sl) "slice" := ⟨os, hos, hcs⟩
  unfold getItem
  try with_reducible refine wpAny_holding ?_
  first | refine wpAny_bind (wpAny_pure ?_) | skip
  refine wpAny_bind (wpAny_sequenceKey ht.typeIs (by decide) ?_)
  refine wpAny_bind (wpAny_callSpecial?_slot (name := Str.ofString "__getitem__") ht.typeIs PyProof.Rows.slot_tuple_getitem
    (wpAny_call_entry PyProof.Rows.slot_tuple_getitem ht.typeIs entry_tuple_getitem ?_ (args_tuple_getitem _ _)))
  show wpAny _ _ (Builtin.Tuple.tupleItemsOf (.ref t) >>= _) _ _ s
  refine wpAny_bind (tupleItemsOf_ ht ?_)
  refine wpAny_bind (wpAny_typeOf hTs ?_)
  rw [if_pos (by decide)]
  refine wpAny_bind (sliceApplied_201 (by simp) hs pl pu ps ?_)
  have hno : ¬ ((((min 2 ((x :: its).toArray.size - 1) : Nat) : Int) == 0 && (-1 : Int) == 1 && min 2 ((x :: its).toArray.size - 1) == (x :: its).toArray.size) = true) := by simp
  show wpAny _ _ (if ((((min 2 ((x :: its).toArray.size - 1) : Nat) : Int) == 0 && (-1 : Int) == 1 && min 2 ((x :: its).toArray.size - 1) == (x :: its).toArray.size) = true) then _ else _) _ _ s
  rw [if_neg hno, pick_201]
  first
    | exact wpAny_bind (m := Builtin.Tuple.tupleExact _) (wpAny_newObj_type (wpAny_pure ⟨_, rfl, wpAny_pure h⟩) hfit)
    | exact wpAny_bind (m := Builtin.Tuple.tupleExact _) (wpAny_newObj_type (wpAny_bind (wpAny_pure (wpAny_pure ⟨_, rfl, wpAny_pure h⟩))) hfit)
    | exact wpAny_bind (wpAny_bind (m := Builtin.Tuple.tupleExact _) (wpAny_newObj_type (wpAny_pure (wpAny_pure ⟨_, rfl, wpAny_pure h⟩)) hfit))
    | exact wpAny_bind (wpAny_bind (m := Builtin.Tuple.tupleExact _) (wpAny_newObj_type (wpAny_pure ⟨_, rfl, wpAny_pure h⟩) hfit))
end
def t201 (K : PySem.W.Frag) (te : TE) : TE := fun σ H Q => te σ H fun x H1 => ∃ a y xs, x = .ref a ∧ SqT K H1 a (y :: xs) ∧ ∀ p, H1 p = none → Q (.ref p) (upd H1 p (.tup (xs.take 2).reverse))
theorem pe_201 {X : Cx} {e : Expr} {te : TE} {k k2 k3 : Nat} {p1 p2 p3 p4 p5 pos : Pos} (he : PE X e te) : PE X (.Subscript e (.Slice (some (.Constant (.int 2) k2 p4)) (some (.Constant (.int 0) k3 p5)) (some (.UnaryOp .USub (.Constant (.int 1) k p1) p2)) p3) pos) (t201 X.K te) := by
  refine ⟨fun pins s σ H Q I h => ?_⟩
  refine Subscript_ (thn (he.run pins s σ H _ I h) fun v s1 ⟨x, H1, I1, r1, q1⟩ => ?_)
  obtain ⟨a, y, xs, ex, hx, q⟩ := q1
  subst ex
  cases r1
  have hl : PO X (some (.Constant (.int 2) k2 p4)) (tPart (tC (.int 2))) := po_some pe_int
  have hu : PO X (some (.Constant (.int 0) k3 p5)) (tPart (tC (.int 0))) := po_some pe_int
  have hst : PO X (some (.UnaryOp .USub (.Constant (.int 1) k p1) p2)) (tPart (tUn (rU fun i => .int (-i)) (tC (.int 1)))) := po_some (pe_un un_neg pe_int)
  refine wpAny_Slice (thn (hl.run pins s1 σ H1 (fun o H2 => o = some 2 ∧ H2 = H1) I1 ⟨2, rfl, rfl, rfl⟩) fun vl s2 ⟨l, H2, I2, pl, el, e2⟩ => ?_)
  subst el e2
  refine thn (hu.run pins s2 σ H2 (fun o H3 => o = some 0 ∧ H3 = H2) I2 ⟨0, rfl, rfl, rfl⟩) fun vu s3 ⟨u, H3, I3, pu, eu, e3⟩ => ?_
  subst eu e3
  refine thn (hst.run pins s3 σ H3 (fun o H4 => o = some (-1) ∧ H4 = H3) I3 ⟨1, rfl, -1, rfl, rfl, rfl⟩) fun vs s4 ⟨o, H4, I4, ps, eo, e4⟩ => ?_
  subst eo e4
  have I5 : Inv X pins σ H4 { s4 with heap := s4.heap.push { cls := .type "slice", data := .fields #[vl, vu, vs] } } := I4.kept (t' := s4.toks) fun b ob q => Heap.get?_push_of_some _ q
  obtain ⟨its, r, ht, hz⟩ := I5.tuple hx
  cases r with
  | cons r1 r =>
    show wpAny (model X.prog X.w) X.A (subscriptTail e (.Slice (some (.Constant (.int 2) k2 p4)) (some (.Constant (.int 0) k3 p5)) (some (.UnaryOp .USub (.Constant (.int 1) k p1) p2)) p3) (.ref a) (.ref s4.heap.objs.size)) (EP X pins σ Q) X.xe { s4 with heap := s4.heap.push { cls := .type "slice", data := .fields #[vl, vu, vs] } }
    refine tail_any (ops := [.ref a, .ref s4.heap.objs.size]) ht.typeIs (PyProof.Rows.slot_tuple_getitem.lookup) ?_ (by with_unfolding_all rfl)
    refine getItem_tuple_201 ht (Heap.IsSliceOf.new _ vl vu vs) pl pu ps ?_
    refine ⟨.ref _, _, I5.laid (t' := s4.toks) (o := .tup (xs.take 2).reverse) (fun b ob q => Heap.get?_push_of_some _ q) (Nat.le_refl _) ?_, rfl, q _ (I5.hok.fresh (Nat.le_refl _))⟩
    exact ⟨by rw [List.length_reverse, List.length_take]; exact Nat.le_trans (Nat.min_le_left ..) (by decide), _, (Vals.reverse (Vals.take 2 r)), IsTup.new _ _⟩
section
variable {F : Fx} {W : WX} {X : Cx} {a : Expr} {ma : ME} {pos p1 p2 p3 p4 p5 : Pos} {k k2 k3 : Nat}
theorem te_201 (st : Stab F) (hK : X.K = F.K) (ha : PE X a (TrE F W ma)) : PE X (.Subscript a (.Slice (some (.Constant (.int 2) k2 p4)) (some (.Constant (.int 0) k3 p5)) (some (.UnaryOp .USub (.Constant (.int 1) k p1) p2)) p3) pos) (TrE F W (mOp opSl201 [ma])) :=
  PE_imp (pe_201 ha) fun σ H Q h => by
    refine te_un (rr := fun x H1 Q => (∃ ad y xs, x = .ref ad ∧ SqT X.K H1 ad (y :: xs) ∧ ∀ p, H1 p = none → Q (.ref p) (upd H1 p (.tup (xs.take 2).reverse)))) st ?_ h
    intro B ρ e S σ H x v r Q s hx hf k
    unfold opSl201 at hf
    split at hf
    · rename_i xs q
      cases q
      obtain ⟨ad, vs, rfl, h1, h2, h3⟩ := hx.tup
      split at hf
      · cases hf
      · rename_i y xs
        cases hf
        rw [Reps] at h3
        obtain ⟨v1, vs, rfl, h3, h4⟩ := h3
        refine ⟨ad, v1, vs, rfl, hK ▸ h1, fun p hp => s.newTup st ?_ (h4.take 2).reverse k p hp⟩
        rw [List.length_reverse, List.length_take]
        unfold LIM
        omega
    · cases hf
end
end M

/-! Sound59: tuples that are known to have no dict: their methods can be called. -/
namespace M
open PySem L2
open PySem (Str)
open PySem.Spec PyProof.Rows
def dV : M.D → V
  | .int i => .int i
  | _ => .non
/-- the tuple is known to its object -/
def κN : Nat → V → Hp → Prop := fun k v H => ∃ a o, v = .ref a ∧ H a = some (.frz o (.tup ((decN 64 k).map dV))) ∧ o.cls = .type "tuple" ∧ o.dict = none
theorem encN_pos (xs : List M.D) : 1 ≤ encN xs := by
  induction xs with
  | nil => exact Nat.le_refl _
  | cons x xs ih => rw [encN]; omega
theorem decN_encN : ∀ (xs : List M.D) (f : Nat), xs.all okND = true → xs.length < f → decN f (encN xs) = xs
  | [], 0, _, h => by simp at h
  | [], f + 1, _, _ => by rw [encN, decN]; simp
  | x :: xs, 0, _, h => by simp at h
  | x :: xs, f + 1, h, hl => by
    have h : okND x = true ∧ xs.all okND = true := by simpa using h
    have p := encN_pos xs
    have e : encD x < 64 ∧ decD (encD x) = x := by
      cases x with
      | non => exact ⟨by simp [encD], rfl⟩
      | int i =>
        have h1 : 0 ≤ i ∧ i < 60 := by simpa [okND] using h.1
        refine ⟨by simp only [encD]; omega, ?_⟩
        show decD (i.toNat + 1) = M.D.int i
        unfold decD
        rw [if_neg (Nat.succ_ne_zero _)]
        congr 1
        omega
      | _ => simp [okND] at h
    rw [encN, decN, if_neg (by omega)]
    rw [show (encN xs * 64 + encD x) % 64 = encD x by omega, show (encN xs * 64 + encD x) / 64 = encN xs by omega, e.2, decN_encN xs f h.2 (by rw [List.length_cons] at hl; omega)]
theorem decN_len : ∀ (f n : Nat), (decN f n).length ≤ f
  | 0, _ => Nat.le_refl _
  | f + 1, n => by
    rw [decN]
    split
    · exact Nat.zero_le _
    · simp; exact decN_len f _
theorem stab_κN {K : PySem.W.Frag} {mg : Str → Option Value} {T : List (Addr × Str)} {n0 : Nat} {ml : List Nat} {g : Clos} : Stab ⟨K, mg, κN, T, n0, ml, g⟩ where
  mv := fun k v H H' ⟨a, o, h1, h2, h3⟩ kp => ⟨a, o, h1, kp _ _ rfl h2, h3⟩
  nn := fun k v H ⟨a, o, h1, _⟩ z => by rw [z] at h1; cases h1
section
variable {F : Fx} {Y : Addr → Prop} {H : Hp}
theorem rep_dV {x : M.D} (h : okND x = true) : Rep F Y H x (dV x) := by
  cases x with
  | non => rw [Rep]; rfl
  | int i => rw [Rep]; rfl
  | _ => simp [okND] at h
theorem reps_dV : ∀ {xs : List M.D}, xs.all okND = true → Reps F Y H xs (xs.map dV)
  | [], _ => Reps.nil
  | x :: xs, h => by
    have h : okND x = true ∧ xs.all okND = true := by simpa using h
    exact Reps.cons (rep_dV h.1) (reps_dV h.2)
theorem reps_dec : ∀ (f n : Nat), Reps F Y H (decN f n) ((decN f n).map dV)
  | 0, _ => Reps.nil
  | f + 1, n => by
    rw [decN]
    split
    · exact Reps.nil
    · refine Reps.cons ?_ (reps_dec f _)
      unfold decD
      split
      · rw [Rep]; rfl
      · rw [Rep]; rfl
theorem reps_is {xs : List M.D} {vs : List V} (h : xs.all okND = true) (r : Reps F Y H xs vs) : vs = xs.map dV := by
  induction xs generalizing vs with
  | nil => rw [Reps] at r; exact r
  | cons x xs ih =>
    rw [Reps] at r
    obtain ⟨v, w, rfl, h1, h2⟩ := r
    have h : okND x = true ∧ xs.all okND = true := by simpa using h
    rw [ih h.2 h2]
    cases x with
    | non => rw [Rep] at h1; rw [h1]; rfl
    | int i => rw [Rep] at h1; rw [h1]; rfl
    | _ => simp [okND] at h
end
/-! ### tuple(l) -/
theorem call_tupleN {X : Cx} : CallR X (.type "tuple") (fun xs H Q => ∃ p ys, xs = [.ref p] ∧ SqL X.K H p ys ∧ ∀ l o, H l = none → o.cls = .type "tuple" → o.dict = none → Q (.ref l) (upd H l (.frz o (.tup ys)))) := by
  intro pins s σ H xs us Q I r h
  obtain ⟨p, ys, rfl, hq, q⟩ := h
  obtain ⟨u, rfl, rx⟩ := vals1 r
  cases rx
  obtain ⟨its, r', pl, hz⟩ := I.list hq
  have hlen := r'.length
  refine call_tuple_list pl.isList (fun h' kp => ?_) (by simp only [List.size_toArray] <;> omega)
  have I1 : Inv X pins σ H { s with heap := h' } := I.kept (t' := s.toks) kp
  have I2 : Inv X pins σ (upd H h'.objs.size (.frz { cls := .type "tuple", data := .seq its.toArray } (.tup ys))) { s with heap := h'.push { cls := .type "tuple", data := .seq its.toArray } } :=
    I1.laid (t' := s.toks) (fun b o e => Heap.get?_push_of_some _ e) (Nat.le_refl _) (show ObjOk X.prog X.w _ _ _ (.frz _ (.tup ys)) from ⟨Heap.get?_push_size _ rfl, hz, its, r', IsTup.new _ _⟩)
  exact ⟨.ref h'.objs.size, _, I2, rfl, q _ _ (I1.hok.fresh (Nat.le_refl _)) rfl rfl⟩
section
variable {F : Fx} {W : WX} {X : Cx} {a o : Expr} {ma mo : ME} {pos pp apos cpos : Pos} {y : Str} {es : List Expr} {k : Nat}
theorem op1_tupN (st : Stab F) (hκ : F.κ = κN) : Op1 F opTupN (fun v H Q => ∃ p ys, [v] = [V.ref p] ∧ SqL F.K H p ys ∧ ∀ l o, H l = none → o.cls = .type "tuple" → o.dict = none → Q (.ref l) (upd H l (.frz o (.tup ys)))) := by
  intro B ρ e S σ H x v r Q s hx hf k
  unfold opTupN at hf
  split at hf
  · rename_i xs q
    cases q
    split at hf
    · rename_i hk
      cases hf
      have hk : xs.all okND = true ∧ xs.length < 64 := by simpa [okN] using hk
      obtain ⟨a, vs, rfl, h1, h2, h3⟩ := hx.lst
      refine ⟨a, vs, rfl, SqL.of h1, fun l o hl hc hd => k (.ref l) _ ((s.alloc st hl (fun ps z => by cases z)).mono st fun a q => .inl q) (ExtE.alloc hl) ?_⟩
      simp only [RepR, Rep]
      rw [hκ]
      refine ⟨l, o, rfl, ?_, hc, hd⟩
      rw [upd_same, decN_encN xs 64 hk.1 hk.2, reps_is hk.1 h3]
    · cases hf
  · cases hf
theorem te_tupN (st : Stab F) (hκ : F.κ = κN) (hK : X.K = F.K) (hg : Gl X "tuple") (hm : X.mg "tuple" = none) (ha : PE X a (TrE F W ma)) (he : starEach [a] X.env = (false, eval a X.env) :: starEach [] X.env) : PE X (.Call (.Name "tuple" pp) [a] [] pos) (TrE F W (mOp opTupN [ma])) :=
  te_callT1 st call_tupleN (hK ▸ op1_tupN st hκ) hg hm (by rfl) ha (by decide) (by decide) he
/-! ### read as a tuple -/
theorem te_untup (st : Stab F) (hκ : F.κ = κN) (ha : PE X a (TrE F W ma)) : PE X a (TrE F W (mUntup ma)) :=
  PE_imp ha fun σ H Q h => by
    obtain ⟨B, ρ, e, S, s, hp⟩ := h
    unfold mUntup at hp
    refine stepE st s hp (fun c S' q => q) fun r S1 v H1 s1 x1 r1 hp => ?_
    split at hp
    · rename_i k
      refine hp v H1 s1 x1 ?_
      simp only [RepR, Rep] at r1 ⊢
      rw [hκ] at r1
      obtain ⟨a, o, h1, h2, h3, h4⟩ := r1
      exact ⟨a, _, h1, .inl (.inr ⟨o, h2⟩), Nat.le_trans (by rw [List.length_map]; exact decN_len 64 k) (by unfold LIM; omega), reps_dec 64 k⟩
    · exact hp.elim
/-! ### t.index(i) -/
def rIdxN : V → List V → Hp → VK → Prop := fun x xs H Q => ∃ (a : Addr) (ns : List Int) (i : Int), x = V.ref a ∧ xs = [V.int i] ∧ Rd H a (.tup (ns.map V.int)) ∧ i ∈ ns ∧ Q (.int (ns.idxOf i : Nat)) H
theorem mt_indexN : MtR X "tuple.index" rIdxN := by
  rintro pins s σ H x xs v us Q I rx rxs ⟨ad, ns, i, rfl, rfl, hr, hi, q⟩
  cases rx
  obtain ⟨u, rfl, t, rfl⟩ := rxs.one
  obtain ⟨its, r', pl, hz⟩ := I.tuple (.inl hr)
  exact PySem.SeqAt.tuple_index_ints pl (by simpa using r'.ints) hi ⟨.int (ns.idxOf i : Nat), H, I.tok _, ⟨s.toks, rfl⟩, q⟩
def tyN (x : V) (H : Hp) : Prop := ∃ a o u, x = .ref a ∧ H a = some (.frz o u) ∧ o.cls = .type "tuple" ∧ o.dict = none
theorem pe_bmN {name : Str} {id : String} {r : V → List V → Hp → VK → Prop} {e : Expr} {to : TE} {t : TA} (slot : Slot "tuple" name id) (hty : typeOf (.builtin id) = pure (.type "method_descriptor")) (hm : MtR X id r) (ho : PE X o to) (ha : PA X (e :: es) t)
    (hbase : attributeBase o name X.env (eval o X.env) = eval o X.env)
    (hfew : ((backTo cpos (starEach (e :: es) X.env)).all (fun x => !x.1) && (backToKw cpos (keywordEach [] X.env)).all (fun x => x.1.isSome)
      && decide ((e :: es).length + ([] : List Keyword).length + (if ([] : List Keyword).isEmpty then 0 else 1) < 30)) = true)
    (hline : (apos.endLine == cpos.line) = true) (hs : starEach (e :: es) X.env = (false, eval e X.env) :: starEach es X.env) (hplain : (backTo cpos (starEach es X.env)).any (·.1) = false) :
    PE X (.Call (.Attribute o name apos) (e :: es) [] cpos) (fun σ H Q => to σ H fun x H1 => tyN x H1 ∧ t σ H1 fun xs H2 => r x xs H2 Q) := by
  refine ⟨fun pins s σ H Q I h => ?_⟩
  refine wpAny_Call_method_late hbase hfew hline rfl (thn (ho.run pins s σ H _ I h) fun v s1 ⟨x, H1, I1, r1, ty, q1⟩ => ?_)
  obtain ⟨a, ob, u, rfl, hk, hc, hd⟩ := ty
  cases r1
  have hg : s1.heap.get? a = some ob := (I1.hok a _ hk).1
  refine ⟨"tuple", id, PySem.F.plainAttrs_tuple, slot, hty, ⟨ob, hg, hc⟩, fun b e => by cases e; exact ⟨ob, hg, hd⟩, ?_⟩
  have hA := ha.run cpos pins s1 σ H1 _ I1 q1
  rw [hs] at hA ⊢
  refine Calls.callWith_builtin (by show (false || (backTo cpos (starEach es X.env)).any (·.1)) = false; rw [hplain] <;> rfl) (Calls.evalArgs_plain ?_)
  exact thn hA fun us s2 ⟨vs, H2, I2, r2, q2⟩ => hm pins s2 σ H2 (.ref a) vs (.ref a) us Q I2 rfl r2 q2
theorem mapM_intN : ∀ {xs : List M.D} {ns : List Int}, xs.mapM intN = some ns → xs.map dV = ns.map V.int
  | [], ns, h => by
    simp at h; subst h; rfl
  | x :: xs, ns, h => by
    simp only [List.mapM_cons, Option.bind_eq_bind, Option.bind_eq_some_iff, Option.pure_def, Option.some.injEq] at h
    obtain ⟨i, hi, ms, hms, rfl⟩ := h
    cases x with
    | int j =>
      simp only [intN, Option.some.injEq] at hi
      subst hi
      simp [dV, mapM_intN hms]
    | _ => simp [intN] at hi
theorem te_idxN (st : Stab F) (hκ : F.κ = κN) (ho : PE X o (TrE F W mo)) (ha : PE X a (TrE F W ma)) (hb : attributeBase o "index" X.env (eval o X.env) = eval o X.env)
    (hf : ((backTo cpos (starEach [a] X.env)).all (fun x => !x.1) && (backToKw cpos (keywordEach [] X.env)).all (fun x => x.1.isSome) && decide ([a].length + ([] : List Keyword).length + (if ([] : List Keyword).isEmpty then 0 else 1) < 30)) = true)
    (hl : (apos.endLine == cpos.line) = true) (hs : starEach [a] X.env = (false, eval a X.env) :: starEach [] X.env) : PE X (.Call (.Attribute o "index" apos) [a] [] cpos) (TrE F W (mIdxN mo ma)) :=
  PE_imp (pe_bmN PySem.F.slot_tuple_index PySem.F.type_tuple_index mt_indexN ho (pa_cons ha pa_nil hs) hb hf hl hs rfl) fun σ H Q h => by
    obtain ⟨B, ρ, e, S, s, hp⟩ := h
    unfold mIdxN at hp
    refine stepE st s hp (fun c S' q => q) fun r S1 v H1 s1 x1 r1 hp => ?_
    split at hp
    · rename_i k
      simp only [RepR, Rep] at r1
      rw [hκ] at r1
      obtain ⟨ad, ob, h1, h2, h3, h4⟩ := r1
      refine ⟨⟨ad, ob, _, h1, h2, h3, h4⟩, ?_⟩
      show tCons (TrE F W ma) tNil σ H1 fun xs H2 => rIdxN v xs H2 Q
      refine stepE st s1 hp (fun c S' q => q.after st addR_le x1) fun r2 S2 w H2 s2 x2 r2' hp => ?_
      split at hp
      · rename_i i ns hns
        split at hp
        · rename_i hin
          have hw : w = .int i := by simpa only [RepR, Rep] using r2'
          subst hw
          have h5 : H2 ad = some (.frz ob (.tup ((decN 64 k).map dV))) := x2.fr ad _ (fun m hm z => by
            obtain ⟨c, hc⟩ := Option.ne_none_iff_exists'.mp hm
            obtain ⟨o', e1, m1, _⟩ := (s1.cell m c hc).at_
            rw [z, h2] at e1; cases e1
            cases m1) (fun ps z => by cases z) h2
          refine ⟨ad, ns, i, h1, rfl, .inr ⟨ob, by rw [h5, mapM_intN hns]⟩, hin, ?_⟩
          exact hp _ H2 (s2.mono st fun a q => addR_le a (addR_le a q)) (x1.trans x2) (by simp only [RepR, Rep])
        · exact hp.elim
      · exact hp.elim
    · exact hp.elim
end
/-! ### defs that hand out such a tuple -/
/-- what a def promises where κ is κN -/
def spFN (K : PySem.W.Frag) (mg : Str → Option Value) (T : List (Addr × Str)) (f : Fn) (np : Nat) : Sp := fun vs H Q E => vs.length = np ∧ ∃ g B ρ S as, as.length = np ∧ Sim (fx0 K mg T κN g) B ρ (as.map some) S (vs.map some) H ∧
  PostO (f g as S) (fun r S' => ∀ v H', Sim (fx0 K mg T κN g) (addR B r v) ρ [] S' [] H' → ExtE ρ S H S' H' → RepR (fx0 K mg T κN g) B ρ S' H H' r v → Q v H')
    (fun c S' => ∀ H', Sim (fx0 K mg T κN g) B ρ [] S' [] H' → ExtE ρ S H S' H' → ∀ cl, mg c = some (.ref cl) → E (.ref cl) none H')
structure OkN (P : Program) (w : World) (K : PySem.W.Frag) (mg : Str → Option Value) (base : Heap) (T : List (Addr × Str)) (y : Str) (k : Nat) (ps : List Str) (fm : Fn) (np : Nat) : Prop where
  ex : ∃ f fd, mg y = some (.ref f) ∧ PySem.W.keepIn K (.ref f) = true ∧ Binds K fd ps [] ∧ FnOk P w K mg base (L2.CX P w) k f fd ps (spFN K mg T fm np)
structure OkAtN (P : Program) (w : World) (K : PySem.W.Frag) (mg : Str → Option Value) (base : Heap) (T : List (Addr × Str)) (y : Str) (f : Addr) (fd : FuncData) (k : Nat) (ps : List Str) (fm : Fn) (np : Nat) : Prop where
  at_ : mg y = some (.ref f)
  kp : PySem.W.keepIn K (.ref f) = true
  bd : Binds K fd ps []
  fn : FnOk P w K mg base (L2.CX P w) k f fd ps (spFN K mg T fm np)
theorem OkAtN.ok {P : Program} {w : World} {K : PySem.W.Frag} {mg : Str → Option Value} {base : Heap} {T : List (Addr × Str)} {y : Str} {f : Addr} {fd : FuncData} {k : Nat} {ps : List Str} {fm : Fn} {np : Nat} (o : OkAtN P w K mg base T y f fd k ps fm np) : OkN P w K mg base T y k ps fm np :=
  ⟨f, fd, o.at_, o.kp, o.bd, o.fn⟩
section
variable {F : Fx} {W : WX} {X : Cx} {a : Expr} {ma : ME} {pos pp : Pos} {y : Str} {k np : Nat} {es : List Expr} {σ : L2.St} {H : Hp} {Q : VK}
theorem call_spN (st : Stab F) (hκ : F.κ = κN) {fm : Fn} {mss : List ME} (hnp : mss.length = np) (h : TrE F W (mCall fm mss) σ H Q) : TrA F W mss σ H fun vs H1 => spFN F.K F.mg F.T fm np vs H1 Q (L2.WE W σ) := by
  obtain ⟨B, ρ, e, S, s, hp⟩ := h
  have same1 : SameF F (fx0 F.K F.mg F.T κN F.g) := ⟨rfl, rfl, hκ, rfl⟩
  unfold mCall at hp
  refine ⟨B, ρ, e, S, s, ?_⟩
  cases hm : evRs mss F.g e S with
  | no => rw [hm] at hp; exact hp.elim
  | ex c S' => rw [hm] at hp; exact hp
  | ok rs S1 =>
  rw [hm, O.bind_ok] at hp
  intro vs H1 s1 x1 r1
  have hl := (RepRs.slots st r1).1
  have hl2 := evRs_len _ _ _ _ hm
  refine ⟨by omega, F.g, B, ρ, S1, rs.map toA, by simp; omega, args_sim st same1 rfl s1 r1, hp.imp (fun r S2 hq v H2 s2 x2 r2 => ?_) fun c S2 hq H2 s2 x2 cl hc => ?_⟩
  · have hb : ∀ a, addR B r v a → B a ∨ Nw H1 a := fun a q => by
      cases r with
      | d y => exact .inl q
      | c n => exact .inl q
      | f c =>
        rcases q with q | q
        · exact .inl q
        · obtain ⟨ad, rfl, g2, _⟩ := r2
          injection q with q
          rw [← q]; exact .inr g2
    exact hq v H2 (Sim.ret st same1.symm s1 s2 x2 hb) (x1.trans x2) ((r2.cong same1.symm).since fun a q => x1.none_ q)
  · exact hq H2 (Sim.ret st same1.symm s1 s2 x2 fun a q => .inl q) (x1.trans x2) cl hc
theorem te_callON {ps : List Str} {fm : Fn} {mss : List ME} (st : Stab F) (hκ : F.κ = κN) (tk : Takes X W) (hK : X.K = F.K) (hmg : X.mg = F.mg) (o : OkN X.prog X.w X.K X.mg X.base F.T y k ps fm np) (hr : Room k X.A) (hg : Gl X y) (hnp : mss.length = np)
    (ha : PA X (a :: es) (TrA F W mss)) (hdb : (y == ("__debug__" : Str)) = false) (he : starEach (a :: es) X.env = (false, eval a X.env) :: starEach es X.env) (hpl : (backTo pos (starEach es X.env)).any (·.1) = false) :
    PE X (.Call (.Name y pp) (a :: es) [] pos) (TrE F W (mCall fm mss)) := by
  obtain ⟨f, fd, h1, h2, h3, h4⟩ := o.ex
  exact PE_imp (pe_callS (hK ▸ hmg ▸ h4 : FnOk X.prog X.w X.K X.mg X.base (L2.CX X.prog X.w) k f fd ps (spFN F.K F.mg F.T fm np)) hr hg h1 h2 h3 (fun σ => passAt tk σ) ha hdb he hpl) fun σ H Q h => call_spN st hκ hnp h
end
theorem fn_okN {P : Program} {w : World} {K : PySem.W.Frag} {mg : Str → Option Value} {base : Heap} {T : List (Addr × Str)} {y qual : Str} {sd : Stmt} {f : Addr} {fd : FuncData} {N ps : List Str} {k np : Nat} {muts : List Bool} {m : MS}
    (Fd : L2.Fun K y qual sd f fd) (Sc : FnScope N ps (defScope sd)) (hnp : ps.length = np) (hN : N.length = np + muts.length)
    (hbody : ∀ (cdv : Value), fd.code = cdv → ∀ (A : Around) (outer : List PySem.Env) (s : Shared) (H : Hp) (E : XK), Room k (A.deeper (envOfC qual (defScope sd) s.heap.objs.size f cdv)) → ∀ F : Fx, F.K = K → F.mg = mg → F.T = T → F.ml = mlOf muts np → Stab F → F.κ = κN →
      PSs (cxOf (L2.CX P w) P w K mg base N qual (defScope sd) f cdv A outer s H E) (defBody sd) (TrS F (fun cls d _ H => E cls d H) m)) :
    FnOk P w K mg base (L2.CX P w) (k + 1) f fd ps (spFN K mg T (mkFn np muts m) np) :=
  by
    obtain ⟨oc, od, kV, doc, pm, an, cdv, ct, osl, hfd, lk, hcd⟩ := Fd.ex
    have hcode : fd.code = cdv := by rw [hfd]
    subst hfd
    refine L2.fn_of lk hcd Sc (fun vs H Q E q => by rw [hnp]; exact q.1) fun A outer s H vs Q E hr hsp => ?_
    obtain ⟨hl, g, B, ρ, S, as, ha, s0, hp⟩ := hsp
    let F : Fx := ⟨K, mg, κN, T, S.length, mlOf muts np, g⟩
    have same : SameF (fx0 K mg T κN g) F := ⟨rfl, rfl, rfl, rfl⟩
    have stF : Stab F := stab_κN
    refine ⟨_, hbody cdv hcode A outer s H E hr F rfl rfl rfl rfl stF rfl, B, ρ, as.map some ++ M.frame muts S.length, S ++ List.replicate (muts.countP id) none, entry_sim same (by rw [ha]) rfl (by rw [ha]; exact hN) s0, ?_⟩
    unfold mkFn at hp
    rw [if_pos ha] at hp
    exact leave_post (k := muts.countP id) same stF rfl hp
theorem ok_ofN {P : Program} {w : World} {K : PySem.W.Frag} {mg : Str → Option Value} {base : Heap} {T : List (Addr × Str)} {y : Str} {sd : Stmt} {f : Addr} {fd : FuncData} {N ps : List Str} {k np : Nat} {muts : List Bool} {m : MS}
    (Fd : L2.Fun K y y sd f fd) (hmg : mg y = some (.ref f)) (hb : Binds K fd ps []) (Sc : FnScope N ps (defScope sd)) (hnp : ps.length = np) (hN : N.length = np + muts.length)
    (hbody : ∀ (cdv : Value), fd.code = cdv → ∀ (A : Around) (outer : List PySem.Env) (s : Shared) (H : Hp) (E : XK), Room k (A.deeper (envOfC y (defScope sd) s.heap.objs.size f cdv)) →
      Takes (cxOf (L2.CX P w) P w K mg base N y (defScope sd) f cdv A outer s H E) (fun cls d _ H => E cls d H) →
      PassesOwn (model P w) (cxOf (L2.CX P w) P w K mg base N y (defScope sd) f cdv A outer s H E).A (cxOf (L2.CX P w) P w K mg base N y (defScope sd) f cdv A outer s H E).env (cxOf (L2.CX P w) P w K mg base N y (defScope sd) f cdv A outer s H E).xe →
      (A.deeper (envOfC y (defScope sd) s.heap.objs.size f cdv)).units + 64 < cLine → (A.deeper (envOfC y (defScope sd) s.heap.objs.size f cdv)).units + 65 < cLine → ∀ F : Fx, F.K = K → F.mg = mg → F.T = T → F.ml = mlOf muts np → Stab F → F.κ = κN →
      PSs (cxOf (L2.CX P w) P w K mg base N y (defScope sd) f cdv A outer s H E) (defBody sd) (TrS F (fun cls d _ H => E cls d H) m)) : OkAtN P w K mg base T y f fd (k + 1) ps (mkFn np muts m) np :=
  ⟨hmg, Fd.kp, hb, fn_okN Fd Sc hnp hN fun cdv hc A outer s H E hr F h1 h2 h3 h4 st hκ => hbody cdv hc A outer s H E hr (takes_of rfl rfl rfl rfl) (passes_of rfl) hr.units (by have := hr.un; omega) F h1 h2 h3 h4 st hκ⟩
/-! ### the law -/
theorem law_fnN {P : Program} {w : World} {K : PySem.W.Frag} {mg : Str → Option Value} {base : Heap} {k : Nat} {fa : Addr} {fd : FuncData} {ps : List Str} {f : Fn} (F : FnOk P w K mg base (L2.CX P w) k fa fd ps (spFN K mg [] f 1)) (h : ∀ ns : List Int, ns.length ≤ 63 → f G0 [.d (.rol (ns.map M.D.int))] [] = .ok (.d (.bl true)) []) :
    FnOk P w K mg base (L2.CX P w) k fa fd ps (spLaw K) := F.imp fun vs H Q E ⟨a, ns, e, hl, hO, hS, hq⟩ => by
  subst e
  refine ⟨rfl, G0, (fun _ => False), (fun _ => 0), [], [.d (.rol (ns.map M.D.int))], rfl, law_sim (mg := mg) (κ := κN) (Nat.le_trans hl (by decide)) (fun _ z => nomatch z) hS, ?_⟩
  rw [h ns hl]
  intro v H' _ _ r
  have r : v = .bl true := by simpa only [RepR, Rep] using r
  subst r
  exact hq H'
/-! ### a or b, lists -/
theorem te_orL {F : Fx} {W : WX} {X : Cx} {a b : Expr} {ma mb : ME} {rest : List Expr} {pos : Pos} (st : Stab F) (hK : X.K = F.K) (ha : PE X a (TrE F W ma)) (hb : PE X (.BoolOp .Or (b :: rest) pos) (TrE F W mb)) : PE X (.BoolOp .Or (a :: b :: rest) pos) (TrE F W (mOrL ma mb)) :=
  PE_imp (pe_orT ha hb) fun σ H Q hh => by
    obtain ⟨B, ρ, e, S, s, hp⟩ := hh
    unfold mOrL at hp
    refine stepE (m := ma) st s hp (fun _ _ q => q) fun r S1 v H1 s1 x1 r1 hp => ?_
    split at hp
    · rename_i xs
      have r0 : RepR F B ρ S1 H H1 (.f (.l xs)) v := r1
      obtain ⟨ad, rfl, _, _, vs, h1, h2, h3⟩ := r1
      have hl := h3.length
      refine ⟨!vs.isEmpty, .inl ⟨vs, SqL.of h1, rfl⟩, ?_⟩
      by_cases c : xs.isEmpty = true
      · rw [if_pos c] at hp
        have cx : xs = [] := List.isEmpty_iff.mp c
        have cv : vs = [] := by subst cx; exact List.length_eq_zero_iff.mp hl
        rw [cv]
        show TrE F W mb σ H1 Q
        exact ⟨B, ρ, e, S1, s1.mono st addR_le, PostO.imp hp (fun r S2 h v H2 s2 x2 r2 => h v H2 s2 (x1.trans x2) (r2.since fun a q => x1.none_ q)) fun _ _ q => q.after st (fun _ q => q) x1⟩
      · rw [if_neg c] at hp
        have cv : vs ≠ [] := fun z => c (by
          subst z
          rw [List.length_nil] at hl
          rw [List.length_eq_zero_iff.mp hl.symm]; rfl)
        have e1 : (!vs.isEmpty) = true := by
          cases vs with
          | nil => exact absurd rfl cv
          | cons _ _ => rfl
        rw [if_pos e1]
        exact hp _ H1 s1 x1 r0
    · exact hp.elim
end M

/-! Sound60: dicts with tuples of ints as keys, all their values True, that are not changed once they are made; max of ints. -/
namespace M
open PySem L2
open PySem (Str)
open PySem.Spec PyProof.Rows
/-! ### max -/
theorem maxL_mem : ∀ (ns : List Int) (n : Int), maxL n ns ∈ n :: ns
  | [], n => by simp [maxL]
  | x :: xs, n => by
    unfold maxL
    have := maxL_mem xs (if n < x then x else n)
    rcases List.mem_cons.mp this with h | h
    · rw [h]
      split <;> simp
    · simp [h]
theorem maxL_le : ∀ (ns : List Int) (n : Int), ∀ y ∈ n :: ns, y ≤ maxL n ns
  | [], n => by simp [maxL]
  | x :: xs, n => by
    intro y hy
    unfold maxL
    have h0 := maxL_le xs (if n < x then x else n) _ (List.mem_cons_self ..)
    rcases List.mem_cons.mp hy with rfl | hy
    · split at h0 <;> rename_i c
      · rw [if_pos c]; omega
      · rw [if_neg c]; exact h0
    · rcases List.mem_cons.mp hy with rfl | hy
      · split at h0 <;> rename_i c
        · rw [if_pos c]; exact h0
        · rw [if_neg c]; omega
      · exact maxL_le xs _ y (List.mem_cons_of_mem _ hy)
section
variable {F : Fx} {W : WX} {X : Cx} {a : Expr} {ma : ME} {pos pp : Pos}
theorem op1_maxL : Op1 F opMaxL (fun v H Q => rMax F.K [v] H Q) := by
  intro B ρ e S σ H x v r Q s hx hf k
  unfold opMaxL at hf
  split at hf
  · rename_i xs q
    cases q
    obtain ⟨a, vs, rfl, h1, h2, h3⟩ := hx.lst
    split at hf
    · rename_i n ns hn
      cases hf
      have := intsOf_reps hn h3
      subst this
      refine ⟨a, n :: ns, rfl, SqL.of h1, by simp, fun m hm hle => ?_⟩
      have e : m = maxL n ns := Int.le_antisymm (maxL_le ns n m hm) (hle _ (maxL_mem ns n))
      rw [e]
      exact k.int s
    · cases hf
  · cases hf
theorem te_maxL (st : Stab F) (hK : X.K = F.K) (hc : X.calm = true) (hg : Gl X "max") (hm : X.mg "max" = none) (ha : PE X a (TrE F W ma)) (he : starEach [a] X.env = (false, eval a X.env) :: starEach [] X.env) : PE X (.Call (.Name "max" pp) [a] [] pos) (TrE F W (mOp opMaxL [ma])) :=
  te_call1 st (cr_max hc) (hK ▸ op1_maxL) hg hm (by rfl) ha (by decide) (by decide) he
end
/-! ### the dict -/
abbrev TK (P : Program) (w : World) := tupleKind (mixKind P w)
/-- a dict's own entries; that its keys are tuples is said elsewhere -/
def DT0 (P : Program) (w : World) (h : Heap) (a : Addr) (xs : List (List Key × Addr × Value)) : Prop :=
  (a == sysModules) = false ∧ ∃ o es ep, h.get? a = some o ∧ o.ExactDict ∧ o.data = .dict es ep ∧ es.toList = xs.map (entryOfKey (TK P w)) ∧ (xs.map (·.1)).Nodup
def DTO (P : Program) (w : World) (a : Addr) (xs : List (List Key × Addr × Value)) : HO := .ext fun h => DT0 P w h a xs
theorem dto_new {P : Program} {w : World} {H : Hp} {h : Heap} {a : Addr} {xs : List (List Key × Addr × Value)} (R : DT0 P w h a xs) : ObjOk P w H h a (DTO P w a xs) := by
  have ⟨lo, o, es, ep, ho, r⟩ := R
  refine ⟨R, ⟨o, ho⟩, fun h1 h2 p k => ?_⟩
  have p : DT0 P w h1 a xs := p
  have ⟨lo', o', es', ep', ho', r'⟩ := p
  exact ⟨lo', o', es', ep', k o' ho', r'⟩
theorem DT0.full {P : Program} {w : World} {h : Heap} {a : Addr} {xs : List (List Key × Addr × Value)} (R : DT0 P w h a xs) (hi : ∀ x ∈ xs, (TK P w).is h x.1 x.2.1) : h.DictOfH (TK P w) a xs := by
  obtain ⟨_, o, es, ep, h1, h2, h3, h4, h5⟩ := R
  exact ⟨o, es, ep, h1, h2, h3, h4, hi, h5⟩
def keyR (ns : List Int) : List Key := ns.map Sum.inl
def entT (p : Addr × List Int) : List Key × Addr × Value := (keyR p.2, p.1, .bool true)
theorem keyR_inj : ∀ {a b : List Int}, keyR a = keyR b → a = b
  | [], [], _ => rfl
  | [], _ :: _, h => by simp [keyR] at h
  | _ :: _, [], h => by simp [keyR] at h
  | x :: xs, y :: ys, h => by
    have h : (Sum.inl x : Key) = Sum.inl y ∧ keyR xs = keyR ys := by simpa [keyR] using h
    have e := keyR_inj h.2
    cases h.1
    rw [e]
section
variable {X : Cx} {pins : List (Addr × Obj)} {σ : L2.St} {H : Hp} {s : Shared} {b : Addr} {k : List Int}
theorem keyT_of (I : Inv X pins σ H s) (h : SqT X.K H b (k.map V.int)) : (TK X.prog X.w).is s.heap (keyR k) b := by
  obtain ⟨its, r, ⟨o, ho, hc, n, hd⟩, _⟩ := I.tuple h
  have r' : Vals ((keyR k).map kV) its := by
    rw [keyR, List.map_map]
    exact r
  exact ⟨o, its.toArray, n, ho, hc, hd, by simpa using items_are r'⟩
theorem full_of {L : List (Addr × List Int)} {a : Addr} (I : Inv X pins σ H s) (ha : H a = some (DTO X.prog X.w a (L.map entT))) (hk : ∀ p ∈ L, SqT X.K H p.1 (p.2.map V.int)) : (a == sysModules) = false ∧ s.heap.DictOfH (TK X.prog X.w) a (L.map entT) := by
  have R : DT0 X.prog X.w s.heap a (L.map entT) := (I.hok a _ ha).1
  refine ⟨R.1, R.full fun x hx => ?_⟩
  obtain ⟨p, hp, rfl⟩ := List.mem_map.mp hx
  exact keyT_of I (hk p hp)
end
theorem atKey_T (L : List (Addr × List Int)) (k : List Int) : (atKey (L.map entT) (keyR k)).isSome = decide (k ∈ L.map (·.2)) := by
  unfold atKey
  rw [Option.isSome_map, Bool.eq_iff_iff, List.find?_isSome, decide_eq_true_iff, List.mem_map]
  constructor
  · rintro ⟨x, hx, e⟩
    obtain ⟨p, hp, rfl⟩ := List.mem_map.mp hx
    exact ⟨p, hp, keyR_inj (of_decide_eq_true e)⟩
  · rintro ⟨p, hp, rfl⟩
    exact ⟨entT p, List.mem_map.mpr ⟨p, hp, rfl⟩, decide_eq_true rfl⟩
def storeT (acc : List (Addr × List Int)) (p : Addr × List Int) : List (Addr × List Int) := if p.2 ∈ acc.map (·.2) then acc else acc ++ [p]
theorem putAt_T (L : List (Addr × List Int)) (k : List Int) : (L.map entT).map (putAt (keyR k) (.bool true)) = L.map entT := by
  rw [List.map_map]
  refine List.map_congr_left fun p _ => ?_
  show putAt (keyR k) (.bool true) (entT p) = entT p
  unfold putAt
  split <;> rfl
theorem stored_T1 (acc : List (Addr × List Int)) (p : Addr × List Int) : storedH (acc.map entT) (keyR p.2) p.1 (.bool true) = (storeT acc p).map entT := by
  unfold storedH storeT
  rw [atKey_T]
  by_cases c : p.2 ∈ acc.map (·.2)
  · rw [if_pos c, if_pos (decide_eq_true c), putAt_T]
  · rw [if_neg c, if_neg (by rw [decide_eq_false c]; exact Bool.false_ne_true), List.map_append]
    rfl
theorem stored_T : ∀ (L acc : List (Addr × List Int)), storedAllH (acc.map entT) (L.map entT) = (L.foldl storeT acc).map entT
  | [], acc => rfl
  | p :: L, acc => by
    show storedAllH (storedH (acc.map entT) (keyR p.2) p.1 (.bool true)) (L.map entT) = _
    rw [stored_T1, stored_T L (storeT acc p)]
    rfl
theorem storeT_sub : ∀ (L acc : List (Addr × List Int)) p, p ∈ L.foldl storeT acc → p ∈ acc ∨ p ∈ L
  | [], acc, p, h => .inl h
  | q :: L, acc, p, h => by
    rcases storeT_sub L (storeT acc q) p h with h | h
    · unfold storeT at h
      split at h
      · exact .inl h
      · rcases List.mem_append.mp h with h | h
        · exact .inl h
        · rw [List.mem_singleton.mp h]; exact .inr (List.mem_cons_self ..)
    · exact .inr (List.mem_cons_of_mem _ h)
theorem storeT_keys : ∀ (L acc : List (Addr × List Int)), (L.foldl storeT acc).map (·.2) = (L.map (·.2)).foldl putR (acc.map (·.2))
  | [], acc => rfl
  | q :: L, acc => by
    show ((L.foldl storeT (storeT acc q)).map (·.2)) = (L.map (·.2)).foldl putR (putR (acc.map (·.2)) q.2)
    rw [storeT_keys L (storeT acc q)]
    congr 1
    unfold storeT putR
    split
    · rfl
    · rw [List.map_append]; rfl
theorem storeT_len : ∀ (L acc : List (Addr × List Int)), (L.foldl storeT acc).length ≤ acc.length + L.length
  | [], acc => Nat.le_refl _
  | q :: L, acc => by
    have h := storeT_len L (storeT acc q)
    have h2 : (storeT acc q).length ≤ acc.length + 1 := by
      unfold storeT
      split
      · omega
      · rw [List.length_append]; exact Nat.le_refl _
    show (L.foldl storeT (storeT acc q)).length ≤ acc.length + (L.length + 1)
    omega
/-! ### dict(pairs) -/
def rDictT (K : PySem.W.Frag) (P : Program) (w : World) : List V → Hp → VK → Prop := fun xs H Q => ∃ (a : Addr) (ps : List Addr) (L : List (Addr × List Int)), xs = [V.ref a] ∧ SqL K H a (ps.map V.ref) ∧ Paired (fun p q => SqT K H p [V.ref q.1, V.bl true]) ps L ∧
  (∀ p ∈ L, SqT K H p.1 (p.2.map V.int)) ∧ ∀ p, H p = none → Q (.ref p) (upd H p (DTO P w p ((L.foldl storeT []).map entT)))
theorem cr_dictT {X : Cx} (hc : X.calm = true) (hu : X.A.units + 64 < cLine) : CallR X (.type "dict") (rDictT X.K X.prog X.w) := by
  intro pins s σ H xs us Q I r h
  obtain ⟨l, ps, L, rfl, hl, hp, hk, q⟩ := h
  rw [Vals.ref1 r]
  obtain ⟨its, rv, pl, hz⟩ := I.list hl
  have ei := refs_at rv
  subst ei
  obtain ⟨ol, n, hol, hcl, hdl, hdat⟩ := pl
  have hlen := paired_len hp
  rw [List.length_map] at hz
  have hpair : ∀ (j : Nat) (p : Addr × List Int), L[j]? = some p → ∃ t, ps[j]? = some t ∧ PyProof.Rows.IsTup s.heap t #[.ref p.1, .bool true] := by
    have key : ∀ {qs : List Addr} {M : List (Addr × List Int)}, Paired (fun p q => SqT X.K H p [V.ref q.1, V.bl true]) qs M → ∀ (j : Nat) (p : Addr × List Int), M[j]? = some p → ∃ t, qs[j]? = some t ∧ PyProof.Rows.IsTup s.heap t #[.ref p.1, .bool true] := by
      intro qs M hp
      induction hp with
      | nil => intro j p e; simp at e
      | @cons t q ts qs h0 t0 ih =>
        intro j p e
        cases j with
        | zero =>
          have e : q = p := Option.some.inj (by simpa using e)
          subst e
          obtain ⟨its2, r2, tp, _⟩ := I.tuple h0
          obtain ⟨u1, u2, e2, r3, r4⟩ := vals2 r2
          subst e2
          cases r3
          cases r4
          exact ⟨t, rfl, tp⟩
        | succ j =>
          obtain ⟨t', h1, h2⟩ := ih j p (by simpa using e)
          exact ⟨t', by simpa using h1, h2⟩
    exact key hp
  have P := PairArg.list (prog := X.prog) (w := X.w) l (ps.map Value.ref).toArray (fun j => ps.getD j 0) (L.map fun p => (Value.ref p.1, Value.bool true))
  refine call_dict_pairsH (knd := TK X.prog X.w) (ps := L.map entT) P (I.ok.hd hc) (show X.A.units + 1 + 1 < cLine by omega) ⟨⟨ol, n, hol, hcl, hdl, hdat⟩, ?_, fun j k v e => ?_⟩ ⟨?_, fun i key v e => ?_⟩ (fun h' kp x hx => ?_) ?_ fun h' tk hd' kp => ?_
  · simp [hlen]
  · rw [List.getElem?_map] at e
    obtain ⟨p, hp1, e⟩ := Option.map_eq_some_iff.mp e
    cases e
    obtain ⟨t, h1, h2⟩ := hpair j p hp1
    have e3 : ps.getD j 0 = t := by rw [List.getD_eq_getElem?_getD, h1]; rfl
    refine ⟨?_, .inl ?_⟩
    · show (ps.map Value.ref).toArray[j]? = some (Value.ref (ps.getD j 0))
      rw [e3]
      simp [h1]
    · show s.heap.IsTuple (ps.getD j 0) #[Value.ref p.1, Value.bool true]
      rw [e3]
      exact h2
  · simp
  · have e : (L.map fun p => (Value.ref p.1, Value.bool true))[i]? = some (key, v) := e
    rw [List.getElem?_map] at e
    obtain ⟨p, hp1, e⟩ := Option.map_eq_some_iff.mp e
    cases e
    exact ⟨keyR p.2, p.1, by rw [List.getElem?_map, hp1]; rfl, rfl⟩
  · obtain ⟨p, hp1, rfl⟩ := List.mem_map.mp hx
    obtain ⟨o, items, m, h1, h2, h3, h4⟩ := keyT_of I (hk p hp1)
    exact ⟨o, items, m, kp _ _ (Nat.ne_of_lt (Heap.lt_size h1)) (fun z => nomatch z) h1, h2, h3, h4⟩
  · rw [List.length_map, ← hlen]
    exact hz
  · have hm : (s.heap.objs.size == sysModules) = false := beq_eq_false_iff_ne.mpr (Nat.ne_of_gt I.big)
    rw [show ([] : List (List Key × Addr × Value)) = ([] : List (Addr × List Int)).map entT from rfl, stored_T] at hd'
    obtain ⟨o, es, ep, h1, h2, h3, h4, _, h5⟩ := hd'
    exact ⟨.ref s.heap.objs.size, _, I.laid (t' := tk) (fun b o e => kp b o (fun z => nomatch z) e) (Nat.le_refl _) (dto_new ⟨hm, o, es, ep, h1, h2, h3, h4, h5⟩), rfl, q _ (I.hok.fresh (Nat.le_refl _))⟩
/-! ### sorted(d) -/
def rSortedDT (K : PySem.W.Frag) (P : Program) (w : World) : List V → Hp → VK → Prop := fun vs H Q => ∃ (a : Addr) (L : List (Addr × List Int)), vs = [V.ref a] ∧ H a = some (DTO P w a (L.map entT)) ∧ (∀ p ∈ L, SqT K H p.1 (p.2.map V.int)) ∧ L.length ≤ LIM ∧
  ∀ (L' : List (Addr × List Int)) p, L'.Pairwise (fun v u => lexL u.2 v.2 = false) → L'.Perm L → H p = none → Q (.ref p) (upd H p (.lst (L'.map fun q => V.ref q.1)))
theorem refs_list : ∀ {vs : List Value} {L : List (Addr × List Int)}, vs = L.map (fun q => Value.ref q.1) → ∀ {out : List Value}, out.Perm vs → ∃ L' : List (Addr × List Int), L'.Perm L ∧ out = L'.map fun q => Value.ref q.1 := by
  rintro _ L rfl out h
  obtain ⟨zs, h1, h2⟩ := perm_lift (fun q : Addr × List Int => Value.ref q.1) h L rfl
  exact ⟨zs, h1, h2.symm⟩
theorem cr_sortedDT {X : Cx} (hc : X.calm = true) (hu : X.A.units + 64 < cLine) : CallR X (.builtin "sorted") (rSortedDT X.K X.prog X.w) := by
  intro pins s σ H vs us Q I r h
  obtain ⟨a, L, rfl, ha, hk, hz, q⟩ := h
  rw [Vals.ref1 r]
  obtain ⟨lo, o, es, ep, ho, hx, hd, he, hi, hn⟩ := full_of I ha hk
  have hes : es.size = L.length := by
    have := congrArg List.length he
    simpa using this
  have hzs : L.length ≤ sizeLine := by rw [← LIM_eq]; exact hz
  refine Calls.call_function_entry kind_sorted plain_sorted entry_sorted (args_sorted1 _) ?_
  unfold Builtin.«sorted»
  refine wpAny_bind (m := checkCount "sorted" 1 1 _) (wpAny_pure ?_)
  refine wpAny_bind (PySem.W.kdu_collect (A := X.A.in1) (kdl_raw lo hx hd) (I.ok.hd hc) ho (by omega) fun h' tk acc kp it => ?_)
  have ea : acc.toList = L.map fun p => Value.ref p.1 := by
    apply List.ext_getElem?
    intro j
    rw [List.getElem?_map]
    cases hj : acc.toList[j]? with
    | none =>
      have h1 := List.getElem?_eq_none_iff.mp hj
      rw [Array.length_toList, it.1] at h1
      rw [List.getElem?_eq_none (by omega)]
      rfl
    | some v =>
      obtain ⟨en, hen, hv⟩ := it.2 j v (by rw [← Array.getElem?_toList]; exact hj)
      rw [← Array.getElem?_toList, he, List.getElem?_map, List.getElem?_map] at hen
      cases hb : L[j]? with
      | none => rw [hb] at hen; cases hen
      | some b =>
        rw [hb] at hen
        cases hen
        rw [hv]
        rfl
  rw [ea]
  refine wpAny_bind (wpAny_newList ?_ (by rw [List.length_map]; exact hzs))
  obtain ⟨g, eg⟩ : ∃ g : Heap, g = h'.push (seqObj "list" (L.map fun p => Value.ref p.1).toArray 0) := ⟨_, rfl⟩
  have hoL : g.get? h'.objs.size = some (seqObj "list" (L.map fun p => Value.ref p.1).toArray 0) := by rw [eg]; exact Heap.get?_push_size _ rfl
  have kg : ∀ b o, s.heap.get? b = some o → b ≠ h'.objs.size ∧ g.get? b = some o := fun b o e => ⟨Nat.ne_of_lt (Heap.lt_size (kp b o e)), by rw [eg]; exact Heap.get?_push_of_some _ (kp b o e)⟩
  have tup : ∀ p ∈ L, IsTupI g (.ref p.1) p.2 ∧ heapI g (.ref p.1) = p.2 := fun p hp => by
    obtain ⟨its2, r2, ⟨o2, ho2, hc2, n2, hd2⟩, _⟩ := I.tuple (hk p hp)
    have h3 := (kg _ _ ho2).2
    have hi : IntsAre its2.toArray.toList p.2 := by simpa using r2.ints
    exact ⟨⟨p.1, o2, its2.toArray, n2, rfl, h3, hc2, hd2, hi⟩, heapI_eq h3 hd2 hi⟩
  have tupv : ∀ v ∈ L.map (fun p => Value.ref p.1), IsTupI g v (heapI g v) := fun v hv => by
    obtain ⟨p, hp, rfl⟩ := List.mem_map.mp hv
    have := tup p hp
    rw [this.2]
    exact this.1
  show wpAny (model X.prog X.w) X.A.in1 _ _ _ { s with heap := h'.push (seqObj "list" (L.map fun p => Value.ref p.1).toArray 0), toks := tk }
  rw [← eg]
  refine wpAny_bind (wpAny_holding (wpAny_call_entry slot_list_sort ⟨_, hoL, rfl⟩ entry_list_sort (SrtO.list_sort_ord (s := { s with heap := g, toks := tk }) (swoL (heapI g)) hoL (by rw [List.length_map]; exact hzs) (fun h2 => ?_) fun out hs hb => ⟨_, rfl, ?_⟩) (args_list_sort _)))
  · refine tupI_sortable0 (s := { s with heap := g, toks := tk }) (by show X.A.units + 1 + 1 < cLine; omega) (by omega) tupv fun o' e => ?_
    have e' : some o' = some (seqObj "list" (L.map fun p => Value.ref p.1).toArray 0) := e.symm.trans hoL
    cases e'
    intro c
    exact absurd (Value.type.inj c) (by decide)
  · refine wpAny_pure ⟨_, rfl, ?_⟩
    obtain ⟨L', pL, rfl⟩ := refs_list rfl hb.perm
    have I1 : Inv X pins σ H { s with heap := h', toks := tk } := I.kept (t' := tk) kp
    have hnone : H h'.objs.size = none := I1.hok.fresh (Nat.le_refl _)
    obtain ⟨n, hn2⟩ := sortedHeap_at (vs := L.map fun p => Value.ref p.1) (out := (L'.map fun q => Value.ref q.1).toArray) hoL
    have qq := q L' h'.objs.size (by
      have hs := List.pairwise_map.mp hs
      refine List.Pairwise.imp_of_mem (fun {u v} hu hv h => ?_) hs
      have e1 := (tup u (pL.mem_iff.mp hu)).2
      have e2 := (tup v (pL.mem_iff.mp hv)).2
      have h : lexL (heapI g (.ref v.1)) (heapI g (.ref u.1)) = false := h
      rw [e1, e2] at h
      exact h) pL hnone
    refine ⟨.ref h'.objs.size, _, I1.laid (t' := tk) (fun b o e => ?_) (Nat.le_refl _) (show ObjOk X.prog X.w _ _ _ (.lst (L'.map fun q => V.ref q.1)) from ⟨?_, L'.map fun q => Value.ref q.1, n, vals_of_refs L', hn2⟩), rfl, qq⟩
    · have hb' : b ≠ h'.objs.size := Nat.ne_of_lt (Heap.lt_size e)
      have hb2 : g.get? b = some o := by rw [eg]; exact Heap.get?_push_of_some _ e
      rw [sortedHeap_old hb' (Heap.lt_size hb2)]
      exact hb2
    · rw [List.length_map, pL.length_eq]
      exact hzs
/-! ### k in d -/
def rInT (K : PySem.W.Frag) (P : Program) (w : World) : V → V → Hp → VK → Prop := fun y x H Q => ∃ (a b : Addr) (L : List (Addr × List Int)) (k : List Int), y = .ref b ∧ SqT K H b (k.map V.int) ∧ x = .ref a ∧ H a = some (DTO P w a (L.map entT)) ∧ (∀ p ∈ L, SqT K H p.1 (p.2.map V.int)) ∧ Q (.bl (decide (k ∈ L.map (·.2)))) H
theorem pc_inT {X : Cx} {i o : Expr} {ty td : TE} (hu : X.A.units + 64 < cLine) (hi : PE X i ty) (ho : PE X o td) : PC X .In i o (fun σ H Q => ty σ H fun y H1 => td σ H1 fun x H2 => rInT X.K X.prog X.w y x H2 Q) := by
  refine ⟨fun pins s σ H Q I h => ?_⟩
  refine thn (hi.run pins s σ H _ I h) fun iv s1 ⟨y, H1, I1, ry, q1⟩ => thn (ho.run pins s1 σ H1 _ I1 q1) fun u s2 ⟨x, H2, I2, rx, q2⟩ => ?_
  obtain ⟨a, b, L, k, rfl, hb, rfl, ha, hk, q⟩ := q2
  cases ry
  cases rx
  obtain ⟨lo, dd⟩ := full_of I2 ha hk
  refine wpAny_in_heap (tupleKind_room_in1 (by omega)) (keyT_of I2 hb) lo dd ?_
  rw [atKey_T]
  exact ⟨.bl (decide (k ∈ List.map (fun x : Addr × List Int => x.2) L)), H2, I2.tok _, rfl, q⟩
/-! ### what stands for such a dict -/
def κD (P : Program) (w : World) (K : PySem.W.Frag) : Nat → V → Hp → Prop := fun k v H => ∃ (a : Addr) (L : List (Addr × List Int)), v = .ref a ∧ H a = some (DTO P w a (L.map entT)) ∧ (∀ p ∈ L, SqT K H p.1 (p.2.map V.int)) ∧ L.length ≤ LIM ∧ (∀ p ∈ L, p.2.length ≤ LIM) ∧ L.map (·.2) = unLL k
theorem stab_κD {P : Program} {w : World} {K : PySem.W.Frag} {mg : Str → Option Value} {T : List (Addr × Str)} {n0 : Nat} {ml : List Nat} {g : Clos} : Stab ⟨K, mg, κD P w K, T, n0, ml, g⟩ where
  mv := fun k v H H' ⟨a, L, h1, h2, h3, h4⟩ kp => ⟨a, L, h1, kp _ _ rfl h2, fun p hp => SqT.keeps (h3 p hp) kp, h4⟩
  nn := fun k v H ⟨a, L, h1, _⟩ z => by rw [z] at h1; cases h1
theorem pairsT_reps {F : Fx} {X : Addr → Prop} {H : Hp} : ∀ {xs : List M.D} {rs : List (List Int)} {vs : List V}, pairsT xs = some rs → Reps F X H xs vs →
    ∃ (ps : List Addr) (L : List (Addr × List Int)), vs = ps.map V.ref ∧ Paired (fun p q => SqT F.K H p [V.ref q.1, V.bl true]) ps L ∧ (∀ p ∈ L, SqT F.K H p.1 (p.2.map V.int) ∧ p.2.length ≤ LIM) ∧ L.map (·.2) = rs
  | [], rs, vs, h, hr => by
    unfold pairsT at h
    cases h
    have : vs = [] := List.eq_nil_of_length_eq_zero hr.length
    subst this
    exact ⟨[], [], rfl, .nil, (fun p hp => nomatch hp), rfl⟩
  | x :: xs, rs, vs, h, hr => by
    rw [Reps] at hr
    obtain ⟨v, vs, rfl, hv, hr2⟩ := hr
    unfold pairsT at h
    split at h
    · rename_i q; cases q
    · rename_i ys r q
      injection q with q1 q2
      subst q1 q2
      split at h
      · rename_i ns rs h1 h2
        cases h
        obtain ⟨ps, L, i1, i2, i3, i4⟩ := pairsT_reps h2 hr2
        rw [Rep] at hv
        obtain ⟨t, ws, rfl, e1, e2, e3⟩ := hv
        rw [Reps] at e3
        obtain ⟨v1, ws1, rfl, f1, e3⟩ := e3
        rw [Reps] at e3
        obtain ⟨v2, ws2, rfl, f2, e3⟩ := e3
        have e4 : ws2 = [] := List.eq_nil_of_length_eq_zero e3.length
        subst e4
        simp only [Rep] at f1 f2
        obtain ⟨t1, us, rfl, g1, g2, g3⟩ := f1
        subst f2
        have e5 := intsOf_reps h1 g3
        subst e5
        refine ⟨t :: ps, (t1, ns) :: L, by rw [i1]; rfl, .cons e1 i2, fun p hp => ?_, by rw [List.map_cons, i4]⟩
        rcases List.mem_cons.mp hp with rfl | hp
        · exact ⟨g1, by rw [List.length_map] at g2; exact g2⟩
        · exact i3 p hp
      · cases h
    · cases h
theorem keeps_updN {H : Hp} {p : Addr} {o : HO} (hp : H p = none) : Keeps H (upd H p o) := fun a o' _ h => by
  rw [upd_ne (ne_of_none h hp)]; exact h
section
variable {F : Fx} {P : Program} {w : World}
theorem op1_dictT (st : Stab F) (hκ : F.κ = κD P w F.K) : Op1 F opDictT (fun v H Q => rDictT F.K P w [v] H Q) := by
  intro B ρ e S σ H x v r Q s hx hf k
  unfold opDictT at hf
  split at hf
  · rename_i xs q
    cases q
    obtain ⟨a, vs, rfl, h1, h2, h3⟩ := hx.lst
    split at hf
    · rename_i rs hn
      split at hf
      · rename_i hok
        cases hf
        obtain ⟨ps, L, rfl, i2, i3, i4⟩ := pairsT_reps hn h3
        refine ⟨a, ps, L, rfl, SqL.of h1, i2, fun p hp => (i3 p hp).1, fun p hp => k (.ref p) _ ((s.alloc st hp (fun ps z => by cases z)).mono st fun a q => .inl q) (ExtE.alloc hp) ?_⟩
        simp only [RepR, Rep]
        rw [hκ]
        have hl := storeT_len L []
        have hpl := paired_len i2
        rw [List.length_map] at h2
        refine ⟨p, L.foldl storeT [], rfl, upd_same, fun q hq => ?_, ?_, fun q hq => ?_, ?_⟩
        · rcases storeT_sub L [] q hq with h | h
          · cases h
          · exact SqT.keeps (i3 q h).1 (keeps_updN hp)
        · rw [List.length_nil] at hl
          omega
        · rcases storeT_sub L [] q hq with h | h
          · cases h
          · exact (i3 q h).2
        · rw [storeT_keys, i4, unLL_enc (putR_all rs [] hok rfl)]
          rfl
      · cases hf
    · cases hf
  · cases hf
theorem op2_inT (hκ : F.κ = κD P w F.K) : Op2 F opInT (fun y x H Q => rInT F.K P w y x H Q) := by
  intro B ρ e S σ H x y v w' r Q s hx hy hf k
  unfold opInT at hf
  split at hf
  · rename_i xs c q
    cases q
    split at hf
    · rename_i ns hn
      cases hf
      obtain ⟨t, vs, rfl, h1, h2, h3⟩ := hx.tup
      have e4 := intsOf_reps hn h3
      subst e4
      have hy : F.κ c w' H := hy
      rw [hκ] at hy
      obtain ⟨a, L, rfl, q1, q2, q3, _, q4⟩ := hy
      refine ⟨a, t, L, ns, rfl, h1, rfl, q1, q2, ?_⟩
      rw [q4]
      exact k.bl s
    · cases hf
  · cases hf
theorem lex_eq {a b : List (List Int)} (h1 : a.Pairwise fun u v => leL u v = true) (hp : a.Perm b) : a = b.mergeSort leL := by
  refine List.Perm.eq_of_pairwise (le := fun a b => leL a b = true) (fun a b _ _ q1 q2 => ?_) h1 ?_ (hp.trans (List.mergeSort_perm ..).symm)
  · unfold leL at q1 q2
    exact lexL_anti a b (by simpa using q2) (by simpa using q1)
  · refine List.pairwise_mergeSort ?_ ?_ _
    · intro a b c h1 h2
      unfold leL at h1 h2 ⊢
      have := lexL_tr a b c (by simpa using h1) (by simpa using h2)
      rw [this]; rfl
    · intro a b
      unfold leL
      cases h : lexL a b with
      | false => simp
      | true => rw [lexL_asym _ _ h]; rfl
theorem op1_sortedDT (st : Stab F) (hκ : F.κ = κD P w F.K) : Op1 F opSortedDT (fun v H Q => rSortedDT F.K P w [v] H Q) := by
  intro B ρ e S σ H x v r Q s hx hf k
  unfold opSortedDT at hf
  split at hf
  · rename_i c q
    cases q
    cases hf
    have hx : F.κ c v H := hx
    rw [hκ] at hx
    obtain ⟨a, L, rfl, q1, q2, q3, len, q4⟩ := hx
    refine ⟨a, L, rfl, q1, q2, q3, fun L' p hs hp hl => ?_⟩
    have e3 : L'.map (·.2) = (unLL c).mergeSort leL := by
      rw [← q4]
      refine lex_eq (List.pairwise_map.mpr (hs.imp fun {u v} h => ?_)) (hp.map _)
      show (!lexL v.2 u.2) = true
      rw [h]; rfl
    have e4 : Reps F (Ex B ρ S) H (((unLL c).mergeSort leL).map fun r => .tup (r.map .int)) (L'.map fun q => V.ref q.1) := by
      rw [← e3, List.map_map]
      have : ∀ zs : List (Addr × List Int), (∀ z ∈ zs, z ∈ L) → Reps F (Ex B ρ S) H (zs.map ((fun r : List Int => M.D.tup (r.map .int)) ∘ (·.2))) (zs.map fun q => V.ref q.1) := by
        intro zs
        induction zs with
        | nil => intro _; exact Reps.nil
        | cons z zs ih =>
          intro hz
          refine Reps.cons ?_ (ih fun y hy => hz y (List.mem_cons_of_mem _ hy))
          show Rep F (Ex B ρ S) H (M.D.tup (z.2.map .int)) (V.ref z.1)
          rw [Rep]
          exact ⟨z.1, _, rfl, q2 z (hz z (List.mem_cons_self ..)), by rw [List.length_map]; exact len z (hz z (List.mem_cons_self ..)), reps_ints _⟩
      exact this L' fun z hz => hp.mem_iff.mp hz
    refine s.newLst st ?_ e4 k p hl
    rw [List.length_map, hp.length_eq]
    exact q3
  · cases hf
end
section
variable {F : Fx} {W : WX} {X : Cx} {a b : Expr} {ma mb : ME} {pp pos : Pos}
theorem te_dictT (hu : X.A.units + 64 < cLine) (st : Stab F) (hκ : F.κ = κD X.prog X.w F.K) (hK : X.K = F.K) (hc : X.calm = true) (hg : Gl X "dict") (hm : X.mg "dict" = none) (ha : PE X a (TrE F W ma)) (he : starEach [a] X.env = (false, eval a X.env) :: starEach [] X.env) : PE X (.Call (.Name "dict" pp) [a] [] pos) (TrE F W (mOp opDictT [ma])) :=
  te_callT1 (rr := rDictT X.K X.prog X.w) st (cr_dictT hc hu) (hK ▸ op1_dictT st hκ) hg hm (by rfl) ha (by decide) (by decide) he
theorem te_inT (hu : X.A.units + 64 < cLine) (st : Stab F) (hκ : F.κ = κD X.prog X.w F.K) (hK : X.K = F.K) (hm : behindInMarks .In b = false) (ha : PE X a (TrE F W ma)) (hb : PE X b (TrE F W mb)) : PE X (.Compare a [.In] [b] pos) (TrE F W (mOp opInT [ma, mb])) :=
  PE_imp (pe_cmp (pc_inT hu ha hb) hm) fun σ H Q h => te_bin st (hK ▸ op2_inT hκ : Op2 F opInT (fun y x H Q => rInT X.K X.prog X.w y x H Q)) h
theorem tb_inT (hu : X.A.units + 64 < cLine) (st : Stab F) (hκ : F.κ = κD X.prog X.w F.K) (hK : X.K = F.K) (hm : behindInMarks .In b = false) (ha : PE X a (TrE F W ma)) (hb : PE X b (TrE F W mb)) : PT X (.Compare a [.In] [b] pos) (TrB F W (mOp opInT [ma, mb])) :=
  PT_imp (pt_cmp (pc_inT hu ha hb) hm) fun σ H Q h => te_bin st (hK ▸ op2_inT hκ : Op2 F opInT (fun y x H Q => rInT X.K X.prog X.w y x H Q)) h.toE
theorem te_sortedDT (hu : X.A.units + 64 < cLine) (st : Stab F) (hκ : F.κ = κD X.prog X.w F.K) (hK : X.K = F.K) (hc : X.calm = true) (hg : Gl X "sorted") (hm : X.mg "sorted" = none) (ha : PE X a (TrE F W ma)) (he : starEach [a] X.env = (false, eval a X.env) :: starEach [] X.env) : PE X (.Call (.Name "sorted" pp) [a] [] pos) (TrE F W (mOp opSortedDT [ma])) :=
  te_call1 (rr := rSortedDT X.K X.prog X.w) st (cr_sortedDT hc hu) (hK ▸ op1_sortedDT st hκ) hg hm (by rfl) ha (by decide) (by decide) he
end
/-! ### a def that has such dicts of its own: none comes in, none goes out -/
theorem fn_okD {P : Program} {w : World} {K : PySem.W.Frag} {mg : Str → Option Value} {base : Heap} {T : List (Addr × Str)} {y qual : Str} {sd : Stmt} {f : Addr} {fd : FuncData} {N ps : List Str} {k np : Nat} {muts : List Bool} {m : MS} (κ : Nat → V → Hp → Prop) (hst : ∀ (n0 : Nat) (ml : List Nat) (g : Clos), Stab ⟨K, mg, κ, T, n0, ml, g⟩)
    (Fd : L2.Fun K y qual sd f fd) (Sc : FnScope N ps (defScope sd)) (hnp : ps.length = np) (hN : N.length = np + muts.length)
    (hbody : ∀ (cdv : Value), fd.code = cdv → ∀ (A : Around) (outer : List PySem.Env) (s : Shared) (H : Hp) (E : XK), Room k (A.deeper (envOfC qual (defScope sd) s.heap.objs.size f cdv)) → ∀ F : Fx, F.K = K → F.mg = mg → F.T = T → F.ml = mlOf muts np → Stab F → F.κ = κ →
      PSs (cxOf (L2.CX P w) P w K mg base N qual (defScope sd) f cdv A outer s H E) (defBody sd) (TrS F (fun cls d _ H => E cls d H) m)) :
    FnOk P w K mg base (L2.CX P w) (k + 1) f fd ps (spF K mg T (mkFnK np muts m) np) :=
  by
    obtain ⟨oc, od, kV, doc, pm, an, cdv, ct, osl, hfd, lk, hcd⟩ := Fd.ex
    have hcode : fd.code = cdv := by rw [hfd]
    subst hfd
    refine L2.fn_of lk hcd Sc (fun vs H Q E q => by rw [hnp]; exact q.1) fun A outer s H vs Q E hr hsp => ?_
    obtain ⟨hl, κ0, g, B, ρ, S, as, st, ha, s0, hp⟩ := hsp
    unfold mkFnK at hp
    split at hp
    case isFalse => exact hp.elim
    rename_i hno
    have hno : as.all noCloA = true ∧ noCloS S = true := by simpa using hno
    let F : Fx := ⟨K, mg, κ, T, S.length, mlOf muts np, g⟩
    have same : SameF (fx0 K mg T κ g) F := ⟨rfl, rfl, rfl, rfl⟩
    have sk : SameK (fx0 K mg T κ0 g) (fx0 K mg T κ g) := ⟨rfl, rfl, rfl, rfl, rfl⟩
    have stF : Stab F := hst _ _ _
    have s1 : Sim (fx0 K mg T κ g) B ρ (as.map some) S (vs.map some) H := s0.reclo sk (fun i x q => by
      have q := getElem?_map_some.mp q
      exact List.all_eq_true.mp hno.1 _ (List.mem_of_getElem? q)) hno.2
    refine ⟨_, hbody cdv hcode A outer s H E hr F rfl rfl rfl rfl stF rfl, B, ρ, as.map some ++ M.frame muts S.length, S ++ List.replicate (muts.countP id) none, entry_sim same (by rw [ha]) rfl (by rw [ha]; exact hN) s1, ?_⟩
    refine leave_post (κ := κ) (k := muts.countP id) same stF rfl ?_
    have e : mkFn np muts m g as S = outOf S.length (m g (as.map some ++ M.frame muts S.length) (S ++ List.replicate (muts.countP id) none)) := by
      unfold mkFn
      rw [if_pos ha]
    rw [e] at hp
    show PostO (outOf S.length (m g (as.map some ++ M.frame muts S.length) (S ++ List.replicate (muts.countP id) none))) _ _
    cases ho : outOf S.length (m g (as.map some ++ M.frame muts S.length) (S ++ List.replicate (muts.countP id) none)) with
    | no => rw [ho] at hp; exact hp.elim
    | ok r S' =>
      rw [ho] at hp
      simp only [lockO] at hp
      split at hp
      · rename_i hq
        have hq : noCloR r = true ∧ noCloS S' = true := by simpa using hq
        intro v H' s' x' r'
        exact hp v H' (s'.reclo sk.symm (fun i x q => by simp at q) hq.2) x' (r'.reclo sk.symm hq.1)
      · exact hp.elim
    | ex c S' =>
      rw [ho] at hp
      simp only [lockO] at hp
      split at hp
      · rename_i hq
        intro H' s' x' cl hc
        exact hp H' (s'.reclo sk.symm (fun i x q => by simp at q) hq) x' cl hc
      · exact hp.elim
theorem ok_ofD {P : Program} {w : World} {K : PySem.W.Frag} {mg : Str → Option Value} {base : Heap} {T : List (Addr × Str)} {y : Str} {sd : Stmt} {f : Addr} {fd : FuncData} {N ps : List Str} {k np : Nat} {muts : List Bool} {m : MS}
    (Fd : L2.Fun K y y sd f fd) (hmg : mg y = some (.ref f)) (hb : Binds K fd ps []) (Sc : FnScope N ps (defScope sd)) (hnp : ps.length = np) (hN : N.length = np + muts.length)
    (hbody : ∀ (cdv : Value), fd.code = cdv → ∀ (A : Around) (outer : List PySem.Env) (s : Shared) (H : Hp) (E : XK), Room k (A.deeper (envOfC y (defScope sd) s.heap.objs.size f cdv)) →
      Takes (cxOf (L2.CX P w) P w K mg base N y (defScope sd) f cdv A outer s H E) (fun cls d _ H => E cls d H) →
      PassesOwn (model P w) (cxOf (L2.CX P w) P w K mg base N y (defScope sd) f cdv A outer s H E).A (cxOf (L2.CX P w) P w K mg base N y (defScope sd) f cdv A outer s H E).env (cxOf (L2.CX P w) P w K mg base N y (defScope sd) f cdv A outer s H E).xe →
      (A.deeper (envOfC y (defScope sd) s.heap.objs.size f cdv)).units + 64 < cLine → (A.deeper (envOfC y (defScope sd) s.heap.objs.size f cdv)).units + 65 < cLine → ∀ F : Fx, F.K = K → F.mg = mg → F.T = T → F.ml = mlOf muts np → Stab F →
      F.κ = κD P w F.K → PSs (cxOf (L2.CX P w) P w K mg base N y (defScope sd) f cdv A outer s H E) (defBody sd) (TrS F (fun cls d _ H => E cls d H) m)) : OkAt P w K mg base T y f fd (k + 1) ps (mkFnK np muts m) np :=
  ⟨hmg, Fd.kp, hb, fn_okD (κD P w K) (fun _ _ _ => stab_κD) Fd Sc hnp hN fun cdv hc A outer s H E hr F h1 h2 h3 h4 st hκ => hbody cdv hc A outer s H E hr (takes_of rfl rfl rfl rfl) (passes_of rfl) hr.units (by have := hr.un; omega) F h1 h2 h3 h4 st (by rw [hκ, h1])⟩
end M

namespace M
open PySem L2
open PySem (Str)
open PySem.Spec PyProof.Rows
def topS (i : Nat) : Stmt := PySem.Challenge.pw_sumhues_k71_all_free_lots.main.body.getD i (.Pass ⟨0, 0, 0, 0⟩)
abbrev s_is_whole : Stmt := topS 5
theorem sc_is_whole : FnScope ["thing"] ["thing"] (defScope s_is_whole) := ⟨rfl, rfl, rfl, by decide +kernel, rfl, by decide +kernel, by decide +kernel⟩
theorem ok_is_whole {P : Program} {w : World} {K : PySem.W.Frag} {mg : Str → Option Value} {base : Heap} {T : List (Addr × Str)} {f : Addr} {fd : FuncData} (Fd : L2.Fun K "is_whole" "is_whole" s_is_whole f fd) (hmg : mg "is_whole" = some (.ref f))
     (z_isinstance : mg "isinstance" = none) (z_bool : mg "bool" = none) (z_int : mg "int" = none)      : OkAt P w K mg base T "is_whole" f fd 1 ["thing"] sem_is_whole 1 :=
  ok_of Fd hmg (Fd.binds fun _ _ _ _ _ _ us hl => match us, hl with | [_], _ => rfl) sc_is_whole rfl rfl fun cdv hcdv A outer s H E hr tk po hu hu5 F hFK hFm hFT hml st => by
    subst hFK hFm hFT
    have hml : ∀ {i}, i ∈ mlOf [] 1 → i ∈ F.ml := fun h => by rw [hml]; exact h
    have nd := sc_is_whole.nd
    have hK : F.K = F.K := rfl
    have hM : F.mg = F.mg := rfl
    exact (ts_cons 
    (ts_ret st (te_and st (te_isK st hK (by decide) rfl (by rfl) z_isinstance (by rfl) z_int (by rfl) (by decide) (by decide) (te_var rfl (.inl rfl) (by decide) (by decide)) (by rfl)) (pe_one (te_not st (te_isK st hK (by decide) rfl (by rfl) z_isinstance (by rfl) z_bool (by rfl) (by decide) (by decide) (te_var rfl (.inl rfl) (by decide) (by decide)) (by rfl)))))) ts_nil)

abbrev s_is_from : Stmt := topS 6
theorem sc_is_from : FnScope ["thing", "least", "most"] ["thing", "least", "most"] (defScope s_is_from) := ⟨rfl, rfl, rfl, by decide +kernel, rfl, by decide +kernel, by decide +kernel⟩
theorem ok_is_from {P : Program} {w : World} {K : PySem.W.Frag} {mg : Str → Option Value} {base : Heap} {T : List (Addr × Str)} {f : Addr} {fd : FuncData} (Fd : L2.Fun K "is_from" "is_from" s_is_from f fd) (hmg : mg "is_from" = some (.ref f))
    (o_is_whole : Ok P w K mg base T "is_whole" 1 ["thing"] sem_is_whole 1)       : OkAt P w K mg base T "is_from" f fd 2 ["thing", "least", "most"] sem_is_from 3 :=
  ok_of Fd hmg (Fd.binds fun _ _ _ _ _ _ us hl => match us, hl with | [_, _, _], _ => rfl) sc_is_from rfl rfl fun cdv hcdv A outer s H E hr tk po hu hu5 F hFK hFm hFT hml st => by
    subst hFK hFm hFT
    have hml : ∀ {i}, i ∈ mlOf [] 3 → i ∈ F.ml := fun h => by rw [hml]; exact h
    have nd := sc_is_from.nd
    have hK : F.K = F.K := rfl
    have hM : F.mg = F.mg := rfl
    exact (ts_cons 
    (ts_ret st (te_and st (te_callO st tk hK hM o_is_whole (hr.mono (by decide)) (by rfl) rfl (ta_cons st (te_var rfl (.inl rfl) (by decide) (by decide)) ta_nil (by rfl)) (by decide) (by rfl) (by rfl)) (pe_one (te_chain st op_le op_le op2_le op2_le (te_var rfl (.inl rfl) (by decide) (by decide)) (te_var rfl (.inl rfl) (by decide) (by decide)) (te_var rfl (.inl rfl) (by decide) (by decide)) rfl)))) ts_nil)

abbrev s_must_rule : Stmt := topS 7
theorem sc_must_rule : FnScope ["rule"] ["rule"] (defScope s_must_rule) := ⟨rfl, rfl, rfl, by decide +kernel, rfl, by decide +kernel, by decide +kernel⟩
theorem ok_must_rule {P : Program} {w : World} {K : PySem.W.Frag} {mg : Str → Option Value} {base : Heap} {T : List (Addr × Str)} {f : Addr} {fd : FuncData} (Fd : L2.Fun K "must_rule" "must_rule" s_must_rule f fd) (hmg : mg "must_rule" = some (.ref f))
     (z_isinstance : mg "isinstance" = none) (z_str : mg "str" = none)   (x_NoRule : ExcOk K mg "NoRule")   : OkAt P w K mg base T "must_rule" f fd 1 ["rule"] sem_must_rule 1 :=
  ok_of Fd hmg (Fd.binds fun _ _ _ _ _ _ us hl => match us, hl with | [_], _ => rfl) sc_must_rule rfl rfl fun cdv hcdv A outer s H E hr tk po hu hu5 F hFK hFm hFT hml st => by
    subst hFK hFm hFT
    have hml : ∀ {i}, i ∈ mlOf [] 1 → i ∈ F.ml := fun h => by rw [hml]; exact h
    have nd := sc_must_rule.nd
    have hK : F.K = F.K := rfl
    have hM : F.mg = F.mg := rfl
    exact (ts_cons 
    (ts_if (PW.pt (tb_or st (tb_not st (tb_val (te_isK st hK (by decide) rfl (by rfl) z_isinstance (by rfl) z_str (by rfl) (by decide) (by decide) (te_var rfl (.inl rfl) (by decide) (by decide)) (by rfl)) (fun _ => rfl))) (pw_or1 (tb_nin hu5 hK st rfl (te_var rfl (.inl rfl) (by decide) (by decide)) (te_tup st (td_cons st (te_str (by decide)) (td_cons st (te_str (by decide)) td_nil (by rfl)) (by rfl)) (by decide)))))) (ts_cons 
    (ts_raiseO rfl tk hM x_NoRule (by rfl) (by decide)) ts_nil) ts_nil) ts_nil)

abbrev s_must_number : Stmt := topS 8
theorem sc_must_number : FnScope ["thing", "least", "most"] ["thing", "least", "most"] (defScope s_must_number) := ⟨rfl, rfl, rfl, by decide +kernel, rfl, by decide +kernel, by decide +kernel⟩
theorem ok_must_number {P : Program} {w : World} {K : PySem.W.Frag} {mg : Str → Option Value} {base : Heap} {T : List (Addr × Str)} {f : Addr} {fd : FuncData} (Fd : L2.Fun K "must_number" "must_number" s_must_number f fd) (hmg : mg "must_number" = some (.ref f))
    (o_is_from : Ok P w K mg base T "is_from" 2 ["thing", "least", "most"] sem_is_from 3)    (x_NoNumber : ExcOk K mg "NoNumber")   : OkAt P w K mg base T "must_number" f fd 3 ["thing", "least", "most"] sem_must_number 3 :=
  ok_of Fd hmg (Fd.binds fun _ _ _ _ _ _ us hl => match us, hl with | [_, _, _], _ => rfl) sc_must_number rfl rfl fun cdv hcdv A outer s H E hr tk po hu hu5 F hFK hFm hFT hml st => by
    subst hFK hFm hFT
    have hml : ∀ {i}, i ∈ mlOf [] 3 → i ∈ F.ml := fun h => by rw [hml]; exact h
    have nd := sc_must_number.nd
    have hK : F.K = F.K := rfl
    have hM : F.mg = F.mg := rfl
    exact (ts_cons 
    (ts_if (tb_not st (tb_val (te_callO st tk hK hM o_is_from (hr.mono (by decide)) (by rfl) rfl (ta_cons st (te_var rfl (.inl rfl) (by decide) (by decide)) (ta_cons st (te_var rfl (.inl rfl) (by decide) (by decide)) (ta_cons st (te_var rfl (.inl rfl) (by decide) (by decide)) ta_nil (by rfl)) (by rfl)) (by rfl)) (by decide) (by rfl) (by rfl)) (fun _ => rfl))) (ts_cons 
    (ts_raiseO rfl tk hM x_NoNumber (by rfl) (by decide)) ts_nil) ts_nil) ts_nil)

abbrev s_must_lots : Stmt := topS 11
theorem sc_must_lots : FnScope ["n", "rule"] ["n", "rule"] (defScope s_must_lots) := ⟨rfl, rfl, rfl, by decide +kernel, rfl, by decide +kernel, by decide +kernel⟩
theorem ok_must_lots {P : Program} {w : World} {K : PySem.W.Frag} {mg : Str → Option Value} {base : Heap} {T : List (Addr × Str)} {f : Addr} {fd : FuncData} (Fd : L2.Fun K "must_lots" "must_lots" s_must_lots f fd) (hmg : mg "must_lots" = some (.ref f))
    (o_must_rule : Ok P w K mg base T "must_rule" 1 ["rule"] sem_must_rule 1) (o_must_number : Ok P w K mg base T "must_number" 3 ["thing", "least", "most"] sem_must_number 3)  (c_MOST_LOTS : ∃ t, mg "MOST_LOTS" = some (.int 14 t))     : OkAt P w K mg base T "must_lots" f fd 4 ["n", "rule"] sem_must_lots 2 :=
  ok_of Fd hmg (Fd.binds fun _ _ _ _ _ _ us hl => match us, hl with | [_, _], _ => rfl) sc_must_lots rfl rfl fun cdv hcdv A outer s H E hr tk po hu hu5 F hFK hFm hFT hml st => by
    subst hFK hFm hFT
    have hml : ∀ {i}, i ∈ mlOf [] 2 → i ∈ F.ml := fun h => by rw [hml]; exact h
    have nd := sc_must_lots.nd
    have hK : F.K = F.K := rfl
    have hM : F.mg = F.mg := rfl
    exact (ts_cons 
    (ts_expr st (te_callO st tk hK hM o_must_number (hr.mono (by decide)) (by rfl) rfl (ta_cons st (te_var rfl (.inl rfl) (by decide) (by decide)) (ta_cons st te_int (ta_cons st (te_gint (by rfl) c_MOST_LOTS (by decide)) ta_nil (by rfl)) (by rfl)) (by rfl)) (by decide) (by rfl) (by rfl)) (by rfl)) (ts_cons 
    (ts_expr st (te_callO st tk hK hM o_must_rule (hr.mono (by decide)) (by rfl) rfl (ta_cons st (te_var rfl (.inl rfl) (by decide) (by decide)) ta_nil (by rfl)) (by decide) (by rfl) (by rfl)) (by rfl)) ts_nil))

abbrev s_may_come : Stmt := topS 12
theorem sc_may_come : FnScope ["lot", "number", "rule", "a", "b"] ["lot", "number", "rule"] (defScope s_may_come) := ⟨rfl, rfl, rfl, by decide +kernel, rfl, by decide +kernel, by decide +kernel⟩
theorem ok_may_come {P : Program} {w : World} {K : PySem.W.Frag} {mg : Str → Option Value} {base : Heap} {T : List (Addr × Str)} {f : Addr} {fd : FuncData} (Fd : L2.Fun K "may_come" "may_come" s_may_come f fd) (hmg : mg "may_come" = some (.ref f))
           : OkAt P w K mg base T "may_come" f fd 1 ["lot", "number", "rule"] sem_may_come 3 :=
  ok_of Fd hmg (Fd.binds fun _ _ _ _ _ _ us hl => match us, hl with | [_, _, _], _ => rfl) sc_may_come rfl rfl fun cdv hcdv A outer s H E hr tk po hu hu5 F hFK hFm hFT hml st => by
    subst hFK hFm hFT
    have hml : ∀ {i}, i ∈ mlOf [false, false] 3 → i ∈ F.ml := fun h => by rw [hml]; exact h
    have nd := sc_may_come.nd
    have hK : F.K = F.K := rfl
    have hM : F.mg = F.mg := rfl
    exact (ts_cons 
    (ts_for st po rfl (ti_seq st hK (te_var rfl (.inl rfl) (by decide) (by decide))) (pgt_one nd rfl (.inl rfl) (.inl rfl)) (ts_cons 
    (ts_set st nd rfl (.inl rfl) (te_sub st (te_var rfl (.inl rfl) (by decide) (by decide)) (te_var rfl (.inl rfl) (by decide) (by decide))) (by rfl) (.inl rfl)) (ts_cons 
    (ts_if (PW.pt (tb_and st (tb_in hu5 hK st rfl (te_var rfl (.inl rfl) (by decide) (by decide)) (te_var rfl (.inl rfl) (by decide) (by decide))) (pw_and1 (PW.pt (tb_or st (tb_eq hu hK st rfl (te_var rfl (.inl rfl) (by decide) (by decide)) (te_str (by decide))) (pw_or1 (tb_ne hu hK st rfl (te_var rfl (.inl rfl) (by decide) (by decide)) (te_var rfl (.inl rfl) (by decide) (by decide))))))))) (ts_cons 
    (ts_ret st te_bl) ts_nil) ts_nil) ts_nil)) (by intro _; rfl)) (ts_cons 
    (ts_ret st te_bl) ts_nil))

abbrev s_all_free : Stmt := topS 13
theorem sc_all_free : FnScope ["n", "rule", "found", "number", "lot"] ["n", "rule"] (defScope s_all_free) := ⟨rfl, rfl, rfl, by decide +kernel, rfl, by decide +kernel, by decide +kernel⟩
theorem ok_all_free {P : Program} {w : World} {K : PySem.W.Frag} {mg : Str → Option Value} {base : Heap} {T : List (Addr × Str)} {f : Addr} {fd : FuncData} (Fd : L2.Fun K "all_free" "all_free" s_all_free f fd) (hmg : mg "all_free" = some (.ref f))
    (o_may_come : Ok P w K mg base T "may_come" 1 ["lot", "number", "rule"] sem_may_come 3) (z_sorted : mg "sorted" = none) (z_range : mg "range" = none)      : OkAt P w K mg base T "all_free" f fd 2 ["n", "rule"] sem_all_free 2 :=
  ok_of Fd hmg (Fd.binds fun _ _ _ _ _ _ us hl => match us, hl with | [_, _], _ => rfl) sc_all_free rfl rfl fun cdv hcdv A outer s H E hr tk po hu hu5 F hFK hFm hFT hml st => by
    subst hFK hFm hFT
    have hml : ∀ {i}, i ∈ mlOf [false, false, false] 2 → i ∈ F.ml := fun h => by rw [hml]; exact h
    have nd := sc_all_free.nd
    have hK : F.K = F.K := rfl
    have hM : F.mg = F.mg := rfl
    exact (ts_cons 
    (ts_set st nd rfl (.inl rfl) (te_lst st (td_cons st (te_tup st td_nil (by decide)) td_nil (by rfl)) (by decide)) (by rfl) (.inl rfl)) (ts_cons 
    (ts_for st po rfl (ti_range2 st (by rfl) z_range te_int (te_add st hK (te_var rfl (.inl rfl) (by decide) (by decide)) te_int) (by rfl) (by rfl)) (pgt_one nd rfl (.inr rfl) (.inl rfl)) (ts_cons 
    (ts_set st nd rfl (.inl rfl) (te_add st hK (te_var rfl (.inl rfl) (by decide) (by decide)) (te_lc (own := [("lot", 4)]) st rfl nd hK (ti_seq st hK (te_var rfl (.inl rfl) (by decide) (by decide))) (blkOk_by (by rfl)) (by decide) (fun _ _ _ _ _ => (pgt_one nd rfl (.inl rfl) (.inr rfl))) (fun _ _ _ _ _ => (pts_one (tb_val (te_callO st takes0 hK hM o_may_come (hr.mono (by decide)) (by rfl) rfl (ta_cons st (te_var rfl (.inl rfl) (by decide) (by decide)) (ta_cons st (te_var rfl (.inr (.inl rfl)) (by decide) (by decide)) (ta_cons st (te_var rfl (.inr (.inl rfl)) (by decide) (by decide)) ta_nil (by rfl)) (by rfl)) (by rfl)) (by decide) (by rfl) (by rfl)) (fun _ => rfl)))) (fun _ _ _ _ _ => (te_add st hK (te_var rfl (.inl rfl) (by decide) (by decide)) (te_tup st (td_cons st (te_var rfl (.inr (.inl rfl)) (by decide) (by decide)) td_nil (by rfl)) (by decide)))) (by intro _; rfl))) (by rfl) (.inl rfl)) ts_nil) (by intro _; rfl)) (ts_cons 
    (ts_ret st (te_sortedL0 hu st hK (by rfl) z_sorted (te_var rfl (.inl rfl) (by decide) (by decide)) (by rfl))) ts_nil)))

abbrev s_free_many : Stmt := topS 14
theorem sc_free_many : FnScope ["n", "rule"] ["n", "rule"] (defScope s_free_many) := ⟨rfl, rfl, rfl, by decide +kernel, rfl, by decide +kernel, by decide +kernel⟩
theorem ok_free_many {P : Program} {w : World} {K : PySem.W.Frag} {mg : Str → Option Value} {base : Heap} {T : List (Addr × Str)} {f : Addr} {fd : FuncData} (Fd : L2.Fun K "free_many" "free_many" s_free_many f fd) (hmg : mg "free_many" = some (.ref f))
    (o_all_free : Ok P w K mg base T "all_free" 2 ["n", "rule"] sem_all_free 2) (o_must_lots : Ok P w K mg base T "must_lots" 4 ["n", "rule"] sem_must_lots 2) (z_len : mg "len" = none)      : OkAt P w K mg base T "free_many" f fd 5 ["n", "rule"] sem_free_many 2 :=
  ok_of Fd hmg (Fd.binds fun _ _ _ _ _ _ us hl => match us, hl with | [_, _], _ => rfl) sc_free_many rfl rfl fun cdv hcdv A outer s H E hr tk po hu hu5 F hFK hFm hFT hml st => by
    subst hFK hFm hFT
    have hml : ∀ {i}, i ∈ mlOf [] 2 → i ∈ F.ml := fun h => by rw [hml]; exact h
    have nd := sc_free_many.nd
    have hK : F.K = F.K := rfl
    have hM : F.mg = F.mg := rfl
    exact (ts_cons 
    (ts_expr st (te_callO st tk hK hM o_must_lots (hr.mono (by decide)) (by rfl) rfl (ta_cons st (te_var rfl (.inl rfl) (by decide) (by decide)) (ta_cons st (te_var rfl (.inl rfl) (by decide) (by decide)) ta_nil (by rfl)) (by rfl)) (by decide) (by rfl) (by rfl)) (by rfl)) (ts_cons 
    (ts_ret st (te_len st hK (by rfl) z_len (te_callO st tk hK hM o_all_free (hr.mono (by decide)) (by rfl) rfl (ta_cons st (te_var rfl (.inl rfl) (by decide) (by decide)) (ta_cons st (te_var rfl (.inl rfl) (by decide) (by decide)) ta_nil (by rfl)) (by rfl)) (by decide) (by rfl) (by rfl)) (by rfl))) ts_nil))

abbrev s_most_free : Stmt := topS 15
theorem sc_most_free : FnScope ["n", "rule", "found", "most", "lot"] ["n", "rule"] (defScope s_most_free) := ⟨rfl, rfl, rfl, by decide +kernel, rfl, by decide +kernel, by decide +kernel⟩
theorem ok_most_free {P : Program} {w : World} {K : PySem.W.Frag} {mg : Str → Option Value} {base : Heap} {T : List (Addr × Str)} {f : Addr} {fd : FuncData} (Fd : L2.Fun K "most_free" "most_free" s_most_free f fd) (hmg : mg "most_free" = some (.ref f))
    (o_all_free : Ok P w K mg base T "all_free" 2 ["n", "rule"] sem_all_free 2) (o_must_lots : Ok P w K mg base T "must_lots" 4 ["n", "rule"] sem_must_lots 2) (z_len : mg "len" = none) (z_max : mg "max" = none)      : OkAt P w K mg base T "most_free" f fd 5 ["n", "rule"] sem_most_free 2 :=
  ok_of Fd hmg (Fd.binds fun _ _ _ _ _ _ us hl => match us, hl with | [_, _], _ => rfl) sc_most_free rfl rfl fun cdv hcdv A outer s H E hr tk po hu hu5 F hFK hFm hFT hml st => by
    subst hFK hFm hFT
    have hml : ∀ {i}, i ∈ mlOf [false, false, false] 2 → i ∈ F.ml := fun h => by rw [hml]; exact h
    have nd := sc_most_free.nd
    have hK : F.K = F.K := rfl
    have hM : F.mg = F.mg := rfl
    exact (ts_cons 
    (ts_expr st (te_callO st tk hK hM o_must_lots (hr.mono (by decide)) (by rfl) rfl (ta_cons st (te_var rfl (.inl rfl) (by decide) (by decide)) (ta_cons st (te_var rfl (.inl rfl) (by decide) (by decide)) ta_nil (by rfl)) (by rfl)) (by decide) (by rfl) (by rfl)) (by rfl)) (ts_cons 
    (ts_set st nd rfl (.inl rfl) (te_callO st tk hK hM o_all_free (hr.mono (by decide)) (by rfl) rfl (ta_cons st (te_var rfl (.inl rfl) (by decide) (by decide)) (ta_cons st (te_var rfl (.inl rfl) (by decide) (by decide)) ta_nil (by rfl)) (by rfl)) (by decide) (by rfl) (by rfl)) (by rfl) (.inl rfl)) (ts_cons 
    (ts_set st nd rfl (.inr rfl) (te_maxL st hK rfl (by rfl) z_max (te_lc (own := [("lot", 4)]) st rfl nd hK (ti_seq st hK (te_var rfl (.inl rfl) (by decide) (by decide))) (blkOk_by (by rfl)) (by decide) (fun _ _ _ _ _ => (pgt_one nd rfl (.inl rfl) (.inr rfl))) (fun _ _ _ _ _ => pts_nil) (fun _ _ _ _ _ => (te_len st hK (by rfl) z_len (te_var rfl (.inl rfl) (by decide) (by decide)) (by rfl))) (by intro _; rfl)) (by rfl)) (by rfl) (.inl rfl)) (ts_cons 
    (ts_ret st (te_lc (own := [("lot", 4)]) st rfl nd hK (ti_seq st hK (te_var rfl (.inl rfl) (by decide) (by decide))) (blkOk_by (by rfl)) (by decide) (fun _ _ _ _ _ => (pgt_one nd rfl (.inl rfl) (.inr rfl))) (fun _ _ _ _ _ => (pts_one (tb_eq hu hK st rfl (te_len st hK (by rfl) z_len (te_var rfl (.inl rfl) (by decide) (by decide)) (by rfl)) (te_var rfl (.inr (.inl rfl)) (by decide) (by decide))))) (fun _ _ _ _ _ => (te_var rfl (.inl rfl) (by decide) (by decide))) (by intro _; rfl))) ts_nil))))

abbrev s_full_free : Stmt := topS 16
theorem sc_full_free : FnScope ["n", "rule", "known", "lot", "found", "rest", "number"] ["n", "rule"] (defScope s_full_free) := ⟨rfl, rfl, rfl, by decide +kernel, rfl, by decide +kernel, by decide +kernel⟩
theorem ok_full_free {P : Program} {w : World} {K : PySem.W.Frag} {mg : Str → Option Value} {base : Heap} {T : List (Addr × Str)} {f : Addr} {fd : FuncData} (Fd : L2.Fun K "full_free" "full_free" s_full_free f fd) (hmg : mg "full_free" = some (.ref f))
    (o_all_free : Ok P w K mg base T "all_free" 2 ["n", "rule"] sem_all_free 2) (o_must_lots : Ok P w K mg base T "must_lots" 4 ["n", "rule"] sem_must_lots 2) (z_sorted : mg "sorted" = none) (z_any : mg "any" = none) (z_tuple : mg "tuple" = none) (z_range : mg "range" = none) (z_dict : mg "dict" = none)      : OkAt P w K mg base T "full_free" f fd 5 ["n", "rule"] sem_full_free 2 :=
  ok_ofD Fd hmg (Fd.binds fun _ _ _ _ _ _ us hl => match us, hl with | [_, _], _ => rfl) sc_full_free rfl rfl fun cdv hcdv A outer s H E hr tk po hu hu5 F hFK hFm hFT hml st hκ_ => by
    subst hFK hFm hFT
    have hml : ∀ {i}, i ∈ mlOf [false, false, true, false, false] 2 → i ∈ F.ml := fun h => by rw [hml]; exact h
    have nd := sc_full_free.nd
    have hK : F.K = F.K := rfl
    have hM : F.mg = F.mg := rfl
    exact (ts_cons 
    (ts_expr st (te_callO st tk hK hM o_must_lots (hr.mono (by decide)) (by rfl) rfl (ta_cons st (te_var rfl (.inl rfl) (by decide) (by decide)) (ta_cons st (te_var rfl (.inl rfl) (by decide) (by decide)) ta_nil (by rfl)) (by rfl)) (by decide) (by rfl) (by rfl)) (by rfl)) (ts_cons 
    (ts_set st nd rfl (.inr rfl) (te_dictT hu st hκ_ hK rfl (by rfl) z_dict (te_lc (own := [("lot", 3)]) st rfl nd hK (ti_seq st hK (te_callO st tk hK hM o_all_free (hr.mono (by decide)) (by rfl) rfl (ta_cons st (te_var rfl (.inl rfl) (by decide) (by decide)) (ta_cons st (te_var rfl (.inl rfl) (by decide) (by decide)) ta_nil (by rfl)) (by rfl)) (by decide) (by rfl) (by rfl))) (blkOk_by (by rfl)) (by decide) (fun _ _ _ _ _ => (pgt_one nd rfl (.inl rfl) (.inr rfl))) (fun _ _ _ _ _ => pts_nil) (fun _ _ _ _ _ => (te_tup st (td_cons st (te_var rfl (.inl rfl) (by decide) (by decide)) (td_cons st te_bl td_nil (by rfl)) (by rfl)) (by decide))) (by intro _; rfl)) (by rfl)) (by rfl) (.inl rfl)) (ts_cons 
    (ts_setC st nd rfl (.inl rfl) (te_lst st td_nil (by decide)) (by rfl) (.inl rfl) (hml (by decide))) (ts_cons 
    (ts_for st po rfl (ti_seq st hK (te_sortedDT hu st hκ_ hK rfl (by rfl) z_sorted (te_var rfl (.inr (.inl rfl)) (by decide) (by decide)) (by rfl))) (pgt_one nd rfl (.inr rfl) (.inl rfl)) (ts_cons 
    (ts_setLc (own := [("number", 6)]) st rfl nd rfl rfl (by rfl) rfl (by rfl) hK (ti_range2 st (by rfl) z_range te_int (te_add st hK (te_var rfl (.inl rfl) (by decide) (by decide)) te_int) (by rfl) (by rfl)) (blkOk_by (by rfl)) (by decide) (fun _ _ _ _ _ => (pgt_one nd rfl (.inl rfl) (.inr rfl))) (fun _ _ _ _ _ => (pts_one (tb_nin hu5 hK st rfl (te_var rfl (.inl rfl) (by decide) (by decide)) (te_var rfl (.inr (.inl rfl)) (by decide) (by decide))))) (fun _ _ _ _ _ => (te_var rfl (.inl rfl) (by decide) (by decide))) (by intro _; rfl)) (ts_cons 
    (ts_if (tb_not st (tb_val (te_any st hK rfl (by rfl) z_any (te_lc (own := [("number", 6)]) st rfl nd hK (ti_seq st hK (te_var rfl (.inl rfl) (by decide) (by decide))) (blkOk_by (by rfl)) (by decide) (fun _ _ _ _ _ => (pgt_one nd rfl (.inl rfl) (.inr rfl))) (fun _ _ _ _ _ => pts_nil) (fun _ _ _ _ _ => (te_inT hu st hκ_ hK rfl (te_tuple st hK (by rfl) z_tuple (te_sortedT st hK (by rfl) z_sorted (te_add st hK (te_var rfl (.inr (.inl rfl)) (by decide) (by decide)) (te_tup st (td_cons st (te_var rfl (.inl rfl) (by decide) (by decide)) td_nil (by rfl)) (by decide))) (by rfl)) (by rfl)) (te_var rfl (.inr (.inl rfl)) (by decide) (by decide)))) (by intro _; rfl)) (by rfl)) (fun _ => rfl))) (ts_cons 
    (ts_append st rfl (.inl rfl) (by decide) (by decide) (te_var rfl (.inr (.inl rfl)) (by decide) (by decide)) (by rfl) (by rfl) (by rfl) (by rfl) (by rfl) (by rfl)) ts_nil) ts_nil) ts_nil)) (by intro _; rfl)) (ts_cons 
    (ts_ret st (te_var rfl (.inl rfl) (by decide) (by decide))) ts_nil)))))

abbrev s__law_cell_at : Stmt := topS 18
theorem sc__law_cell_at : FnScope ["_law_script", "_law_k"] ["_law_script", "_law_k"] (defScope s__law_cell_at) := ⟨rfl, rfl, rfl, by decide +kernel, rfl, by decide +kernel, by decide +kernel⟩
theorem ok__law_cell_at {P : Program} {w : World} {K : PySem.W.Frag} {mg : Str → Option Value} {base : Heap} {T : List (Addr × Str)} {f : Addr} {fd : FuncData} (Fd : L2.Fun K "_law_cell_at" "_law_cell_at" s__law_cell_at f fd) (hmg : mg "_law_cell_at" = some (.ref f))
     (z_len : mg "len" = none)      : OkAt P w K mg base T "_law_cell_at" f fd 1 ["_law_script", "_law_k"] sem__law_cell_at 2 :=
  ok_of Fd hmg (Fd.binds fun _ _ _ _ _ _ us hl => match us, hl with | [_, _], _ => rfl) sc__law_cell_at rfl rfl fun cdv hcdv A outer s H E hr tk po hu hu5 F hFK hFm hFT hml st => by
    subst hFK hFm hFT
    have hml : ∀ {i}, i ∈ mlOf [] 2 → i ∈ F.ml := fun h => by rw [hml]; exact h
    have nd := sc__law_cell_at.nd
    have hK : F.K = F.K := rfl
    have hM : F.mg = F.mg := rfl
    exact (ts_cons 
    (ts_if (tb_lt hu hK st rfl (te_var rfl (.inl rfl) (by decide) (by decide)) (te_len st hK (by rfl) z_len (te_var rfl (.inl rfl) (by decide) (by decide)) (by rfl))) (ts_cons 
    (ts_ret st (te_get st hK (fun _ _ => rfl) (te_var rfl (.inl rfl) (by decide) (by decide)) (te_var rfl (.inl rfl) (by decide) (by decide)))) ts_nil) ts_nil) (ts_cons 
    (ts_ret st te_int) ts_nil))

abbrev s__law_state : Stmt := topS 19
theorem sc__law_state : FnScope ["_law_script", "_law_k", "_law_cell"] ["_law_script", "_law_k"] (defScope s__law_state) := ⟨rfl, rfl, rfl, by decide +kernel, rfl, by decide +kernel, by decide +kernel⟩
theorem ok__law_state {P : Program} {w : World} {K : PySem.W.Frag} {mg : Str → Option Value} {base : Heap} {T : List (Addr × Str)} {f : Addr} {fd : FuncData} (Fd : L2.Fun K "_law_state" "_law_state" s__law_state f fd) (hmg : mg "_law_state" = some (.ref f))
    (o__law_cell_at : Ok P w K mg base T "_law_cell_at" 1 ["_law_script", "_law_k"] sem__law_cell_at 2) (z_max : mg "max" = none)      : OkAt P w K mg base T "_law_state" f fd 2 ["_law_script", "_law_k"] sem__law_state 2 :=
  ok_of Fd hmg (Fd.binds fun _ _ _ _ _ _ us hl => match us, hl with | [_, _], _ => rfl) sc__law_state rfl rfl fun cdv hcdv A outer s H E hr tk po hu hu5 F hFK hFm hFT hml st => by
    subst hFK hFm hFT
    have hml : ∀ {i}, i ∈ mlOf [false] 2 → i ∈ F.ml := fun h => by rw [hml]; exact h
    have nd := sc__law_state.nd
    have hK : F.K = F.K := rfl
    have hM : F.mg = F.mg := rfl
    exact (ts_cons 
    (ts_set st nd rfl (.inl rfl) (te_callO st tk hK hM o__law_cell_at (hr.mono (by decide)) (by rfl) rfl (ta_cons st (te_var rfl (.inl rfl) (by decide) (by decide)) (ta_cons st (te_var rfl (.inl rfl) (by decide) (by decide)) ta_nil (by rfl)) (by rfl)) (by decide) (by rfl) (by rfl)) (by rfl) (.inl rfl)) (ts_cons 
    (ts_ret st (te_lst st (td_cons st (te_max2 st rfl (by rfl) z_max te_int (te_sub st (te_var rfl (.inl rfl) (by decide) (by decide)) (te_pow st te_int te_int)) (by rfl) (by rfl)) (td_cons st (te_mod st (te_var rfl (.inl rfl) (by decide) (by decide)) te_int) td_nil (by rfl)) (by rfl)) (by decide))) ts_nil))

abbrev s__law_take : Stmt := topS 20
theorem sc__law_take : FnScope ["_law_state_here", "_law_many", "_law_found", "_law_mixed"] ["_law_state_here", "_law_many"] (defScope s__law_take) := ⟨rfl, rfl, rfl, by decide +kernel, rfl, by decide +kernel, by decide +kernel⟩
theorem ok__law_take {P : Program} {w : World} {K : PySem.W.Frag} {mg : Str → Option Value} {base : Heap} {T : List (Addr × Str)} {f : Addr} {fd : FuncData} (Fd : L2.Fun K "_law_take" "_law_take" s__law_take f fd) (hmg : mg "_law_take" = some (.ref f))
           : OkAt P w K mg base T "_law_take" f fd 1 ["_law_state_here", "_law_many"] sem__law_take 2 :=
  ok_of Fd hmg (Fd.binds fun _ _ _ _ _ _ us hl => match us, hl with | [_, _], _ => rfl) sc__law_take rfl rfl fun cdv hcdv A outer s H E hr tk po hu hu5 F hFK hFm hFT hml st => by
    subst hFK hFm hFT
    have hml : ∀ {i}, i ∈ mlOf [false, false] 2 → i ∈ F.ml := fun h => by rw [hml]; exact h
    have nd := sc__law_take.nd
    have hK : F.K = F.K := rfl
    have hM : F.mg = F.mg := rfl
    exact (ts_cons 
    (ts_if (tb_ge  st rfl (te_get st hK (fun _ _ => rfl) (te_var rfl (.inl rfl) (by decide) (by decide)) te_int) (te_var rfl (.inl rfl) (by decide) (by decide))) (ts_cons 
    (ts_set st nd rfl (.inl rfl) (te_mod st (te_get st hK (fun _ _ => rfl) (te_var rfl (.inl rfl) (by decide) (by decide)) te_int) (te_var rfl (.inl rfl) (by decide) (by decide))) (by rfl) (.inl rfl)) (ts_cons 
    (ts_setIx st rfl (.inl rfl) (by decide) (by decide) (te_div st (te_get st hK (fun _ _ => rfl) (te_var rfl (.inl rfl) (by decide) (by decide)) te_int) (te_var rfl (.inl rfl) (by decide) (by decide))) te_int (by rfl) (by rfl) (by rfl) (fun ho hi hs => pg_sub ho hi hs (by intro _; rfl))) (ts_cons 
    (ts_ret st (te_var rfl (.inl rfl) (by decide) (by decide))) ts_nil))) ts_nil) (ts_cons 
    (ts_setIx st rfl (.inl rfl) (by decide) (by decide) (te_mod st (te_add st hK (te_mul hK st (te_get st hK (fun _ _ => rfl) (te_var rfl (.inl rfl) (by decide) (by decide)) te_int) te_int) te_int) te_int) te_int (by rfl) (by rfl) (by rfl) (fun ho hi hs => pg_sub ho hi hs (by intro _; rfl))) (ts_cons 
    (ts_set st nd rfl (.inl rfl) (te_mod st (te_add st hK (te_add st hK (te_mul hK st (te_get st hK (fun _ _ => rfl) (te_var rfl (.inl rfl) (by decide) (by decide)) te_int) (te_get st hK (fun _ _ => rfl) (te_var rfl (.inl rfl) (by decide) (by decide)) te_int)) (te_mul hK st te_int (te_get st hK (fun _ _ => rfl) (te_var rfl (.inl rfl) (by decide) (by decide)) te_int))) te_int) te_int) (by rfl) (.inl rfl)) (ts_cons 
    (ts_set st nd rfl (.inl rfl) (te_mod st (te_add st hK (te_mul hK st (te_var rfl (.inl rfl) (by decide) (by decide)) (te_var rfl (.inl rfl) (by decide) (by decide))) (te_mul hK st te_int (te_var rfl (.inl rfl) (by decide) (by decide)))) te_int) (by rfl) (.inl rfl)) (ts_cons 
    (ts_ret st (te_mod st (te_div st (te_var rfl (.inl rfl) (by decide) (by decide)) te_int) (te_var rfl (.inl rfl) (by decide) (by decide)))) ts_nil)))))

abbrev s__law_free : Stmt := topS 21
theorem sc__law_free : FnScope ["_law_n", "_law_rule", "_law_found", "_law_number", "_law_longer", "_law_lot", "_law_some", "_law_one"] ["_law_n", "_law_rule"] (defScope s__law_free) := ⟨rfl, rfl, rfl, by decide +kernel, rfl, by decide +kernel, by decide +kernel⟩
theorem ok__law_free {P : Program} {w : World} {K : PySem.W.Frag} {mg : Str → Option Value} {base : Heap} {T : List (Addr × Str)} {f : Addr} {fd : FuncData} (Fd : L2.Fun K "_law_free" "_law_free" s__law_free f fd) (hmg : mg "_law_free" = some (.ref f))
     (z_sorted : mg "sorted" = none) (z_range : mg "range" = none)      : OkAt P w K mg base T "_law_free" f fd 1 ["_law_n", "_law_rule"] sem__law_free 2 :=
  ok_of Fd hmg (Fd.binds fun _ _ _ _ _ _ us hl => match us, hl with | [_, _], _ => rfl) sc__law_free rfl rfl fun cdv hcdv A outer s H E hr tk po hu hu5 F hFK hFm hFT hml st => by
    subst hFK hFm hFT
    have hml : ∀ {i}, i ∈ mlOf [false, false, true, false, false, false] 2 → i ∈ F.ml := fun h => by rw [hml]; exact h
    have nd := sc__law_free.nd
    have hK : F.K = F.K := rfl
    have hM : F.mg = F.mg := rfl
    exact (ts_cons 
    (ts_set st nd rfl (.inl rfl) (te_lst st (td_cons st (te_tup st td_nil (by decide)) td_nil (by rfl)) (by decide)) (by rfl) (.inl rfl)) (ts_cons 
    (ts_for st po rfl (ti_down st (by rfl) z_range (te_var rfl (.inl rfl) (by decide) (by decide)) te_int (by rfl) (by rfl)) (pgt_one nd rfl (.inr rfl) (.inl rfl)) (ts_cons 
    (ts_setC st nd rfl (.inl rfl) (te_lst st td_nil (by decide)) (by rfl) (.inl rfl) (hml (by decide))) (ts_cons 
    (ts_for st po rfl (ti_seq st hK (te_var rfl (.inl rfl) (by decide) (by decide))) (pgt_one nd rfl (.inr rfl) (.inl rfl)) (ts_cons 
    (ts_setLc (own := [("_law_one", 7)]) st rfl nd rfl rfl (by rfl) rfl (by rfl) hK (ti_seq st hK (te_var rfl (.inr (.inl rfl)) (by decide) (by decide))) (blkOk_by (by rfl)) (by decide) (fun _ _ _ _ _ => (pgt_one nd rfl (.inl rfl) (.inr rfl))) (fun _ _ _ _ _ => (pts_one (tb_in hu5 hK st rfl (te_add st hK (te_var rfl (.inl rfl) (by decide) (by decide)) (te_var rfl (.inr (.inl rfl)) (by decide) (by decide))) (te_var rfl (.inr (.inl rfl)) (by decide) (by decide))))) (fun _ _ _ _ _ => (te_var rfl (.inl rfl) (by decide) (by decide))) (by intro _; rfl)) (ts_cons 
    (ts_if (PW.pt (tb_and st (tb_eq hu hK st rfl (te_var rfl (.inl rfl) (by decide) (by decide)) (te_lst st td_nil (by decide))) (pw_and1 (PW.pt (tb_or st (tb_eq hu hK st rfl (te_var rfl (.inl rfl) (by decide) (by decide)) (te_str (by decide))) (pw_or1 (tb_nin hu5 hK st rfl (te_mul hK st te_int (te_var rfl (.inr (.inl rfl)) (by decide) (by decide))) (te_var rfl (.inr (.inl rfl)) (by decide) (by decide))))))))) (ts_cons 
    (ts_append st rfl (.inl rfl) (by decide) (by decide) (te_add st hK (te_tup st (td_cons st (te_var rfl (.inr (.inl rfl)) (by decide) (by decide)) td_nil (by rfl)) (by decide)) (te_var rfl (.inr (.inl rfl)) (by decide) (by decide))) (by rfl) (by rfl) (by rfl) (by rfl) (by rfl) (by rfl)) ts_nil) ts_nil) ts_nil)) (by intro _; rfl)) (ts_cons 
    (ts_set st nd rfl (.inl rfl) (te_add st hK (te_var rfl (.inl rfl) (by decide) (by decide)) (te_var rfl (.inl rfl) (by decide) (by decide))) (by rfl) (.inl rfl)) ts_nil))) (by intro _; rfl)) (ts_cons 
    (ts_ret st (te_sortedL0 hu st hK (by rfl) z_sorted (te_var rfl (.inl rfl) (by decide) (by decide)) (by rfl))) ts_nil)))

abbrev s__law_lists_right : Stmt := topS 22
theorem sc__law_lists_right : FnScope ["_law_n", "_law_rule", "_law_free_here", "_law_known", "_law_lot", "_law_most", "_law_full", "_law_more", "_law_number", "_law_one", "_law_many", "_law_call", "_law_due", "_law_turn", "_law_found"] ["_law_n", "_law_rule"] (defScope s__law_lists_right) := ⟨rfl, rfl, rfl, by decide +kernel, rfl, by decide +kernel, by decide +kernel⟩
theorem ok__law_lists_right {P : Program} {w : World} {K : PySem.W.Frag} {mg : Str → Option Value} {base : Heap} {T : List (Addr × Str)} {f : Addr} {fd : FuncData} (Fd : L2.Fun K "_law_lists_right" "_law_lists_right" s__law_lists_right f fd) (hmg : mg "_law_lists_right" = some (.ref f))
    (o_full_free : Ok P w K mg base T "full_free" 5 ["n", "rule"] sem_full_free 2) (o_most_free : Ok P w K mg base T "most_free" 5 ["n", "rule"] sem_most_free 2) (o_free_many : Ok P w K mg base T "free_many" 5 ["n", "rule"] sem_free_many 2) (o__law_free : Ok P w K mg base T "_law_free" 1 ["_law_n", "_law_rule"] sem__law_free 2) (z_len : mg "len" = none) (z_range : mg "range" = none) (z_isinstance : mg "isinstance" = none) (z_list : mg "list" = none) (z_bool : mg "bool" = none) (z_tuple : mg "tuple" = none) (z_sorted : mg "sorted" = none) (z_max : mg "max" = none) (z_dict : mg "dict" = none)      : OkAt P w K mg base T "_law_lists_right" f fd 6 ["_law_n", "_law_rule"] sem__law_lists_right 2 :=
  ok_ofD Fd hmg (Fd.binds fun _ _ _ _ _ _ us hl => match us, hl with | [_, _], _ => rfl) sc__law_lists_right rfl rfl fun cdv hcdv A outer s H E hr tk po hu hu5 F hFK hFm hFT hml st hκ_ => by
    subst hFK hFm hFT
    have hml : ∀ {i}, i ∈ mlOf [false, false, false, false, true, false, false, false, false, false, false, false, true] 2 → i ∈ F.ml := fun h => by rw [hml]; exact h
    have nd := sc__law_lists_right.nd
    have hK : F.K = F.K := rfl
    have hM : F.mg = F.mg := rfl
    exact (ts_cons 
    (ts_set st nd rfl (.inl rfl) (te_callO st tk hK hM o__law_free (hr.mono (by decide)) (by rfl) rfl (ta_cons st (te_var rfl (.inl rfl) (by decide) (by decide)) (ta_cons st (te_var rfl (.inl rfl) (by decide) (by decide)) ta_nil (by rfl)) (by rfl)) (by decide) (by rfl) (by rfl)) (by rfl) (.inl rfl)) (ts_cons 
    (ts_set st nd rfl (.inr rfl) (te_dictT hu st hκ_ hK rfl (by rfl) z_dict (te_lc (own := [("_law_lot", 4)]) st rfl nd hK (ti_seq st hK (te_var rfl (.inl rfl) (by decide) (by decide))) (blkOk_by (by rfl)) (by decide) (fun _ _ _ _ _ => (pgt_one nd rfl (.inl rfl) (.inr rfl))) (fun _ _ _ _ _ => pts_nil) (fun _ _ _ _ _ => (te_tup st (td_cons st (te_var rfl (.inl rfl) (by decide) (by decide)) (td_cons st te_bl td_nil (by rfl)) (by rfl)) (by decide))) (by intro _; rfl)) (by rfl)) (by rfl) (.inl rfl)) (ts_cons 
    (ts_set st nd rfl (.inr rfl) (te_maxL st hK rfl (by rfl) z_max (te_lc (own := [("_law_lot", 4)]) st rfl nd hK (ti_seq st hK (te_var rfl (.inl rfl) (by decide) (by decide))) (blkOk_by (by rfl)) (by decide) (fun _ _ _ _ _ => (pgt_one nd rfl (.inl rfl) (.inr rfl))) (fun _ _ _ _ _ => pts_nil) (fun _ _ _ _ _ => (te_len st hK (by rfl) z_len (te_var rfl (.inl rfl) (by decide) (by decide)) (by rfl))) (by intro _; rfl)) (by rfl)) (by rfl) (.inl rfl)) (ts_cons 
    (ts_setC st nd rfl (.inl rfl) (te_lst st td_nil (by decide)) (by rfl) (.inl rfl) (hml (by decide))) (ts_cons 
    (ts_for st po rfl (ti_seq st hK (te_var rfl (.inl rfl) (by decide) (by decide))) (pgt_one nd rfl (.inr rfl) (.inl rfl)) (ts_cons 
    (ts_setLc (own := [("_law_number", 8)]) st rfl nd rfl rfl (by rfl) rfl (by rfl) hK (ti_range2 st (by rfl) z_range te_int (te_add st hK (te_var rfl (.inl rfl) (by decide) (by decide)) te_int) (by rfl) (by rfl)) (blkOk_by (by rfl)) (by decide) (fun _ _ _ _ _ => (pgt_one nd rfl (.inl rfl) (.inr rfl))) (fun _ _ _ _ _ => (pts_one (tb_nin hu5 hK st rfl (te_var rfl (.inl rfl) (by decide) (by decide)) (te_var rfl (.inr (.inl rfl)) (by decide) (by decide))))) (fun _ _ _ _ _ => (te_tuple st hK (by rfl) z_tuple (te_sortedT st hK (by rfl) z_sorted (te_add st hK (te_var rfl (.inr (.inl rfl)) (by decide) (by decide)) (te_tup st (td_cons st (te_var rfl (.inl rfl) (by decide) (by decide)) td_nil (by rfl)) (by decide))) (by rfl)) (by rfl))) (by intro _; rfl)) (ts_cons 
    (ts_if (tb_eq hu hK st rfl (te_lc (own := [("_law_one", 9)]) st rfl nd hK (ti_seq st hK (te_var rfl (.inl rfl) (by decide) (by decide))) (blkOk_by (by rfl)) (by decide) (fun _ _ _ _ _ => (pgt_one nd rfl (.inl rfl) (.inr rfl))) (fun _ _ _ _ _ => (pts_one (tb_inT hu st hκ_ hK rfl (te_var rfl (.inl rfl) (by decide) (by decide)) (te_var rfl (.inr (.inl rfl)) (by decide) (by decide))))) (fun _ _ _ _ _ => (te_var rfl (.inl rfl) (by decide) (by decide))) (by intro _; rfl)) (te_lst st td_nil (by decide))) (ts_cons 
    (ts_append st rfl (.inl rfl) (by decide) (by decide) (te_var rfl (.inr (.inl rfl)) (by decide) (by decide)) (by rfl) (by rfl) (by rfl) (by rfl) (by rfl) (by rfl)) ts_nil) ts_nil) ts_nil)) (by intro _; rfl)) (ts_cons 
    (ts_set st nd rfl (.inl rfl) (te_callO st tk hK hM o_free_many (hr.mono (by decide)) (by rfl) rfl (ta_cons st (te_var rfl (.inl rfl) (by decide) (by decide)) (ta_cons st (te_var rfl (.inl rfl) (by decide) (by decide)) ta_nil (by rfl)) (by rfl)) (by decide) (by rfl) (by rfl)) (by rfl) (.inl rfl)) (ts_cons 
    (ts_if (PW.pt (tb_or st (tb_val (te_isK st hK (by decide) rfl (by rfl) z_isinstance (by rfl) z_bool (by rfl) (by decide) (by decide) (te_var rfl (.inl rfl) (by decide) (by decide)) (by rfl)) (fun _ => rfl)) (pw_or1 (tb_ne hu hK st rfl (te_var rfl (.inl rfl) (by decide) (by decide)) (te_len st hK (by rfl) z_len (te_var rfl (.inl rfl) (by decide) (by decide)) (by rfl)))))) (ts_cons 
    (ts_ret st te_bl) ts_nil) ts_nil) (ts_frz st (hml (by decide)) (ts_cons 
    (ts_for st po rfl (ti_seq st hK (te_lst st (td_cons st (te_tup st (td_cons st (te_fn hM o_most_free (by rfl) (by decide)) (td_cons st (te_lc (own := [("_law_lot", 4)]) st rfl nd hK (ti_seq st hK (te_var rfl (.inl rfl) (by decide) (by decide))) (blkOk_by (by rfl)) (by decide) (fun _ _ _ _ _ => (pgt_one nd rfl (.inl rfl) (.inr rfl))) (fun _ _ _ _ _ => (pts_one (tb_eq hu hK st rfl (te_len st hK (by rfl) z_len (te_var rfl (.inl rfl) (by decide) (by decide)) (by rfl)) (te_var rfl (.inr (.inl rfl)) (by decide) (by decide))))) (fun _ _ _ _ _ => (te_var rfl (.inl rfl) (by decide) (by decide))) (by intro _; rfl)) td_nil (by rfl)) (by rfl)) (by decide)) (td_cons st (te_tup st (td_cons st (te_fn hM o_full_free (by rfl) (by decide)) (td_cons st (te_var rfl (.inl rfl) (by decide) (by decide)) td_nil (by rfl)) (by rfl)) (by decide)) td_nil (by rfl)) (by rfl)) (by decide))) (pgt_many hK rfl (pgn_cons nd rfl (.inl rfl) (.inl rfl) (pgn_cons nd rfl (.inl rfl) (.inl rfl) pgn_nil (by rfl)) (by rfl)) (by rfl) (by rfl)) (ts_cons 
    (ts_for st po rfl (ti_range1 st (by rfl) z_range te_int (by rfl)) (pgt_one nd rfl (.inl rfl) (.inl rfl)) (ts_cons 
    (ts_setC st nd rfl (.inl rfl) (te_callF (k := 5) st tk hK hM (Tab.cons o_most_free (by decide) (Tab.cons o_full_free (by decide) Tab.nil)) (hr.mono (by decide)) rfl (.inl rfl) (ta_cons st (te_var rfl (.inl rfl) (by decide) (by decide)) (ta_cons st (te_var rfl (.inl rfl) (by decide) (by decide)) ta_nil (by rfl)) (by rfl)) (by decide) (by decide) (by rfl) (by rfl)) (by rfl) (.inl rfl) (hml (by decide))) (ts_cons 
    (ts_if (PW.pt (tb_or st (tb_not st (tb_val (te_isK st hK (by decide) rfl (by rfl) z_isinstance (by rfl) z_list (by rfl) (by decide) (by decide) (te_var rfl (.inl rfl) (by decide) (by decide)) (by rfl)) (fun _ => rfl))) (pw_or1 (tb_ne hu hK st rfl (te_var rfl (.inl rfl) (by decide) (by decide)) (te_var rfl (.inl rfl) (by decide) (by decide)))))) (ts_cons 
    (ts_ret st te_bl) ts_nil) ts_nil) (ts_cons 
    (ts_append st rfl (.inl rfl) (by decide) (by decide) (te_tup st td_nil (by decide)) (by rfl) (by rfl) (by rfl) (by rfl) (by rfl) (by rfl)) (ts_cons 
    (ts_reverse st rfl (.inl rfl) (by decide) (by decide) (by rfl) (by rfl) (by rfl)) ts_nil)))) (by intro _; rfl)) ts_nil) (by intro _; rfl)) (ts_cons 
    (ts_ret st te_bl) ts_nil))))))))))

abbrev s_law : Stmt := topS 23
theorem sc_law : FnScope ["_law_script", "_law_k", "_law_state_here", "_law_n", "_law_rule"] ["_law_script"] (defScope s_law) := ⟨rfl, rfl, rfl, by decide +kernel, rfl, by decide +kernel, by decide +kernel⟩
theorem ok_law {P : Program} {w : World} {K : PySem.W.Frag} {mg : Str → Option Value} {base : Heap} {T : List (Addr × Str)} {f : Addr} {fd : FuncData} (Fd : L2.Fun K "law" "law" s_law f fd) (hmg : mg "law" = some (.ref f))
    (o__law_lists_right : Ok P w K mg base T "_law_lists_right" 6 ["_law_n", "_law_rule"] sem__law_lists_right 2) (o__law_take : Ok P w K mg base T "_law_take" 1 ["_law_state_here", "_law_many"] sem__law_take 2) (o__law_state : Ok P w K mg base T "_law_state" 2 ["_law_script", "_law_k"] sem__law_state 2) (z_range : mg "range" = none) (z_max : mg "max" = none) (z_min : mg "min" = none) (z_len : mg "len" = none)      : OkAt P w K mg base T "law" f fd 7 ["_law_script"] sem_law 1 :=
  ok_of Fd hmg (Fd.binds fun _ _ _ _ _ _ us hl => match us, hl with | [_], _ => rfl) sc_law rfl rfl fun cdv hcdv A outer s H E hr tk po hu hu5 F hFK hFm hFT hml st => by
    subst hFK hFm hFT
    have hml : ∀ {i}, i ∈ mlOf [false, true, false, false] 1 → i ∈ F.ml := fun h => by rw [hml]; exact h
    have nd := sc_law.nd
    have hK : F.K = F.K := rfl
    have hM : F.mg = F.mg := rfl
    exact (ts_cons 
    (ts_for st po rfl (ti_range1 st (by rfl) z_range (te_max2 st rfl (by rfl) z_max te_int (te_min2 st rfl (by rfl) z_min (te_len st hK (by rfl) z_len (te_var rfl (.inl rfl) (by decide) (by decide)) (by rfl)) te_int (by rfl) (by rfl)) (by rfl) (by rfl)) (by rfl)) (pgt_one nd rfl (.inl rfl) (.inl rfl)) (ts_cons 
    (ts_setC st nd rfl (.inl rfl) (te_callO st tk hK hM o__law_state (hr.mono (by decide)) (by rfl) rfl (ta_cons st (te_var rfl (.inl rfl) (by decide) (by decide)) (ta_cons st (te_var rfl (.inl rfl) (by decide) (by decide)) ta_nil (by rfl)) (by rfl)) (by decide) (by rfl) (by rfl)) (by rfl) (.inl rfl) (hml (by decide))) (ts_cons 
    (ts_par st rfl nd rfl rfl (by decide) rfl rfl (ta_cons st (te_callO st tk hK hM o__law_take (hr.mono (by decide)) (by rfl) rfl (ta_cons st (te_var rfl (.inl rfl) (by decide) (by decide)) (ta_cons st (te_get st hK (fun _ _ => rfl) (te_lst st (td_cons st te_int (td_cons st te_int (td_cons st te_int (td_cons st te_int td_nil (by rfl)) (by rfl)) (by rfl)) (by rfl)) (by decide)) (te_callO st tk hK hM o__law_take (hr.mono (by decide)) (by rfl) rfl (ta_cons st (te_var rfl (.inl rfl) (by decide) (by decide)) (ta_cons st te_int ta_nil (by rfl)) (by rfl)) (by decide) (by rfl) (by rfl))) ta_nil (by rfl)) (by rfl)) (by decide) (by rfl) (by rfl)) (ta_cons st (te_get st hK (fun _ _ => rfl) (te_lst st (td_cons st (te_str (by decide)) (td_cons st (te_str (by decide)) td_nil (by rfl)) (by rfl)) (by decide)) (te_callO st tk hK hM o__law_take (hr.mono (by decide)) (by rfl) rfl (ta_cons st (te_var rfl (.inl rfl) (by decide) (by decide)) (ta_cons st te_int ta_nil (by rfl)) (by rfl)) (by decide) (by rfl) (by rfl))) ta_nil (by rfl)) (by rfl)) (by rfl) (by rfl)) (ts_cons 
    (ts_if (tb_not st (tb_val (te_callO st tk hK hM o__law_lists_right (hr.mono (by decide)) (by rfl) rfl (ta_cons st (te_var rfl (.inl rfl) (by decide) (by decide)) (ta_cons st (te_var rfl (.inl rfl) (by decide) (by decide)) ta_nil (by rfl)) (by rfl)) (by decide) (by rfl) (by rfl)) (fun _ => rfl))) (ts_cons 
    (ts_ret st te_bl) ts_nil) ts_nil) ts_nil))) (by intro _; rfl)) (ts_cons 
    (ts_ret st (te_and st (te_callO st tk hK hM o__law_lists_right (hr.mono (by decide)) (by rfl) rfl (ta_cons st te_int (ta_cons st (te_str (by decide)) ta_nil (by rfl)) (by rfl)) (by decide) (by rfl) (by rfl)) (te_and st (te_callO st tk hK hM o__law_lists_right (hr.mono (by decide)) (by rfl) rfl (ta_cons st te_int (ta_cons st (te_str (by decide)) ta_nil (by rfl)) (by rfl)) (by decide) (by rfl) (by rfl)) (pe_one (te_callO st tk hK hM o__law_lists_right (hr.mono (by decide)) (by rfl) rfl (ta_cons st te_int (ta_cons st (te_str (by decide)) ta_nil (by rfl)) (by rfl)) (by decide) (by rfl) (by rfl)))))) ts_nil))

theorem all_mk {l : PySem.W.OpenLaw} {w : World} {K : PySem.W.Frag} {h : Heap} {mg : Str → Option Value} {fa : Addr} (X : K.In h) (G : h.Ns mainGlobals mg) (hfa : mg "law" = some (.ref fa))
    {f0 : Addr} {od0 an0 : Option Addr} {sl0 : Array (Option Value)} {oc0 kV0 dc0 pm0 cd0 ct0 : Value} (a0 : PySem.W.nsIn K mainGlobals "is_whole" = some (some (.ref f0))) (l0 : K.lookup f0 = some ⟨oc0, od0, .func (PySem.W.fnOf "is_whole" "is_whole" (defArgs s_is_whole) (defBody s_is_whole) (defScope s_is_whole) .none kV0 dc0 pm0 an0 cd0 ct0), sl0⟩) (c0 : PySem.W.codeIn K cd0 "is_whole" = true) (k0 : PySem.W.keepIn K (.ref f0) = true)
    {f1 : Addr} {od1 an1 : Option Addr} {sl1 : Array (Option Value)} {oc1 kV1 dc1 pm1 cd1 ct1 : Value} (a1 : PySem.W.nsIn K mainGlobals "is_from" = some (some (.ref f1))) (l1 : K.lookup f1 = some ⟨oc1, od1, .func (PySem.W.fnOf "is_from" "is_from" (defArgs s_is_from) (defBody s_is_from) (defScope s_is_from) .none kV1 dc1 pm1 an1 cd1 ct1), sl1⟩) (c1 : PySem.W.codeIn K cd1 "is_from" = true) (k1 : PySem.W.keepIn K (.ref f1) = true)
    {f2 : Addr} {od2 an2 : Option Addr} {sl2 : Array (Option Value)} {oc2 kV2 dc2 pm2 cd2 ct2 : Value} (a2 : PySem.W.nsIn K mainGlobals "must_rule" = some (some (.ref f2))) (l2 : K.lookup f2 = some ⟨oc2, od2, .func (PySem.W.fnOf "must_rule" "must_rule" (defArgs s_must_rule) (defBody s_must_rule) (defScope s_must_rule) .none kV2 dc2 pm2 an2 cd2 ct2), sl2⟩) (c2 : PySem.W.codeIn K cd2 "must_rule" = true) (k2 : PySem.W.keepIn K (.ref f2) = true)
    {f3 : Addr} {od3 an3 : Option Addr} {sl3 : Array (Option Value)} {oc3 kV3 dc3 pm3 cd3 ct3 : Value} (a3 : PySem.W.nsIn K mainGlobals "must_number" = some (some (.ref f3))) (l3 : K.lookup f3 = some ⟨oc3, od3, .func (PySem.W.fnOf "must_number" "must_number" (defArgs s_must_number) (defBody s_must_number) (defScope s_must_number) .none kV3 dc3 pm3 an3 cd3 ct3), sl3⟩) (c3 : PySem.W.codeIn K cd3 "must_number" = true) (k3 : PySem.W.keepIn K (.ref f3) = true)
    {f4 : Addr} {od4 an4 : Option Addr} {sl4 : Array (Option Value)} {oc4 kV4 dc4 pm4 cd4 ct4 : Value} (a4 : PySem.W.nsIn K mainGlobals "must_lots" = some (some (.ref f4))) (l4 : K.lookup f4 = some ⟨oc4, od4, .func (PySem.W.fnOf "must_lots" "must_lots" (defArgs s_must_lots) (defBody s_must_lots) (defScope s_must_lots) .none kV4 dc4 pm4 an4 cd4 ct4), sl4⟩) (c4 : PySem.W.codeIn K cd4 "must_lots" = true) (k4 : PySem.W.keepIn K (.ref f4) = true)
    {f5 : Addr} {od5 an5 : Option Addr} {sl5 : Array (Option Value)} {oc5 kV5 dc5 pm5 cd5 ct5 : Value} (a5 : PySem.W.nsIn K mainGlobals "may_come" = some (some (.ref f5))) (l5 : K.lookup f5 = some ⟨oc5, od5, .func (PySem.W.fnOf "may_come" "may_come" (defArgs s_may_come) (defBody s_may_come) (defScope s_may_come) .none kV5 dc5 pm5 an5 cd5 ct5), sl5⟩) (c5 : PySem.W.codeIn K cd5 "may_come" = true) (k5 : PySem.W.keepIn K (.ref f5) = true)
    {f6 : Addr} {od6 an6 : Option Addr} {sl6 : Array (Option Value)} {oc6 kV6 dc6 pm6 cd6 ct6 : Value} (a6 : PySem.W.nsIn K mainGlobals "all_free" = some (some (.ref f6))) (l6 : K.lookup f6 = some ⟨oc6, od6, .func (PySem.W.fnOf "all_free" "all_free" (defArgs s_all_free) (defBody s_all_free) (defScope s_all_free) .none kV6 dc6 pm6 an6 cd6 ct6), sl6⟩) (c6 : PySem.W.codeIn K cd6 "all_free" = true) (k6 : PySem.W.keepIn K (.ref f6) = true)
    {f7 : Addr} {od7 an7 : Option Addr} {sl7 : Array (Option Value)} {oc7 kV7 dc7 pm7 cd7 ct7 : Value} (a7 : PySem.W.nsIn K mainGlobals "free_many" = some (some (.ref f7))) (l7 : K.lookup f7 = some ⟨oc7, od7, .func (PySem.W.fnOf "free_many" "free_many" (defArgs s_free_many) (defBody s_free_many) (defScope s_free_many) .none kV7 dc7 pm7 an7 cd7 ct7), sl7⟩) (c7 : PySem.W.codeIn K cd7 "free_many" = true) (k7 : PySem.W.keepIn K (.ref f7) = true)
    {f8 : Addr} {od8 an8 : Option Addr} {sl8 : Array (Option Value)} {oc8 kV8 dc8 pm8 cd8 ct8 : Value} (a8 : PySem.W.nsIn K mainGlobals "most_free" = some (some (.ref f8))) (l8 : K.lookup f8 = some ⟨oc8, od8, .func (PySem.W.fnOf "most_free" "most_free" (defArgs s_most_free) (defBody s_most_free) (defScope s_most_free) .none kV8 dc8 pm8 an8 cd8 ct8), sl8⟩) (c8 : PySem.W.codeIn K cd8 "most_free" = true) (k8 : PySem.W.keepIn K (.ref f8) = true)
    {f9 : Addr} {od9 an9 : Option Addr} {sl9 : Array (Option Value)} {oc9 kV9 dc9 pm9 cd9 ct9 : Value} (a9 : PySem.W.nsIn K mainGlobals "full_free" = some (some (.ref f9))) (l9 : K.lookup f9 = some ⟨oc9, od9, .func (PySem.W.fnOf "full_free" "full_free" (defArgs s_full_free) (defBody s_full_free) (defScope s_full_free) .none kV9 dc9 pm9 an9 cd9 ct9), sl9⟩) (c9 : PySem.W.codeIn K cd9 "full_free" = true) (k9 : PySem.W.keepIn K (.ref f9) = true)
    {f10 : Addr} {od10 an10 : Option Addr} {sl10 : Array (Option Value)} {oc10 kV10 dc10 pm10 cd10 ct10 : Value} (a10 : PySem.W.nsIn K mainGlobals "_law_cell_at" = some (some (.ref f10))) (l10 : K.lookup f10 = some ⟨oc10, od10, .func (PySem.W.fnOf "_law_cell_at" "_law_cell_at" (defArgs s__law_cell_at) (defBody s__law_cell_at) (defScope s__law_cell_at) .none kV10 dc10 pm10 an10 cd10 ct10), sl10⟩) (c10 : PySem.W.codeIn K cd10 "_law_cell_at" = true) (k10 : PySem.W.keepIn K (.ref f10) = true)
    {f11 : Addr} {od11 an11 : Option Addr} {sl11 : Array (Option Value)} {oc11 kV11 dc11 pm11 cd11 ct11 : Value} (a11 : PySem.W.nsIn K mainGlobals "_law_state" = some (some (.ref f11))) (l11 : K.lookup f11 = some ⟨oc11, od11, .func (PySem.W.fnOf "_law_state" "_law_state" (defArgs s__law_state) (defBody s__law_state) (defScope s__law_state) .none kV11 dc11 pm11 an11 cd11 ct11), sl11⟩) (c11 : PySem.W.codeIn K cd11 "_law_state" = true) (k11 : PySem.W.keepIn K (.ref f11) = true)
    {f12 : Addr} {od12 an12 : Option Addr} {sl12 : Array (Option Value)} {oc12 kV12 dc12 pm12 cd12 ct12 : Value} (a12 : PySem.W.nsIn K mainGlobals "_law_take" = some (some (.ref f12))) (l12 : K.lookup f12 = some ⟨oc12, od12, .func (PySem.W.fnOf "_law_take" "_law_take" (defArgs s__law_take) (defBody s__law_take) (defScope s__law_take) .none kV12 dc12 pm12 an12 cd12 ct12), sl12⟩) (c12 : PySem.W.codeIn K cd12 "_law_take" = true) (k12 : PySem.W.keepIn K (.ref f12) = true)
    {f13 : Addr} {od13 an13 : Option Addr} {sl13 : Array (Option Value)} {oc13 kV13 dc13 pm13 cd13 ct13 : Value} (a13 : PySem.W.nsIn K mainGlobals "_law_free" = some (some (.ref f13))) (l13 : K.lookup f13 = some ⟨oc13, od13, .func (PySem.W.fnOf "_law_free" "_law_free" (defArgs s__law_free) (defBody s__law_free) (defScope s__law_free) .none kV13 dc13 pm13 an13 cd13 ct13), sl13⟩) (c13 : PySem.W.codeIn K cd13 "_law_free" = true) (k13 : PySem.W.keepIn K (.ref f13) = true)
    {f14 : Addr} {od14 an14 : Option Addr} {sl14 : Array (Option Value)} {oc14 kV14 dc14 pm14 cd14 ct14 : Value} (a14 : PySem.W.nsIn K mainGlobals "_law_lists_right" = some (some (.ref f14))) (l14 : K.lookup f14 = some ⟨oc14, od14, .func (PySem.W.fnOf "_law_lists_right" "_law_lists_right" (defArgs s__law_lists_right) (defBody s__law_lists_right) (defScope s__law_lists_right) .none kV14 dc14 pm14 an14 cd14 ct14), sl14⟩) (c14 : PySem.W.codeIn K cd14 "_law_lists_right" = true) (k14 : PySem.W.keepIn K (.ref f14) = true)
    {f15 : Addr} {od15 an15 : Option Addr} {sl15 : Array (Option Value)} {oc15 kV15 dc15 pm15 cd15 ct15 : Value} (a15 : PySem.W.nsIn K mainGlobals "law" = some (some (.ref f15))) (l15 : K.lookup f15 = some ⟨oc15, od15, .func (PySem.W.fnOf "law" "law" (defArgs s_law) (defBody s_law) (defScope s_law) .none kV15 dc15 pm15 an15 cd15 ct15), sl15⟩) (c15 : PySem.W.codeIn K cd15 "law" = true) (k15 : PySem.W.keepIn K (.ref f15) = true)
    {CNoRule : Addr} (e1NoRule : PySem.W.nsIn K mainGlobals "NoRule" = some (some (.ref CNoRule))) (e2NoRule : PySem.W.keepIn K (.ref CNoRule) = true) (e3NoRule : PySem.W.excIn K CNoRule [.type "ValueError", .type "Exception", .type "BaseException", .type "object"] "ValueError.__new__" = true) (e4NoRule : PySem.W.subIn K (.ref CNoRule) (.type "BaseException") = some true) (e5NoRule : PySem.W.typeIn K (.ref CNoRule) = some (.type "type"))
    {CNoNumber : Addr} (e1NoNumber : PySem.W.nsIn K mainGlobals "NoNumber" = some (some (.ref CNoNumber))) (e2NoNumber : PySem.W.keepIn K (.ref CNoNumber) = true) (e3NoNumber : PySem.W.excIn K CNoNumber [.type "ValueError", .type "Exception", .type "BaseException", .type "object"] "ValueError.__new__" = true) (e4NoNumber : PySem.W.subIn K (.ref CNoNumber) (.type "BaseException") = some true) (e5NoNumber : PySem.W.typeIn K (.ref CNoNumber) = some (.type "type"))
    {tMOST_LOTS : Tok} (nMOST_LOTS : PySem.W.nsIn K mainGlobals "MOST_LOTS" = some (some (.int 14 tMOST_LOTS)))
    (zisinstance : PySem.W.nsIn K mainGlobals "isinstance" = some none)
    (zbool : PySem.W.nsIn K mainGlobals "bool" = some none)
    (zint : PySem.W.nsIn K mainGlobals "int" = some none)
    (zstr : PySem.W.nsIn K mainGlobals "str" = some none)
    (zsorted : PySem.W.nsIn K mainGlobals "sorted" = some none)
    (zrange : PySem.W.nsIn K mainGlobals "range" = some none)
    (zlen : PySem.W.nsIn K mainGlobals "len" = some none)
    (zmax : PySem.W.nsIn K mainGlobals "max" = some none)
    (zany : PySem.W.nsIn K mainGlobals "any" = some none)
    (ztuple : PySem.W.nsIn K mainGlobals "tuple" = some none)
    (zdict : PySem.W.nsIn K mainGlobals "dict" = some none)
    (zlist : PySem.W.nsIn K mainGlobals "list" = some none)
    (zmin : PySem.W.nsIn K mainGlobals "min" = some none)
    : ∃ fd : FuncData, (∀ (s : Shared) (v : Value), BindsTo s fd ⟨[v], []⟩ [("_law_script", v)]) ∧ ∀ base : Heap, K.In base → base.Ns mainGlobals mg → FnOk l.prog w K mg base (L2.CX l.prog w) 7 fa fd ["_law_script"] (spLaw K) := by
  have e := hfa.symm.trans (PySem.W.mg_of X G a15)
  cases e
  have z_isinstance := PySem.W.mg_none_of X G zisinstance
  have z_bool := PySem.W.mg_none_of X G zbool
  have z_int := PySem.W.mg_none_of X G zint
  have z_str := PySem.W.mg_none_of X G zstr
  have z_sorted := PySem.W.mg_none_of X G zsorted
  have z_range := PySem.W.mg_none_of X G zrange
  have z_len := PySem.W.mg_none_of X G zlen
  have z_max := PySem.W.mg_none_of X G zmax
  have z_any := PySem.W.mg_none_of X G zany
  have z_tuple := PySem.W.mg_none_of X G ztuple
  have z_dict := PySem.W.mg_none_of X G zdict
  have z_list := PySem.W.mg_none_of X G zlist
  have z_min := PySem.W.mg_none_of X G zmin
  have c_MOST_LOTS : ∃ t, mg "MOST_LOTS" = some (.int 14 t) := ⟨_, PySem.W.mg_of X G nMOST_LOTS⟩
  have x_NoRule : ExcOk K mg "NoRule" := ⟨_, _, _, _, _, PySem.F.excBase_ValueError, e3NoRule, PySem.W.mg_of X G e1NoRule, e2NoRule, e4NoRule, e5NoRule⟩
  have x_NoNumber : ExcOk K mg "NoNumber" := ⟨_, _, _, _, _, PySem.F.excBase_ValueError, e3NoNumber, PySem.W.mg_of X G e1NoNumber, e2NoNumber, e4NoNumber, e5NoNumber⟩
  refine ⟨PySem.W.fnOf "law" "law" (defArgs s_law) (defBody s_law) (defScope s_law) .none kV15 dc15 pm15 an15 cd15 ct15, fun s v => .of_eq rfl, fun base _ _ => ?_⟩
  have o_is_whole := ok_is_whole (P := l.prog) (w := w) (base := base) (T := []) (fun_mk (st := s_is_whole) l0 c0 k0) (PySem.W.mg_of X G a0) z_isinstance z_bool z_int
  have o_is_from := ok_is_from (P := l.prog) (w := w) (base := base) (T := []) (fun_mk (st := s_is_from) l1 c1 k1) (PySem.W.mg_of X G a1) o_is_whole.ok
  have o_must_rule := ok_must_rule (P := l.prog) (w := w) (base := base) (T := []) (fun_mk (st := s_must_rule) l2 c2 k2) (PySem.W.mg_of X G a2) z_isinstance z_str x_NoRule
  have o_must_number := ok_must_number (P := l.prog) (w := w) (base := base) (T := []) (fun_mk (st := s_must_number) l3 c3 k3) (PySem.W.mg_of X G a3) o_is_from.ok x_NoNumber
  have o_must_lots := ok_must_lots (P := l.prog) (w := w) (base := base) (T := []) (fun_mk (st := s_must_lots) l4 c4 k4) (PySem.W.mg_of X G a4) o_must_rule.ok o_must_number.ok c_MOST_LOTS
  have o_may_come := ok_may_come (P := l.prog) (w := w) (base := base) (T := []) (fun_mk (st := s_may_come) l5 c5 k5) (PySem.W.mg_of X G a5) 
  have o_all_free := ok_all_free (P := l.prog) (w := w) (base := base) (T := []) (fun_mk (st := s_all_free) l6 c6 k6) (PySem.W.mg_of X G a6) o_may_come.ok z_sorted z_range
  have o_free_many := ok_free_many (P := l.prog) (w := w) (base := base) (T := []) (fun_mk (st := s_free_many) l7 c7 k7) (PySem.W.mg_of X G a7) o_all_free.ok o_must_lots.ok z_len
  have o_most_free := ok_most_free (P := l.prog) (w := w) (base := base) (T := []) (fun_mk (st := s_most_free) l8 c8 k8) (PySem.W.mg_of X G a8) o_all_free.ok o_must_lots.ok z_len z_max
  have o_full_free := ok_full_free (P := l.prog) (w := w) (base := base) (T := []) (fun_mk (st := s_full_free) l9 c9 k9) (PySem.W.mg_of X G a9) o_all_free.ok o_must_lots.ok z_sorted z_any z_tuple z_range z_dict
  have o__law_cell_at := ok__law_cell_at (P := l.prog) (w := w) (base := base) (T := []) (fun_mk (st := s__law_cell_at) l10 c10 k10) (PySem.W.mg_of X G a10) z_len
  have o__law_state := ok__law_state (P := l.prog) (w := w) (base := base) (T := []) (fun_mk (st := s__law_state) l11 c11 k11) (PySem.W.mg_of X G a11) o__law_cell_at.ok z_max
  have o__law_take := ok__law_take (P := l.prog) (w := w) (base := base) (T := []) (fun_mk (st := s__law_take) l12 c12 k12) (PySem.W.mg_of X G a12) 
  have o__law_free := ok__law_free (P := l.prog) (w := w) (base := base) (T := []) (fun_mk (st := s__law_free) l13 c13 k13) (PySem.W.mg_of X G a13) z_sorted z_range
  have o__law_lists_right := ok__law_lists_right (P := l.prog) (w := w) (base := base) (T := []) (fun_mk (st := s__law_lists_right) l14 c14 k14) (PySem.W.mg_of X G a14) o_full_free.ok o_most_free.ok o_free_many.ok o__law_free.ok z_len z_range z_isinstance z_list z_bool z_tuple z_sorted z_max z_dict
  have o_law := ok_law (P := l.prog) (w := w) (base := base) (T := []) (fun_mk (st := s_law) l15 c15 k15) (PySem.W.mg_of X G a15) o__law_lists_right.ok o__law_take.ok o__law_state.ok z_range z_max z_min z_len
  exact law_fn o_law.fn MP.sound_law
end M
open PySem PySem.W PyProof.Rows
set_option maxHeartbeats 0 in
theorem PySem.Challenge.cw_sumhues_k71_all_free_lots_holds : PySem.Challenge.rw_sumhues_k71_all_free_lots.Holds := by
  w_on; o_law; k_head; (case hw => w_witness2)
  k_fill
  refine L2.walk_of (l := PySem.Challenge.rw_sumhues_k71_all_free_lots) (n := 63) (k := 7) (x := "_law_script") (CX := fun w => L2.CX (PySem.Challenge.rw_sumhues_k71_all_free_lots).prog w) (sp := fun w => M.spLaw _) rfl (by decide) rfl ⟨rfl, by decide, by decide⟩ (fun w h Y => PySem.W.kIn_of Y) ?F (fun _ H a ns hl hO hS => ⟨a, ns, rfl, hl, hO, hS, fun _ => rfl⟩) (fun _ _ _ _ _ h => M.cx_end h)
  case F =>
    intro w mg fa h KX G hmg
    refine' M.all_mk KX G hmg ?a0 ?l0 ?c0 ?k0 ?a1 ?l1 ?c1 ?k1 ?a2 ?l2 ?c2 ?k2 ?a3 ?l3 ?c3 ?k3 ?a4 ?l4 ?c4 ?k4 ?a5 ?l5 ?c5 ?k5 ?a6 ?l6 ?c6 ?k6 ?a7 ?l7 ?c7 ?k7 ?a8 ?l8 ?c8 ?k8 ?a9 ?l9 ?c9 ?k9 ?a10 ?l10 ?c10 ?k10 ?a11 ?l11 ?c11 ?k11 ?a12 ?l12 ?c12 ?k12 ?a13 ?l13 ?c13 ?k13 ?a14 ?l14 ?c14 ?k14 ?a15 ?l15 ?c15 ?k15 ?e1NoRule ?e2NoRule ?e3NoRule ?e4NoRule ?e5NoRule ?e1NoNumber ?e2NoNumber ?e3NoNumber ?e4NoNumber ?e5NoNumber ?nMOST_LOTS ?zisinstance ?zbool ?zint ?zstr ?zsorted ?zrange ?zlen ?zmax ?zany ?ztuple ?zdict ?zlist ?zmin
    (case a0 => k_is); (case l0 => k_is); (case c0 => k_is); (case k0 => k_is); (case a1 => k_is); (case l1 => k_is); (case c1 => k_is); (case k1 => k_is); (case a2 => k_is); (case l2 => k_is)
    (case c2 => k_is); (case k2 => k_is); (case a3 => k_is); (case l3 => k_is); (case c3 => k_is); (case k3 => k_is); (case a4 => k_is); (case l4 => k_is); (case c4 => k_is); (case k4 => k_is)
    (case a5 => k_is); (case l5 => k_is); (case c5 => k_is); (case k5 => k_is); (case a6 => k_is); (case l6 => k_is); (case c6 => k_is); (case k6 => k_is); (case a7 => k_is); (case l7 => k_is)
    (case c7 => k_is); (case k7 => k_is); (case a8 => k_is); (case l8 => k_is); (case c8 => k_is); (case k8 => k_is); (case a9 => k_is); (case l9 => k_is); (case c9 => k_is); (case k9 => k_is)
    (case a10 => k_is); (case l10 => k_is); (case c10 => k_is); (case k10 => k_is); (case a11 => k_is); (case l11 => k_is); (case c11 => k_is); (case k11 => k_is); (case a12 => k_is); (case l12 => k_is)
    (case c12 => k_is); (case k12 => k_is); (case a13 => k_is); (case l13 => k_is); (case c13 => k_is); (case k13 => k_is); (case a14 => k_is); (case l14 => k_is); (case c14 => k_is); (case k14 => k_is)
    (case a15 => k_is); (case l15 => k_is); (case c15 => k_is); (case k15 => k_is); (case e1NoRule => k_is); (case e2NoRule => k_is); (case e3NoRule => k_exc); (case e4NoRule => k_is); (case e5NoRule => k_is); (case e1NoNumber => k_is)
    (case e2NoNumber => k_is); (case e3NoNumber => k_exc); (case e4NoNumber => k_is); (case e5NoNumber => k_is); (case nMOST_LOTS => k_is); (case zisinstance => k_is); (case zbool => k_is); (case zint => k_is); (case zstr => k_is); (case zsorted => k_is)
    (case zrange => k_is); (case zlen => k_is); (case zmax => k_is); (case zany => k_is); (case ztuple => k_is); (case zdict => k_is); (case zlist => k_is); (case zmin => k_is)
