import PyProof.Rows.All
import PySem.Str
import PySem.PyData
import PyProof.P3Statements
import Wide.All
import OpenK.AllK
import Wide.FinOn
import HandS.ForMost
import HandS.ForExc
import HandS.HeadWalk
import HandS.HeadHook2
import HandS.IsInst
import HandS.TupAny
import HandS.Deep
import HandS.TupLen
import HandS.Defaults
import PyProof.IsiBase
import HandS.ExcIs
import HandS.WordsDict
import KE.KExcIs
import HandS.ExcInit
import KE.KExcSuper
import HandS.ExcValue
import HandS.Lambda
import HandS.Iter
import KE.GoesEnum
import HandS.Style
import HandS.Replace
import HandS.Dict
import HandS.Text
import HandS.ExcField
import HandS.HeadHook4
import HandS.Head2
import KE.KxText
import PySem.Challenge.RW_nomatterwho_k01_spots_by_own_arithmetic
set_option Elab.async false
set_option linter.all false
/-! The plain side: data, a store of things that change, results, and what each form of the text does with them. -/
namespace NM
open PySem (Str)

/-- data: what never changes, and places of the store -/
inductive D where
  | non | bl (b : Bool) | int (i : Int) | str (x : Str) | ty (n : String)
  | tup (ds : List D) | frl (ds : List D) | ptr (n : Nat) | glo (x : Str)
  deriving Inhabited

/-- an int or a text; a key of a dict: one of these, or a tuple of these -/
abbrev Ky := Sum Int Str
inductive DK where
  | k (k : Ky)
  | t (ks : List Ky)
  deriving DecidableEq
/-- what stands at a place of the store -/
inductive O where
  | lst (ds : List D)
  | dic (b : Bool) (kvs : List (DK × D))
  | ins (c : Str) (fs : List (Str × D))
  | exc (c : Str) (fs : List (Str × D))
  | fn
  deriving Inhabited

abbrev Store := List O
/-- names' values by slots -/
abbrev Rho := List (Option D)

inductive R (α : Type) where
  | ok (a : α) (S : Store)
  | exc (c : Str) (fs : List (Str × D)) (S : Store)
  | stuck

def R.bind {α β : Type} (r : R α) (f : α → Store → R β) : R β :=
  match r with
  | .ok a S => f a S
  | .exc c fs S => .exc c fs S
  | .stuck => .stuck
@[simp] theorem R.bind_ok {α β : Type} (a : α) (S : Store) (f : α → Store → R β) : (R.ok a S).bind f = f a S := rfl
@[simp] theorem R.bind_exc {α β : Type} (c : Str) (fs : List (Str × D)) (S : Store) (f : α → Store → R β) : (R.exc c fs S : R α).bind f = .exc c fs S := rfl
@[simp] theorem R.bind_stuck {α β : Type} (f : α → Store → R β) : (R.stuck : R α).bind f = .stuck := rfl

/-- an expression; several; one that gives a list that nobody else holds -/
abbrev Ex := Rho → Store → R D
abbrev Exs := Rho → Store → R (List D)
inductive Fl where
  | next (ρ : Rho)
  | ret (d : D)
  | brk (ρ : Rho)
  | cont (ρ : Rho)
abbrev Sx := Rho → Store → R Fl

/-! ### expressions -/
def eVar (i : Nat) : Ex := fun ρ S => match ρ[i]? with
  | some (some d) => .ok d S
  | _ => .stuck
def eC (d : D) : Ex := fun _ S => .ok d S
def e1 (op : D → Store → R D) (a : Ex) : Ex := fun ρ S => (a ρ S).bind op
def e2 (op : D → D → Store → R D) (a b : Ex) : Ex := fun ρ S => (a ρ S).bind fun x S1 => (b ρ S1).bind fun y S2 => op x y S2
def eNil : Exs := fun _ S => .ok [] S
def eCons (a : Ex) (as : Exs) : Exs := fun ρ S => (a ρ S).bind fun x S1 => (as ρ S1).bind fun xs S2 => .ok (x :: xs) S2
/-- a call of what takes a list of values -/
def eN (op : List D → Store → R D) (as : Exs) : Ex := fun ρ S => (as ρ S).bind op
/-- the longest list that is made here -/
abbrev cap : Nat := 16777216
def eTup (as : Exs) : Ex := fun ρ S => (as ρ S).bind fun xs S1 => if xs.length ≤ cap then .ok (.tup xs) S1 else .stuck
def lDisp (as : Exs) : Exs := fun ρ S => (as ρ S).bind fun xs S1 => if xs.length ≤ cap then .ok xs S1 else .stuck
/-- a list that nobody holds is used up -/
def eUse (op : List D → Store → R D) (l : Exs) : Ex := fun ρ S => (l ρ S).bind op
def lUse (op : List D → Store → R (List D)) (l : Exs) : Exs := fun ρ S => (l ρ S).bind op
/-- a new list gets a place -/
def eNew (l : Exs) : Ex := fun ρ S => (l ρ S).bind fun xs S1 => .ok (.ptr S1.length) (S1 ++ [.lst xs])
/-- tests -/
abbrev Tx := Rho → Store → R Bool
def tVal (a : Ex) : Tx := fun ρ S => (a ρ S).bind fun x S1 => match x with
  | .bl b => .ok b S1
  | _ => .stuck
def tNot (t : Tx) : Tx := fun ρ S => (t ρ S).bind fun b S1 => .ok (!b) S1
def tAnd (t u : Tx) : Tx := fun ρ S => (t ρ S).bind fun b S1 => if b = true then u ρ S1 else .ok false S1
def tOr (t u : Tx) : Tx := fun ρ S => (t ρ S).bind fun b S1 => if b = true then .ok true S1 else u ρ S1
/-- and, or, not as values: all but the last are True or False -/
def vAnd (a b : Ex) : Ex := fun ρ S => (a ρ S).bind fun x S1 => match x with
  | .bl true => b ρ S1
  | .bl false => .ok (.bl false) S1
  | _ => .stuck
def vOr (a b : Ex) : Ex := fun ρ S => (a ρ S).bind fun x S1 => match x with
  | .bl true => .ok (.bl true) S1
  | .bl false => b ρ S1
  | _ => .stuck
def vNot (a : Ex) : Ex := fun ρ S => (a ρ S).bind fun x S1 => match x with
  | .bl b => .ok (.bl (!b)) S1
  | _ => .stuck
def eIf (t : Tx) (a b : Ex) : Ex := fun ρ S => (t ρ S).bind fun c S1 => if c = true then a ρ S1 else b ρ S1

/-! ### statements -/
def sNext : Sx := fun ρ S => .ok (.next ρ) S
def sSeq (a b : Sx) : Sx := fun ρ S => (a ρ S).bind fun f S1 => match f with
  | .next ρ1 => b ρ1 S1
  | .ret d => .ok (.ret d) S1
  | .brk ρ1 => .ok (.brk ρ1) S1
  | .cont ρ1 => .ok (.cont ρ1) S1
def sRet (a : Ex) : Sx := fun ρ S => (a ρ S).bind fun d S1 => .ok (.ret d) S1
def sIf (t : Tx) (a b : Sx) : Sx := fun ρ S => (t ρ S).bind fun c S1 => if c = true then a ρ S1 else b ρ S1
def sSet (i : Nat) (a : Ex) : Sx := fun ρ S => (a ρ S).bind fun d S1 => .ok (.next (ρ.set i (some d))) S1
def sDrop (a : Ex) : Sx := fun ρ S => (a ρ S).bind fun _ S1 => .ok (.next ρ) S1
def sBrk : Sx := fun ρ S => .ok (.brk ρ) S
def sCont : Sx := fun ρ S => .ok (.cont ρ) S
def sRaise (c : Str) (m : List D → Store → R (List (Str × D))) (as : Exs) : Sx := fun ρ S => (as ρ S).bind fun ds S1 => (m ds S1).bind fun fs S2 => .exc c fs S2
/-- a target: where a value goes -/
abbrev Tg := D → Rho → Store → R Rho
def gSlot (i : Nat) : Tg := fun d ρ S => .ok (ρ.set i (some d)) S
def gAll : List Tg → List D → Rho → Store → R Rho
  | [], [], ρ, S => .ok ρ S
  | g :: gs, d :: ds, ρ, S => (g d ρ S).bind fun ρ1 S1 => gAll gs ds ρ1 S1
  | _, _, _, _ => .stuck
def gUnp (gs : List Tg) : Tg := fun d ρ S => match d with
  | .tup ds => if ds.length = gs.length then gAll gs ds ρ S else .stuck
  | _ => .stuck
def sAsg (g : Tg) (a : Ex) : Sx := fun ρ S => (a ρ S).bind fun d S1 => (g d ρ S1).bind fun ρ1 S2 => .ok (.next ρ1) S2

/-! ### what is walked -/
/-- the items, and what must stay as it is while they are walked -/
structure Src where
  items : List D
  ok : Store → Prop
abbrev Ix := Rho → Store → R Src
def chars (x : Str) : List D := x.cps.toList.map fun c => .str ⟨#[c]⟩
/-- what a datum gives, walked -/
def srcOf : D → Store → R Src
  | .tup ds, S => .ok ⟨ds, fun _ => True⟩ S
  | .frl ds, S => .ok ⟨ds, fun _ => True⟩ S
  | .str x, S => .ok ⟨chars x, fun _ => True⟩ S
  | .ptr n, S => match S[n]? with
    | some (.lst ds) => .ok ⟨ds, fun S' => S'[n]? = some (.lst ds)⟩ S
    | _ => .stuck
  | _, _ => .stuck
def iD (a : Ex) : Ix := fun ρ S => (a ρ S).bind srcOf
def iL (l : Exs) : Ix := fun ρ S => (l ρ S).bind fun ds S1 => .ok ⟨ds, fun _ => True⟩ S1
def rangeD (lo : Int) (n : Nat) : List D := (List.range n).map fun (k : Nat) => .int (lo + (k : Int))
def iRange1 (as : Exs) : Ix := fun ρ S => (as ρ S).bind fun ds S1 => match ds with
  | [.int j] => if -(2 ^ 62) ≤ j ∧ j < 2 ^ 62 then .ok ⟨rangeD 0 j.toNat, fun _ => True⟩ S1 else .stuck
  | _ => .stuck
def iRange2 (as : Exs) : Ix := fun ρ S => (as ρ S).bind fun ds S1 => match ds with
  | [.int i, .int j] => if -(2 ^ 62) ≤ i ∧ i < 2 ^ 62 ∧ -(2 ^ 62) ≤ j ∧ j < 2 ^ 62 then .ok ⟨rangeD i (j - i).toNat, fun _ => True⟩ S1 else .stuck
  | _ => .stuck
open Classical in
noncomputable def forGo (ok : Store → Prop) (g : Tg) (body : Sx) : List D → Rho → Store → R Fl
  | [], ρ, S => if ok S then .ok (.next ρ) S else .stuck
  | d :: ds, ρ, S => if ok S then (g d ρ S).bind fun ρ1 S1 => (body ρ1 S1).bind fun f S2 => match f with
      | .next ρ2 => forGo ok g body ds ρ2 S2
      | .cont ρ2 => forGo ok g body ds ρ2 S2
      | .brk ρ2 => .ok (.next ρ2) S2
      | .ret r => .ok (.ret r) S2
    else .stuck
theorem forGo_nil {ok : Store → Prop} {g : Tg} {body : Sx} {ρ : Rho} {S : Store} (h : ok S) : forGo ok g body [] ρ S = .ok (.next ρ) S := by
  unfold forGo
  rw [if_pos h]
theorem forGo_cons {ok : Store → Prop} {g : Tg} {body : Sx} {d : D} {ds : List D} {ρ : Rho} {S : Store} (h : ok S) : forGo ok g body (d :: ds) ρ S = (g d ρ S).bind fun ρ1 S1 => (body ρ1 S1).bind fun f S2 => match f with
      | .next ρ2 => forGo ok g body ds ρ2 S2
      | .cont ρ2 => forGo ok g body ds ρ2 S2
      | .brk ρ2 => .ok (.next ρ2) S2
      | .ret r => .ok (.ret r) S2 := by
  conv => lhs; unfold forGo
  rw [if_pos h]
theorem forGo_no {ok : Store → Prop} {g : Tg} {body : Sx} {ds : List D} {ρ : Rho} {S : Store} (h : ¬ ok S) : forGo ok g body ds ρ S = .stuck := by
  cases ds <;> (unfold forGo; rw [if_neg h])
noncomputable def sFor (i : Ix) (g : Tg) (body : Sx) : Sx := fun ρ S => (i ρ S).bind fun s S1 => forGo s.ok g body s.items ρ S1
/-- slots forgotten -/
def wipe (ρ : Rho) : List Nat → Rho
  | [] => ρ
  | v :: vs => (wipe ρ vs).set v none
/-- nothing is let out -/
def R.shut {α : Type} (r : R α) : R α := match r with
  | .exc _ _ _ => .stuck
  | r => r
open Classical in
noncomputable def compGo (ok : Store → Prop) (g : Tg) (t : Tx) (e : Ex) (ρ : Rho) : List D → List D → Store → R (List D)
  | [], acc, S => if ok S then .ok acc S else .stuck
  | d :: ds, acc, S => if ok S then (g d ρ S).shut.bind fun ρ1 S1 => (t ρ1 S1).shut.bind fun b S2 => if b = true then (e ρ1 S2).shut.bind fun x S3 => if acc.length < cap then compGo ok g t e ρ ds (acc ++ [x]) S3 else .stuck
      else compGo ok g t e ρ ds acc S2
    else .stuck
theorem compGo_nil {ok : Store → Prop} {g : Tg} {t : Tx} {e : Ex} {ρ : Rho} {acc : List D} {S : Store} (h : ok S) : compGo ok g t e ρ [] acc S = .ok acc S := by
  unfold compGo
  rw [if_pos h]
theorem compGo_cons {ok : Store → Prop} {g : Tg} {t : Tx} {e : Ex} {ρ : Rho} {d : D} {ds acc : List D} {S : Store} (h : ok S) : compGo ok g t e ρ (d :: ds) acc S =
    (g d ρ S).shut.bind fun ρ1 S1 => (t ρ1 S1).shut.bind fun b S2 => if b = true then (e ρ1 S2).shut.bind fun x S3 => if acc.length < cap then compGo ok g t e ρ ds (acc ++ [x]) S3 else .stuck
      else compGo ok g t e ρ ds acc S2 := by
  conv => lhs; unfold compGo
  rw [if_pos h]
theorem compGo_no {ok : Store → Prop} {g : Tg} {t : Tx} {e : Ex} {ρ : Rho} {ds acc : List D} {S : Store} (h : ¬ ok S) : compGo ok g t e ρ ds acc S = .stuck := by
  cases ds <;> (unfold compGo; rw [if_neg h])
noncomputable def lComp (i : Ix) (g : Tg) (t : Tx) (e : Ex) (vs : List Nat) : Exs := fun ρ S => (i ρ S).bind fun s S1 => compGo s.ok g t e (wipe ρ vs) s.items [] S1
def tTrue : Tx := fun _ S => .ok true S
/-- a def's body: its parameters, then its other names -/
def body (np n : Nat) (s : Sx) : List D → Store → R D := fun ds S => if ds.length ≠ np then .stuck else (s (ds.map some ++ List.replicate (n - ds.length) none) S).bind fun f S1 => match f with
  | .next _ => .ok .non S1
  | .ret d => .ok d S1
  | _ => .stuck

/-! ### operations on data -/
def oAdd : D → D → Store → R D
  | .int i, .int j, S => .ok (.int (i + j)) S
  | .str x, .str y, S => if x.length + y.length ≤ cap then .ok (.str (x ++ y)) S else .stuck
  | .tup xs, .tup ys, S => if xs.length + ys.length ≤ cap then .ok (.tup (xs ++ ys)) S else .stuck
  | _, _, _ => .stuck
def oI (g : Int → Int → D) : D → D → Store → R D
  | .int i, .int j, S => .ok (g i j) S
  | _, _, _ => .stuck
def oIc (p : Int → Int → Bool) (g : Int → Int → D) : D → D → Store → R D
  | .int i, .int j, S => if p i j = true then .ok (g i j) S else .stuck
  | _, _, _ => .stuck
abbrev oSub := oI fun i j => .int (i - j)
def mulOk (i j : Int) : Bool := (decide (-(2 ^ 64) < i) && decide (i < 2 ^ 64)) || (decide (-(2 ^ 64) < j) && decide (j < 2 ^ 64))
abbrev oMul := oIc mulOk fun i j => .int (i * j)
def divOk (_i j : Int) : Bool := decide (j ≠ 0) && decide (j.natAbs < 1073741824)
abbrev oDiv := oIc divOk fun i j => .int (i.fdiv j)
def modOk (_i j : Int) : Bool := decide (j ≠ 0)
abbrev oMod := oIc modOk fun i j => .int (i.fmod j)
def powOk (i j : Int) : Bool := decide (0 ≤ j) && decide (j ≤ 1000000) && decide (i.natAbs < 2 ^ 64)
abbrev oPow := oIc powOk fun i j => .int (i ^ j.toNat)
def oNeg : D → Store → R D
  | .int i, S => .ok (.int (-i)) S
  | _, _ => .stuck
def oLt : D → D → Store → R D
  | .int i, .int j, S => .ok (.bl (decide (i < j))) S
  | .str x, .str y, S => .ok (.bl (decide (x.cps.toList < y.cps.toList))) S
  | _, _, _ => .stuck
abbrev oLe := oI fun i j => .bl (decide (i ≤ j))
abbrev oGt := oI fun i j => .bl (decide (j < i))
abbrev oGe := oI fun i j => .bl (decide (j ≤ i))
def oIsN (x y : D) (S : Store) : R D := match y with
  | .non => .ok (.bl (match x with | .non => true | _ => false)) S
  | _ => .stuck
def oNotN (x y : D) (S : Store) : R D := match y with
  | .non => .ok (.bl (match x with | .non => false | _ => true)) S
  | _ => .stuck
open PySem (PyData)
def mapO {α β : Type} (f : α → Option β) : List α → Option (List β)
  | [] => some []
  | x :: xs => match f x, mapO f xs with
    | some y, some ys => some (y :: ys)
    | _, _ => none
/-- all its signs are signs -/
def okS (x : Str) : Bool := x.cps.toList.all fun k => decide (k < 1114112)
/-- a datum read out to its depth -/
def rd (S : Store) : Nat → D → Option PyData
  | 0, d => match d with
    | .non => some .none
    | .bl b => some (.bool b)
    | .int i => some (.int i)
    | .str x => if okS x = true then some (.str x) else none
    | _ => none
  | n + 1, d => match d with
    | .non => some .none
    | .bl b => some (.bool b)
    | .int i => some (.int i)
    | .str x => if okS x = true then some (.str x) else none
    | .tup ds => (mapO (rd S n) ds).map .tuple
    | .frl ds => (mapO (rd S n) ds).map .list
    | .ptr k => match S[k]? with
      | some (.lst ds) => (mapO (rd S n) ds).map .list
      | _ => none
    | _ => none
def oEq (x y : D) (S : Store) : R D := match rd S 30 x, rd S 30 y with
  | some a, some b => .ok (.bl (PyData.eqv a b)) S
  | _, _ => .stuck
def oNe (x y : D) (S : Store) : R D := match rd S 30 x, rd S 30 y with
  | some a, some b => .ok (.bl (!PyData.eqv a b)) S
  | _, _ => .stuck
/-- a sign in a text -/
def oInS (neg : Bool) : D → D → Store → R D
  | .str x, .str z, S => match x.cps.toList with
    | [c] => .ok (.bl (if neg then !decide (c ∈ z.cps.toList) else decide (c ∈ z.cps.toList))) S
    | _ => .stuck
  | _, _, _ => .stuck
def lenD : D → Store → Option Nat
  | .str x, _ => if x.length ≤ cap then some x.length else none
  | .tup ds, _ => some ds.length
  | .frl ds, _ => some ds.length
  | .ptr n, S => match S[n]? with
    | some (.lst ds) => some ds.length
    | some (.dic _ kvs) => some kvs.length
    | _ => none
  | _, _ => none
def bLen : List D → Store → R D
  | [d], S => match lenD d S with
    | some n => .ok (.int n) S
    | none => .stuck
  | _, _ => .stuck
def bAbs : List D → Store → R D
  | [.int i], S => .ok (.int (if i < 0 then -i else i)) S
  | _, _ => .stuck
def bInt : List D → Store → R D
  | [.int i], S => .ok (.int i) S
  | [.bl b], S => .ok (.int (if b then 1 else 0)) S
  | _, _ => .stuck
/-- an item by its place -/
def ixD (n : Nat) (i : Int) : Option Nat := if 0 ≤ i then (if i < n then some i.toNat else none) else if -(n : Int) ≤ i then some (i + n).toNat else none
def atD (ds : List D) (i : Int) : Option D := (ixD ds.length i).bind fun j => ds[j]?
def oIx : D → D → Store → R D
  | .tup ds, .int i, S => match atD ds i with
    | some d => .ok d S
    | none => .stuck
  | .frl ds, .int i, S => match atD ds i with
    | some d => .ok d S
    | none => .stuck
  | .ptr n, .int i, S => match S[n]? with
    | some (.lst ds) => match atD ds i with
      | some d => .ok d S
      | none => .stuck
    | _ => .stuck
  | .str x, .int i, S => if x.length ≤ cap then match atD (chars x) i with
    | some d => .ok d S
    | none => .stuck
    else .stuck
  | _, _, _ => .stuck
/-- lists used up -/
def uTup (ds : List D) (S : Store) : R D := .ok (.tup ds) S
def blsD : List D → Option (List Bool)
  | [] => some []
  | .bl b :: ds => (blsD ds).map (b :: ·)
  | _ => none
def uAll (ds : List D) (S : Store) : R D := match blsD ds with
  | some bs => .ok (.bl (bs.all id)) S
  | none => .stuck
def uAny (ds : List D) (S : Store) : R D := match blsD ds with
  | some bs => .ok (.bl (bs.any id)) S
  | none => .stuck
def intsD : List D → Option (List Int)
  | [] => some []
  | .int b :: ds => (intsD ds).map (b :: ·)
  | _ => none
def uSum (ds : List D) (S : Store) : R D := match intsD ds with
  | some bs => .ok (.int bs.sum) S
  | none => .stuck
def uLen (ds : List D) (S : Store) : R D := .ok (.int ds.length) S
def strsD : List D → Option (List Str)
  | [] => some []
  | .str b :: ds => (strsD ds).map (b :: ·)
  | _ => none
/-! ### dicts -/
def kyD : D → Option Ky
  | .int i => some (.inl i)
  | .str x => some (.inr x)
  | _ => none
def dkD : D → Option DK
  | .int i => some (.k (.inl i))
  | .str x => some (.k (.inr x))
  | .tup ds => (mapO kyD ds).map .t
  | _ => none
def unKy : Ky → D
  | .inl i => .int i
  | .inr x => .str x
def unDk : DK → D
  | .k k => unKy k
  | .t ks => .tup (ks.map unKy)
def dGet (kvs : List (DK × D)) (k : DK) : Option D := (kvs.find? fun kv => decide (kv.1 = k)).map (·.2)
def dPut (kvs : List (DK × D)) (k : DK) (d : D) : List (DK × D) :=
  if (kvs.any fun kv => decide (kv.1 = k)) = true then kvs.map (fun kv => if kv.1 = k then (kv.1, d) else kv) else kvs ++ [(k, d)]
def isT : DK → Bool
  | .t _ => true
  | _ => false
/-- o[i] = v: (with the kind of an empty dict's keys) -/
def mSet (o i v : D) (S : Store) : R Unit := match o with
  | .ptr n => match S[n]? with
    | some (.lst ds) => match i with
      | .int k => match ixD ds.length k with
        | some j => .ok () (S.set n (.lst (ds.set j v)))
        | none => .stuck
      | _ => .stuck
    | some (.dic b kvs) => match dkD i with
      | some k => if isT k = b ∧ kvs.length < cap then .ok () (S.set n (.dic b (dPut kvs k v))) else .stuck
      | none => .stuck
    | _ => .stuck
  | _ => .stuck
/-! ### slices -/
def six (n : Nat) (dflt : Nat) : Option Int → Nat
  | none => dflt
  | some v => if v < 0 then (v + n).toNat else min v.toNat n
def cutD {α : Type} (xs : List α) (lo hi : Option Int) : List α := (xs.drop (six xs.length 0 lo)).take (six xs.length xs.length hi - six xs.length 0 lo)
/-- a slice's ends -/
abbrev Ox := Rho → Store → R (Option Int)
def oNone : Ox := fun _ S => .ok none S
def oSome (a : Ex) : Ox := fun ρ S => (a ρ S).bind fun d S1 => match d with
  | .int i => .ok (some i) S1
  | _ => .stuck
/-- of tuples and texts: a value; of lists: a new list -/
def eSl (a : Ex) (lo hi : Ox) : Ex := fun ρ S => (a ρ S).bind fun d S1 => (lo ρ S1).bind fun l S2 => (hi ρ S2).bind fun h S3 => match d with
  | .tup ds => .ok (.tup (cutD ds l h)) S3
  | .str x => if x.length ≤ cap then .ok (.str ⟨(cutD x.cps.toList l h).toArray⟩) S3 else .stuck
  | _ => .stuck
def lSl (a : Ex) (lo hi : Ox) : Exs := fun ρ S => (a ρ S).bind fun d S1 => (lo ρ S1).bind fun l S2 => (hi ρ S2).bind fun h S3 => match d with
  | .frl ds => .ok (cutD ds l h) S3
  | .ptr n => match S3[n]? with
    | some (.lst ds) => .ok (cutD ds l h) S3
    | _ => .stuck
  | _ => .stuck
/-! ### classes -/
inductive Ty where
  | ty (n : String)
  | own (x : Str)
  deriving DecidableEq
/-- what stands above a class of the text -/
def errNames : List Str := ["BadValue", "BadNumber", "BadRatio", "BadName", "BadLayer", "BadDeal", "BadKinds", "BadCrowd", "BadSight", "BadClaims", "BadTrial", "BadRule", "BadWorld", "BadPaper", "BadLog", "BadLine", "NoName", "Nothing", "Misfit", "BadText", "TooMany"]
def denNames : List Str := ["Beyond", "Blurs", "Fog", "Fooled", "Hearing", "Hopeless", "Leaning", "Poor", "Reacting", "Risky", "Twins", "Untraced"]
def papNames : List Str := ["Certain", "Crossed", "Curve", "Deaf", "Denial", "Distance", "Enough", "Fair", "Few", "Firm", "Greatest", "Reads", "Sound", "Stake", "Steady", "Traced", "Yield"]
def anc (x y : Str) : Bool := decide (x = y) || (errNames.contains x && decide (y = "TrialError")) || (denNames.contains x && (decide (y = "Denial") || decide (y = "Paper"))) || (papNames.contains x && decide (y = "Paper"))
def sixT : List String := ["int", "str", "bool", "list", "tuple", "dict"]
def subTy : Ty → Ty → Option Bool
  | .ty a, .ty b => if sixT.contains b then some (a == b || (a == "bool" && b == "int")) else none
  | .own _, .ty b => if sixT.contains b then some false else none
  | .ty _, .own _ => some false
  | .own x, .own y => some (anc x y)
def anyTy (t : Ty) : List Ty → Option Bool
  | [] => some false
  | c :: r => match subTy t c with
    | some true => some true
    | some false => anyTy t r
    | none => none
def tyD : D → Store → Option Ty
  | .non, _ => some (.ty "NoneType")
  | .bl _, _ => some (.ty "bool")
  | .int _, _ => some (.ty "int")
  | .str _, _ => some (.ty "str")
  | .tup _, _ => some (.ty "tuple")
  | .frl _, _ => some (.ty "list")
  | .ptr n, S => match S[n]? with
    | some (.lst _) => some (.ty "list")
    | some (.dic _ _) => some (.ty "dict")
    | some (.ins x _) => some (.own x)
    | some (.exc x _) => some (.own x)
    | some .fn => some (.ty "function")
    | none => none
  | _, _ => none
def bIsi (cs : List Ty) (d : D) (S : Store) : R D := match tyD d S with
  | some t => match anyTy t cs with
    | some b => .ok (.bl b) S
    | none => .stuck
  | none => .stuck
def eIsi (cs : List Ty) (a : Ex) : Ex := fun ρ S => (a ρ S).bind fun d S1 => bIsi cs d S1
def eChain (o p : D → D → Store → R D) (a b c : Ex) : Ex := fun ρ S => (a ρ S).bind fun x S1 => (b ρ S1).bind fun y S2 => (o x y S2).bind fun r S3 => match r with
  | .bl true => (c ρ S3).bind fun z S4 => p y z S4
  | .bl false => .ok (.bl false) S3
  | _ => .stuck
end NM

set_option linter.all false
set_option maxRecDepth 100000
set_option maxHeartbeats 2000000
/-! How the plain side is borne by the layer's heap, and what it means that a piece of text does what a plain function says. -/
namespace NM
open PySem PySem.Spec PyProof.Rows L2

/-- the written part, the tables of code objects -/
structure Cf where
  K : PySem.W.Frag
  T : List (Addr × Str)
  /-- the text's own classes whose instances come; those of exceptions; those that isinstance asks for -/
  U : List Str
  V : List Str
  W : List Str

mutual
/-- the value v stands for the datum d -/
inductive Den (K : PySem.W.Frag) (H : Hp) (φ : List Addr) : D → V → Prop where
  | non : Den K H φ .non .non
  | bl (b : Bool) : Den K H φ (.bl b) (.bl b)
  | int (i : Int) : Den K H φ (.int i) (.int i)
  | str (x : Str) : Den K H φ (.str x) (.str x)
  | ty (n : String) : Den K H φ (.ty n) (.ty n)
  | glo (x : Str) : Den K H φ (.glo x) (.ref (He.ga K x))
  | tup {ds : List D} {a : Addr} {vs : List V} (h : H a = some (.tup vs)) (hs : Dens K H φ ds vs) : Den K H φ (.tup ds) (.ref a)
  | frl {ds : List D} {a : Addr} {vs : List V} (h : (∃ o, H a = some (.frz o (.lst vs))) ∨ (∀ H', SqL K H' a vs)) (hs : Dens K H φ ds vs) : Den K H φ (.frl ds) (.ref a)
  | ptr {n : Nat} {a : Addr} (h : φ[n]? = some a) : Den K H φ (.ptr n) (.ref a)
inductive Dens (K : PySem.W.Frag) (H : Hp) (φ : List Addr) : List D → List V → Prop where
  | nil : Dens K H φ [] []
  | cons {d : D} {v : V} {ds : List D} {vs : List V} (h : Den K H φ d v) (t : Dens K H φ ds vs) : Dens K H φ (d :: ds) (v :: vs)
end

/-- from one moment to a later one: places stay, new ones are new; what is tracked and is no place stays (tables grow) -/
structure Xt (φ : List Addr) (H : Hp) (φ' : List Addr) (H' : Hp) : Prop where
  grow : ∃ ψ, φ' = φ ++ ψ ∧ ∀ a ∈ ψ, H a = none
  keep : ∀ a o, H a = some o → a ∉ φ → (∀ ps, o ≠ .tbl ps) → H' a = some o
  tups : ∀ a xs, H a = some (.tup xs) → H' a = some (.tup xs)
  frzs : ∀ a o u, H a = some (.frz o u) → H' a = some (.frz o u)
  live : ∀ a, H' a = none → H a = none
theorem Xt.refl (φ : List Addr) (H : Hp) : Xt φ H φ H := ⟨⟨[], by simp, by simp⟩, fun _ _ h _ _ => h, fun _ _ h => h, fun _ _ _ h => h, fun _ h => h⟩
theorem Xt.sub {φ φ' : List Addr} {H H' : Hp} (x : Xt φ H φ' H') {n : Nat} {a : Addr} (h : φ[n]? = some a) : φ'[n]? = some a := by
  obtain ⟨ψ, rfl, _⟩ := x.grow
  have hl : n < φ.length := by
    by_cases q : n < φ.length
    · exact q
    · rw [List.getElem?_eq_none (by omega)] at h
      cases h
  rw [List.getElem?_append_left hl]
  exact h
theorem Xt.trans {φ φ1 φ2 : List Addr} {H H1 H2 : Hp} (x : Xt φ H φ1 H1) (y : Xt φ1 H1 φ2 H2) : Xt φ H φ2 H2 := by
  obtain ⟨ψ, e1, n1⟩ := x.grow
  obtain ⟨χ, e2, n2⟩ := y.grow
  refine ⟨⟨ψ ++ χ, by rw [e2, e1, List.append_assoc], fun a ha => ?_⟩, fun a o h hn ht => ?_, fun a xs h => y.tups _ _ (x.tups _ _ h), fun a o u h => y.frzs _ _ _ (x.frzs _ _ _ h), fun a h => x.live _ (y.live _ h)⟩
  · rcases List.mem_append.mp ha with h | h
    · exact n1 a h
    · exact x.live a (n2 a h)
  · refine y.keep _ _ (x.keep _ _ h hn ht) (fun hm => ?_) ht
    rw [e1] at hm
    rcases List.mem_append.mp hm with q | q
    · exact hn q
    · rw [n1 a q] at h
      cases h
/-- what a datum's standing leans on -/
structure Xw (φ : List Addr) (H : Hp) (φ' : List Addr) (H' : Hp) : Prop where
  sub : ∀ (n : Nat) (a : Addr), φ[n]? = some a → φ'[n]? = some a
  tups : ∀ a xs, H a = some (.tup xs) → H' a = some (.tup xs)
  frzs : ∀ a o u, H a = some (.frz o u) → H' a = some (.frz o u)
theorem Xt.w {φ φ' : List Addr} {H H' : Hp} (x : Xt φ H φ' H') : Xw φ H φ' H' := ⟨fun _ _ h => x.sub h, x.tups, x.frzs⟩
theorem Xw.more (φ : List Addr) (p : Addr) (H : Hp) : Xw φ H (φ ++ [p]) H := by
  refine ⟨fun n a h => ?_, fun _ _ h => h, fun _ _ _ h => h⟩
  rw [List.getElem?_append_left]
  · exact h
  · by_cases q : n < φ.length
    · exact q
    · rw [List.getElem?_eq_none (by omega)] at h
      cases h
theorem Xw.sqT {K : PySem.W.Frag} {φ φ' : List Addr} {H H' : Hp} (x : Xw φ H φ' H') {a : Addr} {vs : List V} (h : SqT K H a vs) : SqT K H' a vs := by
  rcases h with (h | ⟨o, h⟩) | h
  · exact .inl (.inl (x.tups _ _ h))
  · exact .inl (.inr ⟨o, x.frzs _ _ _ h⟩)
  · exact .inr h

mutual
theorem Den.mono {K : PySem.W.Frag} {φ φ' : List Addr} {H H' : Hp} (x : Xw φ H φ' H') : ∀ {d : D} {v : V}, Den K H φ d v → Den K H' φ' d v
  | _, _, .non => .non
  | _, _, .bl b => .bl b
  | _, _, .int i => .int i
  | _, _, .str z => .str z
  | _, _, .ty n => .ty n
  | _, _, .glo z => .glo z
  | _, _, .tup h hs => .tup (x.tups _ _ h) (Dens.mono x hs)
  | _, _, .frl h hs => .frl (h.imp (fun ⟨o, q⟩ => ⟨o, x.frzs _ _ _ q⟩) id) (Dens.mono x hs)
  | _, _, .ptr h => .ptr (x.sub _ _ h)
theorem Dens.mono {K : PySem.W.Frag} {φ φ' : List Addr} {H H' : Hp} (x : Xw φ H φ' H') : ∀ {ds : List D} {vs : List V}, Dens K H φ ds vs → Dens K H' φ' ds vs
  | _, _, .nil => .nil
  | _, _, .cons h t => .cons (Den.mono x h) (Dens.mono x t)
end
theorem Dens.length {K : PySem.W.Frag} {φ : List Addr} {H : Hp} : ∀ {ds : List D} {vs : List V}, Dens K H φ ds vs → ds.length = vs.length
  | _, _, .nil => rfl
  | _, _, .cons _ t => by simp [Dens.length t]
theorem Dens.get {K : PySem.W.Frag} {φ : List Addr} {H : Hp} : ∀ {ds : List D} {vs : List V}, Dens K H φ ds vs → ∀ {i : Nat} {d : D}, ds[i]? = some d → ∃ v, vs[i]? = some v ∧ Den K H φ d v
  | _, _, .nil, _, _, e => by simp at e
  | _, _, .cons h t, 0, d, e => by
    simp at e
    subst e
    exact ⟨_, rfl, h⟩
  | _, _, .cons h t, i + 1, d, e => by
    obtain ⟨v, h1, h2⟩ := Dens.get t (i := i) (d := d) (by simpa using e)
    exact ⟨v, by simpa using h1, h2⟩
theorem Dens.getV {K : PySem.W.Frag} {φ : List Addr} {H : Hp} : ∀ {ds : List D} {vs : List V}, Dens K H φ ds vs → ∀ {i : Nat} {v : V}, vs[i]? = some v → ∃ d, ds[i]? = some d ∧ Den K H φ d v
  | _, _, .nil, _, _, e => by simp at e
  | _, _, .cons h t, 0, d, e => by
    simp at e
    subst e
    exact ⟨_, rfl, h⟩
  | _, _, .cons h t, i + 1, d, e => by
    obtain ⟨v, h1, h2⟩ := Dens.getV t (i := i) (v := d) (by simpa using e)
    exact ⟨v, by simpa using h1, h2⟩
theorem Dens.append {K : PySem.W.Frag} {φ : List Addr} {H : Hp} : ∀ {ds es : List D} {vs ws : List V}, Dens K H φ ds vs → Dens K H φ es ws → Dens K H φ (ds ++ es) (vs ++ ws)
  | _, _, _, _, .nil, s => s
  | _, _, _, _, .cons h t, s => .cons h (Dens.append t s)
theorem Dens.take {K : PySem.W.Frag} {φ : List Addr} {H : Hp} : ∀ {ds : List D} {vs : List V} (n : Nat), Dens K H φ ds vs → Dens K H φ (ds.take n) (vs.take n)
  | _, _, 0, _ => by simpa using Dens.nil
  | _, _, n + 1, .nil => by simpa using Dens.nil
  | _, _, n + 1, .cons h t => by simpa using Dens.cons h (Dens.take n t)
theorem Dens.drop {K : PySem.W.Frag} {φ : List Addr} {H : Hp} : ∀ {ds : List D} {vs : List V} (n : Nat), Dens K H φ ds vs → Dens K H φ (ds.drop n) (vs.drop n)
  | _, _, 0, h => by simpa using h
  | _, _, n + 1, .nil => by simpa using Dens.nil
  | _, _, n + 1, .cons h t => by simpa using Dens.drop n t
theorem Dens.set {K : PySem.W.Frag} {φ : List Addr} {H : Hp} : ∀ {ds : List D} {vs : List V} (n : Nat) {d : D} {v : V}, Dens K H φ ds vs → Den K H φ d v → Dens K H φ (ds.set n d) (vs.set n v)
  | _, _, _, _, _, .nil, _ => by simpa using Dens.nil
  | _, _, 0, _, _, .cons h t, q => by simpa using Dens.cons q t
  | _, _, n + 1, _, _, .cons h t, q => by simpa using Dens.cons h (Dens.set n t q)
theorem Dens.reverse {K : PySem.W.Frag} {φ : List Addr} {H : Hp} : ∀ {ds : List D} {vs : List V}, Dens K H φ ds vs → Dens K H φ ds.reverse vs.reverse
  | _, _, .nil => by simpa using Dens.nil
  | _, _, .cons h t => by
    simp only [List.reverse_cons]
    exact (Dens.reverse t).append (.cons h .nil)

/-- the fields of an instance, in their order -/
def DFs (K : PySem.W.Frag) (H : Hp) (φ : List Addr) (fs : List (Str × D)) (gs : List (Str × V)) : Prop := fs.map (·.1) = gs.map (·.1) ∧ Dens K H φ (fs.map (·.2)) (gs.map (·.2))
theorem DFs.mono {K : PySem.W.Frag} {φ φ' : List Addr} {H H' : Hp} (x : Xw φ H φ' H') {fs gs} (h : DFs K H φ fs gs) : DFs K H' φ' fs gs := ⟨h.1, h.2.mono x⟩
/-- entries -/
inductive DKs {κ : Type} (mk : κ → DK) (K : PySem.W.Frag) (H : Hp) (φ : List Addr) : List (DK × D) → List (κ × V) → Prop where
  | nil : DKs mk K H φ [] []
  | cons {k : κ} {d : D} {v : V} {l : List (DK × D)} {m : List (κ × V)} (h : Den K H φ d v) (t : DKs mk K H φ l m) : DKs mk K H φ ((mk k, d) :: l) ((k, v) :: m)
theorem DKs.mono {κ : Type} {mk : κ → DK} {K : PySem.W.Frag} {φ φ' : List Addr} {H H' : Hp} (x : Xw φ H φ' H') : ∀ {l m}, DKs mk K H φ l m → DKs mk K H' φ' l m
  | _, _, .nil => .nil
  | _, _, .cons h t => .cons (h.mono x) (DKs.mono x t)

/-- the object at a is what the store says -/
def ObjR (c : Cf) (H : Hp) (φ : List Addr) (a : Addr) : O → Prop
  | .lst ds => ∃ vs, H a = some (.lst vs) ∧ Dens c.K H φ ds vs
  | .dic false kvs => ∃ m, H a = some (.dK m) ∧ DKs DK.k c.K H φ kvs m
  | .dic true kvs => ∃ m, H a = some (.dT m) ∧ DKs DK.t c.K H φ kvs m
  | .ins x fs => ∃ dx gs, H a = some (.ins (He.ga c.K x) dx gs) ∧ DFs c.K H φ fs gs ∧ x ∈ c.U
  | .exc x fs => ∃ (d : Addr) (gs : List (Str × V)) (φo : Heap → Prop), H a = some (.ext φo) ∧ H d = some (.xd gs) ∧ d ∉ φ ∧ DFs c.K H φ fs gs ∧
      (∀ h, φo h → ∃ oe vs, h.get? a = some oe ∧ oe.cls = .ref (He.ga c.K x) ∧ oe.dict = some d ∧ oe.data = .fields vs) ∧ x ∈ c.V
  | .fn => ∃ φo, H a = some (.ext φo) ∧ ∀ h, φo h → ∃ oe fd, h.get? a = some oe ∧ oe.cls = .type "function" ∧ oe.data = .func fd

structure SR (c : Cf) (H : Hp) (φ : List Addr) (S : Store) : Prop where
  len : φ.length = S.length
  nd : φ.Nodup
  ob : ∀ (n : Nat) (a : Addr) (o : O), φ[n]? = some a → S[n]? = some o → ObjR c H φ a o
  tb : LamX.Tabs c.T H
/-- the slots -/
structure LR (K : PySem.W.Frag) (H : Hp) (φ : List Addr) (ρ : Rho) (σ : L2.St) : Prop where
  len : ρ.length = σ.length
  at_ : ∀ (i : Nat) (d : D), ρ[i]? = some (some d) → ∃ v, σ[i]? = some (some v) ∧ Den K H φ d v
theorem LR.mono {K : PySem.W.Frag} {φ φ' : List Addr} {H H' : Hp} (x : Xw φ H φ' H') {ρ : Rho} {σ : L2.St} (h : LR K H φ ρ σ) : LR K H' φ' ρ σ :=
  ⟨h.len, fun i d e => let ⟨v, h1, h2⟩ := h.at_ i d e; ⟨v, h1, h2.mono x⟩⟩
theorem LR.set {K : PySem.W.Frag} {φ : List Addr} {H : Hp} {ρ : Rho} {σ : L2.St} (h : LR K H φ ρ σ) (i : Nat) {d : D} {v : V} (q : Den K H φ d v) : LR K H φ (ρ.set i (some d)) (σ.set i (some v)) := by
  refine ⟨by simp [h.len], fun j e hj => ?_⟩
  by_cases hij : i = j
  · subst hij
    by_cases hl : i < ρ.length
    · rw [List.getElem?_set_self hl] at hj
      injection hj with hj
      injection hj with hj
      subst hj
      exact ⟨v, List.getElem?_set_self (by rw [← h.len]; exact hl), q⟩
    · rw [List.getElem?_eq_none (by simp; omega)] at hj
      cases hj
  · rw [List.getElem?_set_ne hij] at hj
    obtain ⟨w, h1, h2⟩ := h.at_ j e hj
    exact ⟨w, by rw [List.getElem?_set_ne hij]; exact h1, h2⟩
theorem LR.clear {K : PySem.W.Frag} {φ : List Addr} {H : Hp} {ρ : Rho} {σ : L2.St} (h : LR K H φ ρ σ) (i : Nat) : LR K H φ (ρ.set i none) (σ.set i none) := by
  refine ⟨by simp [h.len], fun j e hj => ?_⟩
  by_cases hij : i = j
  · subst hij
    by_cases hl : i < ρ.length
    · rw [List.getElem?_set_self hl] at hj
      cases hj
    · rw [List.getElem?_eq_none (by simp; omega)] at hj
      cases hj
  · rw [List.getElem?_set_ne hij] at hj
    obtain ⟨w, h1, h2⟩ := h.at_ j e hj
    exact ⟨w, by rw [List.getElem?_set_ne hij]; exact h1, h2⟩
theorem LR.wipe {K : PySem.W.Frag} {φ : List Addr} {H : Hp} {ρ : Rho} {σ : L2.St} (h : LR K H φ ρ σ) : ∀ vs : List Nat, LR K H φ (NM.wipe ρ vs) (L2.wipe σ vs)
  | [] => h
  | v :: vs => (LR.wipe h vs).clear v

/-- a class's exception with its own dict -/
def XR (K : PySem.W.Frag) (H : Hp) (φ : List Addr) (c : Str) (fs : List (Str × D)) (cls : Value) (dd : Option Addr) : Prop :=
  cls = .ref (He.ga K c) ∧ ∃ d gs, dd = some d ∧ H d = some (.xd gs) ∧ d ∉ φ ∧ DFs K H φ fs gs

/-- what is wanted behind, by what the plain side tells -/
def Po {α : Type} (c : Cf) (E : XK) (φ : List Addr) (H : Hp) (r : R α) (Z : α → Store → List Addr → Hp → Prop) : Prop := match r with
  | .ok a S => ∀ φ' H', Xt φ H φ' H' → SR c H' φ' S → Z a S φ' H'
  | .exc x fs S => ∀ φ' H', Xt φ H φ' H' → SR c H' φ' S → ∀ cls dd, XR c.K H' φ' x fs cls dd → E cls dd H'
  | .stuck => False
section
variable {α β : Type} {c : Cf} {E : XK} {φ φ1 : List Addr} {H H1 : Hp}
theorem Po.later {r : R α} {Z : α → Store → List Addr → Hp → Prop} (h : Po c E φ H r Z) (x : Xt φ H φ1 H1) : Po c E φ1 H1 r Z := by
  cases r with
  | ok d S => exact fun φ' H' y => h φ' H' (x.trans y)
  | exc n fs S => exact fun φ' H' y => h φ' H' (x.trans y)
  | stuck => exact h
theorem Po.imp {r : R α} {Z Z' : α → Store → List Addr → Hp → Prop} (h : Po c E φ H r Z) (q : ∀ a S φ' H', r = .ok a S → Xt φ H φ' H' → SR c H' φ' S → Z a S φ' H' → Z' a S φ' H') : Po c E φ H r Z' := by
  cases r with
  | ok d S => exact fun φ' H' y s => q _ _ _ _ rfl y s (h φ' H' y s)
  | exc n fs S => exact h
  | stuck => exact h
theorem Po.bind {r : R α} {k : α → Store → R β} {Z : β → Store → List Addr → Hp → Prop} (h : Po c E φ H (r.bind k) Z) : Po c E φ H r fun a S φ' H' => Po c E φ' H' (k a S) Z := by
  cases r with
  | ok d S => exact fun φ' H' y s => Po.later (r := k d S) h y
  | exc n fs S => exact h
  | stuck => exact h
theorem Po.now {a : α} {S : Store} {Z : α → Store → List Addr → Hp → Prop} (h : Po c E φ H (.ok a S) Z) (s : SR c H φ S) : Z a S φ H := h φ H (Xt.refl φ H) s
end
abbrev ZE (c : Cf) (Q : VK) : D → Store → List Addr → Hp → Prop := fun d _ φ' H' => ∀ v, Den c.K H' φ' d v → Q v H'
abbrev ZA (c : Cf) (Q : List V → Hp → Prop) : List D → Store → List Addr → Hp → Prop := fun ds _ φ' H' => ∀ vs, Dens c.K H' φ' ds vs → Q vs H'
/-- a list that nobody holds -/
abbrev ZL (c : Cf) (H : Hp) (Q : VK) : List D → Store → List Addr → Hp → Prop := fun ds _ φ' H' => ∀ p vs, H p = none → p ∉ φ' → H' p = some (.lst vs) → Dens c.K H' φ' ds vs → Q (.ref p) H'
abbrev ZT (Q : Bool → Hp → Prop) : Bool → Store → List Addr → Hp → Prop := fun b _ _ H' => Q b H'
abbrev ZG (c : Cf) (Q : L2.St → Hp → Prop) : Rho → Store → List Addr → Hp → Prop := fun ρ _ φ' H' => ∀ σ', LR c.K H' φ' ρ σ' → Q σ' H'
def ZS (c : Cf) (D : Ends) : Fl → Store → List Addr → Hp → Prop
  | .next ρ, S, φ', H' => ZG c D.nx ρ S φ' H'
  | .ret d, S, φ', H' => ZE c D.rt d S φ' H'
  | .brk ρ, S, φ', H' => ZG c D.bk ρ S φ' H'
  | .cont ρ, S, φ', H' => ZG c D.ct ρ S φ' H'
/-- where the plain side stands -/
structure At (c : Cf) (σ : L2.St) (H : Hp) (φ : List Addr) (ρ : Rho) (S : Store) : Prop where
  s : SR c H φ S
  l : LR c.K H φ ρ σ
def tE (c : Cf) (E : XK) (f : Ex) : TE := fun σ H Q => ∃ φ ρ S, At c σ H φ ρ S ∧ Po c E φ H (f ρ S) (ZE c Q)
def tA (c : Cf) (E : XK) (f : Exs) : TA := fun σ H Q => ∃ φ ρ S, At c σ H φ ρ S ∧ Po c E φ H (f ρ S) (ZA c Q)
def tL (c : Cf) (E : XK) (f : Exs) : TE := fun σ H Q => ∃ φ ρ S, At c σ H φ ρ S ∧ Po c E φ H (f ρ S) (ZL c H Q)
def tT (c : Cf) (E : XK) (f : Tx) : TT := fun σ H Q => ∃ φ ρ S, At c σ H φ ρ S ∧ Po c E φ H (f ρ S) (ZT Q)
def tS (c : Cf) (E : XK) (f : Sx) : TS := fun D σ H => ∃ φ ρ S, At c σ H φ ρ S ∧ Po c E φ H (f ρ S) (ZS c D)
def tG (c : Cf) (E : XK) (g : Tg) : TG := fun v σ H Q => ∃ φ ρ S d, At c σ H φ ρ S ∧ Den c.K H φ d v ∧ Po c E φ H (g d ρ S) (ZG c Q)
/-- what a def promises -/
def spM (c : Cf) (m : List D → Store → R D) : Sp := fun vs H Q E => ∃ φ ds S, SR c H φ S ∧ Dens c.K H φ ds vs ∧ Po c E φ H (m ds S) (ZE c Q)
theorem At.later {c : Cf} {φ φ1 : List Addr} {H H1 : Hp} {σ : L2.St} {ρ : Rho} {S S' : Store} (a : At c σ H φ ρ S) (x : Xt φ H φ1 H1) (s : SR c H1 φ1 S') : At c σ H1 φ1 ρ S' := ⟨s, a.l.mono x.w⟩
/-- PE with a reading that asks more -/
theorem askE {X : Cx} {e : Expr} {t t' : TE} (h : PE X e t) (q : ∀ σ H Q, t' σ H Q → t σ H Q) : PE X e t' := ⟨fun pins s σ H Q I hw => h.run pins s σ H Q I (q _ _ _ hw)⟩
theorem askT {X : Cx} {e : Expr} {t t' : TT} (h : PT X e t) (q : ∀ σ H Q, t' σ H Q → t σ H Q) : PT X e t' := ⟨fun pins s σ H Q I hw => h.run pins s σ H Q I (q _ _ _ hw)⟩
theorem askA {X : Cx} {e : List Expr} {t t' : TA} (h : PA X e t) (q : ∀ σ H Q, t' σ H Q → t σ H Q) : PA X e t' := ⟨fun pos pins s σ H Q I hw => h.run pos pins s σ H Q I (q _ _ _ hw)⟩
theorem askS {X : Cx} {e : Stmt} {t t' : TS} (h : PS X e t) (q : ∀ D σ H, t' D σ H → t D σ H) : PS X e t' := ⟨fun pins s σ H D I hw => h.run pins s σ H D I (q _ _ _ hw)⟩
theorem askB {X : Cx} {e : List Stmt} {t t' : TS} (h : PSs X e t) (q : ∀ D σ H, t' D σ H → t D σ H) : PSs X e t' := ⟨fun pins s σ H D I hw => h.run pins s σ H D I (q _ _ _ hw)⟩
theorem askG {X : Cx} {e : Expr} {t t' : TG} (h : PG X e t) (q : ∀ v σ H Q, t' v σ H Q → t v σ H Q) : PG X e t' := ⟨fun pins s σ H v u Q I r hw => h.run pins s σ H v u Q I r (q _ _ _ _ hw)⟩

abbrev SE (X : Cx) (c : Cf) (E : XK) (e : Expr) (f : Ex) : Prop := PE X e (tE c E f)
abbrev SL (X : Cx) (c : Cf) (E : XK) (e : Expr) (f : Exs) : Prop := PE X e (tL c E f)
abbrev SA (X : Cx) (c : Cf) (E : XK) (es : List Expr) (f : Exs) : Prop := PA X es (tA c E f)
abbrev ST (X : Cx) (c : Cf) (E : XK) (e : Expr) (f : Tx) : Prop := PT X e (tT c E f)
abbrev SW (X : Cx) (c : Cf) (E : XK) (e : Expr) (f : Tx) : Prop := PW X e (tT c E f)
abbrev SS (X : Cx) (c : Cf) (E : XK) (st : Stmt) (f : Sx) : Prop := PS X st (tS c E f)
abbrev SB (X : Cx) (c : Cf) (E : XK) (st : List Stmt) (f : Sx) : Prop := PSs X st (tS c E f)
abbrev SG (X : Cx) (c : Cf) (E : XK) (t : Expr) (g : Tg) : Prop := PG X t (tG c E g)
end NM

set_option linter.all false
set_option maxRecDepth 100000
set_option maxHeartbeats 2000000
/-! Rules: expressions and statements. -/
namespace NM
open PySem PySem.Spec PyProof.Rows L2
section
variable {X : Cx} {c : Cf} {E : XK} {e a b : Expr} {es : List Expr} {f g h : Ex} {fs : Exs} {pos : Pos} {t u : Tx}

/-! ### names, constants -/
theorem se_var {i : Nat} (h : PE X e (tVar i)) : SE X c E e (eVar i) := askE h fun σ H Q ⟨φ, ρ, S, a, p⟩ => by
  unfold eVar at p
  split at p
  · rename_i d hd
    obtain ⟨v, hv, dv⟩ := a.l.at_ i d hd
    exact ⟨v, hv, p.now a.s v dv⟩
  · exact p.elim
theorem se_c {v : V} {d : D} (h : PE X e (tC v)) (hd : ∀ K H φ, Den K H φ d v) : SE X c E e (eC d) := askE h fun σ H Q ⟨φ, ρ, S, a, p⟩ => (show Po c E φ H (.ok d S) (ZE c Q) from p).now a.s v (hd _ _ _)
theorem se_int {i j} : SE X c E (.Constant (.int i) j pos) (eC (.int i)) := se_c pe_int fun _ _ _ => .int i
theorem se_bl {i j} : SE X c E (.Constant (.bool i) j pos) (eC (.bl i)) := se_c pe_bl fun _ _ _ => .bl i
theorem se_str {i j} : SE X c E (.Constant (.str i) j pos) (eC (.str i)) := se_c pe_str fun _ _ _ => .str i
theorem se_non {j} : SE X c E (.Constant .none j pos) (eC .non) := se_c pe_non fun _ _ _ => .non
/-- a module's number, text -/
theorem se_gint {x : Str} {i : Int} (hg : Gl X x) (hm : ∃ t, X.mg x = some (.int i t)) (hd : (x == ("__debug__" : Str)) = false := by decide) : SE X c E (.Name x pos) (eC (.int i)) := by
  obtain ⟨t, hm⟩ := hm
  exact se_c (pe_glob (v := .int i) hg hm ⟨t, rfl⟩ hd) fun _ _ _ => .int i
theorem se_gstr {x z : Str} (hg : Gl X x) (hm : ∃ t, X.mg x = some (.str z t)) (hd : (x == ("__debug__" : Str)) = false := by decide) : SE X c E (.Name x pos) (eC (.str z)) := by
  obtain ⟨t, hm⟩ := hm
  exact se_c (pe_glob (v := .str z) hg hm ⟨t, rfl⟩ hd) fun _ _ _ => .str z
/-- a built-in type as a value -/
theorem se_ty {x : Str} {n : String} (hg : Gl X x) (hm : X.mg x = none) (hv : bootBuiltins x = some (.type n)) (hn : x ≠ "__name__" := by decide) (hd : (x == ("__debug__" : Str)) = false := by decide) : SE X c E (.Name x pos) (eC (.ty n)) :=
  se_c (pe_bltn (v := .ty n) hg hm hv rfl hn hd) fun _ _ _ => .ty n
/-- a module's class, a def -/
theorem se_glo {x : Str} (hg : Gl X x) (hm : X.mg x = some (.ref (He.ga c.K x))) (hd : (x == ("__debug__" : Str)) = false := by decide) : SE X c E (.Name x pos) (eC (.glo x)) :=
  askE (pe_glob (v := .ref (He.ga c.K x)) hg hm rfl hd) fun σ H Q ⟨φ, ρ, S, a, p⟩ => (show Po c E φ H (.ok (.glo x) S) (ZE c Q) from p).now a.s _ (.glo x)

/-! ### operators -/
/-- a two-place operation: what it is on data, what the layer asks -/
def Re2 (c : Cf) (E : XK) (o : D → D → Store → R D) (r : R2) : Prop := ∀ φ H S x y v w Q, SR c H φ S → Den c.K H φ x v → Den c.K H φ y w → Po c E φ H (o x y S) (ZE c Q) → r v w H Q
def Re1 (c : Cf) (E : XK) (o : D → Store → R D) (r : V → Hp → VK → Prop) : Prop := ∀ φ H S x v Q, SR c H φ S → Den c.K H φ x v → Po c E φ H (o x S) (ZE c Q) → r v H Q
def ReN (c : Cf) (E : XK) (o : List D → Store → R D) (r : List V → Hp → VK → Prop) : Prop := ∀ φ H S xs vs Q, SR c H φ S → Dens c.K H φ xs vs → Po c E φ H (o xs S) (ZE c Q) → r vs H Q
theorem bin2 {o : D → D → Store → R D} {r : R2} (hr : Re2 c E o r) (σ : L2.St) (H : Hp) (Q : VK) (h : tE c E (e2 o f g) σ H Q) : tOp r (tE c E f) (tE c E g) σ H Q := by
  obtain ⟨φ, ρ, S, a, p⟩ := h
  have p : Po c E φ H ((f ρ S).bind fun x S1 => (g ρ S1).bind fun y S2 => o x y S2) (ZE c Q) := p
  exact ⟨φ, ρ, S, a, p.bind.imp fun x S1 φ1 H1 _ x1 s1 p1 v dv => ⟨φ1, ρ, S1, a.later x1 s1, p1.bind.imp fun y S2 φ2 H2 _ x2 s2 p2 w dw => hr φ2 H2 S2 x y v w Q s2 (dv.mono x2.w) dw p2⟩⟩
theorem se_op {op : Operator} {o : D → D → Store → R D} {r : R2} (ho : OpR X (binaryOp op) r) (hr : Re2 c E o r) (ha : SE X c E a f) (hb : SE X c E b g) : SE X c E (.BinOp a op b pos) (e2 o f g) := askE (pe_op ho ha hb) (bin2 hr)
theorem se_cmp {op : CmpOp} {o : D → D → Store → R D} {r : R2} (ho : OpR X (compareOp op) r) (hr : Re2 c E o r) (ha : SE X c E a f) (hb : SE X c E b g) (hm : behindInMarks op b = false := by rfl) : SE X c E (.Compare a [op] [b] pos) (e2 o f g) :=
  askE (pe_cmpR ho ha hb hm) (bin2 hr)
theorem st_of {f : Ex} (σ : L2.St) (H : Hp) (Q : Bool → Hp → Prop) (h : tT c E (tVal f) σ H Q) : tE c E f σ H fun x H1 => ∃ k, x = .bl k ∧ Q k H1 := by
  obtain ⟨φ, ρ, S, a, p⟩ := h
  have p : Po c E φ H ((f ρ S).bind fun x S1 => match x with | .bl b => .ok b S1 | _ => .stuck) (ZT Q) := p
  refine ⟨φ, ρ, S, a, p.bind.imp fun x S1 φ1 H1 _ x1 s1 p1 v dv => ?_⟩
  cases dv with
  | bl k => exact ⟨k, rfl, p1.now s1⟩
  | _ => exact p1.elim
/-- a test that gives True or False -/
theorem st_val (h : SE X c E e f) (he : ∀ whole, isTrue e X.env whole = (do let v ← whole; standAt e.pos; holding [v] (truthy v)) := by intro _; rfl) : ST X c E e (tVal f) := askT (pt_val h he) fun σ H Q => st_of σ H Q
theorem st_cmp {op : CmpOp} {o : D → D → Store → R D} {r : R2} (ho : OpR X (compareOp op) r) (hr : Re2 c E o r) (ha : SE X c E a f) (hb : SE X c E b g) (hm : behindInMarks op b = false := by rfl) : ST X c E (.Compare a [op] [b] pos) (tVal (e2 o f g)) :=
  askT (pt_cmpR ho ha hb hm) fun σ H Q h => bin2 hr σ H _ (st_of σ H Q h)
theorem st_not (h : ST X c E e t) : ST X c E (.UnaryOp .Not e pos) (tNot t) := askT (pt_not h) fun σ H Q ⟨φ, ρ, S, a, p⟩ => by
  have p : Po c E φ H ((t ρ S).bind fun b S1 => .ok (!b) S1) (ZT Q) := p
  exact ⟨φ, ρ, S, a, p.bind.imp fun b S1 φ1 H1 _ x1 s1 p1 => p1.now s1⟩
theorem askW {X : Cx} {e : Expr} {t t' : TT} (h : PW X e t) (q : ∀ σ H Q, t' σ H Q → t σ H Q) : PW X e t' := ⟨fun wh pins s σ H Q I hw => h.run wh pins s σ H Q I (q _ _ _ hw)⟩
theorem sw_and1 (h : ST X c E a t) : SW X c E (.BoolOp .And [a] pos) t := pw_and1 h
theorem sw_or1 (h : ST X c E a t) : SW X c E (.BoolOp .Or [a] pos) t := pw_or1 h
theorem sw_and (h1 : ST X c E a t) (h2 : SW X c E (.BoolOp .And (b :: es) pos) u) : SW X c E (.BoolOp .And (a :: b :: es) pos) (tAnd t u) := askW (pw_and h1 h2) fun σ H Q ⟨φ, ρ, S, a, p⟩ => by
  have p : Po c E φ H ((t ρ S).bind fun b S1 => if b = true then u ρ S1 else .ok false S1) (ZT Q) := p
  refine ⟨φ, ρ, S, a, p.bind.imp fun b S1 φ1 H1 _ x1 s1 p1 => ?_⟩
  cases b with
  | true => exact ⟨φ1, ρ, S1, a.later x1 s1, p1⟩
  | false => exact Po.now (a := false) (E := E) p1 s1
theorem sw_or (h1 : ST X c E a t) (h2 : SW X c E (.BoolOp .Or (b :: es) pos) u) : SW X c E (.BoolOp .Or (a :: b :: es) pos) (tOr t u) := askW (pw_or h1 h2) fun σ H Q ⟨φ, ρ, S, a, p⟩ => by
  have p : Po c E φ H ((t ρ S).bind fun b S1 => if b = true then .ok true S1 else u ρ S1) (ZT Q) := p
  refine ⟨φ, ρ, S, a, p.bind.imp fun b S1 φ1 H1 _ x1 s1 p1 => ?_⟩
  cases b with
  | true => exact Po.now (a := true) (E := E) p1 s1
  | false => exact ⟨φ1, ρ, S1, a.later x1 s1, p1⟩
theorem st_w (h : SW X c E e t) : ST X c E e t := h.pt
theorem se_one {op} (h : SE X c E a f) : SE X c E (.BoolOp op [a] pos) f := pe_one h
theorem se_and (ha : SE X c E a f) (hb : SE X c E (.BoolOp .And (b :: es) pos) g) : SE X c E (.BoolOp .And (a :: b :: es) pos) (vAnd f g) := askE (pe_and ha hb) fun σ H Q ⟨φ, ρ, S, a, p⟩ => by
  refine ⟨φ, ρ, S, a, (Po.bind (r := f ρ S) p).imp fun x S1 φ1 H1 _ x1 s1 p1 v dv => ?_⟩
  cases dv with
  | bl k => cases k with
    | true => exact ⟨true, rfl, iteT ⟨φ1, ρ, S1, a.later x1 s1, p1⟩⟩
    | false => exact ⟨false, rfl, iteF (Po.now (a := D.bl false) p1 s1 _ (.bl false))⟩
  | _ => exact p1.elim
theorem se_or (ha : SE X c E a f) (hb : SE X c E (.BoolOp .Or (b :: es) pos) g) : SE X c E (.BoolOp .Or (a :: b :: es) pos) (vOr f g) := askE (pe_or ha hb) fun σ H Q ⟨φ, ρ, S, a, p⟩ => by
  refine ⟨φ, ρ, S, a, (Po.bind (r := f ρ S) p).imp fun x S1 φ1 H1 _ x1 s1 p1 v dv => ?_⟩
  cases dv with
  | bl k => cases k with
    | true => exact ⟨true, rfl, iteT (Po.now (a := D.bl true) p1 s1 _ (.bl true))⟩
    | false => exact ⟨false, rfl, iteF ⟨φ1, ρ, S1, a.later x1 s1, p1⟩⟩
  | _ => exact p1.elim
theorem se_not (ha : SE X c E a f) : SE X c E (.UnaryOp .Not a pos) (vNot f) := askE (pe_not ha) fun σ H Q ⟨φ, ρ, S, a, p⟩ => by
  refine ⟨φ, ρ, S, a, (Po.bind (r := f ρ S) p).imp fun x S1 φ1 H1 _ x1 s1 p1 v dv => ?_⟩
  cases dv with
  | bl k => exact ⟨k, rfl, Po.now (a := D.bl (!k)) p1 s1 _ (.bl _)⟩
  | _ => exact p1.elim
theorem se_if (ht : ST X c E e t) (ha : SE X c E a f) (hb : SE X c E b g) : SE X c E (.IfExp e a b pos) (eIf t f g) := askE (pe_ifExp ht ha hb) fun σ H Q ⟨φ, ρ, S, a, p⟩ => by
  refine ⟨φ, ρ, S, a, (Po.bind (r := t ρ S) p).imp fun k S1 φ1 H1 _ x1 s1 p1 => ?_⟩
  cases k with
  | true => exact iteT ⟨φ1, ρ, S1, a.later x1 s1, p1⟩
  | false => exact iteF ⟨φ1, ρ, S1, a.later x1 s1, p1⟩
theorem se_un {op : UnaryOp} {o : D → Store → R D} {r : V → Hp → VK → Prop} (ho : UnR X (unaryOp op) r) (hr : Re1 c E o r) (ha : SE X c E a f) : SE X c E (.UnaryOp op a pos) (e1 o f) := askE (pe_un ho ha) fun σ H Q ⟨φ, ρ, S, a, p⟩ =>
  ⟨φ, ρ, S, a, (Po.bind (r := f ρ S) p).imp fun x S1 φ1 H1 _ x1 s1 p1 v dv => hr φ1 H1 S1 x v Q s1 dv p1⟩

/-! ### argument lists, displays, calls of built-ins -/
theorem sa_nil : SA X c E [] eNil := askA pa_nil fun σ H Q ⟨φ, ρ, S, a, p⟩ => Po.now (a := []) p a.s [] .nil
theorem sa_cons (ha : SE X c E e f) (hr : SA X c E es fs) (hs : starEach (e :: es) X.env = (false, eval e X.env) :: starEach es X.env := by rfl) : SA X c E (e :: es) (eCons f fs) := askA (pa_cons ha hr hs) fun σ H Q ⟨φ, ρ, S, a, p⟩ =>
  ⟨φ, ρ, S, a, (Po.bind (r := f ρ S) p).imp fun x S1 φ1 H1 _ x1 s1 p1 v dv => ⟨φ1, ρ, S1, a.later x1 s1, (Po.bind (r := fs ρ S1) p1).imp fun xs S2 φ2 H2 _ x2 s2 p2 vs dvs => Po.now (a := x :: xs) p2 s2 (v :: vs) (.cons (dv.mono x2.w) dvs)⟩⟩
/-- a list's size is within the line -/
theorem SR.new {H : Hp} {φ : List Addr} {S : Store} (s : SR c H φ S) {p : Addr} {o : HO} (hp : H p = none) (ho : ∀ ps, o ≠ .tbl ps) : SR c (upd H p o) φ S ∧ Xt φ H φ (upd H p o) ∧ p ∉ φ := by
  have x : Xt φ H φ (upd H p o) := ⟨⟨[], by simp, by simp⟩, fun a u h _ _ => by rw [upd_ne (ne_of_none h hp)]; exact h, fun a xs h => by rw [upd_ne (ne_of_none h hp)]; exact h, fun a q u h => by rw [upd_ne (ne_of_none h hp)]; exact h, fun a h => by
    by_cases q : a = p
    · rw [q]; exact hp
    · rw [upd_ne q] at h; exact h⟩
  have live : ∀ {n a o'}, φ[n]? = some a → S[n]? = some o' → H a ≠ none := fun {n a o'} h1 h2 z => by
    have q := s.ob n a o' h1 h2
    cases o' with
    | lst ds => obtain ⟨vs, q, _⟩ := q; rw [z] at q; cases q
    | dic b kvs => cases b <;> (obtain ⟨m, q, _⟩ := q; rw [z] at q; cases q)
    | ins n fs => obtain ⟨_, _, q, _⟩ := q; rw [z] at q; cases q
    | exc n fs => obtain ⟨_, _, _, q, _⟩ := q; rw [z] at q; cases q
    | fn => obtain ⟨_, q, _⟩ := q; rw [z] at q; cases q
  have np : p ∉ φ := fun hm => by
    obtain ⟨n, hn, e⟩ := List.getElem_of_mem hm
    have h1 : φ[n]? = some p := by rw [List.getElem?_eq_getElem hn, e]
    have h2 : n < S.length := by rw [← s.len]; exact hn
    exact live h1 (List.getElem?_eq_getElem h2) hp
  refine ⟨⟨s.len, s.nd, fun n a o' h1 h2 => ?_, s.tb.ext fun b u h => by rw [upd_ne (ne_of_none h hp)]; exact h⟩, x, np⟩
  have q := s.ob n a o' h1 h2
  have ne : ∀ {b u}, H b = some u → upd H p o b = some u := fun {b u} h => by rw [upd_ne (ne_of_none h hp)]; exact h
  cases o' with
  | lst ds => obtain ⟨vs, q1, q2⟩ := q; exact ⟨vs, ne q1, q2.mono x.w⟩
  | dic b kvs => cases b <;> (obtain ⟨m, q1, q2⟩ := q; exact ⟨m, ne q1, q2.mono x.w⟩)
  | ins n fs => obtain ⟨dx, gs, q1, q2, q3⟩ := q; exact ⟨dx, gs, ne q1, q2.mono x.w, q3⟩
  | exc n fs => obtain ⟨d, gs, φo, q1, q2, q3, q4, q5⟩ := q; exact ⟨d, gs, φo, ne q1, ne q2, q3, q4.mono x.w, q5⟩
  | fn => obtain ⟨φo, q1, q2⟩ := q; exact ⟨φo, ne q1, q2⟩
theorem ObjR.mono {φ φ' : List Addr} {H H' : Hp} (x : Xw φ H φ' H') {a : Addr} (ha : ∀ u, H a = some u → H' a = some u) (hd : ∀ d gs, H d = some (.xd gs) → d ∉ φ → H' d = some (.xd gs) ∧ d ∉ φ') : ∀ {o : O}, ObjR c H φ a o → ObjR c H' φ' a o
  | .lst ds, ⟨vs, q1, q2⟩ => ⟨vs, ha _ q1, q2.mono x⟩
  | .dic false kvs, ⟨m, q1, q2⟩ => ⟨m, ha _ q1, q2.mono x⟩
  | .dic true kvs, ⟨m, q1, q2⟩ => ⟨m, ha _ q1, q2.mono x⟩
  | .ins n fs, ⟨dx, gs, q1, q2, q3⟩ => ⟨dx, gs, ha _ q1, q2.mono x, q3⟩
  | .exc n fs, ⟨d, gs, φo, q1, q2, q3, q4, q5⟩ => ⟨d, gs, φo, ha _ q1, (hd d gs q2 q3).1, (hd d gs q2 q3).2, q4.mono x, q5⟩
  | .fn, ⟨φo, q1, q2⟩ => ⟨φo, ha _ q1, q2⟩
theorem ObjR.some {φ : List Addr} {H : Hp} {a : Addr} : ∀ {o : O}, ObjR c H φ a o → ∃ u, H a = some u ∧ (∀ gs, u ≠ .xd gs) ∧ (∀ xs, u ≠ .tup xs) ∧ (∀ o v, u ≠ .frz o v) ∧ Mut (some u)
  | .lst ds, ⟨vs, q1, q2⟩ => ⟨_, q1, (fun _ z => nomatch z), (fun _ z => nomatch z), (fun _ _ z => nomatch z), True.intro⟩
  | .dic false kvs, ⟨m, q1, q2⟩ => ⟨_, q1, (fun _ z => nomatch z), (fun _ z => nomatch z), (fun _ _ z => nomatch z), True.intro⟩
  | .dic true kvs, ⟨m, q1, q2⟩ => ⟨_, q1, (fun _ z => nomatch z), (fun _ z => nomatch z), (fun _ _ z => nomatch z), True.intro⟩
  | .ins n fs, ⟨dx, gs, q1, q2⟩ => ⟨_, q1, (fun _ z => nomatch z), (fun _ z => nomatch z), (fun _ _ z => nomatch z), True.intro⟩
  | .exc n fs, ⟨d, gs, φo, q1, q2, q3, q4, q5⟩ => ⟨_, q1, (fun _ z => nomatch z), (fun _ z => nomatch z), (fun _ _ z => nomatch z), True.intro⟩
  | .fn, ⟨φo, q1, q2⟩ => ⟨_, q1, (fun _ z => nomatch z), (fun _ z => nomatch z), (fun _ _ z => nomatch z), True.intro⟩
theorem SR.at_ {H : Hp} {φ : List Addr} {S : Store} (s : SR c H φ S) {n : Nat} {o : O} (h : S[n]? = some o) : ∃ (a : Addr), φ[n]? = some a ∧ ObjR c H φ a o := by
  have hl : n < φ.length := by
    rw [s.len]
    by_cases q : n < S.length
    · exact q
    · rw [List.getElem?_eq_none (by omega)] at h; cases h
  exact ⟨_, List.getElem?_eq_getElem hl, s.ob n _ o (List.getElem?_eq_getElem hl) h⟩
theorem SR.in_ {H : Hp} {φ : List Addr} {S : Store} (s : SR c H φ S) {a : Addr} (h : a ∈ φ) : ∃ (n : Nat) (o : O), φ[n]? = some a ∧ S[n]? = some o ∧ ObjR c H φ a o := by
  obtain ⟨n, hn, e⟩ := List.getElem_of_mem h
  have h1 : φ[n]? = some a := by rw [List.getElem?_eq_getElem hn, e]
  have h2 : n < S.length := by rw [← s.len]; exact hn
  exact ⟨n, _, h1, List.getElem?_eq_getElem h2, s.ob n a _ h1 (List.getElem?_eq_getElem h2)⟩
/-- an object that nobody holds gets a place -/
theorem SR.place {H : Hp} {φ : List Addr} {S : Store} (s : SR c H φ S) {p : Addr} {o : O} (np : p ∉ φ) (ho : ObjR c H φ p o) : SR c H (φ ++ [p]) (S ++ [o]) := by
  have w := Xw.more φ p H
  obtain ⟨u, hu, nx, _⟩ := ho.some
  have md : ∀ {a o'}, ObjR c H φ a o' → ObjR c H (φ ++ [p]) a o' := fun q => q.mono w (fun _ h => h) fun d gs h1 h2 => ⟨h1, fun hm => by
    rcases List.mem_append.mp hm with z | z
    · exact h2 z
    · have e : d = p := by simpa using z
      rw [e, hu] at h1
      exact nx gs (Option.some.inj h1)⟩
  refine ⟨by simp [s.len], List.nodup_append.mpr ⟨s.nd, by simp, fun a ha b hb => ?_⟩, fun n a o' h1 h2 => ?_, s.tb⟩
  · have e : b = p := by simpa using hb
    rw [e]
    intro z
    exact np (z ▸ ha)
  · by_cases hn : n < φ.length
    · rw [List.getElem?_append_left hn] at h1
      rw [List.getElem?_append_left (by rw [← s.len]; exact hn)] at h2
      exact md (s.ob n a o' h1 h2)
    · rw [List.getElem?_append_right (by omega)] at h1
      rw [List.getElem?_append_right (by rw [← s.len]; omega)] at h2
      rw [s.len] at h1
      cases q : n - S.length with
      | zero =>
        rw [q] at h1 h2
        have e1 : p = a := by simpa using h1
        have e2 : o = o' := by simpa using h2
        rw [← e1, ← e2]
        exact md ho
      | succ k =>
        rw [q] at h1
        simp at h1
theorem Xt.place {φ φ1 : List Addr} {H H1 : Hp} (x : Xt φ H φ1 H1) {p : Addr} (hp : H p = none) : Xt φ H (φ1 ++ [p]) H1 := by
  obtain ⟨ψ, e, n⟩ := x.grow
  exact ⟨⟨ψ ++ [p], by rw [e, List.append_assoc], fun a ha => (List.mem_append.mp ha).elim (n a) fun z => by
    have e : a = p := by simpa using z
    rw [e]; exact hp⟩, x.keep, x.tups, x.frzs, x.live⟩

/-! ### displays, new lists -/
theorem newT {H : Hp} {φ : List Addr} {S : Store} {ds : List D} {vs : List V} (s : SR c H φ S) {p : Addr} (hp : H p = none) (h : Dens c.K H φ ds vs) : SR c (upd H p (.tup vs)) φ S ∧ Xt φ H φ (upd H p (.tup vs)) ∧ Den c.K (upd H p (.tup vs)) φ (.tup ds) (.ref p) := by
  obtain ⟨s1, x, np⟩ := s.new (o := .tup vs) hp (fun _ z => nomatch z)
  exact ⟨s1, x, .tup upd_same (h.mono x.w)⟩
theorem newL {H : Hp} {φ : List Addr} {S : Store} {ds : List D} {vs : List V} (s : SR c H φ S) {p : Addr} (hp : H p = none) (h : Dens c.K H φ ds vs) : SR c (upd H p (.lst vs)) φ S ∧ Xt φ H φ (upd H p (.lst vs)) ∧ p ∉ φ ∧ Dens c.K (upd H p (.lst vs)) φ ds vs := by
  obtain ⟨s1, x, np⟩ := s.new (o := .lst vs) hp (fun _ z => nomatch z)
  exact ⟨s1, x, np, h.mono x.w⟩
theorem capLine {α : Type} {l : List α} (h : l.length ≤ cap) : l.length ≤ sizeLine := by
  rw [sizeLine_eq]
  exact h
theorem se_tup {k} (hs : SA X c E es fs) : SE X c E (.Tuple es k pos) (eTup fs) := askE (pe_tup hs) fun σ H Q ⟨φ, ρ, S, a, p⟩ => by
  refine ⟨φ, ρ, S, a, (Po.bind (r := fs ρ S) p).imp fun xs S1 φ1 H1 _ x1 s1 p1 vs dvs => ?_⟩
  split at p1
  · rename_i hl
    refine ⟨by rw [← dvs.length]; exact capLine hl, fun q hq => ?_⟩
    obtain ⟨s2, x2, d2⟩ := newT s1 hq dvs
    exact p1 φ1 _ x2 s2 _ d2
  · exact p1.elim
theorem sl_lst (hs : SA X c E es fs) : SL X c E (.List es pos) (lDisp fs) := askE (pe_lst hs) fun σ H Q ⟨φ, ρ, S, a, p⟩ => by
  refine ⟨φ, ρ, S, a, (Po.bind (r := fs ρ S) p).imp fun xs S1 φ1 H1 _ x1 s1 p1 vs dvs => ?_⟩
  split at p1
  · rename_i hl
    refine ⟨by rw [← dvs.length]; exact capLine hl, fun q hq => ?_⟩
    obtain ⟨s2, x2, np, d2⟩ := newL s1 hq dvs
    exact p1 φ1 _ x2 s2 q vs (x1.live _ hq) np upd_same d2
  · exact p1.elim
/-- a new list gets a place -/
theorem se_new (h : SL X c E e fs) : SE X c E e (eNew fs) := askE h fun σ H Q ⟨φ, ρ, S, a, p⟩ => by
  refine ⟨φ, ρ, S, a, (Po.bind (r := fs ρ S) p).imp fun ds S1 φ1 H1 _ x1 s1 p1 q vs hq np hl dvs => ?_⟩
  have s2 := s1.place np (o := .lst ds) ⟨vs, hl, dvs⟩
  have p0 : Po c E φ H (.ok (.ptr S1.length) (S1 ++ [.lst ds])) (ZE c Q) := by
    have e : eNew fs ρ S = (fs ρ S).bind fun xs S1 => .ok (.ptr S1.length) (S1 ++ [.lst xs]) := rfl
    rw [e] at p
    rename_i er
    rw [er] at p
    exact p
  refine p0 (φ1 ++ [q]) H1 (x1.place hq) s2 _ (.ptr ?_)
  rw [List.getElem?_append_right (by rw [s1.len]; omega), s1.len]
  simp

/-! ### what uses a list up -/
def ReL (c : Cf) (E : XK) (o : List D → Store → R D) (r : List V → Hp → VK → Prop) : Prop := ∀ φ H S ds p vs Q, SR c H φ S → p ∉ φ → H p = some (.lst vs) → Dens c.K H φ ds vs → Po c E φ H (o ds S) (ZE c Q) → r [.ref p] H Q
theorem use1 {o : List D → Store → R D} {r : List V → Hp → VK → Prop} (hr : ReL c E o r) (σ : L2.St) (H : Hp) (Q : VK) (h : tE c E (eUse o fs) σ H Q) : tCB r (tCons (tL c E fs) tNil) σ H Q := by
  obtain ⟨φ, ρ, S, a, p⟩ := h
  exact ⟨φ, ρ, S, a, (Po.bind (r := fs ρ S) p).imp fun ds S1 φ1 H1 _ x1 s1 p1 q vs hq np hl dvs => hr φ1 H1 S1 ds q vs Q s1 np hl dvs p1⟩

/-! ### statements -/
theorem sb_nil : SB X c E [] sNext := askB pss_nil fun D σ H ⟨φ, ρ, S, a, p⟩ => Po.now (a := Fl.next ρ) p a.s σ a.l
theorem sb_cons {st : Stmt} {sts : List Stmt} {f g : Sx} (h1 : SS X c E st f) (h2 : SB X c E sts g) : SB X c E (st :: sts) (sSeq f g) := askB (pss_cons h1 h2) fun D σ H ⟨φ, ρ, S, a, p⟩ => by
  refine ⟨φ, ρ, S, a, (Po.bind (r := f ρ S) p).imp fun fl S1 φ1 H1 _ x1 s1 p1 => ?_⟩
  cases fl with
  | next ρ1 => exact fun σ' l => ⟨φ1, ρ1, S1, ⟨s1, l⟩, p1⟩
  | ret d => exact Po.now (a := Fl.ret d) (E := E) p1 s1
  | brk ρ1 => exact Po.now (a := Fl.brk ρ1) (E := E) p1 s1
  | cont ρ1 => exact Po.now (a := Fl.cont ρ1) (E := E) p1 s1
theorem sb_one {st : Stmt} {f : Sx} (h1 : SS X c E st f) : SB X c E [st] f := pss_one h1
theorem ss_ret (h : SE X c E e f) : SS X c E (.Return (some e) pos) (sRet f) := askS (ps_ret h) fun D σ H ⟨φ, ρ, S, a, p⟩ =>
  ⟨φ, ρ, S, a, (Po.bind (r := f ρ S) p).imp fun d S1 φ1 H1 _ x1 s1 p1 => Po.now (a := Fl.ret d) p1 s1⟩
theorem ss_retN : SS X c E (.Return none pos) (sRet (eC .non)) := askS ps_retN fun D σ H ⟨φ, ρ, S, a, p⟩ => Po.now (a := Fl.ret .non) p a.s .non .non
theorem ss_if {th el : List Stmt} {f g : Sx} (ht : ST X c E e t) (h1 : SB X c E th f) (h2 : SB X c E el g) : SS X c E (.If e th el pos) (sIf t f g) := askS (ps_if ht h1 h2) fun D σ H ⟨φ, ρ, S, a, p⟩ => by
  refine ⟨φ, ρ, S, a, (Po.bind (r := t ρ S) p).imp fun b S1 φ1 H1 _ x1 s1 p1 => ?_⟩
  cases b with
  | true => exact iteT ⟨φ1, ρ, S1, a.later x1 s1, p1⟩
  | false => exact iteF ⟨φ1, ρ, S1, a.later x1 s1, p1⟩
theorem ss_set {i : Nat} {x : Str} {pos' : Pos} (h : PS X (.Assign [.Name x pos'] e pos) (tAsg (tE c E f) (gName i))) : SS X c E (.Assign [.Name x pos'] e pos) (sSet i f) := askS h fun D σ H ⟨φ, ρ, S, a, p⟩ =>
  ⟨φ, ρ, S, a, (Po.bind (r := f ρ S) p).imp fun d S1 φ1 H1 _ x1 s1 p1 v dv => Po.now (a := Fl.next (ρ.set i (some d))) p1 s1 _ ((a.l.mono x1.w).set i dv)⟩
theorem ss_drop (h : SE X c E e f) (hs : swapsWith e none pos.line X.env = pure false := by rfl) : SS X c E (.Expr e pos) (sDrop f) := askS (ps_expr h hs) fun D σ H ⟨φ, ρ, S, a, p⟩ =>
  ⟨φ, ρ, S, a, (Po.bind (r := f ρ S) p).imp fun d S1 φ1 H1 _ x1 s1 p1 v dv => Po.now (a := Fl.next ρ) p1 s1 _ (a.l.mono x1.w)⟩
theorem ss_doc {x j pos'} : SS X c E (.Expr (.Constant (.str x) j pos) pos') sNext := askS ps_doc fun D σ H ⟨φ, ρ, S, a, p⟩ => Po.now (a := Fl.next ρ) p a.s σ a.l
theorem ss_pass : SS X c E (.Pass pos) sNext := askS ps_pass fun D σ H ⟨φ, ρ, S, a, p⟩ => Po.now (a := Fl.next ρ) p a.s σ a.l
theorem ss_break : SS X c E (.Break pos) sBrk := askS ps_break fun D σ H ⟨φ, ρ, S, a, p⟩ => Po.now (a := Fl.brk ρ) p a.s σ a.l
theorem ss_continue : SS X c E (.Continue pos) sCont := askS ps_continue fun D σ H ⟨φ, ρ, S, a, p⟩ => Po.now (a := Fl.cont ρ) p a.s σ a.l

/-! ### targets -/
theorem sg_name {i : Nat} {tg : Expr} (h : PG X tg (gName i)) : SG X c E tg (gSlot i) := askG h fun v σ H Q ⟨φ, ρ, S, d, a, dv, p⟩ => Po.now (a := ρ.set i (some d)) p a.s _ (a.l.set i dv)
abbrev tGs (c : Cf) (E : XK) (gs : List Tg) : TGs := fun vs σ H Q => ∃ φ ρ S ds, At c σ H φ ρ S ∧ Dens c.K H φ ds vs ∧ Po c E φ H (gAll gs ds ρ S) (ZG c Q)
theorem askGs {ts : List Expr} {t t' : TGs} (h : PGs X ts t) (q : ∀ v σ H Q, t' v σ H Q → t v σ H Q) : PGs X ts t' := ⟨fun pins s σ H v u Q I r hw => h.run pins s σ H v u Q I r (q _ _ _ _ hw)⟩
theorem sgs_nil : PGs X [] (tGs c E []) := askGs pgs_nil fun vs σ H Q ⟨φ, ρ, S, ds, a, dv, p⟩ => by
  cases dv with
  | nil => exact ⟨rfl, Po.now (a := ρ) p a.s σ a.l⟩
  | cons h t => exact p.elim
theorem sgs_cons {g : Tg} {gs : List Tg} (h1 : SG X c E e g) (h2 : PGs X es (tGs c E gs)) (hs : (assignEach (e :: es) X.env).map (·.2) = assign e X.env :: (assignEach es X.env).map (·.2) := by rfl) : PGs X (e :: es) (tGs c E (g :: gs)) :=
  askGs (pgs_cons h1 h2 hs) fun vs σ H Q ⟨φ, ρ, S, ds, a, dv, p⟩ => by
    cases dv with
    | nil => exact p.elim
    | @cons d v ds' vs' h t =>
      refine ⟨v, vs', rfl, φ, ρ, S, d, a, h, (Po.bind (r := g d ρ S) p).imp fun ρ1 S1 φ1 H1 _ x1 s1 p1 σ1 l1 => ⟨φ1, ρ1, S1, ds', ⟨s1, l1⟩, t.mono x1.w, p1⟩⟩
theorem sg_tup {k : Nat} {gs : List Tg} (hc : X.calm = true) (hK : X.K = c.K) (h : PGs X es (tGs c E gs)) (hn : (assignEach es X.env).length = gs.length := by rfl) (hst : (assignEach es X.env).findIdx? (·.1) = none := by rfl) : SG X c E (.Tuple es k pos) (gUnp gs) :=
  askG (pg_tup (n := gs.length) hc h hn hst) fun v σ H Q ⟨φ, ρ, S, d, a, dv, p⟩ => by
    cases dv with
    | @tup ds q vs hq hs =>
      have p : Po c E φ H (if ds.length = gs.length then gAll gs ds ρ S else .stuck) (ZG c Q) := p
      split at p
      · rename_i hl
        exact ⟨q, vs, rfl, SqT.of hq, by rw [← hs.length]; exact hl, φ, ρ, S, ds, a, hs, p⟩
      · exact p.elim
    | _ => exact p.elim
end
end NM

set_option linter.all false
set_option maxRecDepth 100000
set_option maxHeartbeats 2000000
/-! Rules: what is walked, for, comprehensions. -/
namespace NM
open PySem PySem.Spec PyProof.Rows L2
section
variable {X : Cx} {c : Cf} {E : XK} {e a b tg : Expr} {es : List Expr} {f g h : Ex} {fs : Exs} {pos : Pos} {t u : Tx}

/-- what an iterator does, by the plain side -/
structure Walks (c : Cf) (s : Src) (J : It) (φ0 : List Addr) (H0 : Hp) : Prop where
  run : ∀ (i : Nat) (φ : List Addr) (H : Hp) (S : Store), Xt φ0 H0 φ H → SR c H φ S → s.ok S →
    (∀ d, s.items[i]? = some d → J.go i H ∧ ∀ x H', J.yld i H x H' → Xt φ H φ H' ∧ SR c H' φ S ∧ Den c.K H' φ d x) ∧ (s.items.length ≤ i → J.stop i H)
abbrev ZI (c : Cf) (R : It → Hp → Prop) : Src → Store → List Addr → Hp → Prop := fun s _ φ' H' => ∀ J, Walks c s J φ' H' → R J H'
def tI (c : Cf) (E : XK) (g : Ix) : TI := fun σ H R => ∃ φ ρ S, At c σ H φ ρ S ∧ Po c E φ H (g ρ S) (ZI c R)
abbrev SI (X : Cx) (c : Cf) (E : XK) (tg iter : Expr) (g : Ix) : Prop := PI X tg iter (tI c E g)
theorem askI {tg iter : Expr} {t t' : TI} (h : PI X tg iter t) (q : ∀ σ H R, t' σ H R → t σ H R) : PI X tg iter t' := ⟨fun pins s σ H R I hw => h.run pins s σ H R I (q _ _ _ hw)⟩

theorem walks_lst {a : Addr} {vs : List V} {ds : List D} {ok : Store → Prop} {φ0 : List Addr} {H0 : Hp} (h : ∀ φ H S, Xt φ0 H0 φ H → SR c H φ S → ok S → SqL c.K H a vs) (hd : Dens c.K H0 φ0 ds vs) : Walks c ⟨ds, ok⟩ (Itl c.K a) φ0 H0 := by
  refine ⟨fun i φ H S x s o => ⟨fun d hi => ?_, fun hl => ⟨vs, h φ H S x s o, by rw [← hd.length]; exact hl⟩⟩⟩
  obtain ⟨v, hv, dv⟩ := hd.get hi
  refine ⟨⟨vs, v, h φ H S x s o, hv⟩, fun y H' hy => ?_⟩
  obtain ⟨e1, e2⟩ := hy
  subst e1
  have e3 := e2 vs (h φ _ S x s o)
  rw [hv] at e3
  cases e3
  exact ⟨Xt.refl _ _, s, dv.mono x.w⟩
theorem walks_tup {a : Addr} {vs : List V} {ds : List D} {φ0 : List Addr} {H0 : Hp} (h : SqT c.K H0 a vs) (hd : Dens c.K H0 φ0 ds vs) : Walks c ⟨ds, fun _ => True⟩ (Itt c.K a) φ0 H0 := by
  refine ⟨fun i φ H S x s _ => ⟨fun d hi => ?_, fun hl => ⟨vs, x.w.sqT h, by rw [← hd.length]; exact hl⟩⟩⟩
  obtain ⟨v, hv, dv⟩ := hd.get hi
  refine ⟨⟨vs, v, x.w.sqT h, hv⟩, fun y H' hy => ?_⟩
  obtain ⟨e1, e2⟩ := hy
  subst e1
  have e3 := e2 vs (x.w.sqT h)
  rw [hv] at e3
  cases e3
  exact ⟨Xt.refl _ _, s, dv.mono x.w⟩
theorem chars_get {z : Str} {i : Nat} {d : D} (h : (chars z)[i]? = some d) : ∃ k, z.cps[i]? = some k ∧ d = .str ⟨#[k]⟩ := by
  unfold chars at h
  rw [List.getElem?_map] at h
  cases e : z.cps.toList[i]? with
  | none => rw [e] at h; cases h
  | some k =>
    rw [e] at h
    exact ⟨k, by simpa using e, (Option.some.inj h).symm⟩
theorem walks_str {z : Str} {φ0 : List Addr} {H0 : Hp} : Walks c ⟨chars z, fun _ => True⟩ (Its z) φ0 H0 := by
  refine ⟨fun i φ H S x s _ => ⟨fun d hi => ?_, fun hl => (by simpa [chars] using hl : z.cps.size ≤ i)⟩⟩
  obtain ⟨k, hk, rfl⟩ := chars_get hi
  have hlt : i < z.cps.size := by
    by_cases q : i < z.cps.size
    · exact q
    · rw [Array.getElem?_eq_none (by omega)] at hk
      cases hk
  refine ⟨hlt, fun y H' hy => ?_⟩
  obtain ⟨e1, k', e2, e3⟩ := hy
  subst e1 e3
  rw [hk] at e2
  cases e2
  exact ⟨Xt.refl _ _, s, .str _⟩
theorem walks_rng {lo : Int} {n : Nat} {φ0 : List Addr} {H0 : Hp} : Walks c ⟨rangeD lo n, fun _ => True⟩ (Itr lo n) φ0 H0 := by
  refine ⟨fun i φ H S x s _ => ⟨fun d hi => ?_, fun hl => (by simpa [rangeD] using hl : n ≤ i)⟩⟩
  have hd : i < n ∧ d = .int (lo + (i : Int)) := by
    unfold rangeD at hi
    rw [List.getElem?_map] at hi
    cases q : (List.range n)[i]? with
    | none => rw [q] at hi; cases hi
    | some k =>
      rw [q] at hi
      have e := Option.some.inj hi
      obtain ⟨h1, h2⟩ := List.getElem?_eq_some_iff.mp q
      rw [List.getElem_range] at h2
      subst h2
      exact ⟨by simpa using h1, e.symm⟩
  refine ⟨hd.1, fun y H' hy => ?_⟩
  obtain ⟨e1, e2⟩ := hy
  subst e1 e2
  rw [hd.2]
  exact ⟨Xt.refl _ _, s, .int _⟩

/-- over a list that nobody holds -/
theorem si_l (hK : X.K = c.K) (h : SL X c E e fs) : SI X c E tg e (iL fs) := askI (pi_list h) fun σ H R ⟨φ, ρ, S, a, p⟩ => by
  refine ⟨φ, ρ, S, a, (Po.bind (r := fs ρ S) p).imp fun ds S1 φ1 H1 _ x1 s1 p1 q vs hq np hl dvs => ?_⟩
  refine ⟨q, rfl, ⟨vs, SqL.of hl⟩, ?_⟩
  rw [hK]
  exact Po.now p1 s1 (Itl c.K q) (walks_lst (fun φ2 H2 S2 x2 _ _ => SqL.of (x2.keep _ _ hl np (fun _ z => nomatch z))) dvs)
/-- over what an expression gives -/
theorem si_d (hK : X.K = c.K) (h : SE X c E e f) : SI X c E tg e (iD f) := by
  refine ⟨fun pins s σ H R I hw => ?_⟩
  obtain ⟨φ, ρ, S, a, p⟩ := hw
  cases er : f ρ S with
  | stuck =>
    have p' : Po c E φ H ((f ρ S).bind srcOf) (ZI c R) := p
    rw [er] at p'
    exact p'.elim
  | exc n xs S1 =>
    refine (pi_list h).run pins s σ H R I ⟨φ, ρ, S, a, ?_⟩
    have p' : Po c E φ H ((f ρ S).bind srcOf) (ZI c R) := p
    rw [er] at p' ⊢
    exact p'
  | ok d S1 =>
    have p' : Po c E φ H (srcOf d S1) (ZI c R) := by
      have p' : Po c E φ H ((f ρ S).bind srcOf) (ZI c R) := p
      rw [er] at p'
      exact p'
    cases d with
    | tup ds =>
      refine (pi_tup h).run pins s σ H R I ⟨φ, ρ, S, a, ?_⟩
      rw [er]
      intro φ1 H1 x1 s1 v dv
      cases dv with
      | @tup _ q vs hq hs =>
        refine ⟨q, rfl, ⟨vs, SqT.of hq⟩, ?_⟩
        rw [hK]
        exact p' φ1 H1 x1 s1 _ (walks_tup (SqT.of hq) hs)
    | frl ds =>
      refine (pi_list h).run pins s σ H R I ⟨φ, ρ, S, a, ?_⟩
      rw [er]
      intro φ1 H1 x1 s1 v dv
      cases dv with
      | @frl _ q vs hq hs =>
        have k : ∀ φ2 H2, Xt φ1 H1 φ2 H2 → SqL c.K H2 q vs := fun φ2 H2 x2 => hq.elim (fun ⟨o, z⟩ => .inl (.inr ⟨o, x2.frzs _ _ _ z⟩)) fun z => z H2
        refine ⟨q, rfl, ⟨vs, by rw [hK]; exact k φ1 H1 (Xt.refl _ _)⟩, ?_⟩
        rw [hK]
        exact p' φ1 H1 x1 s1 _ (walks_lst (fun φ2 H2 S2 x2 _ _ => k φ2 H2 x2) hs)
    | str z =>
      refine (pi_str h).run pins s σ H R I ⟨φ, ρ, S, a, ?_⟩
      rw [er]
      intro φ1 H1 x1 s1 v dv
      cases dv
      exact ⟨z, rfl, p' φ1 H1 x1 s1 _ walks_str⟩
    | ptr n =>
      have p2 : Po c E φ H (match S1[n]? with | some (.lst ds) => .ok ⟨ds, fun S' => S'[n]? = some (.lst ds)⟩ S1 | _ => .stuck) (ZI c R) := p'
      split at p2
      · rename_i ds hn
        refine (pi_list h).run pins s σ H R I ⟨φ, ρ, S, a, ?_⟩
        rw [er]
        intro φ1 H1 x1 s1 v dv
        cases dv with
        | @ptr _ q hq =>
          obtain ⟨vs, h1, h2⟩ := s1.ob n q _ hq hn
          refine ⟨q, rfl, ⟨vs, SqL.of h1⟩, ?_⟩
          rw [hK]
          refine p2 φ1 H1 x1 s1 _ ⟨fun i φ2 H2 S2 x2 s2 o2 => ?_⟩
          obtain ⟨ws, h3, h4⟩ := s2.ob n q _ (x2.sub hq) o2
          exact ⟨fun d hi => by
            obtain ⟨w, hw, dw⟩ := h4.get hi
            refine ⟨⟨ws, w, SqL.of h3, hw⟩, fun y H' hy => ?_⟩
            obtain ⟨e1, e2⟩ := hy
            subst e1
            have e3 := e2 ws (SqL.of h3)
            rw [hw] at e3
            cases e3
            exact ⟨Xt.refl _ _, s2, dw⟩, fun hl => ⟨ws, SqL.of h3, by rw [← h4.length]; exact hl⟩⟩
      · exact p2.elim
    | _ => exact p'.elim
theorem si_range1 {p' : Pos} (hg : Gl X "range") (hm : X.mg "range" = none) (ha : SA X c E [a] fs) (hs : starEach [a] X.env = [(false, eval a X.env)] := by rfl) : SI X c E tg (.Call (.Name "range" p') [a] [] pos) (iRange1 fs) := askI (pi_range1 hg hm ha hs) fun σ H R ⟨φ, ρ, S, at_, p⟩ => by
  refine ⟨φ, ρ, S, at_, (Po.bind (r := fs ρ S) p).imp fun ds S1 φ1 H1 _ x1 s1 p1 vs dvs => ?_⟩
  cases dvs with
  | nil => exact p1.elim
  | cons h1 t1 => cases t1 with
    | cons _ _ => cases h1 <;> exact p1.elim
    | nil => cases h1 with
      | int j =>
        have p2 : Po c E φ1 H1 (if -(2 ^ 62) ≤ j ∧ j < 2 ^ 62 then .ok ⟨rangeD 0 j.toNat, fun _ => True⟩ S1 else .stuck) (ZI c R) := p1
        split at p2
        · rename_i hb
          exact ⟨j, rfl, hb.1, hb.2, Po.now p2 s1 _ walks_rng⟩
        · exact p2.elim
      | _ => exact p1.elim
theorem si_range2 {p' : Pos} (h : PI X tg (.Call (.Name "range" p') [a, b] [] pos) (iRng2 (tA c E fs))) : SI X c E tg (.Call (.Name "range" p') [a, b] [] pos) (iRange2 fs) := askI h fun σ H R ⟨φ, ρ, S, at_, p⟩ => by
  refine ⟨φ, ρ, S, at_, (Po.bind (r := fs ρ S) p).imp fun ds S1 φ1 H1 _ x1 s1 p1 vs dvs => ?_⟩
  cases dvs with
  | nil => exact p1.elim
  | cons h1 t1 => cases t1 with
    | nil => cases h1 <;> exact p1.elim
    | cons h2 t2 => cases t2 with
      | cons _ _ => cases h1 <;> cases h2 <;> exact p1.elim
      | nil => cases h1 with
        | int i => cases h2 with
          | int j =>
            have p2 : Po c E φ1 H1 (if -(2 ^ 62) ≤ i ∧ i < 2 ^ 62 ∧ -(2 ^ 62) ≤ j ∧ j < 2 ^ 62 then .ok ⟨rangeD i (j - i).toNat, fun _ => True⟩ S1 else .stuck) (ZI c R) := p1
            split at p2
            · rename_i hb
              exact ⟨i, j, rfl, hb, Po.now p2 s1 _ walks_rng⟩
            · exact p2.elim
          | _ => exact p1.elim
        | _ => cases h2 <;> exact p1.elim

/-! ### for -/
theorem drop_cons {α : Type} {l : List α} {i : Nat} {d : α} {r : List α} (h : l.drop i = d :: r) : l[i]? = some d ∧ l.drop (i + 1) = r := by
  constructor
  · have : (l.drop i)[0]? = some d := by rw [h]; rfl
    simpa using this
  · have : (l.drop i).drop 1 = r := by rw [h]; rfl
    simpa [List.drop_drop] using this
theorem drop_nil {α : Type} {l : List α} {i : Nat} (h : l.drop i = []) : l.length ≤ i := by
  have : (l.drop i).length = 0 := by rw [h]; rfl
  simp at this
  omega
theorem ss_for {iter : Expr} {body : List Stmt} {gi : Ix} {g : Tg} {fb : Sx} (hp : PassesOwn (model X.prog X.w) X.A X.env X.xe) (hc : X.calm = true) (hi : SI X c E tg iter gi) (hg : SG X c E tg g) (hb : SB X c E body fb)
    (hs : ∀ x, foldedSetIterable iter X.env x = pure x := by intro _; rfl) : SS X c E (.For tg iter body [] pos) (sFor gi g fb) := askS (ps_for hp hc hi hg hb hs) fun D σ H ⟨φ, ρ, S, a, p⟩ => by
  refine ⟨φ, ρ, S, a, (Po.bind (r := gi ρ S) p).imp fun s S1 φ1 H1 _ x1 s1 p1 J hJ => ?_⟩
  refine ⟨fun i m σ' H' => m = s.items.length - i ∧ ∃ φ' ρ' S', Xt φ1 H1 φ' H' ∧ At c σ' H' φ' ρ' S' ∧ Po c E φ' H' (forGo s.ok g fb (s.items.drop i) ρ' S') (ZS c D), ⟨_, rfl, φ1, ρ, S1, Xt.refl _ _, a.later x1 s1, by simpa using p1⟩, ?_⟩
  rintro i m σ' H' ⟨rfl, φ', ρ', S', x', a', p'⟩
  cases hd : s.items.drop i with
  | nil =>
    rw [hd] at p'
    by_cases ho : s.ok S'
    · have p2 := p'
      rw [forGo_nil ho] at p2
      exact .inl ⟨(hJ.run i φ' H' S' x' a'.s ho).2 (drop_nil hd), Po.now (a := Fl.next ρ') p2 a'.s σ' a'.l⟩
    · rw [forGo_no ho] at p'
      exact p'.elim
  | cons d r =>
    obtain ⟨hid, hir⟩ := drop_cons hd
    have hlt : i < s.items.length := by
      by_cases q : i < s.items.length
      · exact q
      · rw [List.getElem?_eq_none (by omega)] at hid; cases hid
    rw [hd] at p'
    by_cases ho : s.ok S'
    · have p2 := p'
      rw [forGo_cons ho] at p2
      obtain ⟨hgo, hy⟩ := (hJ.run i φ' H' S' x' a'.s ho).1 d hid
      refine .inr ⟨hgo, fun σ2 H2 => ∃ φ2 ρ2 S2, Xt φ1 H1 φ2 H2 ∧ At c σ2 H2 φ2 ρ2 S2 ∧ Po c E φ2 H2 (forGo s.ok g fb r ρ2 S2) (ZS c D), fun σ2 H2 ⟨φ2, ρ2, S2, x2, a2, p2⟩ => ⟨s.items.length - (i + 1), by omega, rfl, φ2, ρ2, S2, x2, a2, by rw [hir]; exact p2⟩, fun x H2 hx => ?_⟩
      obtain ⟨xx, ss, dd⟩ := hy x H2 hx
      refine ⟨φ', ρ', S', d, a'.later xx ss, dd, ((Po.later p2 xx).bind).imp fun ρ3 S3 φ3 H3 _ x3 s3 p3 σ3 l3 => ?_⟩
      refine ⟨φ3, ρ3, S3, ⟨s3, l3⟩, (Po.bind p3).imp fun fl S4 φ4 H4 _ x4 s4 p4 => ?_⟩
      have xa := ((x'.trans xx).trans x3).trans x4
      cases fl with
      | next ρ4 => exact fun σ4 l4 => ⟨φ4, ρ4, S4, xa, ⟨s4, l4⟩, p4⟩
      | cont ρ4 => exact fun σ4 l4 => ⟨φ4, ρ4, S4, xa, ⟨s4, l4⟩, p4⟩
      | brk ρ4 => exact Po.now (a := Fl.next ρ4) (E := E) p4 s4
      | ret d4 => exact Po.now (a := Fl.ret d4) (E := E) p4 s4
    · rw [forGo_no ho] at p'
      exact p'.elim
end
end NM

set_option linter.all false
set_option maxRecDepth 100000
set_option maxHeartbeats 2000000
/-! Rules: comprehensions. -/
namespace NM
open PySem PySem.Spec PyProof.Rows L2
section
variable {X : Cx} {c : Cf} {E : XK} {e a b tg : Expr} {es : List Expr} {f g h : Ex} {fs : Exs} {pos : Pos} {t u : Tx}

abbrev EN : XK := fun _ _ _ => False
theorem Po.shut {α β : Type} {φ φ1 : List Addr} {H H1 : Hp} {r : R α} {k : α → Store → R β} {Z : β → Store → List Addr → Hp → Prop} (h : Po c E φ1 H1 (r.shut.bind k) Z) : Po c EN φ H r fun a S _ _ => Po c E φ1 H1 (k a S) Z := by
  cases r with
  | ok d S => exact fun _ _ _ _ => h
  | exc n fs S => exact h.elim
  | stuck => exact h
theorem wipe_set {σ : L2.St} {i : Nat} {x : Option V} : ∀ {vs : List Nat}, i ∈ vs → L2.wipe (σ.set i x) vs = L2.wipe σ vs
  | [], h => nomatch h
  | v :: vs, h => by
    show (L2.wipe (σ.set i x) vs).set v none = (L2.wipe σ vs).set v none
    by_cases hi : i ∈ vs
    · rw [wipe_set hi]
    · have e : i = v := by
        rcases List.mem_cons.mp h with z | z
        · exact z
        · exact absurd z hi
      subst e
      have key : ∀ {ws : List Nat}, i ∉ ws → L2.wipe (σ.set i x) ws = (L2.wipe σ ws).set i x := by
        intro ws
        induction ws with
        | nil => intro _; rfl
        | cons w ws ih =>
          intro hn
          have h1 : i ≠ w := fun z => hn (by rw [z]; exact List.mem_cons_self)
          have h2 : i ∉ ws := fun z => hn (List.mem_cons_of_mem _ z)
          show (L2.wipe (σ.set i x) ws).set w none = ((L2.wipe σ ws).set w none).set i x
          rw [ih h2, List.set_comm _ _ h1]
      rw [key hi, List.set_set]
theorem wipe_wipe {σ : L2.St} : ∀ {vs : List Nat}, L2.wipe (L2.wipe σ vs) vs = L2.wipe σ vs
  | [] => rfl
  | v :: vs => by
    show L2.wipe ((L2.wipe σ vs).set v none) (v :: vs) = _
    rw [wipe_set List.mem_cons_self]
    show (L2.wipe (L2.wipe σ vs) vs).set v none = _
    rw [wipe_wipe]
    rfl
/-! ### targets that touch only some slots -/
def tGv (c : Cf) (E : XK) (vs : List Nat) (g : Tg) : TG := fun v σ H Q => ∃ φ ρ S d, At c σ H φ ρ S ∧ Den c.K H φ d v ∧ Po c E φ H (g d ρ S) fun ρ1 _ φ' H' => ∀ σ', LR c.K H' φ' ρ1 σ' → L2.wipe σ' vs = L2.wipe σ vs → Q σ' H'
abbrev SGv (X : Cx) (c : Cf) (E : XK) (vs : List Nat) (tg : Expr) (g : Tg) : Prop := PG X tg (tGv c E vs g)
theorem sgv_name {i : Nat} {vs : List Nat} {tg : Expr} (hi : i ∈ vs) (h : PG X tg (gName i)) : SGv X c E vs tg (gSlot i) := askG h fun v σ H Q ⟨φ, ρ, S, d, a, dv, p⟩ => Po.now (a := ρ.set i (some d)) p a.s _ (a.l.set i dv) (wipe_set hi)
abbrev tGsv (c : Cf) (E : XK) (vs : List Nat) (gs : List Tg) : TGs := fun ws σ H Q => ∃ φ ρ S ds, At c σ H φ ρ S ∧ Dens c.K H φ ds ws ∧ Po c E φ H (gAll gs ds ρ S) fun ρ1 _ φ' H' => ∀ σ', LR c.K H' φ' ρ1 σ' → L2.wipe σ' vs = L2.wipe σ vs → Q σ' H'
theorem sgvs_nil {vs : List Nat} : PGs X [] (tGsv c E vs []) := askGs pgs_nil fun ws σ H Q ⟨φ, ρ, S, ds, a, dv, p⟩ => by
  cases dv with
  | nil => exact ⟨rfl, Po.now (a := ρ) p a.s σ a.l rfl⟩
  | cons h t => exact p.elim
theorem sgvs_cons {vs : List Nat} {g : Tg} {gs : List Tg} (h1 : SGv X c E vs e g) (h2 : PGs X es (tGsv c E vs gs)) (hs : (assignEach (e :: es) X.env).map (·.2) = assign e X.env :: (assignEach es X.env).map (·.2) := by rfl) : PGs X (e :: es) (tGsv c E vs (g :: gs)) :=
  askGs (pgs_cons h1 h2 hs) fun ws σ H Q ⟨φ, ρ, S, ds, a, dv, p⟩ => by
    cases dv with
    | nil => exact p.elim
    | @cons d v ds' vs' h t =>
      refine ⟨v, vs', rfl, φ, ρ, S, d, a, h, (Po.bind (r := g d ρ S) p).imp fun ρ1 S1 φ1 H1 _ x1 s1 p1 σ1 l1 w1 => ⟨φ1, ρ1, S1, ds', ⟨s1, l1⟩, t.mono x1.w, Po.imp p1 fun ρ2 S2 φ2 H2 _ x2 s2 q σ2 l2 w2 => q σ2 l2 (w2.trans w1)⟩⟩
theorem sgv_tup {vs : List Nat} {k : Nat} {gs : List Tg} (hc : X.calm = true) (hK : X.K = c.K) (h : PGs X es (tGsv c E vs gs)) (hn : (assignEach es X.env).length = gs.length := by rfl) (hst : (assignEach es X.env).findIdx? (·.1) = none := by rfl) : SGv X c E vs (.Tuple es k pos) (gUnp gs) :=
  askG (pg_tup (n := gs.length) hc h hn hst) fun v σ H Q ⟨φ, ρ, S, d, a, dv, p⟩ => by
    cases dv with
    | @tup ds q ws hq hs =>
      have p : Po c E φ H (if ds.length = gs.length then gAll gs ds ρ S else .stuck) _ := p
      split at p
      · rename_i hl
        exact ⟨q, ws, rfl, SqT.of hq, by rw [← hs.length]; exact hl, φ, ρ, S, ds, a, hs, p⟩
      · exact p.elim
    | _ => exact p.elim

/-! ### a list in the making -/
theorem SR.tmp {H : Hp} {φ : List Addr} {S : Store} (s : SR c H φ S) {p : Addr} {xs ys : List V} (np : p ∉ φ) (hp : H p = some (.lst xs)) : SR c (upd H p (.lst ys)) φ S := by
  have w : Xw φ H φ (upd H p (.lst ys)) := by
    refine ⟨fun _ _ h => h, fun a zs h => ?_, fun a o u h => ?_⟩ <;> (rw [upd_ne (fun z => by rw [z, hp] at h; cases h)]; exact h)
  refine ⟨s.len, s.nd, fun n a o h1 h2 => ?_, fun q hq => ?_⟩
  · have na : a ≠ p := fun z => np (z ▸ List.mem_of_getElem? h1)
    exact (s.ob n a o h1 h2).mono w (fun u h => by rw [upd_ne na]; exact h) fun d gs h1 h2 => ⟨by rw [upd_ne (fun z => by rw [z, hp] at h1; cases h1)]; exact h1, h2⟩
  · obtain ⟨ps, h1, h2, h3⟩ := s.tb q hq
    refine ⟨ps, by rw [upd_ne (fun z => by rw [z, hp] at h1; cases h1)]; exact h1, h2, fun po cv hc => ?_⟩
    obtain ⟨c', e1, e2⟩ := h3 po cv hc
    exact ⟨c', e1, by rw [upd_ne (fun z => by rw [z, hp] at e2; cases e2)]; exact e2⟩
theorem Xt.tmp {φ φ1 : List Addr} {H H1 : Hp} (x : Xt φ H φ1 H1) {p : Addr} {o u : HO} (hp : H p = none) (h1 : H1 p = some u) : Xt φ H φ1 (upd H1 p o) := by
  have ne : ∀ {a : Addr} {v}, H a = some v → a ≠ p := fun h z => by rw [z, hp] at h; cases h
  refine ⟨x.grow, fun a v h hn ht => by rw [upd_ne (ne h)]; exact x.keep a v h hn ht, fun a xs h => by rw [upd_ne (ne h)]; exact x.tups a xs h, fun a v w h => by rw [upd_ne (ne h)]; exact x.frzs a v w h, fun a h => ?_⟩
  by_cases q : a = p
  · rw [q]; exact hp
  · rw [upd_ne q] at h; exact x.live a h
theorem Xt.fresh {φ φ1 : List Addr} {H H1 : Hp} (x : Xt φ H φ1 H1) {p : Addr} {u : HO} (hp : H p = some u) (np : p ∉ φ) : p ∉ φ1 := fun hm => by
  obtain ⟨ψ, e, n⟩ := x.grow
  rw [e] at hm
  rcases List.mem_append.mp hm with z | z
  · exact np z
  · rw [n p z] at hp; cases hp
/-- the core: what the layer asks of a comprehension -/
theorem comp1 {gi : Ix} {g : Tg} {t : Tx} {f : Ex} {vs : List Nat} (σ : L2.St) (H : Hp) (Q : VK) (h : tL c E (lComp gi g t f vs) σ H Q) : tLc (tI c E gi) (tGv c EN vs g) (tT c EN t) (tE c EN f) vs σ H Q := by
  obtain ⟨φ, ρ, S, a, p⟩ := h
  refine ⟨φ, ρ, S, a, (Po.bind (r := gi ρ S) p).imp fun s S1 φ1 H1 _ x1 s1 p1 J hJ D hD => ?_⟩
  obtain ⟨s1', x1', nD⟩ := s1.new (o := .lst []) hD (fun _ z => nomatch z)
  refine ⟨fun i m H' => m = s.items.length - i ∧ ∃ φ' S' acc ws, Xt φ1 H1 φ' H' ∧ SR c H' φ' S' ∧ D ∉ φ' ∧ H' D = some (.lst ws) ∧ Dens c.K H' φ' acc ws ∧
    Po c E φ1 H1 (compGo s.ok g t f (NM.wipe ρ vs) (s.items.drop i) acc S') (ZL c H Q), ⟨_, rfl, φ1, S1, [], [], x1', s1', nD, upd_same, .nil, by simpa using p1⟩, ?_⟩
  rintro i m H' ⟨rfl, φ', S', acc, ws, x', s', nD', hD', da, p'⟩
  cases hd : s.items.drop i with
  | nil =>
    rw [hd] at p'
    by_cases ho : s.ok S'
    · rw [compGo_nil ho] at p'
      exact .inl ⟨(hJ.run i φ' H' S' x' s' ho).2 (drop_nil hd), p' φ' H' x' s' D ws (x1.live _ hD) nD' hD' da⟩
    · rw [compGo_no ho] at p'
      exact p'.elim
  | cons d r =>
    obtain ⟨hid, hir⟩ := drop_cons hd
    have hlt : i < s.items.length := by
      by_cases q : i < s.items.length
      · exact q
      · rw [List.getElem?_eq_none (by omega)] at hid; cases hid
    rw [hd] at p'
    by_cases ho : s.ok S'
    · rw [compGo_cons ho] at p'
      obtain ⟨hgo, hy⟩ := (hJ.run i φ' H' S' x' s' ho).1 d hid
      refine .inr ⟨hgo, fun H2 => ∃ φ' S' acc ws, Xt φ1 H1 φ' H2 ∧ SR c H2 φ' S' ∧ D ∉ φ' ∧ H2 D = some (.lst ws) ∧ Dens c.K H2 φ' acc ws ∧ Po c E φ1 H1 (compGo s.ok g t f (NM.wipe ρ vs) r acc S') (ZL c H Q),
        fun H2 ⟨φ2, S2, acc2, ws2, q1, q2, q3, q4, q5, q6⟩ => ⟨s.items.length - (i + 1), by omega, rfl, φ2, S2, acc2, ws2, q1, q2, q3, q4, q5, by rw [hir]; exact q6⟩, fun x H2 hx => ?_⟩
      obtain ⟨xx, ss, dd⟩ := hy x H2 hx
      have xa := (x1.trans x').trans xx
      have keep : ∀ {φ3 H3}, Xt φ' H' φ3 H3 → H3 D = some (.lst ws) ∧ D ∉ φ3 := fun x3 => ⟨x3.keep D _ hD' nD' (fun _ z => nomatch z), x3.fresh hD' nD'⟩
      refine ⟨φ', NM.wipe ρ vs, S', d, ⟨ss, (a.l.mono xa.w).wipe vs⟩, dd, (Po.shut p').imp fun ρ3 S3 φ3 H3 _ x3 s3 p3 σ3 l3 w3 => ⟨w3.trans wipe_wipe, ?_⟩⟩
      refine ⟨φ3, ρ3, S3, ⟨s3, l3⟩, (Po.shut p3).imp fun b S4 φ4 H4 _ x4 s4 p4 => ?_⟩
      have x04 := (xx.trans x3).trans x4
      cases b with
      | false =>
        obtain ⟨k1, k2⟩ := keep x04
        exact iteF ⟨φ4, S4, acc, ws, x'.trans x04, s4, k2, k1, da.mono x04.w, p4⟩
      | true =>
        refine iteT ⟨φ4, ρ3, S4, ⟨s4, l3.mono x4.w⟩, (Po.shut (r := f ρ3 S4) p4).imp fun y S5 φ5 H5 _ x5 s5 p5 v dv => ?_⟩
        have x05 := x04.trans x5
        obtain ⟨k1, k2⟩ := keep x05
        split at p5
        · rename_i hcap
          have da5 := da.mono x05.w
          have w : Xw φ5 H5 φ5 (upd H5 D (.lst (ws ++ [v]))) := by
            refine ⟨fun _ _ h => h, fun a zs h => ?_, fun a o u h => ?_⟩ <;> (rw [upd_ne (fun z => by rw [z, k1] at h; cases h)]; exact h)
          refine ⟨ws, k1, by rw [← da5.length, sizeLine_eq]; exact hcap, φ5, S5, acc ++ [y], ws ++ [v], (x'.trans x05).tmp hD k1, s5.tmp k2 k1, k2, upd_same, (da5.append (.cons dv .nil)).mono w, p5⟩
        · exact p5.elim
    · rw [compGo_no ho] at p'
      exact p'.elim
end
end NM

set_option linter.all false
set_option maxRecDepth 100000
set_option maxHeartbeats 2000000
/-! Operations. -/
namespace NM
open PySem PySem.Spec PyProof.Rows L2
section
variable {X : Cx} {c : Cf} {E : XK}
theorem OpR.or {f : Value → Value → Sem Value} {r r' : R2} (h : OpR X f r) (h' : OpR X f r') : OpR X f (fun x y H Q => r x y H Q ∨ r' x y H Q) := fun pins s σ H x y v u Q I rx ry q => q.elim (h pins s σ H x y v u Q I rx ry) (h' pins s σ H x y v u Q I rx ry)
theorem capL {n : Nat} (h : n ≤ cap) : n ≤ sizeLine := by
  rw [sizeLine_eq]
  exact h
def rAddA (K : PySem.W.Frag) : R2 := fun x y H Q => rI0 (fun i j => V.int (i + j)) x y H Q ∨ ((∃ i j, x = V.str i ∧ y = V.str j ∧ i.length + j.length ≤ sizeLine ∧ Q (V.str (i ++ j)) H) ∨ rCatA K x y H Q)
theorem op_addA : OpR X (binaryOp .Add) (rAddA X.K) := OpR.or op_add (OpR.or op_add_str op_catA)
theorem re_add (hK : X.K = c.K) : Re2 c E oAdd (rAddA X.K) := by
  intro φ H S x y v w Q s dx dy p
  cases dx with
  | int i => cases dy with
    | int j => exact .inl ⟨i, j, rfl, rfl, Po.now (a := D.int (i + j)) p s _ (.int _)⟩
    | _ => exact p.elim
  | str a => cases dy with
    | str b =>
      have p : Po c E φ H (if a.length + b.length ≤ cap then .ok (.str (a ++ b)) S else .stuck) (ZE c Q) := p
      split at p
      · rename_i h
        exact .inr (.inl ⟨a, b, rfl, rfl, capL h, Po.now p s _ (.str _)⟩)
      · exact p.elim
    | _ => exact p.elim
  | @tup xs a vs h1 h2 => cases dy with
    | @tup ys b ws h3 h4 =>
      have p : Po c E φ H (if xs.length + ys.length ≤ cap then .ok (.tup (xs ++ ys)) S else .stuck) (ZE c Q) := p
      split at p
      · rename_i hl
        refine .inr (.inr ⟨a, b, vs, ws, rfl, rfl, SqT.of h1, SqT.of h3, by rw [← h2.length, ← h4.length]; exact capL hl, fun e => ?_, fun _ e => ?_, fun _ _ q hq => ?_⟩)
        · subst e
          cases h2
          exact Po.now p s _ (.tup h3 h4)
        · subst e
          cases h4
          rw [List.append_nil] at p
          exact Po.now p s _ (.tup h1 h2)
        · obtain ⟨s2, x2, d2⟩ := newT s hq (h2.append h4)
          exact p φ _ x2 s2 _ d2
      · exact p.elim
    | _ => exact p.elim
  | _ => cases dy <;> exact p.elim
theorem re_I {g : Int → Int → D} {k : Int → Int → V} (h : ∀ K H φ i j, Den K H φ (g i j) (k i j)) : Re2 c E (oI g) (rI0 k) := by
  intro φ H S x y v w Q s dx dy p
  cases dx with
  | int i => cases dy with
    | int j => exact ⟨i, j, rfl, rfl, Po.now (a := g i j) p s _ (h _ _ _ _ _)⟩
    | _ => exact p.elim
  | _ => cases dy <;> exact p.elim
theorem re_Ic {g : Int → Int → D} {k : Int → Int → V} {q : Int → Int → Bool} {C : Int → Int → Prop} (hC : ∀ i j, q i j = true → C i j) (h : ∀ K H φ i j, Den K H φ (g i j) (k i j)) : Re2 c E (oIc q g) (rI C k) := by
  intro φ H S x y v w Q s dx dy p
  cases dx with
  | int i => cases dy with
    | int j =>
      have p : Po c E φ H (if q i j = true then .ok (g i j) S else .stuck) (ZE c Q) := p
      split at p
      · rename_i hq
        exact ⟨i, j, rfl, rfl, hC i j hq, Po.now (a := g i j) p s _ (h _ _ _ _ _)⟩
      · exact p.elim
    | _ => exact p.elim
  | _ => cases dy <;> exact p.elim
theorem re_sub : Re2 c E oSub (rI0 fun i j => V.int (i - j)) := re_I fun _ _ _ _ _ => .int _
theorem re_mul : Re2 c E oMul (rI CMul fun i j => V.int (i * j)) := re_Ic (fun i j h => by simpa [mulOk, CMul] using h) fun _ _ _ _ _ => .int _
theorem re_div : Re2 c E oDiv (rI CDivN fun i j => V.int (i.fdiv j)) := re_Ic (fun i j h => by simpa [divOk, CDivN] using h) fun _ _ _ _ _ => .int _
theorem re_mod : Re2 c E oMod (rI (fun _ j => j ≠ 0) fun i j => V.int (i.fmod j)) := re_Ic (fun i j h => by simpa [modOk] using h) fun _ _ _ _ _ => .int _
theorem re_pow : Re2 c E oPow (rI CPow fun i j => V.int (i ^ j.toNat)) := re_Ic (fun i j h => by simpa [powOk, CPow, and_assoc] using h) fun _ _ _ _ _ => .int _
theorem re_le : Re2 c E oLe (rI0 fun i j => V.bl (decide (i ≤ j))) := re_I fun _ _ _ _ _ => .bl _
theorem re_gt : Re2 c E oGt (rI0 fun i j => V.bl (decide (j < i))) := re_I fun _ _ _ _ _ => .bl _
theorem re_ge : Re2 c E oGe (rI0 fun i j => V.bl (decide (j ≤ i))) := re_I fun _ _ _ _ _ => .bl _
theorem re_neg : Re1 c E oNeg (rU fun i => V.int (-i)) := by
  intro φ H S x v Q s dx p
  cases dx with
  | int i => exact ⟨i, rfl, Po.now (a := D.int (-i)) p s _ (.int _)⟩
  | _ => exact p.elim

theorem re_lt : Re2 c E oLt (fun x y H Q => rI0 (fun i j => V.bl (decide (i < j))) x y H Q ∨ ∃ i j, x = V.str i ∧ y = V.str j ∧ Q (V.bl (decide (i.cps.toList < j.cps.toList))) H) := by
  intro φ H S x y v w Q s dx dy p
  cases dx with
  | int i => cases dy with
    | int j => exact .inl ⟨i, j, rfl, rfl, Po.now (a := D.bl (decide (i < j))) p s _ (.bl _)⟩
    | _ => exact p.elim
  | str i => cases dy with
    | str j => exact .inr ⟨i, j, rfl, rfl, Po.now (a := D.bl (decide (i.cps.toList < j.cps.toList))) p s _ (.bl _)⟩
    | _ => exact p.elim
  | _ => cases dy <;> exact p.elim
theorem op_ltA : OpR X (compareOp .Lt) (fun x y H Q => rI0 (fun i j => V.bl (decide (i < j))) x y H Q ∨ ∃ i j, x = V.str i ∧ y = V.str j ∧ Q (V.bl (decide (i.cps.toList < j.cps.toList))) H) := OpR.or op_lt op_lt_str
def isN : D → Bool
  | .non => true
  | _ => false
theorem den_non {K : PySem.W.Frag} {H : Hp} {φ : List Addr} {d : D} {v : V} (h : Den K H φ d v) : decide (v = .non) = isN d := by
  cases h <;> rfl
theorem oIsN_eq {x : D} {S : Store} : oIsN x .non S = .ok (.bl (isN x)) S := by cases x <;> rfl
theorem oNotN_eq {x : D} {S : Store} : oNotN x .non S = .ok (.bl (!isN x)) S := by cases x <;> rfl
theorem re_isN : Re2 c E oIsN (fun x y H Q => y = V.non ∧ Q (V.bl (decide (x = V.non))) H) := by
  intro φ H S x y v w Q s dx dy p
  cases dy with
  | non =>
    refine ⟨rfl, ?_⟩
    rw [den_non dx]
    rw [oIsN_eq] at p
    exact Po.now p s _ (.bl _)
  | _ => exact p.elim
theorem re_notN : Re2 c E oNotN (fun x y H Q => y = V.non ∧ Q (V.bl (!decide (x = V.non))) H) := by
  intro φ H S x y v w Q s dx dy p
  cases dy with
  | non =>
    refine ⟨rfl, ?_⟩
    rw [den_non dx]
    rw [oNotN_eq] at p
    exact Po.now p s _ (.bl _)
  | _ => exact p.elim

/-! ### data read out -/
abbrev LstAt (K : PySem.W.Frag) (H : Hp) (φ : List Addr) (S : Store) : Prop := ∀ (n : Nat) (ds : List D) (a : Addr), φ[n]? = some a → S[n]? = some (.lst ds) → ∃ vs, H a = some (.lst vs) ∧ Dens K H φ ds vs
theorem SR.lsts {H : Hp} {φ : List Addr} {S : Store} (s : SR c H φ S) : LstAt c.K H φ S := fun n ds a h1 h2 => s.ob n a _ h1 h2
theorem dps_of {K : PySem.W.Frag} {H : Hp} {φ : List Addr} {f : D → Option PyData} (hf : ∀ d v p, Den K H φ d v → f d = some p → Dp K H v p) : ∀ {ds : List D} {vs : List V} {ps : List PyData}, Dens K H φ ds vs → mapO f ds = some ps → DpAll K H vs ps
  | _, _, ps, .nil, e => by
    have e : some [] = some ps := e
    cases e
    exact .nil
  | _, _, ps, .cons (d := d) (ds := ds) h1 h2, e => by
    unfold mapO at e
    cases q1 : f d with
    | none => rw [q1] at e; cases e
    | some x =>
      cases q2 : mapO f ds with
      | none => rw [q1, q2] at e; cases e
      | some xs =>
        rw [q1, q2] at e
        cases e
        exact .cons (hf _ _ _ h1 q1) (dps_of hf h2 q2)
theorem dp_of {K : PySem.W.Frag} {H : Hp} {φ : List Addr} {S : Store} (s : LstAt K H φ S) : ∀ (n : Nat) (d : D) (v : V) (p : PyData), Den K H φ d v → rd S n d = some p → Dp K H v p
  | 0, d, v, p, h, e => by
    cases h with
    | str b =>
      unfold rd at e
      dsimp only at e
      split at e
      · cases e; constructor
      · cases e
    | non => have e : some _ = some p := e; cases e; constructor
    | bl b => have e : some _ = some p := e; cases e; constructor
    | int b => have e : some _ = some p := e; cases e; constructor
    | _ => cases e
  | n + 1, d, v, p, h, e => by
    cases h with
    | non => have e : some _ = some p := e; cases e; constructor
    | bl b => have e : some _ = some p := e; cases e; constructor
    | int b => have e : some _ = some p := e; cases e; constructor
    | str b =>
      unfold rd at e
      dsimp only at e
      split at e
      · cases e; constructor
      · cases e
    | @tup ds a vs h1 h2 =>
      have e : (mapO (rd S n) ds).map PyData.tuple = some p := e
      cases q : mapO (rd S n) ds with
      | none => rw [q] at e; cases e
      | some ps =>
        rw [q] at e
        cases e
        exact .tup (SqT.of h1) (dps_of (dp_of s n) h2 q)
    | @frl ds a vs h1 h2 =>
      have e : (mapO (rd S n) ds).map PyData.list = some p := e
      cases q : mapO (rd S n) ds with
      | none => rw [q] at e; cases e
      | some ps =>
        rw [q] at e
        cases e
        exact .lst (h1.elim (fun ⟨o, z⟩ => .inl (.inr ⟨o, z⟩)) fun z => z H) (dps_of (dp_of s n) h2 q)
    | @ptr k a h1 =>
      have e : (match S[k]? with
        | some (.lst ds) => (mapO (rd S n) ds).map PyData.list
        | _ => none) = some p := e
      split at e
      · rename_i ds hk
        obtain ⟨vs, h2, h3⟩ := s k ds a h1 hk
        cases q : mapO (rd S n) ds with
        | none => rw [q] at e; cases e
        | some ps =>
          rw [q] at e
          cases e
          exact .lst (SqL.of h2) (dps_of (dp_of s n) h3 q)
      · cases e
    | ty t => cases e
    | glo t => cases e
theorem mapO_all {α β : Type} {f : α → Option β} {P : β → Prop} (h : ∀ x y, f x = some y → P y) : ∀ {xs : List α} {ys : List β}, mapO f xs = some ys → ∀ y ∈ ys, P y
  | [], ys, e, y, hy => by
    have e : some [] = some ys := e
    cases e
    cases hy
  | x :: xs, ys, e, y, hy => by
    unfold mapO at e
    cases q1 : f x with
    | none => rw [q1] at e; cases e
    | some z =>
      cases q2 : mapO f xs with
      | none => rw [q1, q2] at e; cases e
      | some zs =>
        rw [q1, q2] at e
        cases e
        rcases List.mem_cons.mp hy with r | r
        · rw [r]; exact h x z q1
        · exact mapO_all h q2 y r
theorem lay_all : ∀ {ps : List PyData}, (∀ p ∈ ps, p.canLay0 = true) → PyData.canLayAll0 ps = true
  | [], _ => by simp [PyData.canLayAll0]
  | p :: ps, h => by
    simp only [PyData.canLayAll0, Bool.and_eq_true]
    exact ⟨h p List.mem_cons_self, lay_all fun q hq => h q (List.mem_cons_of_mem _ hq)⟩
theorem dep_all {n : Nat} : ∀ {ps : List PyData}, (∀ p ∈ ps, p.depth ≤ n) → PyData.depthAll ps ≤ n
  | [], _ => by simp [PyData.depthAll]
  | p :: ps, h => by
    simp only [PyData.depthAll]
    exact Nat.max_le.mpr ⟨h p List.mem_cons_self, dep_all fun q hq => h q (List.mem_cons_of_mem _ hq)⟩
theorem okS_ok {x : Str} (h : okS x = true) : PyData.strOk x = true := by
  unfold PyData.strOk
  rw [← Array.all_toList]
  exact h
theorem rd_lay {S : Store} : ∀ (n : Nat) (d : D) (p : PyData), rd S n d = some p → p.canLay0 = true ∧ p.depth ≤ n
  | 0, d, p, e => by
    cases d with
    | str b =>
      unfold rd at e
      dsimp only at e
      split at e
      · rename_i hl
        cases e
        exact ⟨by simpa [PyData.canLay0] using okS_ok hl, by simp [PyData.depth]⟩
      · cases e
    | non => have e : some _ = some p := e; cases e; exact ⟨by simp [PyData.canLay0], by simp [PyData.depth]⟩
    | bl b => have e : some _ = some p := e; cases e; exact ⟨by simp [PyData.canLay0], by simp [PyData.depth]⟩
    | int b => have e : some _ = some p := e; cases e; exact ⟨by simp [PyData.canLay0], by simp [PyData.depth]⟩
    | _ => cases e
  | n + 1, d, p, e => by
    have key : ∀ {ds : List D} {ps : List PyData}, mapO (rd S n) ds = some ps → PyData.canLayAll0 ps = true ∧ PyData.depthAll ps ≤ n := fun q =>
      ⟨lay_all (mapO_all (P := fun p => p.canLay0 = true) (fun x y h => (rd_lay n x y h).1) q), dep_all (mapO_all (P := fun p => p.depth ≤ n) (fun x y h => (rd_lay n x y h).2) q)⟩
    cases d with
    | tup ds =>
      have e : (mapO (rd S n) ds).map PyData.tuple = some p := e
      cases q : mapO (rd S n) ds with
      | none => rw [q] at e; cases e
      | some ps =>
        rw [q] at e
        cases e
        obtain ⟨k1, k2⟩ := key q
        exact ⟨by simpa [PyData.canLay0] using k1, by simp [PyData.depth]; omega⟩
    | frl ds =>
      have e : (mapO (rd S n) ds).map PyData.list = some p := e
      cases q : mapO (rd S n) ds with
      | none => rw [q] at e; cases e
      | some ps =>
        rw [q] at e
        cases e
        obtain ⟨k1, k2⟩ := key q
        exact ⟨by simpa [PyData.canLay0] using k1, by simp [PyData.depth]; omega⟩
    | ptr k =>
      have e : (match S[k]? with
        | some (.lst ds) => (mapO (rd S n) ds).map PyData.list
        | _ => none) = some p := e
      split at e
      · rename_i ds hk
        cases q : mapO (rd S n) ds with
        | none => rw [q] at e; cases e
        | some ps =>
          rw [q] at e
          cases e
          obtain ⟨k1, k2⟩ := key q
          exact ⟨by simpa [PyData.canLay0] using k1, by simp [PyData.depth]; omega⟩
      · cases e
    | ty t => cases e
    | glo t => cases e
    | str b =>
      unfold rd at e
      dsimp only at e
      split at e
      · rename_i hl
        cases e
        exact ⟨by simpa [PyData.canLay0] using okS_ok hl, by simp [PyData.depth]⟩
      · cases e
    | _ => have e : some _ = some p := e; cases e; exact ⟨by simp [PyData.canLay0], by simp [PyData.depth]⟩
theorem rd_shaped {S : Store} {d : D} {p : PyData} (e : rd S 30 d = some p) : SeqAt.shaped p = true := by
  obtain ⟨h1, h2⟩ := rd_lay 30 d p e
  unfold SeqAt.shaped
  rw [h1, decide_eq_true (by omega)]
  rfl
theorem re_eq (hK : X.K = c.K) : Re2 c E oEq (rEqD X.K) := by
  intro φ H S x y v w Q s dx dy p
  have p : Po c E φ H (match rd S 30 x, rd S 30 y with
    | some a, some b => .ok (.bl (PyData.eqv a b)) S
    | _, _ => .stuck) (ZE c Q) := p
  rw [hK]
  split at p
  · rename_i a b h1 h2
    exact ⟨a, b, dp_of s.lsts 30 _ _ _ dx h1, dp_of s.lsts 30 _ _ _ dy h2, rd_shaped h1, rd_shaped h2, Po.now p s _ (.bl _)⟩
  · exact p.elim
theorem re_ne (hK : X.K = c.K) : Re2 c E oNe (rNeD X.K) := by
  intro φ H S x y v w Q s dx dy p
  have p : Po c E φ H (match rd S 30 x, rd S 30 y with
    | some a, some b => .ok (.bl (!PyData.eqv a b)) S
    | _, _ => .stuck) (ZE c Q) := p
  rw [hK]
  split at p
  · rename_i a b h1 h2
    exact ⟨a, b, dp_of s.lsts 30 _ _ _ dx h1, dp_of s.lsts 30 _ _ _ dy h2, rd_shaped h1, rd_shaped h2, Po.now p s _ (.bl _)⟩
  · exact p.elim
end
end NM

set_option linter.all false
set_option maxRecDepth 100000
set_option maxHeartbeats 2000000
/-! Operations: membership, length, places, slices, lists used up. -/
namespace NM
open PySem PySem.Spec PyProof.Rows L2
section
variable {X : Cx} {c : Cf} {E : XK} {e a b : Expr} {es : List Expr} {f g : Ex} {fs : Exs} {pos : Pos}
theorem one_cps {x : Str} {k : Nat} (h : x.cps.toList = [k]) : x = ⟨#[k]⟩ := by
  obtain ⟨cps⟩ := x
  have h : cps.toList = [k] := h
  have e : cps = #[k] := by rw [← Array.toArray_toList (xs := cps), h]
  rw [e]
theorem re_inS : Re2 c E (oInS false) (fun x y H Q => ∃ (k : Nat) (z : Str), x = .str ⟨#[k]⟩ ∧ y = .str z ∧ Q (.bl (decide (k ∈ z.cps.toList))) H) := by
  intro φ H S x y v w Q s dx dy p
  cases dx with
  | str x => cases dy with
    | str z =>
      have p : Po c E φ H (match x.cps.toList with
        | [k] => .ok (.bl (if false then !decide (k ∈ z.cps.toList) else decide (k ∈ z.cps.toList))) S
        | _ => .stuck) (ZE c Q) := p
      split at p
      · rename_i k hk
        refine ⟨k, z, by rw [one_cps hk], rfl, ?_⟩
        exact Po.now p s _ (.bl _)
      · exact p.elim
    | _ => exact p.elim
  | _ => cases dy <;> exact p.elim
theorem re_niS : Re2 c E (oInS true) (fun x y H Q => ∃ (k : Nat) (z : Str), x = .str ⟨#[k]⟩ ∧ y = .str z ∧ Q (.bl (!decide (k ∈ z.cps.toList))) H) := by
  intro φ H S x y v w Q s dx dy p
  cases dx with
  | str x => cases dy with
    | str z =>
      have p : Po c E φ H (match x.cps.toList with
        | [k] => .ok (.bl (if true then !decide (k ∈ z.cps.toList) else decide (k ∈ z.cps.toList))) S
        | _ => .stuck) (ZE c Q) := p
      split at p
      · rename_i k hk
        refine ⟨k, z, by rw [one_cps hk], rfl, ?_⟩
        exact Po.now p s _ (.bl _)
      · exact p.elim
    | _ => exact p.elim
  | _ => cases dy <;> exact p.elim

/-! ### calls of built-ins -/
theorem callB {x : Str} {o : List D → Store → R D} {r : List V → Hp → VK → Prop} {p' : Pos} (h : PE X (.Call (.Name x p') es [] pos) (tCB r (tA c E fs))) (hr : ReN c E o r) : SE X c E (.Call (.Name x p') es [] pos) (eN o fs) := askE h fun σ H Q ⟨φ, ρ, S, at_, p⟩ =>
  ⟨φ, ρ, S, at_, (Po.bind (r := fs ρ S) p).imp fun ds S1 φ1 H1 _ x1 s1 p1 vs dvs => hr φ1 H1 S1 ds vs Q s1 dvs p1⟩
theorem CallR.or {f : Value} {r r' : List V → Hp → VK → Prop} (h : CallR X f r) (h' : CallR X f r') : CallR X f (fun xs H Q => r xs H Q ∨ r' xs H Q) := fun pins s σ H xs us Q I r q => q.elim (h pins s σ H xs us Q I r) (h' pins s σ H xs us Q I r)
def rLenA (K : PySem.W.Frag) : List V → Hp → VK → Prop := fun xs H Q => (∃ x n, xs = [x] ∧ LenV K x H n ∧ Q (.int n) H) ∨ ((∃ a kvs, xs = [V.ref a] ∧ H a = some (.dK kvs) ∧ Q (.int kvs.length) H) ∨ ∃ a kvs, xs = [V.ref a] ∧ H a = some (.dT kvs) ∧ Q (.int kvs.length) H)
theorem DKs.length {κ : Type} {mk : κ → DK} {K : PySem.W.Frag} {φ : List Addr} {H : Hp} : ∀ {l m}, DKs mk K H φ l m → l.length = m.length
  | _, _, .nil => rfl
  | _, _, .cons _ t => by simp [DKs.length t]
theorem re_len (hK : X.K = c.K) : ReN c E bLen (rLenA X.K) := by
  intro φ H S xs vs Q s dvs p
  rw [hK]
  cases dvs with
  | nil => exact p.elim
  | @cons d v ds vs' h t => cases t with
    | cons _ _ => exact p.elim
    | nil =>
      have p : Po c E φ H (match lenD d S with
        | some n => .ok (.int n) S
        | none => .stuck) (ZE c Q) := p
      split at p
      · rename_i n hn
        have q := fun v dv => Po.now p s v dv
        cases h with
        | str x =>
          unfold lenD at hn
          dsimp only at hn
          split at hn
          · rename_i hl
            cases hn
            exact .inl ⟨_, _, rfl, ⟨capL hl, rfl⟩, q _ (.int _)⟩
          · cases hn
        | tup h1 h2 =>
          have e : some _ = some n := hn
          cases e
          refine .inl ⟨_, _, rfl, .inr ⟨_, SqT.of h1, h2.length⟩, q _ (.int _)⟩
        | frl h1 h2 =>
          have e : some _ = some n := hn
          cases e
          exact .inl ⟨_, _, rfl, .inl ⟨_, h1.elim (fun ⟨o, z⟩ => .inl (.inr ⟨o, z⟩)) (fun z => z H), h2.length⟩, q _ (.int _)⟩
        | @ptr k a h1 =>
          unfold lenD at hn
          dsimp only at hn
          split at hn
          · rename_i ds hk
            cases hn
            obtain ⟨vs, q1, q2⟩ := s.lsts k ds a h1 hk
            exact .inl ⟨_, _, rfl, .inl ⟨vs, SqL.of q1, q2.length⟩, q _ (.int _)⟩
          · rename_i b kvs hk
            cases hn
            have z := s.ob k a _ h1 hk
            cases b
            · obtain ⟨m, q1, q2⟩ := z
              refine .inr (.inl ⟨a, m, rfl, q1, ?_⟩)
              rw [← q2.length]
              exact q _ (.int _)
            · obtain ⟨m, q1, q2⟩ := z
              refine .inr (.inr ⟨a, m, rfl, q1, ?_⟩)
              rw [← q2.length]
              exact q _ (.int _)
          · cases hn
        | _ => cases hn
      · exact p.elim
theorem re_abs : ReN c E bAbs (fun xs H Q => ∃ i, xs = [V.int i] ∧ Q (V.int (if i < 0 then -i else i)) H) := by
  intro φ H S xs vs Q s dvs p
  cases dvs with
  | nil => exact p.elim
  | cons h t => cases t with
    | cons _ _ => cases h <;> exact p.elim
    | nil => cases h with
      | int i => exact ⟨i, rfl, Po.now (a := D.int (if i < 0 then -i else i)) p s _ (.int _)⟩
      | _ => exact p.elim
theorem re_int : ReN c E bInt (fun xs H Q => (∃ i, xs = [V.int i] ∧ Q (V.int i) H) ∨ ∃ k, xs = [V.bl k] ∧ Q (V.int (if k = true then 1 else 0)) H) := by
  intro φ H S xs vs Q s dvs p
  cases dvs with
  | nil => exact p.elim
  | cons h t => cases t with
    | cons _ _ => cases h <;> exact p.elim
    | nil => cases h with
      | int i => exact .inl ⟨i, rfl, Po.now (a := D.int i) p s _ (.int _)⟩
      | bl k => exact .inr ⟨k, rfl, Po.now (a := D.int (if k = true then 1 else 0)) p s _ (.int _)⟩
      | _ => exact p.elim
/-! ### places -/
theorem ixD_eq (n : Nat) (i : Int) : ixD n i = ixN n i := rfl
theorem atD_get {K : PySem.W.Frag} {H : Hp} {φ : List Addr} {ds : List D} {vs : List V} (h : Dens K H φ ds vs) {i : Int} {d : D} (e : atD ds i = some d) : ∃ v, atI vs i = some v ∧ Den K H φ d v := by
  unfold atD at e
  unfold atI
  rw [ixD_eq, h.length] at e
  cases q : ixN vs.length i with
  | none => rw [q] at e; cases e
  | some j =>
    rw [q] at e
    exact h.get e
theorem re_ix (hK : X.K = c.K) : Re2 c E oIx (rIx X.K) := by
  intro φ H S x y v w Q s dx dy p
  rw [hK]
  cases dx with
  | @tup ds a vs h1 h2 => cases dy with
    | int i =>
      have p : Po c E φ H (match atD ds i with
        | some d => .ok d S
        | none => .stuck) (ZE c Q) := p
      split at p
      · rename_i d hd
        obtain ⟨u, q1, q2⟩ := atD_get h2 hd
        exact .inr (.inl ⟨a, vs, i, u, rfl, rfl, SqT.of h1, q1, Po.now p s _ q2⟩)
      · exact p.elim
    | _ => exact p.elim
  | @frl ds a vs h1 h2 => cases dy with
    | int i =>
      have p : Po c E φ H (match atD ds i with
        | some d => .ok d S
        | none => .stuck) (ZE c Q) := p
      split at p
      · rename_i d hd
        obtain ⟨u, q1, q2⟩ := atD_get h2 hd
        exact .inl ⟨a, vs, i, u, rfl, rfl, h1.elim (fun ⟨o, z⟩ => .inl (.inr ⟨o, z⟩)) (fun z => z H), q1, Po.now p s _ q2⟩
      · exact p.elim
    | _ => exact p.elim
  | @ptr n a h1 => cases dy with
    | int i =>
      have p : Po c E φ H (match S[n]? with
        | some (.lst ds) => match atD ds i with
          | some d => .ok d S
          | none => .stuck
        | _ => .stuck) (ZE c Q) := p
      split at p
      · rename_i ds hn
        obtain ⟨vs, k1, k2⟩ := s.lsts n ds a h1 hn
        split at p
        · rename_i d hd
          obtain ⟨u, q1, q2⟩ := atD_get k2 hd
          exact .inl ⟨a, vs, i, u, rfl, rfl, SqL.of k1, q1, Po.now p s _ q2⟩
        · exact p.elim
      · exact p.elim
    | _ => exact p.elim
  | str z => cases dy with
    | int i =>
      have p : Po c E φ H (if z.length ≤ cap then match atD (chars z) i with
        | some d => .ok d S
        | none => .stuck
        else .stuck) (ZE c Q) := p
      split at p
      · rename_i hl
        split at p
        · rename_i d hd
          unfold atD at hd
          cases q : ixD (chars z).length i with
          | none => rw [q] at hd; cases hd
          | some j =>
            rw [q] at hd
            obtain ⟨k, hk, rfl⟩ := chars_get hd
            refine .inr (.inr ⟨z, i, k, rfl, rfl, capL hl, ?_, Po.now p s _ (.str _)⟩)
            unfold atI
            have el : (chars z).length = z.cps.toList.length := by simp [chars]
            rw [← ixD_eq, ← el, q]
            simpa using hk
        · exact p.elim
      · exact p.elim
    | _ => exact p.elim
  | _ => cases dy <;> exact p.elim
theorem se_ix (hK : X.K = c.K) (ha : SE X c E a f) (hb : SE X c E b g) (hs : PlainIx b) : SE X c E (.Subscript a b pos) (e2 oIx f g) := askE (pe_ix ix_seq ha hb hs) (bin2 (re_ix hK))

/-! ### slices -/
theorem six_eq (n d : Nat) (o : Option Int) : six n d o = HT.sIx n d o := by
  cases o <;> rfl
theorem cutD_dens {K : PySem.W.Frag} {H : Hp} {φ : List Addr} {ds : List D} {vs : List V} (h : Dens K H φ ds vs) (lo hi : Option Int) : Dens K H φ (cutD ds lo hi) (cutV vs lo hi) := by
  unfold cutD cutV
  rw [six_eq, six_eq, h.length]
  exact (h.drop _).take _
abbrev tO (c : Cf) (E : XK) (o : Ox) : TO := fun σ H Q => ∃ φ ρ S, At c σ H φ ρ S ∧ Po c E φ H (o ρ S) fun r _ _ H' => Q r H'
abbrev SO (X : Cx) (c : Cf) (E : XK) (e : Option Expr) (o : Ox) : Prop := PO X e (tO c E o)
theorem askO {e : Option Expr} {t t' : TO} (h : PO X e t) (q : ∀ σ H Q, t' σ H Q → t σ H Q) : PO X e t' := ⟨fun pins s σ H Q I hw => h.run pins s σ H Q I (q _ _ _ hw)⟩
theorem so_none : SO X c E none oNone := askO po_none fun σ H Q ⟨φ, ρ, S, a, p⟩ => Po.now (a := none) p a.s
theorem so_some (h : SE X c E e f) : SO X c E (some e) (oSome f) := askO (po_some h) fun σ H Q ⟨φ, ρ, S, a, p⟩ => by
  refine ⟨φ, ρ, S, a, (Po.bind (r := f ρ S) p).imp fun d S1 φ1 H1 _ x1 s1 p1 v dv => ?_⟩
  cases dv with
  | int i => exact ⟨i, rfl, Po.now (a := some i) p1 s1⟩
  | _ => exact p1.elim
theorem se_sl {lo hi : Option Expr} {ol oh : Ox} {p2 : Pos} (hK : X.K = c.K) (ha : SE X c E e f) (hl : SO X c E lo ol) (hh : SO X c E hi oh) : SE X c E (.Subscript e (.Slice lo hi none p2) pos) (eSl f ol oh) := by
  have key : SlR X (fun v l h H Q => rSlA X.K v l h H Q ∨ rSlS v l h H Q) := fun pins s σ H x v vl vu lo hi sl Q I rx hs pl pu q => q.elim (sl_tupA pins s σ H x v vl vu lo hi sl Q I rx hs pl pu) (sl_str pins s σ H x v vl vu lo hi sl Q I rx hs pl pu)
  refine askE (pe_slice key ha hl hh) fun σ H Q ⟨φ, ρ, S, a, p⟩ => ?_
  refine ⟨φ, ρ, S, a, (Po.bind (r := f ρ S) p).imp fun d S1 φ1 H1 _ x1 s1 p1 v dv => ⟨φ1, ρ, S1, a.later x1 s1, (Po.bind (r := ol ρ S1) p1).imp fun l S2 φ2 H2 _ x2 s2 p2 => ⟨φ2, ρ, S2, (a.later x1 s1).later x2 s2, (Po.bind (r := oh ρ S2) p2).imp fun h S3 φ3 H3 _ x3 s3 p3 => ?_⟩⟩⟩
  have dv := dv.mono (x2.trans x3).w
  cases dv with
  | @tup ds q vs h1 h2 =>
    rw [hK]
    refine .inl ⟨q, vs, rfl, SqT.of h1, fun hw => ?_, fun _ r hr => ?_⟩
    · have e : cutV vs l h = vs := by
        unfold cutV
        rw [hw.1, hw.2]
        simp
      have e2 : cutD ds l h = ds := by
        unfold cutD
        rw [six_eq, six_eq, h2.length, hw.1, hw.2]
        simp [← h2.length]
      have p4 : Po c E φ3 H3 (.ok (.tup (cutD ds l h)) S3) (ZE c Q) := p3
      rw [e2] at p4
      exact p4.now s3 _ (.tup h1 h2)
    · obtain ⟨s4, x4, d4⟩ := newT s3 hr (cutD_dens h2 l h)
      exact (show Po c E φ3 H3 (.ok (.tup (cutD ds l h)) S3) (ZE c Q) from p3) φ3 _ x4 s4 _ d4
  | str z =>
    have p4 : Po c E φ3 H3 (if z.length ≤ cap then .ok (.str ⟨(cutD z.cps.toList l h).toArray⟩) S3 else .stuck) (ZE c Q) := p3
    split at p4
    · rename_i hl
      refine .inr ⟨z, rfl, capL hl, ?_⟩
      have e : cutS z l h = ⟨(cutD z.cps.toList l h).toArray⟩ := by
        unfold cutS cutD
        rw [six_eq, six_eq]
        rfl
      rw [e]
      exact p4.now s3 _ (.str _)
    · exact p4.elim
  | _ => exact p3.elim
theorem sl_sl {lo hi : Option Expr} {ol oh : Ox} {p2 : Pos} (hK : X.K = c.K) (ha : SE X c E e f) (hl : SO X c E lo ol) (hh : SO X c E hi oh) : SL X c E (.Subscript e (.Slice lo hi none p2) pos) (lSl f ol oh) := by
  refine askE (pe_slice sl_list ha hl hh) fun σ H Q ⟨φ, ρ, S, a, p⟩ => ?_
  refine ⟨φ, ρ, S, a, (Po.bind (r := f ρ S) p).imp fun d S1 φ1 H1 _ x1 s1 p1 v dv => ⟨φ1, ρ, S1, a.later x1 s1, (Po.bind (r := ol ρ S1) p1).imp fun l S2 φ2 H2 _ x2 s2 p2 => ⟨φ2, ρ, S2, (a.later x1 s1).later x2 s2, (Po.bind (r := oh ρ S2) p2).imp fun h S3 φ3 H3 _ x3 s3 p3 => ?_⟩⟩⟩
  have dv := dv.mono (x2.trans x3).w
  have live : ∀ {r}, H3 r = none → H r = none := fun hr => x1.live _ (x2.live _ (x3.live _ hr))
  rw [hK]
  cases dv with
  | @frl ds q vs h1 h2 =>
    refine ⟨q, vs, rfl, h1.elim (fun ⟨o, z⟩ => .inl (.inr ⟨o, z⟩)) (fun z => z H3), fun r hr => ?_⟩
    obtain ⟨s4, x4, np, d4⟩ := newL s3 hr (cutD_dens h2 l h)
    exact (show Po c E φ3 H3 (.ok (cutD ds l h) S3) (ZL c H Q) from p3) φ3 _ x4 s4 _ _ (live hr) np upd_same d4
  | @ptr n q h1 =>
    have p4 : Po c E φ3 H3 (match S3[n]? with
      | some (.lst ds) => .ok (cutD ds l h) S3
      | _ => .stuck) (ZL c H Q) := p3
    split at p4
    · rename_i ds hn
      obtain ⟨vs, k1, k2⟩ := s3.lsts n ds q h1 hn
      refine ⟨q, vs, rfl, SqL.of k1, fun r hr => ?_⟩
      obtain ⟨s4, x4, np, d4⟩ := newL s3 hr (cutD_dens k2 l h)
      exact p4 φ3 _ x4 s4 _ _ (live hr) np upd_same d4
    · exact p4.elim
  | _ => exact p3.elim

/-! ### lists used up -/
theorem use {x : Str} {o : List D → Store → R D} {r : List V → Hp → VK → Prop} {p' : Pos} (h : PE X (.Call (.Name x p') [e] [] pos) (tCB r (tCons (tL c E fs) tNil))) (hr : ReL c E o r) : SE X c E (.Call (.Name x p') [e] [] pos) (eUse o fs) := askE h (use1 hr)
theorem re_uTup (hK : X.K = c.K) : ReL c E uTup (fun xs H Q => ∃ p ys, xs = [V.ref p] ∧ ((SqL X.K H p ys ∧ ∀ (l : Addr), H l = none → Q (V.ref l) (upd H l (HO.tup ys))) ∨ SqT X.K H p ys ∧ Q (V.ref p) H)) := by
  intro φ H S ds q vs Q s np hq dvs p
  refine ⟨q, vs, rfl, .inl ⟨SqL.of hq, fun l hl => ?_⟩⟩
  obtain ⟨s2, x2, d2⟩ := newT s hl dvs
  exact (show Po c E φ H (.ok (.tup ds) S) (ZE c Q) from p) φ _ x2 s2 _ d2
theorem bls_of {K : PySem.W.Frag} {H : Hp} {φ : List Addr} : ∀ {ds : List D} {vs : List V} {bs : List Bool}, Dens K H φ ds vs → blsD ds = some bs → vs = bs.map V.bl
  | _, _, bs, .nil, e => by
    have e : some [] = some bs := e
    cases e
    rfl
  | _, _, bs, .cons (d := d) (ds := ds) h t, e => by
    cases h with
    | bl k =>
      have e : (blsD ds).map (k :: ·) = some bs := e
      cases q : blsD ds with
      | none => rw [q] at e; cases e
      | some cs =>
        rw [q] at e
        cases e
        rw [bls_of t q]
        rfl
    | _ => cases e
theorem ints_of {K : PySem.W.Frag} {H : Hp} {φ : List Addr} : ∀ {ds : List D} {vs : List V} {bs : List Int}, Dens K H φ ds vs → intsD ds = some bs → vs = bs.map V.int
  | _, _, bs, .nil, e => by
    have e : some [] = some bs := e
    cases e
    rfl
  | _, _, bs, .cons (d := d) (ds := ds) h t, e => by
    cases h with
    | int k =>
      have e : (intsD ds).map (k :: ·) = some bs := e
      cases q : intsD ds with
      | none => rw [q] at e; cases e
      | some cs =>
        rw [q] at e
        cases e
        rw [ints_of t q]
        rfl
    | _ => cases e
theorem strs_of {K : PySem.W.Frag} {H : Hp} {φ : List Addr} : ∀ {ds : List D} {vs : List V} {bs : List Str}, Dens K H φ ds vs → strsD ds = some bs → vs = bs.map V.str
  | _, _, bs, .nil, e => by
    have e : some [] = some bs := e
    cases e
    rfl
  | _, _, bs, .cons (d := d) (ds := ds) h t, e => by
    cases h with
    | str k =>
      have e : (strsD ds).map (k :: ·) = some bs := e
      cases q : strsD ds with
      | none => rw [q] at e; cases e
      | some cs =>
        rw [q] at e
        cases e
        rw [strs_of t q]
        rfl
    | _ => cases e
theorem re_uAll (hK : X.K = c.K) : ReL c E uAll (rAll X.K) := by
  intro φ H S ds q vs Q s np hq dvs p
  have p : Po c E φ H (match blsD ds with
    | some bs => .ok (.bl (bs.all id)) S
    | none => .stuck) (ZE c Q) := p
  split at p
  · rename_i bs hb
    have e := bls_of dvs hb
    subst e
    exact ⟨q, bs, rfl, SqL.of hq, Po.now p s _ (.bl _)⟩
  · exact p.elim
theorem re_uAny (hK : X.K = c.K) : ReL c E uAny (rAny X.K) := by
  intro φ H S ds q vs Q s np hq dvs p
  have p : Po c E φ H (match blsD ds with
    | some bs => .ok (.bl (bs.any id)) S
    | none => .stuck) (ZE c Q) := p
  split at p
  · rename_i bs hb
    have e := bls_of dvs hb
    subst e
    exact ⟨q, bs, rfl, SqL.of hq, Po.now p s _ (.bl _)⟩
  · exact p.elim
theorem re_uSum (hK : X.K = c.K) : ReL c E uSum (rSum X.K) := by
  intro φ H S ds q vs Q s np hq dvs p
  have p : Po c E φ H (match intsD ds with
    | some bs => .ok (.int bs.sum) S
    | none => .stuck) (ZE c Q) := p
  split at p
  · rename_i bs hb
    have e := ints_of dvs hb
    subst e
    exact ⟨q, bs, rfl, SqL.of hq, Po.now p s _ (.int _)⟩
  · exact p.elim
theorem re_uLen (hK : X.K = c.K) : ReL c E uLen (rLenA X.K) := by
  intro φ H S ds q vs Q s np hq dvs p
  refine .inl ⟨_, _, rfl, .inl ⟨vs, SqL.of hq, dvs.length⟩, Po.now (a := D.int ds.length) p s _ (.int _)⟩
end
end NM

set_option linter.all false
set_option maxRecDepth 100000
set_option maxHeartbeats 2000000
/-! Defs: their bodies, their calls. -/
namespace NM
open PySem PySem.Spec PyProof.Rows L2
section
variable {P : Program} {w : World} {K : PySem.W.Frag} {mg : Str → Option Value} {base : Heap} {c : Cf}
/-- the wish of a def's body about exceptions, as a wish with slots -/
abbrev wE (E : XK) : WX := fun cls d _ H => E cls d H
theorem ZE.of {D : Ends} {Q : VK} : True := trivial
theorem start_lr {H : Hp} {φ : List Addr} {ds : List D} {vs : List V} (N : List Str) (h : Dens K H φ ds vs) : LR K H φ (ds.map some ++ List.replicate (N.length - ds.length) none) (L2.start N vs) := by
  refine ⟨by simp [L2.start, h.length], fun i d e => ?_⟩
  have hl := h.length
  by_cases hi : i < ds.length
  · rw [List.getElem?_append_left (by simpa using hi), List.getElem?_map] at e
    cases q : ds[i]? with
    | none => rw [q] at e; cases e
    | some d' =>
      rw [q] at e
      have e : d' = d := by simpa using e
      subst e
      obtain ⟨v, h1, h2⟩ := h.get q
      refine ⟨v, ?_, h2⟩
      unfold L2.start
      rw [List.getElem?_append_left (by simpa using (by rw [← hl]; exact hi)), List.getElem?_map, h1]
      rfl
  · rw [List.getElem?_append_right (by simpa using Nat.le_of_not_lt hi)] at e
    rw [List.getElem?_replicate] at e
    split at e <;> cases e
/-- THE RULE for a def -/
theorem fn_ok {x qual : Str} {params : Arguments} {bd : List Stmt} {scope : Scope} {dvs : List V} {kws : List (Str × V)} {f : Addr} {fd : FuncData} {N ps : List Str} {k : Nat} {s : Sx} (hK : c.K = K) (F : FunD K x qual params bd scope dvs kws f fd) (Sc : FnScope N ps scope)
    (hb : ∀ (cdv : Value) (A : Around) (outer : List Env) (sh : Shared) (H : Hp) (E : XK), Room k (A.deeper (envOfC qual scope sh.heap.objs.size f cdv)) → SB (cxOf (L2.CX P w) P w K mg base N qual scope f cdv A outer sh H E) c E bd s) :
    FnOk P w K mg base (L2.CX P w) (k + 1) f fd ps (spM c (body ps.length N.length s)) := by
  refine F.ok Sc (fun vs H Q E h => ?_) (fun cdv A outer sh H vs Q E hr h => ⟨tS c E s, hb cdv A outer sh H E hr, ?_⟩)
  · obtain ⟨φ, ds, S, _, dv, p⟩ := h
    rw [← dv.length]
    by_cases q : ds.length = ps.length
    · exact q
    · unfold body at p
      rw [if_pos q] at p
      exact p.elim
  · obtain ⟨φ, ds, S, sr, dv, p⟩ := h
    unfold body at p
    split at p
    · exact p.elim
    · refine ⟨φ, _, S, ⟨sr, by rw [hK] at dv ⊢; exact start_lr N dv⟩, (Po.bind (r := s _ S) p).imp fun fl S1 φ1 H1 _ x1 s1 p1 => ?_⟩
      cases fl with
      | next ρ => exact fun σ' _ => Po.now (a := NM.D.non) (E := E) p1 s1 _ .non
      | ret d => exact Po.now (a := d) (E := E) p1 s1
      | brk ρ => exact p1.elim
      | cont ρ => exact p1.elim
/-- a def of the module, known -/
structure Def (P : Program) (w : World) (K : PySem.W.Frag) (mg : Str → Option Value) (base : Heap) (c : Cf) (k : Nat) (x : Str) (ps : List Str) (m : List D → Store → R D) : Prop where
  ok : ∃ fd, FnOk P w K mg base (L2.CX P w) k (He.ga K x) fd ps (spM c m) ∧ L2.Binds K fd ps []
  gm : mg x = some (.ref (He.ga K x))
  kp : PySem.W.keepIn K (.ref (He.ga K x)) = true
theorem Def.mono {k j : Nat} {x : Str} {ps : List Str} {m : List D → Store → R D} (d : Def P w K mg base c k x ps m) (h : k ≤ j) : Def P w K mg base c j x ps m := ⟨let ⟨fd, a, b⟩ := d.ok; ⟨fd, a.mono h, b⟩, d.gm, d.kp⟩
end
section
variable {X : Cx} {c : Cf} {E : XK} {e a b : Expr} {es : List Expr} {f g : Ex} {fs : Exs} {pos : Pos}
/-- f(e, ..) -/
theorem se_call {k : Nat} {x : Str} {ps : List Str} {m : List D → Store → R D} {p' : Pos} (G : Def X.prog X.w X.K X.mg X.base c k x ps m) (hr : Room k X.A) (tk : Takes X (wE E)) (hg : Gl X x) (ha : SA X c E (e :: es) fs) (hdb : (x == ("__debug__" : Str)) = false := by decide)
    (he : starEach (e :: es) X.env = (false, eval e X.env) :: starEach es X.env := by rfl) (hpl : (backTo pos (starEach es X.env)).any (·.1) = false := by rfl) : SE X c E (.Call (.Name x p') (e :: es) [] pos) (eN m fs) := by
  obtain ⟨fd, F, hb⟩ := G.ok
  exact askE (pe_callS F hr hg G.gm G.kp hb (fun σ => passAt tk σ) ha hdb he hpl) fun σ H Q ⟨φ, ρ, S, at_, p⟩ =>
    ⟨φ, ρ, S, at_, (Po.bind (r := fs ρ S) p).imp fun ds S1 φ1 H1 _ x1 s1 p1 vs dvs => ⟨φ1, ds, S1, s1, dvs, p1⟩⟩
end
end NM

open PySem PySem.Spec PyProof.Rows PySem.W
set_option maxRecDepth 100000
set_option maxHeartbeats 2000000
namespace NM
theorem lkf : typeLookup (.type "function") "__class__" = pure (some (.builtin "object.__class__")) := by rw [typeLookup_type, builtinLookup_eq_fast]; kernel_rfl
theorem lkg : typeLookup (.type "function") "__getattribute__" = pure (some (.builtin "object.__getattribute__")) := by rw [typeLookup_type, builtinLookup_eq_fast]; kernel_rfl
theorem subf : isSubtype (.type "function") (.type (".".intercalate ("object.__class__".cutAt '.').dropLast)) = pure true := by
  rw [F.owner_object_class, isSubtype_type]; kernel_rfl
section
variable {prog : Program} {w : World} {A : Around} {E : Value → Shared → Prop} {h : Heap} {g : Array GenState} {d : Drawn} {t : Nat} {os : OsState} {a : Addr} {o : Obj}
theorem class_get_fn {R : Result → Shared → Prop} (hx : h.get? a = some o) (hc : o.cls = .type "function") (hq : R (.ok (.ret (.type "function"))) ⟨h, g, d, t, os⟩) :
    codeAny (model prog w) A (.call (.builtin "getset_descriptor.__get__") ⟨[.builtin "object.__class__", .ref a, .type "function"], []⟩) R ⟨h, g, d, t, os⟩ := by
  have hT : (⟨h, g, d, t, os⟩ : Shared).TypeIs (.ref a) "function" := ⟨_, hx, hc⟩
  have hT5 : (⟨h, g, d, t, os⟩ : Shared).TypeIs (.builtin "object.__class__") "getset_descriptor" := F.typeOf_object_class
  have f8 := subf
  refine codeAny_call_builtin F.slot_gs_get.plain F.entry_gs_get (F.slot_gs_get.check _ _ _ _ _ _ _ _ hT5 (F.args_gs_get _ _ _) ?_)
  repeat (any_goals (first | assumption | wp_step))
  refine ⟨Code.quiet_builtin _ (by decide +kernel), codeAny_builtin F.entry_object_class ?_⟩
  repeat (any_goals (first | assumption | wp_step))
theorem class_entry_fn {tk : Tok} {Q : Fin → Shared → Prop} (hx : h.get? a = some o) (hc : o.cls = .type "function") (hq : Q (.done (.ret (.type "function"))) ⟨h, g, d, t, os⟩) :
    wpAny (model prog w) A (Builtin.«object.__getattribute__» ⟨[.ref a, .str "__class__" tk], []⟩) Q E ⟨h, g, d, t, os⟩ := by
  have hT : (⟨h, g, d, t, os⟩ : Shared).TypeIs (.ref a) "function" := ⟨_, hx, hc⟩
  have hT5 : (⟨h, g, d, t, os⟩ : Shared).TypeIs (.builtin "object.__class__") "getset_descriptor" := F.typeOf_object_class
  have f4 := lkf
  have f5 := F.typeOf_object_class
  have f6 := F.slot_gs_get.lookup
  have f7 := F.slot_gs_set.lookup
  repeat (any_goals (first | assumption | wp_step))
  refine class_get_fn hx hc ?_
  repeat (any_goals (first | assumption | wp_step))
theorem sub_obj (M : Model) (hx : h.get? a = some o) (hc : o.cls = .type "function") : Looks M h (isInstance (.ref a) (.type "object")) true := by
  have LT : Looks M h (typeOf (.ref a)) (.type "function") := fun A Q E s k q => wpAny_typeOf_ref (k _ _ hx) (by rw [hc]; exact q)
  exact LT.andThen (Looks.of_pure (by rw [isSubtype_type]; kernel_rfl))
theorem class_call_fn {tk : Tok} {R : Result → Shared → Prop} (hx : h.get? a = some o) (hc : o.cls = .type "function") (hq : R (.ok (.ret (.type "function"))) ⟨h, g, d, t, os⟩) :
    codeAny (model prog w) A (.call (.builtin "object.__getattribute__") ⟨[.ref a, .str "__class__" tk], []⟩) R ⟨h, g, d, t, os⟩ := by
  refine codeAny_call_builtin F.slot_object_getattribute.plain F.entry_object_getattribute ?_
  refine @PySem.W.check_slot (model prog w) _ _ ⟨h, g, d, t, os⟩ "object.__getattribute__" "object" "__getattribute__" (.ref a) [.str "__class__" tk] [] _ (by decide +kernel) (by decide +kernel) (sub_obj _ hx hc) ?_ ?_
  · exact F.args_object_getattribute_2 _ _
  · exact class_entry_fn hx hc hq
theorem class_by_fn {tk : Tok} {Q : Value → Shared → Prop} (hx : h.get? a = some o) (hc : o.cls = .type "function") (hq : Q (.type "function") ⟨h, g, d, t, os⟩) : wpAny (model prog w) A (getAttrBy (.ref a) (.str "__class__" tk) false) Q E ⟨h, g, d, t, os⟩ := by
  have hT : (⟨h, g, d, t, os⟩ : Shared).TypeIs (.ref a) "function" := ⟨_, hx, hc⟩
  have f2 := lkg
  have f3 := F.slot_object_getattribute.bind (.ref a)
  repeat (any_goals (first | assumption | wp_step))
  refine class_call_fn hx hc ?_
  repeat (any_goals (first | assumption | wp_step))
theorem class_attr_fn {Q : Option Value → Shared → Prop} (hx : h.get? a = some o) (hc : o.cls = .type "function") (hq : Q (some (.type "function")) ⟨h, g, d, t + 1, os⟩) : wpAny (model prog w) A (getAttr? (.ref a) "__class__") Q E ⟨h, g, d, t, os⟩ := by
  unfold getAttr? getAttrBy?
  repeat (any_goals (first | assumption | with_reducible apply class_by_fn hx hc | wp_step))
theorem kitx_fn {K : Frag} {a : Addr} : KitX K (.ref a) (.type "function") (KitAt a "function") := kitx_of kitAt_ty (fun {_ _ _ _ _ s} p k => by obtain ⟨h, g, d, t, os⟩ := s; obtain ⟨o, h1, h2⟩ := p; exact class_attr_fn h1 h2 k)
end
end NM

set_option linter.all false
set_option maxRecDepth 100000
set_option maxHeartbeats 2000000
/-! isinstance; chains. -/
namespace NM
open PySem PySem.Spec PyProof.Rows L2
def tyV (K : PySem.W.Frag) : Ty → Value
  | .ty n => .type n
  | .own x => .ref (He.ga K x)
def btN : List String := ["NoneType", "bool", "int", "str", "tuple", "list", "dict", "function"]
/-- an own class whose instances come -/
def insB (K : PySem.W.Frag) (x : Str) : Bool := (He.Fa.cls x).ok K && (decide (PySem.W.findIn K (.ref (He.ga K x)) "__class__" = some (some (.builtin "object.__class__"))) && decide (PySem.W.mroIn K (He.ga K x) (.type "object") = some true))
def excB (K : PySem.W.Frag) (x : Str) : Bool := (PySem.W.clsIn K (He.ga K x)).isSome && (decide (PySem.W.findIn K (.ref (He.ga K x)) "__getattribute__" = some (some (.builtin "BaseException.__getattribute__"))) && (decide (PySem.W.findIn K (.ref (He.ga K x)) "__getattr__" = some none) &&
  (decide (PySem.W.subIn K (.ref (He.ga K x)) (.type "BaseException") = some true) && (decide (PySem.W.findIn K (.ref (He.ga K x)) "__class__" = some (some (.builtin "object.__class__"))) && decide (PySem.W.mroIn K (He.ga K x) (.type "object") = some true)))))
def objB (K : PySem.W.Frag) : Bool := decide (PySem.W.specialIn K (.builtin "object.__class__") "__get__" = some (some (.builtin "getset_descriptor.__get__"))) && decide (PySem.W.takesIn K (.builtin "object.__class__") = some true)
def kitB1 (K : PySem.W.Frag) (t c : Ty) : Bool := match subTy t c with
  | some b => decide (PySem.W.kitOne K (tyV K t) (tyV K c) = some b)
  | none => true
/-- all that isinstance leans on -/
def kiB (c : Cf) : Bool := objB c.K && (c.U.all (insB c.K) && (c.V.all (excB c.K) && ((btN.map Ty.ty ++ (c.U ++ c.V).map Ty.own).all fun t => (sixT.map Ty.ty ++ c.W.map Ty.own).all fun k => kitB1 c.K t k)))
structure KI (c : Cf) : Prop where
  ok : kiB c = true
section
variable {X : Cx} {c : Cf} {E : XK} {e a b d : Expr} {es : List Expr} {f g h : Ex} {fs : Exs} {pos : Pos} {pins : List (Addr × Obj)} {σ : L2.St} {H : Hp} {s : Shared} {φ : List Addr} {S : Store}
theorem KI.parts (k : KI c) : objB c.K = true ∧ (∀ x ∈ c.U, insB c.K x = true) ∧ (∀ x ∈ c.V, excB c.K x = true) ∧ ∀ t ∈ btN.map Ty.ty ++ (c.U ++ c.V).map Ty.own, ∀ y ∈ sixT.map Ty.ty ++ c.W.map Ty.own, kitB1 c.K t y = true := by
  have h := k.ok
  unfold kiB at h
  obtain ⟨h1, h⟩ := He.ba h
  obtain ⟨h2, h⟩ := He.ba h
  obtain ⟨h3, h⟩ := He.ba h
  exact ⟨h1, List.all_eq_true.mp h2, List.all_eq_true.mp h3, fun t ht y hy => List.all_eq_true.mp (List.all_eq_true.mp h t ht) y hy⟩
theorem kit_one (k : KI c) {t y : Ty} {r : Bool} (ht : t ∈ btN.map Ty.ty ++ (c.U ++ c.V).map Ty.own) (hy : y ∈ sixT.map Ty.ty ++ c.W.map Ty.own) (e : subTy t y = some r) : PySem.W.kitOne c.K (tyV c.K t) (tyV c.K y) = some r := by
  have h := k.parts.2.2.2 t ht y hy
  unfold kitB1 at h
  rw [e] at h
  exact of_decide_eq_true h
theorem kit_any (k : KI c) {t : Ty} (ht : t ∈ btN.map Ty.ty ++ (c.U ++ c.V).map Ty.own) : ∀ {ys : List Ty} {r : Bool}, (∀ y ∈ ys, y ∈ sixT.map Ty.ty ++ c.W.map Ty.own) → anyTy t ys = some r → PySem.W.kitAny c.K (tyV c.K t) (ys.map (tyV c.K)) = some r
  | [], r, _, e => e
  | y :: ys, r, hy, e => by
    unfold anyTy at e
    show (match PySem.W.kitOne c.K (tyV c.K t) (tyV c.K y) with
      | some true => some true
      | some false => PySem.W.kitAny c.K (tyV c.K t) (ys.map (tyV c.K))
      | none => none) = some r
    cases q : subTy t y with
    | none => rw [q] at e; cases e
    | some u =>
      rw [q] at e
      rw [kit_one k ht (hy y List.mem_cons_self) q]
      cases u with
      | true => exact e
      | false => exact kit_any k ht (fun z hz => hy z (List.mem_cons_of_mem _ hz)) e
/-- what isinstance wants of a value -/
theorem kitD (hK : X.K = c.K) (k : KI c) (I : Inv X pins σ H s) (sr : SR c H φ S) {dt : D} {v : V} {u : Value} {t : Ty} (dv : Den c.K H φ dt v) (rv : RelV v u) (ht : tyD dt S = some t) :
    t ∈ btN.map Ty.ty ++ (c.U ++ c.V).map Ty.own ∧ ∃ P : Heap → Prop, PySem.W.KitX c.K u (tyV c.K t) P ∧ P s.heap ∧ u ≠ .builtin "__main__.__loader__#opaque" := by
  have base : ∀ {n : String}, t = .ty n → n ∈ btN → TyX X.K H v (.type n) → t ∈ btN.map Ty.ty ++ (c.U ++ c.V).map Ty.own ∧ ∃ P : Heap → Prop, PySem.W.KitX c.K u (tyV c.K t) P ∧ P s.heap ∧ u ≠ .builtin "__main__.__loader__#opaque" := fun e hn q => by
    subst e
    refine ⟨List.mem_append_left _ (List.mem_map_of_mem hn), ?_⟩
    have r := kit_of I rv q
    rw [hK] at r
    exact r
  obtain ⟨k0, kU, kV, _⟩ := k.parts
  cases dv with
  | non => cases ht; exact base rfl (by decide) (.base .non)
  | bl b => cases ht; exact base rfl (by decide) (.base (.bl b))
  | int b => cases ht; exact base rfl (by decide) (.base (.int b))
  | str b => cases ht; exact base rfl (by decide) (.base (.str b))
  | tup h1 h2 => cases ht; exact base rfl (by decide) (.base (.tup h1))
  | @frl ds q vs h1 h2 =>
    cases ht
    rcases h1 with ⟨o, z⟩ | z
    · exact base rfl (by decide) (.base (.frz z))
    · rcases z (fun _ => none) with (z | ⟨o, z⟩) | ⟨o, its, n, z1, z2, _⟩
      · cases z
      · cases z
      · exact base rfl (by decide) (.kList (by rw [hK]; exact z1) z2)
  | @ptr n q h1 =>
    unfold tyD at ht
    dsimp only at ht
    split at ht
    · rename_i ds hn
      cases ht
      obtain ⟨vs, q1, _⟩ := sr.ob n q _ h1 hn
      exact base rfl (by decide) (.base (.lst q1))
    · rename_i b kvs hn
      cases ht
      have z := sr.ob n q _ h1 hn
      cases b
      · obtain ⟨m, q1, _⟩ := z
        exact base rfl (by decide) (.base (.dK q1))
      · obtain ⟨m, q1, _⟩ := z
        exact base rfl (by decide) (.base (.dT q1))
    · rename_i x fs hn
      cases ht
      obtain ⟨dx, gs, q1, q2, q3⟩ := sr.ob n q _ h1 hn
      refine ⟨List.mem_append_right _ (List.mem_map_of_mem (List.mem_append_left _ q3)), ?_⟩
      have b := kU x q3
      unfold insB at b
      obtain ⟨b1, b⟩ := He.ba b
      obtain ⟨b2, b3⟩ := He.ba b
      unfold objB at k0
      obtain ⟨k1, k2⟩ := He.ba k0
      have r := kit_of I rv (.base (.ins q1 (by rw [hK]; exact He.cls_ok b1) (by rw [hK]; exact of_decide_eq_true b2) (by rw [hK]; exact of_decide_eq_true k1) (by rw [hK]; exact of_decide_eq_true k2) (by rw [hK]; exact of_decide_eq_true b3)))
      rw [hK] at r
      exact r
    · rename_i x fs hn
      cases ht
      obtain ⟨dd, gs, φo, q1, q2, q3, q4, q5, q6⟩ := sr.ob n q _ h1 hn
      refine ⟨List.mem_append_right _ (List.mem_map_of_mem (List.mem_append_right _ q6)), ?_⟩
      have b := kV x q6
      unfold excB at b
      obtain ⟨b1, b⟩ := He.ba b
      obtain ⟨b2, b⟩ := He.ba b
      obtain ⟨b3, b⟩ := He.ba b
      obtain ⟨b4, b⟩ := He.ba b
      obtain ⟨b5, b6⟩ := He.ba b
      unfold objB at k0
      obtain ⟨k1, k2⟩ := He.ba k0
      obtain ⟨hφ, _, _⟩ := (show ObjOk X.prog X.w H s.heap q (.ext φo) from I.hok q _ q1)
      obtain ⟨oe, vs, e1, e2, e3, e4⟩ := q5 s.heap hφ
      obtain ⟨mA, ⟨od, es, ep, e5, _⟩, _⟩ := (show ObjOk X.prog X.w H s.heap dd (.xd gs) from I.hok dd _ q2)
      cases (show u = Value.ref q from rv)
      refine ⟨fun h => PySem.W.InstAt h q oe (He.ga c.K x) (some od), PySem.W.kitx_exc b1 (of_decide_eq_true b2) (of_decide_eq_true b3) (of_decide_eq_true b4) (of_decide_eq_true b5) (of_decide_eq_true k1) (of_decide_eq_true k2) (of_decide_eq_true b6), ⟨e1, e2, ?_, ?_⟩, fun z => nomatch z⟩
      · unfold PySem.W.notCls
        rw [e4]
      · rw [e3]
        exact e5
    · rename_i hn
      cases ht
      obtain ⟨φo, q1, q2⟩ := sr.ob n q _ h1 hn
      refine ⟨List.mem_append_left _ (by decide), ?_⟩
      obtain ⟨hφ, _, _⟩ := (show ObjOk X.prog X.w H s.heap q (.ext φo) from I.hok q _ q1)
      obtain ⟨oe, fd, e1, e2, e3⟩ := q2 s.heap hφ
      cases (show u = Value.ref q from rv)
      exact ⟨_, kitx_fn, ⟨oe, e1, e2⟩, fun z => nomatch z⟩
    · cases ht
  | _ => cases ht
/-- isinstance(x, c), by the plain side -/
def rIsiM (c : Cf) (cs : List Ty) : List V → Hp → VK → Prop := fun vs H Q => ∃ v cv φ S d t b, vs = [v, cv] ∧ SR c H φ S ∧ Den c.K H φ d v ∧ tyD d S = some t ∧ anyTy t cs = some b ∧
  (∃ y, cs = [y] ∧ (∀ u, RelV cv u → u = tyV c.K y)) ∧ Q (.bl b) H
theorem call_isiM (hK : X.K = c.K) (k : KI c) {cs : List Ty} (hc : ∀ y ∈ cs, y ∈ sixT.map Ty.ty ++ c.W.map Ty.own) : CallR X (.builtin "isinstance") (rIsiM c cs) := by
  intro pins s σ H xs us Q I r h
  obtain ⟨v, cv, φ, S, d, t, b, rfl, sr, dv, ht, hb, ⟨y, rfl, hy⟩, q⟩ := h
  obtain ⟨u1, u2, rfl, r1, r2⟩ := vals2 r
  obtain ⟨m, P, Z, p, hx⟩ := kitD hK k I sr dv r1 ht
  have e := hy u2 r2
  subst e
  have hb1 : PySem.W.kitOne c.K (tyV c.K t) (tyV c.K y) = some b := by
    have q := kit_any k m hc hb
    show PySem.W.kitOne c.K (tyV c.K t) (tyV c.K y) = some b
    have q2 : (match PySem.W.kitOne c.K (tyV c.K t) (tyV c.K y) with
      | some true => some true
      | some false => some false
      | none => none) = some b := q
    cases z : PySem.W.kitOne c.K (tyV c.K t) (tyV c.K y) with
    | none => rw [z] at q2; cases q2
    | some w => rw [z] at q2; cases w <;> exact q2
  have kin : c.K.In s.heap := by rw [← hK]; exact I.kIn
  exact PySem.W.kia_one Z kin p hb1 hx fun tk => ⟨.bl b, H, I.tok tk, rfl, q⟩
def clV (K : PySem.W.Frag) : Ty → V
  | .ty n => .ty n
  | .own x => .ref (He.ga K x)
/-- isinstance(x, C), C a name -/
theorem se_isi1 {y : Ty} {p1 : Pos} (h : PE X (.Call (.Name "isinstance" p1) [a, b] [] pos) (tCB (rIsiM c [y]) (tCons (tE c E f) (tCons (tC (clV c.K y)) tNil)))) : SE X c E (.Call (.Name "isinstance" p1) [a, b] [] pos) (eIsi [y] f) := by
  refine askE h fun σ H Q ⟨φ, ρ, S, at_, p⟩ => ?_
  refine ⟨φ, ρ, S, at_, (Po.bind (r := f ρ S) p).imp fun d S1 φ1 H1 _ x1 s1 p1 v dv => ?_⟩
  have p2 : Po c E φ1 H1 (match tyD d S1 with
    | some t => match anyTy t [y] with
      | some b => .ok (.bl b) S1
      | none => .stuck
    | none => .stuck) (ZE c Q) := p1
  split at p2
  · rename_i t ht
    split at p2
    · rename_i r hr
      refine ⟨v, _, φ1, S1, d, t, r, rfl, s1, dv, ht, hr, ⟨y, rfl, fun u hu => ?_⟩, p2.now s1 _ (.bl _)⟩
      cases y <;> exact hu
    · exact p2.elim
  · exact p2.elim
theorem isi6 {y : Ty} (h : y ∈ sixT.map Ty.ty) : ∀ z ∈ [y], z ∈ sixT.map Ty.ty ++ c.W.map Ty.own := fun z hz => by
  rw [List.mem_singleton.mp hz]
  exact List.mem_append_left _ h
theorem isiW {x : Str} (h : x ∈ c.W) : ∀ z ∈ [Ty.own x], z ∈ sixT.map Ty.ty ++ c.W.map Ty.own := fun z hz => by
  rw [List.mem_singleton.mp hz]
  exact List.mem_append_right _ (List.mem_map_of_mem h)
/-- a < b < c -/
theorem chain2 {o o' : D → D → Store → R D} {r r' : R2} (hr : Re2 c E o r) (hr' : Re2 c E o' r') (σ : L2.St) (H : Hp) (Q : VK) (h' : tE c E (eChain o o' f g h) σ H Q) : tE c E f σ H fun x H1 => tE c E g σ H1 fun y H2 => r x y H2 fun z H3 => ∃ k, z = .bl k ∧ if k = true then tE c E h σ H3 fun u H4 => r' y u H4 Q else Q (.bl false) H3 := by
  obtain ⟨φ, ρ, S, a, p⟩ := h'
  refine ⟨φ, ρ, S, a, (Po.bind (r := f ρ S) p).imp fun x S1 φ1 H1 _ x1 s1 p1 v dv => ⟨φ1, ρ, S1, a.later x1 s1, (Po.bind (r := g ρ S1) p1).imp fun y S2 φ2 H2 _ x2 s2 p2 w dw => ?_⟩⟩
  refine hr φ2 H2 S2 x y v w _ s2 (dv.mono x2.w) dw ((Po.bind (r := o x y S2) p2).imp fun z S3 φ3 H3 _ x3 s3 p3 u du => ?_)
  cases du with
  | bl k => cases k with
    | true => exact ⟨true, rfl, iteT ⟨φ3, ρ, S3, ((a.later x1 s1).later x2 s2).later x3 s3, (Po.bind (r := h ρ S3) p3).imp fun z S4 φ4 H4 _ x4 s4 p4 q dq => hr' φ4 H4 S4 y z w q Q s4 (dw.mono (x3.trans x4).w) dq p4⟩⟩
    | false => exact ⟨false, rfl, iteF (Po.now (a := D.bl false) p3 s3 _ (.bl false))⟩
  | _ => exact p3.elim
theorem se_chain {op op' : CmpOp} {o o' : D → D → Store → R D} {r r' : R2} {a' b' c' : Expr} (ho : OpR X (compareOp op) r) (hr : Re2 c E o r) (ho' : OpR X (compareOp op') r') (hr' : Re2 c E o' r') (ha : SE X c E a' f) (hb : SE X c E b' g) (hc : SE X c E c' h)
    (hm : lastMarks [op, op'] [b', c'] = false := by with_unfolding_all rfl) : SE X c E (.Compare a' [op, op'] [b', c'] pos) (eChain o o' f g h) := askE (pe_chain ho ho' ha hb hc hm) fun σ H Q q => chain2 hr hr' σ H Q q
theorem st_chain {op op' : CmpOp} {o o' : D → D → Store → R D} {r r' : R2} {a' b' c' : Expr} (ho : OpR X (compareOp op) r) (hr : Re2 c E o r) (ho' : OpR X (compareOp op') r') (hr' : Re2 c E o' r') (ha : SE X c E a' f) (hb : SE X c E b' g) (hc : SE X c E c' h)
    (hm : lastMarks [op, op'] [b', c'] = false := by with_unfolding_all rfl) : ST X c E (.Compare a' [op, op'] [b', c'] pos) (tVal (eChain o o' f g h)) := askT (pt_chain ho ho' ha hb hc hm) fun σ H Q q => chain2 hr hr' σ H _ (st_of σ H Q q)
/-! ### comprehensions -/
theorem sts_nil : PTs X [] (tT c E tTrue) := ⟨fun pins s σ H Q I ⟨φ, ρ, S, a, p⟩ => pts_nil.run pins s σ H Q I (Po.now (a := true) p a.s)⟩
theorem sts_one {t : Tx} (h : ST X c E e t) : PTs X [e] (tT c E t) := pts_one h
theorem sl_comp {elt tg iter : Expr} {ifs : List Expr} {scope : Scope} {gi : Ix} {g : Tg} {t : Tx} {f : Ex} {vs : List Nat} (h : PE X (.ListComp elt [⟨tg, iter, ifs, 0⟩] scope pos) (tLc (tI c E gi) (tGv c EN vs g) (tT c EN t) (tE c EN f) vs)) :
    SL X c E (.ListComp elt [⟨tg, iter, ifs, 0⟩] scope pos) (lComp gi g t f vs) := askE h fun σ H Q q => comp1 σ H Q q
theorem setNew {i : Nat} (σ : L2.St) (H : Hp) (D : Ends) (h : tS c E (sSet i (eNew fs)) D σ H) : tL c E fs σ H fun x H1 => D.nx (σ.set i (some x)) H1 := by
  obtain ⟨φ, ρ, S, a, p⟩ := h
  have p0 : Po c E φ H (((fs ρ S).bind fun xs S1 => R.ok (NM.D.ptr S1.length) (S1 ++ [.lst xs])).bind fun d S1 => .ok (.next (ρ.set i (some d))) S1) (ZS c D) := p
  refine ⟨φ, ρ, S, a, ?_⟩
  cases er : fs ρ S with
  | stuck => rw [er] at p0; exact p0
  | exc n xs S1 => rw [er] at p0; exact p0
  | ok ds S1 =>
    rw [er] at p0
    intro φ1 H1 x1 s1 q vs hq np hl dvs
    have s2 := s1.place np (o := .lst ds) ⟨vs, hl, dvs⟩
    have x2 := x1.place hq
    refine p0 (φ1 ++ [q]) H1 x2 s2 _ ((a.l.mono x2.w).set i (.ptr ?_))
    rw [List.getElem?_append_right (by rw [s1.len]; omega), s1.len]
    simp
/-- x = [..] -/
theorem ss_setLc {i : Nat} {x : Str} {pos' : Pos} (h : PS X (.Assign [.Name x pos'] e pos) (tAsg (tL c E fs) (gName i))) : SS X c E (.Assign [.Name x pos'] e pos) (sSet i (eNew fs)) := askS h fun D σ H q => setNew σ H D q
end
end NM
namespace NM
open PySem PySem.Spec PyProof.Rows L2
theorem call_lenA {X : Cx} : CallR X (.builtin "len") (rLenA X.K) := CallR.or call_len (CallR.or call_lenD call_len_dT)
end NM

set_option linter.all false
set_option maxRecDepth 100000
set_option maxHeartbeats 2000000
/-! What changes: stores at places, methods of lists, dicts. -/
namespace NM
open PySem PySem.Spec PyProof.Rows L2
section
variable {X : Cx} {c : Cf} {E : XK} {e a b o i : Expr} {es : List Expr} {f g h : Ex} {fs : Exs} {pos : Pos} {H : Hp} {φ : List Addr} {S : Store}
/-- an object of the store is changed -/
theorem SR.chg (s : SR c H φ S) {n : Nat} {p : Addr} {u u' : HO} {o' : O} (hp : φ[n]? = some p) (hu : H p = some u) (he : ∀ q, u ≠ .ext q) (hx : ∀ q, u ≠ .xd q) (ht : ∀ q, u ≠ .tup q) (hf : ∀ q r, u ≠ .frz q r) (hb : ∀ q, u ≠ .tbl q)
    (ho : Xw φ H φ (upd H p u') → ObjR c (upd H p u') φ p o') : SR c (upd H p u') φ (S.set n o') ∧ Xt φ H φ (upd H p u') := by
  have pm : p ∈ φ := List.mem_of_getElem? hp
  have x : Xt φ H φ (upd H p u') := by
    refine ⟨⟨[], by simp, by simp⟩, fun a v h hn _ => by rw [upd_ne (fun z => hn (by rw [z]; exact pm))]; exact h, fun a xs h => ?_, fun a v w h => ?_, fun a h => ?_⟩
    · rw [upd_ne (fun z => by rw [z, hu] at h; exact ht _ (Option.some.inj h))]; exact h
    · rw [upd_ne (fun z => by rw [z, hu] at h; exact hf _ _ (Option.some.inj h))]; exact h
    · by_cases q : a = p
      · subst q; rw [upd_same] at h; cases h
      · rw [upd_ne q] at h; exact h
  refine ⟨⟨by simp [s.len], s.nd, fun m a o1 h1 h2 => ?_, fun q hq => ?_⟩, x⟩
  · by_cases hm : n = m
    · subst hm
      rw [hp] at h1
      cases h1
      have hl : n < S.length := by
        rw [← s.len]
        by_cases q : n < φ.length
        · exact q
        · rw [List.getElem?_eq_none (by omega)] at hp; cases hp
      rw [List.getElem?_set_self hl] at h2
      cases h2
      exact ho x.w
    · rw [List.getElem?_set_ne hm] at h2
      have na : a ≠ p := fun z => by
        subst z
        have hn : n < φ.length := by
          by_cases q : n < φ.length
          · exact q
          · rw [List.getElem?_eq_none (by omega)] at hp; cases hp
        exact hm ((List.getElem?_inj hn s.nd).mp (hp.trans h1.symm))
      exact (s.ob m a o1 h1 h2).mono x.w (fun v h => by rw [upd_ne na]; exact h) fun d gs h3 h4 => ⟨by rw [upd_ne (fun z => h4 (by rw [z]; exact pm))]; exact h3, h4⟩
  · obtain ⟨ps, h1, h2, h3⟩ := s.tb q hq
    refine ⟨ps, by rw [upd_ne (fun z => by rw [z, hu] at h1; exact hb _ (Option.some.inj h1))]; exact h1, h2, fun po cv hc => ?_⟩
    obtain ⟨c', e1, e2⟩ := h3 po cv hc
    exact ⟨c', e1, by rw [upd_ne (fun z => by rw [z, hu] at e2; exact he _ (Option.some.inj e2))]; exact e2⟩
theorem SR.lst (s : SR c H φ S) {n : Nat} {p : Addr} {vs ws : List V} {ds : List D} (hp : φ[n]? = some p) (hu : H p = some (.lst vs)) (hd : Xw φ H φ (upd H p (.lst ws)) → Dens c.K (upd H p (.lst ws)) φ ds ws) : SR c (upd H p (.lst ws)) φ (S.set n (.lst ds)) ∧ Xt φ H φ (upd H p (.lst ws)) :=
  s.chg hp hu (fun _ z => nomatch z) (fun _ z => nomatch z) (fun _ z => nomatch z) (fun _ _ z => nomatch z) (fun _ z => nomatch z) fun x => ⟨ws, upd_same, hd x⟩

/-! ### dicts: the layer's and ours -/
theorem keyV {K : PySem.W.Frag} {d : D} {v : V} {k : Ky} (h : Den K H φ d v) (e : kyD d = some k) : v = kV k := by
  cases h with
  | int i => have e : some (Sum.inl i) = some k := e; cases e; rfl
  | str x => have e : some (Sum.inr x) = some k := e; cases e; rfl
  | _ => cases e
theorem keysV {K : PySem.W.Frag} : ∀ {ds : List D} {vs : List V} {ks : List Ky}, Dens K H φ ds vs → mapO kyD ds = some ks → vs = ks.map kV
  | _, _, ks, .nil, e => by
    have e : some [] = some ks := e
    cases e
    rfl
  | _, _, ks, .cons (d := d) (ds := ds) h t, e => by
    unfold mapO at e
    cases q1 : kyD d with
    | none => rw [q1] at e; cases e
    | some k =>
      cases q2 : mapO kyD ds with
      | none => rw [q1, q2] at e; cases e
      | some r =>
        rw [q1, q2] at e
        cases e
        rw [keyV h q1, keysV t q2]
        rfl
theorem DKs.find {κ : Type} [DecidableEq κ] {mk : κ → DK} (inj : ∀ a b, mk a = mk b → a = b) {K : PySem.W.Frag} {k : κ} : ∀ {l m}, DKs mk K H φ l m → (∀ d, dGet l (mk k) = some d → ∃ v, valV m k = some v ∧ Den K H φ d v) ∧ (dGet l (mk k) = none → valV m k = none)
  | _, _, .nil => ⟨fun d e => (nomatch (show none = some d from e)), fun _ => rfl⟩
  | _, _, .cons (k := k') (d := d) (v := v) h t => by
    by_cases q : k' = k
    · subst q
      refine ⟨fun d' e => ⟨v, valV_pos rfl, ?_⟩, fun e => ?_⟩
      · simp [dGet] at e
        subst e
        exact h
      · simp [dGet] at e
    · obtain ⟨h1, h2⟩ := DKs.find (k := k) inj t
      have q2 : ¬ mk k' = mk k := fun z => q (inj _ _ z)
      refine ⟨fun d' e => ?_, fun e => ?_⟩
      · obtain ⟨w, hw, dw⟩ := h1 d' (by simpa [dGet, List.find?_cons, q2] using e)
        exact ⟨w, by rw [valV_neg (by exact q)]; exact hw, dw⟩
      · rw [valV_neg (by exact q)]
        exact h2 (by simpa [dGet, List.find?_cons, q2] using e)
theorem DKs.any {κ : Type} [DecidableEq κ] {mk : κ → DK} (inj : ∀ a b, mk a = mk b → a = b) {K : PySem.W.Frag} {k : κ} : ∀ {l m}, DKs mk K H φ l m → (l.any fun kv => decide (kv.1 = mk k)) = (m.any fun kv => decide (kv.1 = k))
  | _, _, .nil => rfl
  | _, _, .cons (k := k') (d := d) (v := v) h t => by
    rw [List.any_cons, List.any_cons, DKs.any inj t]
    congr 1
    by_cases q : k' = k
    · simp [q]
    · have q2 : ¬ mk k' = mk k := fun z => q (inj _ _ z)
      simp [q, q2]
theorem DKs.snoc {κ : Type} {mk : κ → DK} {K : PySem.W.Frag} {k : κ} {d : D} {v : V} (hd : Den K H φ d v) : ∀ {l m}, DKs mk K H φ l m → DKs mk K H φ (l ++ [(mk k, d)]) (m ++ [(k, v)])
  | _, _, .nil => .cons hd .nil
  | _, _, .cons h t => .cons h (DKs.snoc hd t)
theorem DKs.map_ {κ : Type} [DecidableEq κ] {mk : κ → DK} (inj : ∀ a b, mk a = mk b → a = b) {K : PySem.W.Frag} {k : κ} {d : D} {v : V} (hd : Den K H φ d v) : ∀ {l m}, DKs mk K H φ l m → DKs mk K H φ (l.map fun kv => if kv.1 = mk k then (kv.1, d) else kv) (m.map fun kv => if kv.1 = k then (kv.1, v) else kv)
  | _, _, .nil => .nil
  | _, _, .cons (k := k') (d := d') (v := v') h t => by
    by_cases q : k' = k
    · simpa [q] using DKs.cons hd (DKs.map_ inj hd t)
    · have q2 : ¬ mk k' = mk k := fun z => q (inj _ _ z)
      simpa [q, q2] using DKs.cons h (DKs.map_ inj hd t)
theorem DKs.put {κ : Type} [DecidableEq κ] {mk : κ → DK} (inj : ∀ a b, mk a = mk b → a = b) {K : PySem.W.Frag} {k : κ} {d : D} {v : V} (hd : Den K H φ d v) {l m} (h : DKs mk K H φ l m) : DKs mk K H φ (dPut l (mk k) d) (putK m k v) := by
  unfold dPut putK
  rw [DKs.any inj h]
  split
  · exact DKs.map_ inj hd h
  · exact h.snoc hd
theorem DKs.kind {κ : Type} {mk : κ → DK} {K : PySem.W.Frag} {b : Bool} (hb : ∀ k, isT (mk k) = b) : ∀ {l m}, DKs mk K H φ l m → ∀ kv ∈ l, isT kv.1 = b
  | _, _, .nil, _, h => nomatch h
  | _, _, .cons h t, kv, hm => by
    rcases List.mem_cons.mp hm with z | z
    · rw [z]; exact hb _
    · exact DKs.kind hb t kv z
theorem injK : ∀ a b : Key, DK.k a = DK.k b → a = b := fun a b h => DK.k.inj h
theorem injT : ∀ a b : List Key, DK.t a = DK.t b → a = b := fun a b h => DK.t.inj h

/-! ### o[i] = v -/
def rSetA : V → V → V → Hp → (Hp → Prop) → Prop := fun o i v H Q => rSetL o i v H Q ∨ ∃ a H', o = .ref a ∧ DPut H a i v H' ∧ Q H'
theorem set_A (hu : X.A.units + 1 < cLine) : PSet X rSetA := by
  intro pins s σ H o i v ov iv u Q I ro ri rv q
  rcases q with q | ⟨a, H', rfl, g, q⟩
  · exact set_list pins s σ H o i v ov iv u Q I ro ri rv q
  · obtain rfl : ov = Value.ref a := ro
    exact d_setItem hu I g ri rv fun s' I' => ⟨H', I', q⟩
/-- what a store at a place does -/
theorem mSet_ok {x y d : D} {u : Unit} {S' : Store} {vo vi vv : V} {Q : Hp → Prop} (s : SR c H φ S) (e : mSet x y d S = .ok u S') (dx : Den c.K H φ x vo) (dy : Den c.K H φ y vi) (dd : Den c.K H φ d vv)
    (hQ : ∀ H', Xt φ H φ H' → SR c H' φ S' → Q H') : rSetA vo vi vv H Q := by
  unfold mSet at e
  cases dx with
  | @ptr n p hp =>
    dsimp only at e
    split at e
    · rename_i ds hn
      obtain ⟨vs, h1, h2⟩ := s.lsts n ds p hp hn
      cases dy with
      | int k =>
        dsimp only at e
        split at e
        · rename_i j hj
          cases e
          refine .inl ⟨p, vs, k, j, rfl, rfl, h1, by rw [← h2.length, ← ixD_eq]; exact hj, ?_⟩
          obtain ⟨s2, x2⟩ := s.lst (ds := ds.set j d) (ws := vs.set j vv) hp h1 fun x => (h2.set j dd).mono x
          exact hQ _ x2 s2
        · cases e
      | _ => cases e
    · rename_i b kvs hn
      split at e
      · rename_i k hk
        split at e
        · rename_i hc
          cases e
          obtain ⟨hc1, hl⟩ := hc
          have z := s.ob n p _ hp hn
          cases k with
          | k k =>
            have hb : b = false := hc1.symm
            subst hb
            have hv : vi = kV k := by
              cases dy with
              | int i => have w : some (DK.k (Sum.inl i)) = some (DK.k k) := hk; cases w; rfl
              | str x => have w : some (DK.k (Sum.inr x)) = some (DK.k k) := hk; cases w; rfl
              | @tup ds q ws h1 h2 =>
                have w : (mapO kyD ds).map DK.t = some (DK.k k) := hk
                cases q : mapO kyD ds with
                | none => rw [q] at w; cases w
                | some r => rw [q] at w; cases w
              | _ => cases hk
            obtain ⟨m, h1, h2⟩ := z
            refine .inr ⟨p, _, rfl, by rw [hv]; exact DPut.k h1 (by rw [← h2.length, sizeLine_eq]; exact hl), ?_⟩
            obtain ⟨s2, x2⟩ := s.chg (u' := .dK (putK m k vv)) (o' := .dic false (dPut kvs (.k k) d)) hp h1 (fun _ z => nomatch z) (fun _ z => nomatch z) (fun _ z => nomatch z) (fun _ _ z => nomatch z) (fun _ z => nomatch z) fun x => ⟨_, upd_same, (h2.put injK dd).mono x⟩
            exact hQ _ x2 s2
          | t ks =>
            have hb : b = true := hc1.symm
            subst hb
            obtain ⟨q, hv, hq⟩ : ∃ q, vi = .ref q ∧ H q = some (.tup (ks.map kV)) := by
              cases dy with
              | @tup ds q ws h1 h2 =>
                have w : (mapO kyD ds).map DK.t = some (DK.t ks) := hk
                cases r : mapO kyD ds with
                | none => rw [r] at w; cases w
                | some r' =>
                  rw [r] at w
                  cases w
                  exact ⟨q, rfl, by rw [← keysV h2 r]; exact h1⟩
              | int i => have w : some (DK.k (Sum.inl i)) = some (DK.t ks) := hk; cases w
              | str x => have w : some (DK.k (Sum.inr x)) = some (DK.t ks) := hk; cases w
              | _ => cases hk
            obtain ⟨m, h1, h2⟩ := z
            refine .inr ⟨p, _, rfl, by rw [hv]; exact DPut.t h1 hq (by rw [← h2.length, sizeLine_eq]; exact hl), ?_⟩
            obtain ⟨s2, x2⟩ := s.chg (u' := .dT (putK m ks vv)) (o' := .dic true (dPut kvs (.t ks) d)) hp h1 (fun _ z => nomatch z) (fun _ z => nomatch z) (fun _ z => nomatch z) (fun _ _ z => nomatch z) (fun _ z => nomatch z) fun x => ⟨_, upd_same, (h2.put injT dd).mono x⟩
            exact hQ _ x2 s2
        · cases e
      · cases e
    · cases e
  | _ => cases e
end
end NM

set_option linter.all false
set_option maxRecDepth 100000
set_option maxHeartbeats 2000000
/-! An own exception class over ValueError whose __init__ asks super().__init__ and stores its arguments. -/
namespace NM
open PySem PySem.Spec PyProof.Rows L2
/-- what is known of such a class's __init__ -/
structure IniK (P : Program) (K : PySem.W.Frag) (C fI cda cc : Addr) (qual : Str) (params : Arguments) (bd : List Stmt) (scope : Scope) (dV kV doc pm ct : Value) (an : Option Addr) : Prop where
  lk : ∃ oc od osl, K.lookup fI = some ⟨oc, od, .func (PySem.W.fnX "__init__" qual params bd scope [("__class__", cc)] dV kV doc pm an (.ref cda) ct), osl⟩
  cd : PySem.W.codeIn K (.ref cda) qual = true
  file : ∃ ccl cdd vs ccs file tf, K.lookup cda = some ⟨ccl, cdd, .fields vs, ccs⟩ ∧ vs[2]? = some (.str file tf) ∧ ((P.main.file : Str) == file) = true
  cell : ∃ cl cld csl, K.lookup cc = some ⟨cl, cld, .cell (some (.ref C)), csl⟩
  sub : PySem.W.mroIn K C (.ref C) = some true
  sup : PySem.W.nsIn K mainGlobals "super" = some none
  any : PySem.W.nsIn K cStatics "thirdparty.any" = some none
  nxt : PySem.W.ks_superIn K C C "__init__" = some (some (.builtin "ValueError.__init__"))
  isV : PySem.W.subIn K (.ref C) (.type "ValueError") = some true
  exi : PySem.W.excInitIn K C PySem.HandSPX.veTail "ValueError.__new__" = true
  top : (P.main.scope.names.lookup ("super" : Str)).isSome = false
section
variable {P : Program} {w : World} {K : PySem.W.Frag} {base : Heap} {mg : Str → Option Value} {C fI cda cc a L : Addr} {qual : Str} {params : Arguments} {bd : List Stmt} {scope : Scope} {dV kV doc pm ct : Value} {an : Option Addr} {A : Around} {E : Value → Shared → Prop} {s : Shared}
  {m : Str → Option Value} {news : List (Addr × Obj)}
open PySem.W in
/-- super(), the object of the frame's first name asked -/
theorem at_super (Y : IniK P K C fI cda cc qual params bd scope dV kV doc pm ct an) (Mo : L2.Mod K mg base) {ox : Obj} {od : Option Obj} {ar : Arg} {p0 p1 : Pos} {attr : Str} {whole : Sem Value} {Q : Value → Shared → Prop}
    (F : Fr base L s.heap m) (N : News base L s.heap news) (J : InstAt s.heap a ox C od) (hp : (params.posonlyargs ++ params.args).head? = some ar) (hv : m ar.arg = some (.ref a))
    (hat : (attr == ("__class__" : Str)) = false) (k1 : scope.names.lookup ("super" : Str) = some .globalImplicit) (k2 : scope.names.lookup ("__class__" : Str) = some .free) (k3 : scope.names.lookup ar.arg = some .local) (k4 : scope.kind = .function)
    (h : ∀ so h', Fr base L h' m → News base L h' ((so, ks_superObj C a C) :: news) → (∀ p ∈ news, p.1 < so) → Q (.ref so) { s with heap := h' }) :
    _root_.PySem.wpAt (model P w) A (.func bd (ksEnv qual scope L fI (.ref cda) cc)) (attributeBase (.Call (.Name "super" p0) [] [] p1) attr (ksEnv qual scope L fI (.ref cda) cc) whole) Q E s := by
  obtain ⟨oc, od1, osl, lk⟩ := Y.lk
  obtain ⟨ccl, cdd, vs, ccs, fl, tf, c1, c2, c3⟩ := Y.file
  obtain ⟨cl, cld, csl, c4⟩ := Y.cell
  obtain ⟨mb, b1, b2⟩ := Mo.blt
  have kin : K.In s.heap := Mo.kin.keeps F.keep
  obtain ⟨hh, g, dr, t, os⟩ := s
  have hC : ∃ oD cD, hh.get? C = some oD ∧ oD.data = .cls cD := by
    have q := Y.sub
    unfold mroIn at q
    cases z : clsIn K C with
    | none => rw [z] at q; cases q
    | some cd =>
      unfold clsIn at z
      split at z
      · rename_i c d cd' sl ho
        exact ⟨_, cd', kin _ _ ho, rfl⟩
      · cases z
  obtain ⟨oD, cD, d1, d2⟩ := hC
  refine ks_wpAt_super_base k1 k2 hat rfl (kin _ _ lk) rfl hp rfl (kin _ _ c1) rfl c2 c3 Y.top ?_
  have e1 : wpAny (model P w) A (loadGlobal (ksEnv qual scope L fI (.ref cda) cc) "super") (fun g0 s₁ => g0 = .type "super" ∧ s₁ = ⟨hh, g, dr, t, os⟩) E ⟨hh, g, dr, t, os⟩ :=
    PySem.Calls.loadGlobal_builtin (Mo.glob.keeps F.keep) (mg_none_of Mo.kin Mo.glob Y.sup) (b1.keeps F.keep) ((b2 _ (by decide +kernel)).trans (by with_unfolding_all rfl)) ⟨rfl, rfl⟩
  refine ks_loadName_global k4 k1 (wpAny_mono e1 (fun g0 s1 hs => ?_) fun _ _ z => z)
  obtain ⟨rfl, rfl⟩ := hs
  refine ⟨rfl, wpAny_loadName_free k4 k2 rfl ⟨_, kin _ _ c4, rfl⟩ (wpAny_loadName_local k4 k3 F.ns hv (ks_wpAny_isType_cls d1 d2 ⟨rfl, ?_⟩))⟩
  have nc : ∀ c, ox.data ≠ .cls c := fun c e => by
    have z := J.no
    unfold notCls at z
    rw [e] at z
    cases z
  refine ks_wpAny_call_super d1 d2 J.at_ J.cls nc (looks_mroIn kin Y.sub) fun h' e k => ?_
  obtain ⟨F', N', l'⟩ := ks_newsPush (s := ⟨hh, g, dr, t, os⟩) F N rfl e k
  exact h _ _ F' N' l'
open PySem.W in
/-- super().__init__(..) as a statement -/
theorem at_init (Y : IniK P K C fI cda cc qual params bd scope dV kV doc pm ct an) (Mo : L2.Mod K mg base) {ar : Arg} {p0 p1 p2 p4 p5 : Pos} {e : Expr} {es : List Expr} {t0 : Addr} {us : List Value} {Q : Flow → Shared → Prop}
    (F : Fr base L s.heap m) (N : News base L s.heap [(a, excObj C t0 none .none)]) (hp : (params.posonlyargs ++ params.args).head? = some ar) (hv : m ar.arg = some (.ref a))
    (k1 : scope.names.lookup ("super" : Str) = some .globalImplicit) (k2 : scope.names.lookup ("__class__" : Str) = some .free) (k3 : scope.names.lookup ar.arg = some .local) (k4 : scope.kind = .function) (hl : us.length ≤ sizeLine)
    (he : starEach (e :: es) (ksEnv qual scope L fI (.ref cda) cc) = (false, eval e (ksEnv qual scope L fI (.ref cda) cc)) :: starEach es (ksEnv qual scope L fI (.ref cda) cc)) (hpl : (backTo p4 (starEach es (ksEnv qual scope L fI (.ref cda) cc))).any (·.1) = false)
    (hi : interactive (ksEnv qual scope L fI (.ref cda) cc) = false) (hs : swapsWith (.Call (.Attribute (.Call (.Name "super" p0) [] [] p1) "__init__" p2) (e :: es) [] p4) none p5.line (ksEnv qual scope L fI (.ref cda) cc) = pure false) {pl : Sem Bool}
    (hc : eval (.Call (.Attribute (.Call (.Name "super" p0) [] [] p1) "__init__" p2) (e :: es) [] p4) (ksEnv qual scope L fI (.ref cda) cc) = (do
        let ov ← attributeBase (.Call (.Name "super" p0) [] [] p1) "__init__" (ksEnv qual scope L fI (.ref cda) cc) (eval (.Call (.Name "super" p0) [] [] p1) (ksEnv qual scope L fI (.ref cda) cc))
        standAt p2.atName
        let (f, first) ← holding [ov] (getMethod ov "__init__" pl)
        callWith p4 f first (backTo p4 (starEach (e :: es) (ksEnv qual scope L fI (.ref cda) cc))) []))
    (ha : ∀ (s' : Shared) (Q' : List Value → Shared → Prop), s'.heap.Ns L m → Q' us s' → wpAny (model P w) A (spliced (backTo p4 (starEach (e :: es) (ksEnv qual scope L fI (.ref cda) cc)))) Q' E s')
    (h : ∀ t' h' tk, Fr base L h' m → h'.get? a = some (excObj C t' none .none) → Q .next { s with heap := h', toks := tk }) :
    _root_.PySem.wpAt (model P w) A (.func bd (ksEnv qual scope L fI (.ref cda) cc)) (exec (.Expr (.Call (.Attribute (.Call (.Name "super" p0) [] [] p1) "__init__" p2) (e :: es) [] p4) p5) (ksEnv qual scope L fI (.ref cda) cc)) Q E s := by
  refine ks_wpAt_Expr_any (ks_wpAt_MethodCall (pl := pl) ?_ hc) hi hs
  have J := InstAt.of_exc0 N (List.mem_singleton.mpr rfl)
  refine at_super Y Mo F N J hp hv (by decide) k1 k2 k3 k4 fun so h1 F1 N1 l1 => ?_
  have J1 := InstAt.of_exc0 N1 (List.mem_cons_of_mem _ (List.mem_singleton.mpr rfl))
  refine kxs_method (s := { s with heap := h1 }) kxs_ValueError F1 Mo.kin N1 List.mem_cons_self J1 Y.any Y.nxt Y.isV (by decide) fun q h2 F2 N2 l2 => ?_
  have a1 : so ≠ a := Nat.ne_of_gt (l1 _ (List.mem_singleton.mpr rfl))
  have a2 : q ≠ a := Nat.ne_of_gt (l2 _ (List.mem_cons_of_mem _ (List.mem_singleton.mpr rfl)))
  refine kxs_callWith1 N2 List.mem_cons_self (ha _ _ F2.ns ⟨kxs_at N2 List.mem_cons_self, ?_⟩) he hpl
  refine kxs_call (s := { { s with heap := h1 } with heap := h2, toks := s.toks + 1 }) F2 Mo.kin N2 PySem.F.excBase_ValueError Y.exi List.mem_cons_self (.tail a2 (.tail a1 (.head (by intro p hp; cases hp)))) hl fun t' h3 F3 N3 _ => ?_
  exact h t' h3 _ F3 (N3 (a, _) (by simp)).1
/-- self.f = x, the first one -/
theorem at_set1 {env : Env} (O : OexC K C) (kin : K.In base) (F : Fr base L s.heap m) {t0 : Addr} (he : s.heap.get? a = some (PySem.W.excObj C t0 none .none)) {x self f : Str} {u : Value} {p6 p7 p8 p9 : Pos} {Q : Flow → Shared → Prop} (hL : env.locals = L) (k4 : env.scope.kind = .function)
    (kx : env.kindOf x = some .local) (ks : env.kindOf self = some .local) (vx : m x = some u) (vs : m self = some (.ref a)) (dx : (x == ("__debug__" : Str)) = false) (ds : (self == ("__debug__" : Str)) = false) (hno : PySem.W.findIn K (.ref C) f = some none)
    (hs : swapsWith (.Name x p8) (some (.Attribute (.Name self p6) f p7)) p9.line env = pure false) (ba : base.get? a = none)
    (h : ∀ d h' tk, Fr base L h' m → base.get? d = none → d ≠ a → d ≠ L → h'.get? a = some (PySem.W.excObj C t0 (some d) .none) → h'.Ns1 d (fun y => if y = f then some u else none) → Q .next { s with heap := h', toks := tk }) :
    wpAny (model P w) A (exec (.Assign [.Attribute (.Name self p6) f p7] (.Name x p8) p9) env) Q E s := by
  obtain ⟨nm, q, N, bs, bm, sn, sub, ab, col, dd, k0, k1, k2, k3, k5, hC, hbm⟩ := O.cls
  have hcl : PySem.W.clsIn K C = some { name := nm, bases := bs, mro := .ref C :: bm, ns := N, qualname := q, hasDict := true, slotNames := sn, subclasses := sub, abstract := ab, collection := col, hasDel := false } := by unfold PySem.W.clsIn; rw [hC] <;> rfl
  subst hL
  refine plainObj_wpAny_Assign_Attribute (wpAny_Name (wpAny_loadName_local k4 kx F.ns vx (wpAny_Name (wpAny_loadName_local k4 ks F.ns vs ?_) ds)) dx) hs
  obtain ⟨hp, g, dr, t, os⟩ := s
  have kin1 : K.In hp := kin.keeps F.keep
  refine PySem.W.set_plain kin1 (ox := PySem.W.excObj C t0 none .none) (od := none) ⟨he, rfl, rfl, trivial⟩ O.sa ?_
  refine PySem.HandSPX.exc_osa kin1 he hcl (show PySem.HandSPX.refsVE (.ref C :: bm) = true from hbm) rfl hno (fun h' tk' d k dn dne hx hn => ?_)
  have bd : base.get? d = none := by
    cases z : base.get? d with
    | none => rfl
    | some o => exact absurd (Heap.lt_size (F.keep _ _ z)) (Nat.not_lt.mpr dn)
  have nL : env.locals ≠ a := fun z => by
    obtain ⟨o, es, ep, e1, e2, _⟩ := F.ns
    have e1 : hp.get? env.locals = some o := e1
    have he : hp.get? a = some (PySem.W.excObj C t0 none .none) := he
    rw [z, he] at e1
    cases e1
    cases e2
  have F' : Fr base env.locals h' m := ⟨by
    obtain ⟨o, es, ep, e1, r⟩ := F.ns
    exact ⟨o, es, ep, k _ _ nL e1, r⟩, fun b o z => k b o (fun y => by rw [y, ba] at z; cases z) (F.keep b o z), F.above⟩
  have dL : d ≠ env.locals := fun z => by
    obtain ⟨o, es, ep, e1, _⟩ := F.ns
    exact absurd (Heap.lt_size (show hp.get? env.locals = some o from e1)) (by rw [← z]; exact Nat.not_lt.mpr dn)
  exact h d h' _ F' bd dne dL hx hn
/-- self.f = x, a further one -/
theorem at_set2 {env : Env} (O : OexC K C) (kin : K.In base) (F : Fr base L s.heap m) {t0 d : Addr} {m0 : Str → Option Value} {nl : List Str} (he : s.heap.get? a = some (PySem.W.excObj C t0 (some d) .none)) (hn : s.heap.Ns1 d m0) (hw : Within m0 nl) (hz : nl.length ≤ 1000) {x self f : Str} {u : Value} {p6 p7 p8 p9 : Pos} {Q : Flow → Shared → Prop} (hL : env.locals = L) (k4 : env.scope.kind = .function)
    (kx : env.kindOf x = some .local) (ks : env.kindOf self = some .local) (vx : m x = some u) (vs : m self = some (.ref a)) (dx : (x == ("__debug__" : Str)) = false) (ds : (self == ("__debug__" : Str)) = false) (hno : PySem.W.findIn K (.ref C) f = some none)
    (hs : swapsWith (.Name x p8) (some (.Attribute (.Name self p6) f p7)) p9.line env = pure false) (bd : base.get? d = none) (dL : d ≠ L) (da : d ≠ a)
    (h : ∀ h' tk, Fr base L h' m → h'.get? a = some (PySem.W.excObj C t0 (some d) .none) → h'.Ns1 d (fun y => if y = f then some u else m0 y) → Q .next { s with heap := h', toks := tk }) :
    wpAny (model P w) A (exec (.Assign [.Attribute (.Name self p6) f p7] (.Name x p8) p9) env) Q E s := by
  obtain ⟨nm, q, N, bs, bm, sn, sub, ab, col, dd, k0, k1, k2, k3, k5, hC, hbm⟩ := O.cls
  have hcl : PySem.W.clsIn K C = some { name := nm, bases := bs, mro := .ref C :: bm, ns := N, qualname := q, hasDict := true, slotNames := sn, subclasses := sub, abstract := ab, collection := col, hasDel := false } := by unfold PySem.W.clsIn; rw [hC] <;> rfl
  subst hL
  refine plainObj_wpAny_Assign_Attribute (wpAny_Name (wpAny_loadName_local k4 kx F.ns vx (wpAny_Name (wpAny_loadName_local k4 ks F.ns vs ?_) ds)) dx) hs
  obtain ⟨hp, g, dr, t, os⟩ := s
  have kin1 : K.In hp := kin.keeps F.keep
  obtain ⟨oD, _, _, hoD, _, _⟩ := hn.count hw
  refine PySem.W.set_plain kin1 (ox := PySem.W.excObj C t0 (some d) .none) (od := some oD) ⟨he, rfl, rfl, hoD⟩ O.sa ?_
  refine PySem.OEX.osa_old kin1 he hn hw hz hcl (show PySem.HandSPX.refsVE (.ref C :: bm) = true from hbm) rfl hno (fun h' tk' k hn' => ?_)
  have F' : Fr base env.locals h' m := ⟨by
    obtain ⟨o, es, ep, e1, r⟩ := F.ns
    exact ⟨o, es, ep, k _ _ (Ne.symm dL) e1, r⟩, fun b o z => k b o (fun y => by rw [y, bd] at z; cases z) (F.keep b o z), F.above⟩
  exact h h' _ F' (k _ _ (Ne.symm da) he) hn'
end
end NM

set_option linter.all false
set_option maxRecDepth 100000
set_option maxHeartbeats 2000000
/-! Such an __init__, called. -/
namespace NM
open PySem PySem.Spec PyProof.Rows L2
section
variable {P : Program} {w : World} {K : PySem.W.Frag} {base : Heap} {mg : Str → Option Value}
/-- what an __init__ that keeps its arguments ps does -/
def IniOk (P : Program) (w : World) (K : PySem.W.Frag) (mg : Str → Option Value) (base : Heap) (C fI : Addr) (ps : List Str) : Prop := L2.Mod K mg base →
  ∀ (A : Around) (s : Shared) (a t0 : Addr) (us : List Value) (vs : List V) (R : Result → Shared → Prop), A.depth < recursionLimit → (∀ b o, base.get? b = some o → s.heap.get? b = some o) → base.get? a = none → s.heap.get? a = some (PySem.HandSPX.excO C t0) → us.length = ps.length → L2.Vals vs us →
    (∀ (d : Addr) (h' : Heap) (tk : Nat) (t' : Addr) (mA : Str → Option Value), (∀ b o, b ≠ a → s.heap.get? b = some o → h'.get? b = some o) → s.heap.get? d = none → d ≠ a → h'.get? a = some (PySem.W.excObj C t' (some d) .none) → h'.Ns1 d mA → (∀ k, RelO ((ps.zip vs).lookup k) (mA k)) → R (.ok (.ret .none)) { s with heap := h', toks := tk }) →
    codeAny (model P w) A (.call (.ref fI) ⟨.ref a :: us, []⟩) R s
theorem hide_mod {h : Heap} (Mo : L2.Mod K mg base) {s : Shared} {a : Addr} (bs : ∀ b o, base.get? b = some o → s.heap.get? b = some o) (ba : base.get? a = none) : L2.Mod K mg (PySem.W.hideAll s.heap [a]) := by
  have k : ∀ b o, base.get? b = some o → (PySem.W.hideAll s.heap [a]).get? b = some o := fun b o e => PySem.W.hideAll_get _ (bs b o e) fun z => by
    rw [List.mem_singleton.mp z, ba] at e
    cases e
  obtain ⟨mb, b1, b2⟩ := Mo.blt
  exact ⟨Mo.kin.keeps k, Mo.glob.keeps k, ⟨mb, b1.keeps k, b2⟩, Mo.nolimit.keeps k⟩
variable {C fI cda cc : Addr} {qual : Str} {params : Arguments} {bd : List Stmt} {scope : Scope} {dV kV doc pm ct : Value} {an : Option Addr}
/-- what the text says of such an __init__ of one argument -/
structure IniT1 (qual : Str) (params : Arguments) (bd : List Stmt) (scope : Scope) (f : Str) (p0 p1 p2 p3 p4 p5 p6 p7 p8 p9 : Pos) : Prop where
  bdy : bd = [.Expr (.Call (.Attribute (.Call (.Name "super" p0) [] [] p1) "__init__" p2) [.Name f p3] [] p4) p5, .Assign [.Attribute (.Name "self" p6) f p7] (.Name f p8) p9]
  hd : ∃ ar, (params.posonlyargs ++ params.args).head? = some ar ∧ ar.arg = ("self" : Str)
  bind : ∀ (kV doc pm cdv ct : Value) (an : Option Addr) (cl : List (Str × Addr)) (us : List Value), us.length = 2 → bindArgs (PySem.W.fnX "__init__" qual params bd scope cl .none kV doc pm an cdv ct) ⟨us, []⟩ = pure ((("self" : Str) :: [f]).zip us)
  k1 : scope.names.lookup ("super" : Str) = some .globalImplicit
  k2 : scope.names.lookup ("__class__" : Str) = some .free
  k3 : scope.names.lookup ("self" : Str) = some .local
  k4 : scope.names.lookup f = some .local
  kd : scope.kind = .function
  nc : ∀ x ∈ scope.names, x.2 ≠ .cell
  co : scope.isCoroutine = false
  gn : scope.isGenerator = false
  fs : f ≠ "self"
  fd : (f == ("__debug__" : Str)) = false
  se : ∀ env, starEach [.Name f p3] env = (false, eval (.Name f p3) env) :: starEach [] env
  hi : ∀ L fI cda cc, interactive (PySem.W.ksEnv qual scope L fI cda cc) = false
  hs : ∀ L fI cda cc, swapsWith (.Call (.Attribute (.Call (.Name "super" p0) [] [] p1) "__init__" p2) [.Name f p3] [] p4) none p5.line (PySem.W.ksEnv qual scope L fI cda cc) = pure false
  hc : ∃ pl : Sem Bool, ∀ L fI cda cc, eval (.Call (.Attribute (.Call (.Name "super" p0) [] [] p1) "__init__" p2) [.Name f p3] [] p4) (PySem.W.ksEnv qual scope L fI cda cc) = (do
        let ov ← attributeBase (.Call (.Name "super" p0) [] [] p1) "__init__" (PySem.W.ksEnv qual scope L fI cda cc) (eval (.Call (.Name "super" p0) [] [] p1) (PySem.W.ksEnv qual scope L fI cda cc))
        standAt p2.atName
        let (f', first) ← holding [ov] (getMethod ov "__init__" pl)
        callWith p4 f' first (backTo p4 (starEach [.Name f p3] (PySem.W.ksEnv qual scope L fI cda cc))) [])
  s2 : ∀ L fI cda cc, swapsWith (.Name f p8) (some (.Attribute (.Name "self" p6) f p7)) p9.line (PySem.W.ksEnv qual scope L fI cda cc) = pure false
open PySem.W in
theorem ini1 {f : Str} {p0 p1 p2 p3 p4 p5 p6 p7 p8 p9 : Pos} (Y : IniK P K C fI cda cc qual params bd scope dV kV doc pm ct an) (T : IniT1 qual params bd scope f p0 p1 p2 p3 p4 p5 p6 p7 p8 p9) (O : OexC K C) (hd0 : dV = .none) (hno : findIn K (.ref C) f = some none) : IniOk P w K mg base C fI [f] := by
  intro Mo A s a t0 us vs R hroom bs ba he hl rv h
  subst hd0
  obtain ⟨u, rfl⟩ : ∃ u, us = [u] := by
    match us, hl with
    | [u], _ => exact ⟨u, rfl⟩
  obtain ⟨oc, od, osl, lk⟩ := Y.lk
  have kin : K.In s.heap := Mo.kin.keeps bs
  obtain ⟨ar, hp, har⟩ := T.hd
  have hb := T.bind kV doc pm (.ref cda) ct an [("__class__", cc)] [.ref a, u] rfl
  have hk : ∀ b o, (hideAll s.heap [a]).get? b = some o → s.heap.get? b = some o := fun b o e => of_hideAll _ e
  have hloc : ∀ y ∈ (("self" : Str) :: [f]).zip [Value.ref a, u], scope.names.lookup y.1 = some .local := by
    intro y hy
    rcases List.mem_cons.mp hy with rfl | hy
    · exact T.k3
    · rw [List.mem_singleton.mp hy]
      exact T.k4
  refine ks_codeAny_call_defAt (fd := fnX "__init__" qual params bd scope [("__class__", cc)] .none kV doc pm an (.ref cda) ct) (body := bd) (binds := (("self" : Str) :: [f]).zip [Value.ref a, u]) hroom (kin _ _ lk) rfl (Mo.nolimit.keeps bs) (codeRec_of kin Y.cd) rfl (.of_eq hb) T.nc hloc (fun h₁ hns hk₁ => ?_) T.co T.gn T.kd
  have hL : ∀ o, s.heap.get? s.heap.objs.size ≠ some o := fun o e => absurd (Heap.lt_size e) (Nat.lt_irrefl _)
  have aL : a ≠ s.heap.objs.size := Nat.ne_of_lt (Heap.lt_size he)
  have Mo' := hide_mod (h := s.heap) Mo bs ba
  have F : Fr (hideAll s.heap [a]) s.heap.objs.size h₁ (fun x => List.lookup x (((("self" : Str) :: [f]).zip [Value.ref a, u]).reverse)) := ⟨hns, fun b o e => hk₁ b o (hk b o e), Nat.le_of_eq (hideAll_size _ _)⟩
  have N : News (hideAll s.heap [a]) s.heap.objs.size h₁ [(a, excObj C t0 none .none)] := fun p hp => by
    rw [List.mem_singleton.mp hp]
    exact ⟨hk₁ _ _ he, aL, hideAll_none _ (List.mem_singleton.mpr rfl)⟩
  have v1 : List.lookup ("self" : Str) (((("self" : Str) :: [f]).zip [Value.ref a, u]).reverse) = some (.ref a) := by
    have e : (("self" : Str) == f) = false := by simpa using fun z : ("self" : Str) = f => T.fs z.symm
    simp [List.lookup, e]
  have v2 : List.lookup f (((("self" : Str) :: [f]).zip [Value.ref a, u]).reverse) = some u := by simp [List.lookup]
  have hba : (hideAll s.heap [a]).get? a = none := hideAll_none _ (List.mem_singleton.mpr rfl)
  obtain ⟨pl, hc⟩ := T.hc
  have E1 : ∀ {Q : Flow → Shared → Prop} {E : Value → Shared → Prop} {s1 : Shared}, s1.heap = h₁ → s1.gens = s.gens → s1.drawn = s.drawn → s1.os = s.os → (∀ d h' tk t' mA, (∀ b o, b ≠ a → s.heap.get? b = some o → h'.get? b = some o) → s.heap.get? d = none → d ≠ a → h'.get? a = some (excObj C t' (some d) .none) → h'.Ns1 d mA → (∀ k, RelO (([f].zip vs).lookup k) (mA k)) → Q .next { s with heap := h', toks := tk }) →
      _root_.PySem.wpAt (model P w) (A.deeper (ksEnv qual scope s.heap.objs.size fI (.ref cda) cc)) (.func bd (ksEnv qual scope s.heap.objs.size fI (.ref cda) cc)) (execs bd (ksEnv qual scope s.heap.objs.size fI (.ref cda) cc)) Q E s1 := by
    intro Q E s1 e1 e2 e3 e4 hQ
    have F' : Fr (hideAll s.heap [a]) s.heap.objs.size s1.heap (fun x => List.lookup x (((("self" : Str) :: [f]).zip [Value.ref a, u]).reverse)) := by rw [e1]; exact F
    have N' : News (hideAll s.heap [a]) s.heap.objs.size s1.heap [(a, excObj C t0 none .none)] := by rw [e1]; exact N
    conv => arg 4; rw [T.bdy]
    refine ks_wpAt_execs_cons (at_init (us := [u]) Y Mo' F' N' hp (by rw [har]; exact v1) T.k1 T.k2 (by rw [har]; exact T.k3) T.kd (by rw [sizeLine_eq]; show 1 ≤ 16777216; decide) (T.se _) rfl (T.hi _ _ _ _) (T.hs _ _ _ _) (hc _ _ _ _) (fun s' Q' ns q => ?_) fun t' h2 tk F2 he2 => ?_)
    · exact spliced_more (wpAny_Name (wpAny_loadName_local T.kd T.k4 ns v2 (spliced_none q)) T.fd) (T.se _)
    · refine ks_wpAt_execs_cons (wpAt_of_wpAny (at_set1 (s := { s1 with heap := h2, toks := tk }) O Mo'.kin F2 he2 rfl T.kd T.k4 T.k3 v2 v1 T.fd (by decide) hno (T.s2 _ _ _ _) hba fun d h3 tk3 F3 bd3 da _ he3 hn3 => ?_))
      refine wpAt_of_wpAny (wpAny_execs_nil ?_)
      have sd : s.heap.get? d = none := by
        cases z : s.heap.get? d with
        | none => rfl
        | some o => exact absurd (hideAll_get [a] z (fun q => da (List.mem_singleton.mp q))) (by rw [bd3]; exact fun z => nomatch z)
      have r := hQ d h3 tk3 t' _ (fun b o nb e => F3.keep b o (hideAll_get [a] e (fun q => nb (List.mem_singleton.mp q)))) sd da he3 hn3 (by
        cases rv with
        | cons r1 r2 => cases r2 with
          | nil => exact relO_put (fs := []) r1 fun g => True.intro)
      rw [← e2, ← e3, ← e4] at r
      exact r
  exact E1 rfl rfl rfl rfl fun d h' tk t' mA q1 q2 q3 q4 q5 q6 => h d h' tk t' mA q1 q2 q3 q4 q5 q6
theorem rel2 {f g : Str} {x y : V} {u v : Value} (fg : f ≠ g) (r1 : RelV x u) (r2 : RelV y v) (k : Str) : RelO (([f, g].zip [x, y]).lookup k) (if k = g then some v else if k = f then some u else none) := by
  show RelO (List.lookup k [(f, x), (g, y)]) _
  rw [lookup_put, lookup_put]
  by_cases h1 : k = f
  · rw [if_pos h1, if_neg (fun z => fg (h1.symm.trans z)), if_pos h1]
    exact r1
  · by_cases h2 : k = g
    · rw [if_neg h1, if_pos h2, if_pos h2]
      exact r2
    · rw [if_neg h1, if_neg h2, if_neg h2, if_neg h1]
      exact True.intro
/-- what the text says of such an __init__ of two arguments -/
structure IniT2 (qual : Str) (params : Arguments) (bd : List Stmt) (scope : Scope) (f g : Str) (p0 p1 p2 p3 p4 p5 p6 p7 p8 p9 r3 r6 r7 r8 r9 : Pos) : Prop where
  bdy : bd = [.Expr (.Call (.Attribute (.Call (.Name "super" p0) [] [] p1) "__init__" p2) [.Name f p3, .Name g r3] [] p4) p5, .Assign [.Attribute (.Name "self" p6) f p7] (.Name f p8) p9, .Assign [.Attribute (.Name "self" r6) g r7] (.Name g r8) r9]
  hd : ∃ ar, (params.posonlyargs ++ params.args).head? = some ar ∧ ar.arg = ("self" : Str)
  bind : ∀ (kV doc pm cdv ct : Value) (an : Option Addr) (cl : List (Str × Addr)) (us : List Value), us.length = 3 → bindArgs (PySem.W.fnX "__init__" qual params bd scope cl .none kV doc pm an cdv ct) ⟨us, []⟩ = pure ((("self" : Str) :: [f, g]).zip us)
  k1 : scope.names.lookup ("super" : Str) = some .globalImplicit
  k2 : scope.names.lookup ("__class__" : Str) = some .free
  k3 : scope.names.lookup ("self" : Str) = some .local
  k4 : scope.names.lookup f = some .local
  k5 : scope.names.lookup g = some .local
  kd : scope.kind = .function
  nc : ∀ x ∈ scope.names, x.2 ≠ .cell
  co : scope.isCoroutine = false
  gn : scope.isGenerator = false
  fs : f ≠ "self"
  gs : g ≠ "self"
  fg : f ≠ g
  fd : (f == ("__debug__" : Str)) = false
  gd : (g == ("__debug__" : Str)) = false
  se : ∀ env, starEach [.Name f p3, .Name g r3] env = (false, eval (.Name f p3) env) :: starEach [.Name g r3] env
  se2 : ∀ env, starEach [.Name g r3] env = (false, eval (.Name g r3) env) :: starEach [] env
  hpl : ∀ env, (backTo p4 (starEach [.Name g r3] env)).any (·.1) = false
  hi : ∀ L fI cda cc, interactive (PySem.W.ksEnv qual scope L fI cda cc) = false
  hs : ∀ L fI cda cc, swapsWith (.Call (.Attribute (.Call (.Name "super" p0) [] [] p1) "__init__" p2) [.Name f p3, .Name g r3] [] p4) none p5.line (PySem.W.ksEnv qual scope L fI cda cc) = pure false
  hc : ∃ pl : Sem Bool, ∀ L fI cda cc, eval (.Call (.Attribute (.Call (.Name "super" p0) [] [] p1) "__init__" p2) [.Name f p3, .Name g r3] [] p4) (PySem.W.ksEnv qual scope L fI cda cc) = (do
        let ov ← attributeBase (.Call (.Name "super" p0) [] [] p1) "__init__" (PySem.W.ksEnv qual scope L fI cda cc) (eval (.Call (.Name "super" p0) [] [] p1) (PySem.W.ksEnv qual scope L fI cda cc))
        standAt p2.atName
        let (f', first) ← holding [ov] (getMethod ov "__init__" pl)
        callWith p4 f' first (backTo p4 (starEach [.Name f p3, .Name g r3] (PySem.W.ksEnv qual scope L fI cda cc))) [])
  s3 : ∀ L fI cda cc, swapsWith (.Name g r8) (some (.Attribute (.Name "self" r6) g r7)) r9.line (PySem.W.ksEnv qual scope L fI cda cc) = pure false
  s2 : ∀ L fI cda cc, swapsWith (.Name f p8) (some (.Attribute (.Name "self" p6) f p7)) p9.line (PySem.W.ksEnv qual scope L fI cda cc) = pure false
open PySem.W in
theorem ini2 {f g : Str} {p0 p1 p2 p3 p4 p5 p6 p7 p8 p9 r3 r6 r7 r8 r9 : Pos} (Y : IniK P K C fI cda cc qual params bd scope dV kV doc pm ct an) (T : IniT2 qual params bd scope f g p0 p1 p2 p3 p4 p5 p6 p7 p8 p9 r3 r6 r7 r8 r9) (O : OexC K C) (hd0 : dV = .none) (hno : findIn K (.ref C) f = some none) (hno2 : findIn K (.ref C) g = some none) : IniOk P w K mg base C fI [f, g] := by
  intro Mo A s a t0 us vs R hroom bs ba he hl rv h
  subst hd0
  obtain ⟨u, u2, rfl⟩ : ∃ u u2, us = [u, u2] := by
    match us, hl with
    | [u, u2], _ => exact ⟨u, u2, rfl⟩
  obtain ⟨oc, od, osl, lk⟩ := Y.lk
  have kin : K.In s.heap := Mo.kin.keeps bs
  obtain ⟨ar, hp, har⟩ := T.hd
  have hb := T.bind kV doc pm (.ref cda) ct an [("__class__", cc)] [.ref a, u, u2] rfl
  have hk : ∀ b o, (hideAll s.heap [a]).get? b = some o → s.heap.get? b = some o := fun b o e => of_hideAll _ e
  have hloc : ∀ y ∈ (("self" : Str) :: [f, g]).zip [Value.ref a, u, u2], scope.names.lookup y.1 = some .local := by
    intro y hy
    rcases List.mem_cons.mp hy with rfl | hy
    · exact T.k3
    · rcases List.mem_cons.mp hy with rfl | hy
      · exact T.k4
      · rw [List.mem_singleton.mp hy]
        exact T.k5
  refine ks_codeAny_call_defAt (fd := fnX "__init__" qual params bd scope [("__class__", cc)] .none kV doc pm an (.ref cda) ct) (body := bd) (binds := (("self" : Str) :: [f, g]).zip [Value.ref a, u, u2]) hroom (kin _ _ lk) rfl (Mo.nolimit.keeps bs) (codeRec_of kin Y.cd) rfl (.of_eq hb) T.nc hloc (fun h₁ hns hk₁ => ?_) T.co T.gn T.kd
  have hL : ∀ o, s.heap.get? s.heap.objs.size ≠ some o := fun o e => absurd (Heap.lt_size e) (Nat.lt_irrefl _)
  have aL : a ≠ s.heap.objs.size := Nat.ne_of_lt (Heap.lt_size he)
  have Mo' := hide_mod (h := s.heap) Mo bs ba
  have F : Fr (hideAll s.heap [a]) s.heap.objs.size h₁ (fun x => List.lookup x (((("self" : Str) :: [f, g]).zip [Value.ref a, u, u2]).reverse)) := ⟨hns, fun b o e => hk₁ b o (hk b o e), Nat.le_of_eq (hideAll_size _ _)⟩
  have N : News (hideAll s.heap [a]) s.heap.objs.size h₁ [(a, excObj C t0 none .none)] := fun p hp => by
    rw [List.mem_singleton.mp hp]
    exact ⟨hk₁ _ _ he, aL, hideAll_none _ (List.mem_singleton.mpr rfl)⟩
  have v1 : List.lookup ("self" : Str) (((("self" : Str) :: [f, g]).zip [Value.ref a, u, u2]).reverse) = some (.ref a) := by
    have e : (("self" : Str) == f) = false := by simpa using fun z : ("self" : Str) = f => T.fs z.symm
    have e' : (("self" : Str) == g) = false := by simpa using fun z : ("self" : Str) = g => T.gs z.symm
    simp [List.lookup, e, e']
  have v2 : List.lookup f (((("self" : Str) :: [f, g]).zip [Value.ref a, u, u2]).reverse) = some u := by
    have e : (f == g) = false := by simpa using T.fg
    simp [List.lookup, e]
  have v3 : List.lookup g (((("self" : Str) :: [f, g]).zip [Value.ref a, u, u2]).reverse) = some u2 := by simp [List.lookup]
  have hba : (hideAll s.heap [a]).get? a = none := hideAll_none _ (List.mem_singleton.mpr rfl)
  obtain ⟨pl, hc⟩ := T.hc
  have E1 : ∀ {Q : Flow → Shared → Prop} {E : Value → Shared → Prop} {s1 : Shared}, s1.heap = h₁ → s1.gens = s.gens → s1.drawn = s.drawn → s1.os = s.os → (∀ d h' tk t' mA, (∀ b o, b ≠ a → s.heap.get? b = some o → h'.get? b = some o) → s.heap.get? d = none → d ≠ a → h'.get? a = some (excObj C t' (some d) .none) → h'.Ns1 d mA → (∀ k, RelO (([f, g].zip vs).lookup k) (mA k)) → Q .next { s with heap := h', toks := tk }) →
      _root_.PySem.wpAt (model P w) (A.deeper (ksEnv qual scope s.heap.objs.size fI (.ref cda) cc)) (.func bd (ksEnv qual scope s.heap.objs.size fI (.ref cda) cc)) (execs bd (ksEnv qual scope s.heap.objs.size fI (.ref cda) cc)) Q E s1 := by
    intro Q E s1 e1 e2 e3 e4 hQ
    have F' : Fr (hideAll s.heap [a]) s.heap.objs.size s1.heap (fun x => List.lookup x (((("self" : Str) :: [f, g]).zip [Value.ref a, u, u2]).reverse)) := by rw [e1]; exact F
    have N' : News (hideAll s.heap [a]) s.heap.objs.size s1.heap [(a, excObj C t0 none .none)] := by rw [e1]; exact N
    conv => arg 4; rw [T.bdy]
    refine ks_wpAt_execs_cons (at_init (us := [u, u2]) Y Mo' F' N' hp (by rw [har]; exact v1) T.k1 T.k2 (by rw [har]; exact T.k3) T.kd (by rw [sizeLine_eq]; show 2 ≤ 16777216; decide) (T.se _) (T.hpl _) (T.hi _ _ _ _) (T.hs _ _ _ _) (hc _ _ _ _) (fun s' Q' ns q => ?_) fun t' h2 tk F2 he2 => ?_)
    · exact spliced_more (wpAny_Name (wpAny_loadName_local T.kd T.k4 ns v2 (spliced_more (wpAny_Name (wpAny_loadName_local T.kd T.k5 ns v3 (spliced_none q)) T.gd) (T.se2 _))) T.fd) (T.se _)
    · refine ks_wpAt_execs_cons (wpAt_of_wpAny (at_set1 (s := { s1 with heap := h2, toks := tk }) O Mo'.kin F2 he2 rfl T.kd T.k4 T.k3 v2 v1 T.fd (by decide) hno (T.s2 _ _ _ _) hba fun d h4 tk4 F4 bd3 da dL he4 hn4 => ?_))
      refine ks_wpAt_execs_cons (wpAt_of_wpAny (at_set2 (s := { s1 with heap := h4, toks := tk4 }) O Mo'.kin F4 he4 hn4 (Within.cons f u Within.nil) (by show 1 ≤ 1000; decide) rfl T.kd T.k5 T.k3 v3 v1 T.gd (by decide) hno2 (T.s3 _ _ _ _) bd3 dL da fun h3 tk3 F3 he3 hn3 => ?_))
      refine wpAt_of_wpAny (wpAny_execs_nil ?_)
      have sd : s.heap.get? d = none := by
        cases z : s.heap.get? d with
        | none => rfl
        | some o => exact absurd (hideAll_get [a] z (fun q => da (List.mem_singleton.mp q))) (by rw [bd3]; exact fun z => nomatch z)
      have r := hQ d h3 tk3 t' _ (fun b o nb e => F3.keep b o (hideAll_get [a] e (fun q => nb (List.mem_singleton.mp q)))) sd da he3 hn3 (by
        cases rv with
        | cons r1 r2 => cases r2 with
          | @cons y1 _ _ _ r2 r3 => cases r3 with
            | nil => exact rel2 T.fg r1 r2)
      rw [← e2, ← e3, ← e4] at r
      exact r
  exact E1 rfl rfl rfl rfl fun d h' tk t' mA q1 q2 q3 q4 q5 q6 => h d h' tk t' mA q1 q2 q3 q4 q5 q6
end
end NM

set_option linter.all false
set_option maxRecDepth 100000
set_option maxHeartbeats 2000000
/-! raise C(e, ..). -/
namespace NM
open PySem PySem.Spec PyProof.Rows L2
/-- an own exception class that keeps its arguments ps -/
structure CI (P : Program) (w : World) (K : PySem.W.Frag) (mg : Str → Option Value) (base : Heap) (x : Str) (ps : List Str) : Prop where
  ini : ∃ fI, IniOk P w K mg base (He.ga K x) fI ps ∧ PySem.W.findIn K (.ref (He.ga K x)) "__init__" = some (some (.ref fI)) ∧ PySem.W.typeIn K (.ref fI) = some (.type "function")
  oex : OexC K (He.ga K x)
  gm : mg x = some (.ref (He.ga K x))
  few : ps.length ≤ 1000
section
variable {X : Cx} {c : Cf} {E : XK} {x : Str} {e : Expr} {es : List Expr} {fs : Exs} {ps : List Str} {p pos pos' : Pos}
def tMk (C : Addr) (ps : List Str) (ta : TA) : L2.St → Hp → XK → Prop := fun σ H Q => ta σ H fun vs H1 => vs.length = ps.length ∧ ∀ d, H1 d = none → Q (.ref C) (some d) (upd H1 d (.xd (ps.zip vs)))
theorem made {pins : List (Addr × Obj)} {σ : L2.St} {H : Hp} {hp h' : Heap} {g : Array GenState} {dr : Drawn} {t tk : Nat} {os : OsState} {a d : Addr} {gs : List (Str × V)} {mA : Str → Option Value} (I : Inv X pins σ H ⟨hp, g, dr, t, os⟩) (na : hp.get? a = none) (k : ∀ b o, b ≠ a → hp.get? b = some o → h'.get? b = some o)
    (hd : hp.get? d = none) (da : d ≠ a) (hn : h'.Ns1 d mA) (r : ∀ k, RelO (gs.lookup k) (mA k)) : Inv X pins σ (upd H d (.xd gs)) ⟨PySem.W.hideAll h' [a], g, dr, tk, os⟩ ∧ H d = none := by
  have nd : H d = none := I.hok.gone hd
  have kk : ∀ b o, hp.get? b = some o → (PySem.W.hideAll h' [a]).get? b = some o := fun b o e => by
    have ne : b ≠ a := fun z => by rw [z, na] at e; cases e
    exact PySem.W.hideAll_get _ (k b o ne e) fun z => ne (List.mem_singleton.mp z)
  refine ⟨I.laidN (t' := tk) (a := d) (o := .xd gs) (h' := PySem.W.hideAll h' [a]) kk hd nd ?_, nd⟩
  exact ⟨mA, hn.at fun o y => PySem.W.hideAll_get _ y fun z => da (List.mem_singleton.mp z), r⟩
theorem pmk_nm (Ci : CI X.prog X.w X.K X.mg X.base x ps) (hr : Room 1 X.A) (hg : Gl X x) {ta : TA} (ha : PA X (e :: es) ta) (hdb : (x == ("__debug__" : Str)) = false := by decide)
    (he : starEach (e :: es) X.env = (false, eval e X.env) :: starEach es X.env := by rfl) (hpl : (backTo pos (starEach es X.env)).any (·.1) = false := by rfl) : PMk X (.Call (.Name x p) (e :: es) [] pos) (tMk (He.ga X.K x) ps ta) := by
  intro pins s σ H Q I h
  obtain ⟨fI, io, iC, tI⟩ := Ci.ini
  have T := Ci.oex
  obtain ⟨nm, q, N, bs, bm, sn, sub, ab, col, dd, k0, k1, k2, k3, k5, hC, hbm⟩ := T.cls
  refine wpAny_Call_Name_kw (ld_glob I hg Ci.gm ?_ hdb)
  refine PySem.W.callWith_K (h₀ := X.base) I.ok.mod.kin T.kC (thn (ha.run pos pins s σ H _ I h) fun us s1 ⟨vs, H1, I1, r1, hz, q1⟩ => ⟨I1.kIn, ?_⟩) he hpl
  show wpAny _ _ (call (.ref (He.ga X.K x)) us) _ _ _
  obtain ⟨hp, g, dr, tk, os⟩ := s1
  have ul : us.length = ps.length := by rw [← Paired.length r1, hz]
  have hus : us.length ≤ sizeLine := by
    rw [ul, sizeLine_eq]
    exact Nat.le_trans Ci.few (by decide)
  have na : hp.get? (hp.objs.size + 1) = none := by
    cases z : hp.get? (hp.objs.size + 1) with
    | none => rfl
    | some o => exact absurd (Heap.lt_size z) (Nat.not_lt.mpr (Nat.le_succ _))
  have kk : ∀ b o, hp.get? b = some o → ((hp.push (PySem.W.kdv_tup us)).push (PySem.HandSPX.excO (He.ga X.K x) hp.objs.size)).get? b = some o := fun b o e => Heap.get?_push_of_some _ (Heap.get?_push_of_some _ e)
  have hget : ((hp.push (PySem.W.kdv_tup us)).push (PySem.HandSPX.excO (He.ga X.K x) hp.objs.size)).get? (hp.objs.size + 1) = some (PySem.HandSPX.excO (He.ga X.K x) hp.objs.size) := by heap_get
  have bk : ∀ b o, X.base.get? b = some o → hp.get? b = some o := I1.bk
  have ba : X.base.get? (hp.objs.size + 1) = none := by
    cases z : X.base.get? (hp.objs.size + 1) with
    | none => rfl
    | some o => rw [bk _ _ z] at na; cases na
  have hrm := hr.make (He.ga X.K x) us []
  refine wpAny_call (PySem.HandSPX.call_own PySem.F.excBase_ValueError (fun Y => PySem.HandSPX.refsVE_contains Y bm hbm) (I1.kIn _ _ hC) (PySem.W.looks_findIn I1.kIn iC) (fun self => PySem.W.bind_fn I1.kIn self tI) hus
    (io I.ok.mod _ _ _ _ us vs _ hrm.depth (fun b o z => kk b o (bk b o z)) ba hget ul r1 fun d h' tk' t' mA q1' q2 q3 q4 q5 q6 => ⟨rfl, ?_⟩))
  have hd : hp.get? d = none := by
    cases z : hp.get? d with
    | none => rfl
    | some o => rw [kk _ _ z] at q2; cases q2
  obtain ⟨J, nd⟩ := made (tk := tk') (gs := ps.zip vs) I1 na (fun b o nb z => q1' b o nb (kk b o z)) hd q3 q5 q6
  refine ⟨hp.objs.size + 1, _, _, _, _, .ref (He.ga X.K x), some d, rfl, J, fun b o z => PySem.W.of_hideAll _ z, PySem.W.hideAll_none _ (List.mem_singleton.mpr rfl), q4, ⟨rfl, rfl⟩, rfl, rfl, ?_, rfl, I1.bare, raises_own T.exC T.tyC, q1 d nd⟩
  rw [upd_ne (Ne.symm q3)]
  exact I1.hok.gone na
def keepD (ps : List Str) (ds : List D) (S : Store) : R (List (Str × D)) := if ds.length = ps.length then .ok (ps.zip ds) S else .stuck
theorem zip_dfs {K : PySem.W.Frag} {H : Hp} {φ : List Addr} : ∀ {ps : List Str} {ds : List D} {vs : List V}, Dens K H φ ds vs → ds.length = ps.length → DFs K H φ (ps.zip ds) (ps.zip vs)
  | ps, _, _, .nil, _ => ⟨by simp, by simpa using Dens.nil⟩
  | p :: ps, _, _, .cons h t, l => by
    obtain ⟨a, b⟩ := zip_dfs (ps := ps) t (by simpa using l)
    exact ⟨by simpa using a, by simpa using Dens.cons h b⟩
/-- raise C(e, ..) -/
theorem ss_raise (hK : X.K = c.K) (Ci : CI X.prog X.w X.K X.mg X.base x ps) (hr : Room 1 X.A) (hg : Gl X x) (hc : X.calm = true) (tk : Takes X (wE E)) (ha : SA X c E (e :: es) fs) (hdb : (x == ("__debug__" : Str)) = false := by decide)
    (he : starEach (e :: es) X.env = (false, eval e X.env) :: starEach es X.env := by rfl) (hpl : (backTo pos (starEach es X.env)).any (·.1) = false := by rfl) : SS X c E (.Raise (some (.Call (.Name x p) (e :: es) [] pos)) none pos') (sRaise x (keepD ps) fs) :=
  askS (ps_raise hc tk (pmk_nm Ci hr hg ha hdb he hpl)) fun D σ H ⟨φ, ρ, S, a, p⟩ => by
    refine ⟨φ, ρ, S, a, (Po.bind (r := fs ρ S) p).imp fun ds S1 φ1 H1 _ x1 s1 p1 vs dvs => ?_⟩
    have p2 : Po c E φ1 H1 ((keepD ps ds S1).bind fun fs S2 => (.exc x fs S2 : R Fl)) (ZS c D) := p1
    unfold keepD at p2
    split at p2
    · rename_i hl
      refine ⟨by rw [← dvs.length, hl], fun d hd => ?_⟩
      obtain ⟨s2, x2, nd⟩ := s1.new (o := .xd (ps.zip vs)) hd (fun _ z => nomatch z)
      rw [hK]
      exact p2 φ1 _ x2 s2 _ _ ⟨rfl, d, _, rfl, upd_same, nd, (zip_dfs dvs hl).mono x2.w⟩
    · exact p2.elim
end
end NM

set_option linter.all false
set_option maxRecDepth 100000
set_option maxHeartbeats 2000000
/-! A lambda whose parameters have defaults (or none), made. -/
namespace NM
open PySem PySem.Spec PyProof.Rows L2
/-- a lambda's data, defaults at dV -/
abbrev lamFd (q : Str) (params : Arguments) (bd : Expr) (scope : Scope) (cl : List (Str × Addr)) (dV pm cv ctv : Value) : FuncData :=
  { PySem.W.kla_fn "<lambda>" q params bd scope cl pm cv ctv with defaults := dV }
abbrev lamO (q : Str) (params : Arguments) (bd : Expr) (scope : Scope) (cl : List (Str × Addr)) (dV pm cv ctv : Value) : Obj := { cls := .type "function", data := .func (lamFd q params bd scope cl dV pm cv ctv) }
section
variable {M : Model} {A : Around} {E : Value → Shared → Prop} {s : Shared} {q : Str} {params : Arguments} {bd : Expr} {scope : Scope} {env : Env} {c P : Addr} {ps : Array Value} {pos : Pos} {ln : Nat} {mg : Str → Option Value} {cl : List (Str × Addr)} {dV : Value} {Q : Value → Shared → Prop}
/-- what stands behind the closure's tuple -/
def tailK (q : Str) (params : Arguments) (bd : Expr) (scope : Scope) (env : Env) (cl : List (Str × Addr)) (dV : Value) (pos : Pos) (ln : Nat) (ctv : Value) : Sem Value :=
  functionCode env pos ln "<lambda>" q params scope (.expr bd) >>= fun cd => builtinsFor mainGlobals env.builtins >>= fun bt => nsGet mainGlobals "__name__" >>= fun nm => (pure Value.none : Sem Value) >>= fun dc =>
    newObj (.type "function") (.func { name := "<lambda>", qualname := q, params, body := .expr bd, scope, globals := mainGlobals, closure := cl, defaults := dV, kwdefaults := .none, doc := dc, pyModule := nm.getD .none, annotations := none, code := cd, closureTuple := ctv, builtins := bt })
theorem mk_tail (kc : closureFor scope env = pure cl) (kg : env.globals = mainGlobals) (hg : s.heap.Ns mainGlobals mg) (ke : env.code = .ref c) (C : PySem.W.CodeHd s.heap c P) (hP : s.heap.get? P = some (PySem.W.tabObj ps)) (ht : TriplesOk ps.toList) (gP : mainGlobals ≠ P) (hb : s.heap.BuiltinsAt mg P)
    (h1 : codeAmong pos ps.toList = none → ∀ (c' : Addr) (ctv : Value) (h' : Heap) (tk : Nat), (∀ b o, b ≠ P → s.heap.get? b = some o → h'.get? b = some o) → s.heap.objs.size ≤ c' → c' < h'.objs.size → h'.CodeRec (.ref c') q → h'.get? P = some (PySem.W.tabObj (ps ++ #[rawInt pos.line, rawInt pos.col, .ref c'])) →
      Q (.ref h'.objs.size) { s with heap := h'.push (lamO q params bd scope cl dV ((mg "__name__").getD .none) (.ref c') ctv), toks := tk })
    (h2 : ∀ cv, codeAmong pos ps.toList = some cv → ∀ (ctv : Value) (h' : Heap) (tk : Nat), (∀ b o, s.heap.get? b = some o → h'.get? b = some o) → s.heap.objs.size ≤ h'.objs.size →
      Q (.ref h'.objs.size) { s with heap := h'.push (lamO q params bd scope cl dV ((mg "__name__").getD .none) cv ctv), toks := tk }) :
    wpAny M A (makeTail "<lambda>" q params (.expr bd) scope env dV .none none pos ln) Q E s := by
  obtain ⟨bm, ob, g1, g2, g3, g4, g5, g6, g7, g8⟩ := hb
  unfold makeTail
  rw [kc, kg]
  have key : ∀ (ctv : Value) (hA : Heap), (∀ b o, s.heap.get? b = some o → hA.get? b = some o) → s.heap.objs.size ≤ hA.objs.size → wpAny M A (tailK q params bd scope env cl dV pos ln ctv) Q E { s with heap := hA } := by
    intro ctv hA kA zA
    have hgA : hA.Ns mainGlobals mg := hg.keeps kA
    have CA : PySem.W.CodeHd hA c P := C.keeps kA
    have PA' : hA.get? P = some (PySem.W.tabObj ps) := kA _ _ hP
    unfold tailK
    cases hc : codeAmong pos ps.toList with
    | none =>
      refine wpAny_bind (wpAny_functionCodeX (s := { s with heap := hA }) ke (CA.code PA' ht) (CA.tab PA') hc fun c' h' tk hx ge lt _ rec tb _ => ?_)
      have g' : h'.Ns mainGlobals mg := hgA.extBut hx gP
      have fin := h1 hc c' ctv h' tk (fun b o n e => hx b o n (kA b o e)) (Nat.le_trans zA ge) lt rec tb.2
      exact wpAny_bind (wpAny_builtinsFor g' g1 g2 (hx _ _ g4 (kA _ _ g5)) g6 g7 g8 (wpAny_bind (wpAny_nsGet g' (wpAny_bind (wpAny_pure (wpAny_newObj_type fin (by size_fits)))))))
    | some cv =>
      refine wpAny_bind (wpAny_functionCode_hit (s := { s with heap := hA }) ke (CA.code PA' ht) hc (wpAny_bind (wpAny_builtinsFor hgA g1 g2 (kA _ _ g5) g6 g7 g8 (wpAny_bind (wpAny_nsGet hgA (wpAny_bind (wpAny_pure (wpAny_newObj_type ?_ (by size_fits)))))))))
      exact h2 cv hc ctv hA s.toks kA zA
  refine wpAny_bind (wpAny_pure ?_)
  dsimp only
  split
  · exact wpAny_bind (wpAny_pure (key .none s.heap (fun _ _ e => e) (Nat.le_refl _)))
  · exact wpAny_bind (wpAny_newTextTuple (key _ _ (fun b o e => Heap.get?_push_of_some _ e) (by rw [Heap.size_push]; omega)))
end
end NM

set_option linter.all false
set_option maxRecDepth 100000
set_option maxHeartbeats 2000000
namespace NM
open PySem PySem.Spec PyProof.Rows L2 LamX
section
variable {X : Cx} {pins : List (Addr × Obj)} {σ : L2.St} {H HZ : Hp} {s s1 : Shared}
abbrev lamQ (X : Cx) : Str := X.env.qual ++ "<lambda>"
abbrev lamC (X : Cx) (scope : Scope) : List (Str × Addr) := cloFrom X.env.cells scope.names []
/-- the function object is made: its code is new, or found in the table -/
theorem lam_mk {T : List (Addr × Str)} {c P : Addr} {params : Arguments} {bd : Expr} {scope : Scope} {pos : Pos} {dV : Value} {E : Value → Shared → Prop} {Q : Value → Shared → Prop} (I : Inv X pins σ H s) (TB : TabB X.base X.mg c P) (kc : X.env.code = .ref c)
    (kT : (P, lamQ X) ∈ T) (ku : ∀ p ∈ T, p.1 = P → p.2 = lamQ X) (tabs : Tabs T H) (kf : ∀ y ∈ scope.names, y.2 = .free → ∃ c, X.env.cells.lookup y.1 = some c)
    (h : ∀ (f c' : Addr) (pm ctv : Value) (H1 : Hp) (s' : Shared), Inv X pins σ H1 s' → (∃ tb, H1 = upd (upd H P (.tbl tb)) c' (CodeO c' (lamQ X)) ∧ H c' = none ∨ H1 = H) → ExtN H H1 → Tabs T H1 → s'.heap.get? f = some (lamO (lamQ X) params bd scope (lamC X scope) dV pm (.ref c') ctv) → H1 f = none → s.heap.objs.size ≤ f → f ∉ frs X.stack → H1 c' = some (CodeO c' (lamQ X)) → Q (.ref f) s') :
    wpAny (model X.prog X.w) X.A (makeTail "<lambda>" (lamQ X) params (.expr bd) scope X.env dV .none none pos pos.line) Q E s := by
  obtain ⟨ps, pH, tr, am⟩ := tabs _ kT
  have pS : s.heap.get? P = some (PySem.W.tabObj ps) := I.hok P _ pH
  have out : ∀ f, s.heap.objs.size ≤ f → f ∉ frs X.stack := fun f hf z => by
    rcases List.mem_cons.mp (I.stkSub _ z) with e | e
    · exact absurd I.lt (by rw [← e]; exact Nat.not_lt.mpr hf)
    · exact I.nofs hf e
  refine mk_tail (mg := X.mg) (closure_ok kf) I.ok.glob (I.mod.glob.keeps I.bk) kc (TB.code.keeps I.bk) pS tr TB.gP (TB.bm.keeps I.bk) (fun hc c' ctv h' tk k ge lt rec tb => ?_) (fun cv hc ctv h' tk k ge => ?_)
  · obtain ⟨c2, oc, vs, t, e2, o1, o2, o3⟩ := rec
    cases e2
    have big : s.heap.objs.size ≤ h'.objs.size := Nat.le_trans ge (Nat.le_of_lt lt)
    have fresh : H c' = none := I.hok.fresh ge
    have nPc : P ≠ c' := ne_of_none pH fresh
    have J := inv_table (t' := tk) (more := #[rawInt pos.line, rawInt pos.col, .ref c']) (h' := h'.push (lamO (lamQ X) params bd scope (lamC X scope) dV ((X.mg "__name__").getD .none) (.ref c') ctv)) I pH (fun b o n e => Heap.get?_push_of_some _ (k b o n e)) (Heap.get?_push_of_some _ tb) ge ⟨oc, vs, t, Heap.get?_push_of_some _ o1, o2, o3⟩
    have ext : ExtN H (upd (upd H P (.tbl (ps ++ #[rawInt pos.line, rawInt pos.col, .ref c']))) c' (CodeO c' (lamQ X))) := fun b o e n => by
      have n1 : b ≠ c' := ne_of_none e fresh
      have n2 : b ≠ P := fun z => n ps (by rw [z, pH] at e; exact (Option.some.inj e).symm)
      rw [upd_ne n1, upd_ne n2, e]
    have lst : (ps ++ #[rawInt pos.line, rawInt pos.col, .ref c']).toList = ps.toList ++ [rawInt pos.line, rawInt pos.col, .ref c'] := by simp
    refine h h'.objs.size c' _ ctv _ _ J ⟨_, .inl ⟨rfl, fresh⟩⟩ ext (fun p hp => ?_) (Heap.get?_push_size _ rfl) ?_ big (out _ big) upd_same
    · by_cases q : p.1 = P
      · rw [ku p hp q, q]
        refine ⟨_, by rw [upd_ne nPc, upd_same], by rw [lst]; exact PySem.TriplesOk_snoc _ _ _ _ tr, fun p' cv z => ?_⟩
        rw [lst] at z
        exact (among_app _ tr z).elim (fun z => let ⟨c0, a, b⟩ := am p' cv z; ⟨c0, a, ext _ _ b codeO_ne⟩) fun z => ⟨c', z, upd_same⟩
      · obtain ⟨qs, a1, a2, a3⟩ := tabs p hp
        exact ⟨qs, by rw [upd_ne (ne_of_none a1 fresh), upd_ne q, a1], a2, fun p' cv z => let ⟨c0, a, b⟩ := a3 p' cv z; ⟨c0, a, ext _ _ b codeO_ne⟩⟩
    · have m1 : h'.objs.size ≠ c' := Nat.ne_of_gt lt
      have m2 : h'.objs.size ≠ P := fun z => absurd (Heap.lt_size pS) (by rw [← z]; exact Nat.not_lt.mpr big)
      rw [upd_ne m1, upd_ne m2]
      exact I.hok.fresh big
  · obtain ⟨c', rfl, co⟩ := am pos cv hc
    have J : Inv X pins σ H { s with heap := h'.push (lamO (lamQ X) params bd scope (lamC X scope) dV ((X.mg "__name__").getD .none) (.ref c') ctv), toks := tk } := I.kept fun b o e => Heap.get?_push_of_some _ (k b o e)
    exact h h'.objs.size c' _ ctv H _ J ⟨#[], .inr rfl⟩ (ExtN.refl H) tabs (Heap.get?_push_size _ rfl) (I.hok.fresh ge) ge (out _ ge) co
/-! ### its names -/
/-- captured names, globals, and parameters that are no names of the maker's -/
structure LamN (N : List Str) (sc scope : Scope) : Prop where
  kind : scope.kind = .function
  co : scope.isCoroutine = false
  gen : scope.isGenerator = false
  nc : ∀ y ∈ scope.names, y.2 ≠ .cell
  own : ∀ y ∈ scope.names, y.2 = .local → y.1 ∉ N
  free : ∀ y ∈ scope.names, y.2 = .free → sc.names.lookup y.1 = some .cell ∨ sc.names.lookup y.1 = some .free
def lamNB (N : List Str) (sc scope : Scope) : Bool :=
  decide (scope.kind = .function) && (!scope.isCoroutine && (!scope.isGenerator && scope.names.all fun y => !decide (y.2 = .cell) && ((!decide (y.2 = .local) || !decide (y.1 ∈ N)) && (!decide (y.2 = .free) || decide (sc.names.lookup y.1 = some .cell) || decide (sc.names.lookup y.1 = some .free)))))
theorem lamN_by {N : List Str} {sc scope : Scope} (h : lamNB N sc scope = true) : LamN N sc scope := by
  unfold lamNB at h
  simp only [Bool.and_eq_true, Bool.or_eq_true, Bool.not_eq_true', decide_eq_true_eq, decide_eq_false_iff_not, List.all_eq_true] at h
  obtain ⟨h1, h2, h3, h4⟩ := h
  refine ⟨h1, h2, h3, fun y hy => (h4 y hy).1, fun y hy e => (h4 y hy).2.1.elim (fun z => absurd e z) id, fun y hy e => ?_⟩
  rcases (h4 y hy).2.2 with (z | z) | z
  · exact absurd e z
  · exact .inl z
  · exact .inr z
theorem LamN.has {scope : Scope} (L : LamN X.N X.env.scope scope) (ok : X.Ok) : ∀ y ∈ scope.names, y.2 = .free → ∃ c, X.env.cells.lookup y.1 = some c := fun y hy e => ok.has _ (L.free y hy e)
theorem lam_in {A : Around} {outer : List Env} {E : XK} {scope : Scope} {f c' : Addr} {h₁ : Heap} {tk : Nat} {m : Str → Option Value} (I : Inv X pins σ H s) (L : LamN X.N X.env.scope scope) (e0 : Env0 X.prog X.w X.K X.mg X.base A outer s1 HZ) (hd : A.handled = none)
    (un : Un (frs X.stack) [] H HZ s.heap s1.heap) (hns : h₁.Ns s1.heap.objs.size m) (kp : ∀ b o, s1.heap.get? b = some o → h₁.get? b = some o) :
    Inv (lamCx X A outer s1 HZ E scope f c') [] σ HZ { s1 with heap := h₁, toks := tk } := by
  have lk : ∀ {y c}, (lamC X scope).lookup y = some c → X.env.cells.lookup y = some c := fun {y c} e => by
    rcases cloFrom_mem (PySem.mem_of_lookup e) with z | ⟨z1, z2⟩
    · cases z
    · obtain ⟨c1, hc⟩ := L.has I.ok _ z1 rfl
      have hc : X.env.cells.lookup y = some c1 := hc
      rw [z2, hc]
      rfl
  have has : ∀ {y}, scope.names.lookup y = some .free → ∃ c, (lamC X scope).lookup y = some c := fun {y} e => mem_lookup (cloFrom_has (cells := X.env.cells) (acc := []) (PySem.mem_of_lookup e))
  have cell : ∀ {c : Addr} {v : Option Value}, H c = none → s.heap.IsCell c v → h₁.IsCell c v := fun {c v} n ⟨o, ho, hv⟩ => let ⟨sl, q⟩ := un.any ho n (fun z => nomatch z); ⟨_, kp _ _ q, hv⟩
  have nofr : ∀ y, scope.names.lookup y ≠ some .cell := fun y e => L.nc _ (PySem.mem_of_lookup e) rfl
  have ok : (lamCx X A outer s1 HZ E scope f c').Ok := {
    mod := e0.mod, kind := L.kind, glob := rfl, blt := rfl, above := Nat.le_refl _
    inj := fun y z c h1 h2 => I.ok.inj y z c (lk h1) (lk h2)
    has := fun y hy => hy.elim (fun z => absurd z (nofr y)) fun z => has z
    cab := fun y c z _ => nomatch (show false = true from z)
    hd := fun _ => hd
    frames := Around.frames_deeper e0.frames
    stk := .inr ⟨rfl, rfl⟩
    exf := fun b z => nomatch (show b ∈ ([] : List Addr) from z)
    bs := e0.bs, bsz := e0.bsz
    noex := fun b o _ z => nomatch (show b ∈ ([] : List Addr) from z)
    exfs := fun b z => nomatch (show b ∈ ([] : List Addr) from z)
    funs := e0.funs, frf := e0.frf }
  exact {
    ok := ok, os := rfl, bare := e0.bare, base := Un.kept kp
    loc := ⟨m, hns, fun i y v h1 h2 h3 => by
      have fr : scope.names.lookup y = some .free := by
        rcases (show Vis scope y from h3) with k | k | k
        · exact absurd (List.mem_of_getElem? h1) (L.own _ (PySem.mem_of_lookup k) rfl)
        · exact absurd k (nofr y)
        · exact k
      obtain ⟨m', _, hl⟩ := I.loc
      have up := L.free _ (PySem.mem_of_lookup fr) rfl
      obtain ⟨u, r, q⟩ := hl i y v h1 h2 (up.elim (fun k => .inr (.inl k)) fun k => .inr (.inr k))
      obtain ⟨c2, k2⟩ := has fr
      refine ⟨u, r, .inr ⟨.inr fr, c2, k2, ?_⟩⟩
      rcases q with ⟨k, _⟩ | ⟨_, c3, k3, z⟩
      · have k : X.env.scope.names.lookup y = some .local := k
        rcases up with k2 | k2 <;> (rw [k] at k2; cases k2)
      · rw [lk k2] at k3
        cases k3
        exact cell (I.freeC y _ (lk k2)) z⟩
    cell := fun y c e => let ⟨v, z⟩ := I.cell y c (lk e); ⟨v, cell (I.freeC y c (lk e)) z⟩
    free := e0.hok.fresh (Nat.le_refl _)
    freeC := fun y c e => let ⟨v, o, ho, _⟩ := I.cell y c (lk e); un.free c o ho (I.freeC y c (lk e)) (fun z => nomatch z)
    pin := fun p hp => nomatch (show p ∈ ([] : List (Addr × Obj)) ++ [] from hp)
    hok := e0.hok.kept kp
    len := I.len }
end
end NM

set_option linter.all false
set_option maxRecDepth 100000
set_option maxHeartbeats 2000000
namespace NM
open PySem PySem.Spec PyProof.Rows L2 LamX
/-- the default's tuple, if any -/
def LamD (H : Hp) (dV : Value) (pa : List Str) : Prop := (dV = .none ∧ pa = []) ∨ ∃ (T : Addr) (a1 : Str) (i : Int), dV = .ref T ∧ pa = [a1] ∧ H T = some (.tup [.int i])
theorem LamD.up {H H' : Hp} {dV : Value} {pa : List Str} (d : LamD H dV pa) (k : ∀ a xs, H a = some (.tup xs) → H' a = some (.tup xs)) : LamD H' dV pa := by
  rcases d with d | ⟨T, a1, i, e1, e2, e3⟩
  · exact .inl d
  · exact .inr ⟨T, a1, i, e1, e2, k _ _ e3⟩
/-- the parameters bound by defaults alone -/
structure LamP (params : Arguments) (scope : Scope) (pa : List Str) : Prop where
  loc : ∀ y ∈ pa, scope.names.lookup y = some .local
  b0 : pa = [] → ∀ (q : Str) (bd : Expr) (cl : List (Str × Addr)) (pm cv ctv : Value), bindArgs (lamFd q params bd scope cl .none pm cv ctv) ⟨[], []⟩ = pure []
  b1 : ∀ a1, pa = [a1] → ∀ (q : Str) (bd : Expr) (cl : List (Str × Addr)) (T : Addr) (pm cv ctv : Value), ∃ k, bindArgs (lamFd q params bd scope cl (.ref T) pm cv ctv) ⟨[], []⟩ = seqItems? (.ref T) >>= k ∧ ∀ u, k (some #[u]) = pure [(a1, u)]
section
variable {X : Cx} {pins : List (Addr × Obj)} {σ : L2.St} {H HZ : Hp} {s s1 : Shared}
theorem lam_binds {params : Arguments} {scope : Scope} {pa : List Str} {dV : Value} (Lp : LamP params scope pa) (I : Inv X pins σ H s) (d : LamD H dV pa) (q : Str) (bd : Expr) (cl : List (Str × Addr)) (pm cv ctv : Value) :
    ∃ us : List Value, BindsTo s (lamFd q params bd scope cl dV pm cv ctv) ⟨[], []⟩ (pa.zip us) := by
  rcases d with ⟨e1, e2⟩ | ⟨T, a1, i, e1, e2, e3⟩
  · rw [e1, e2]
    exact ⟨[], .of_eq (Lp.b0 e2 q bd cl pm cv ctv)⟩
  · obtain ⟨_, its, r, o, ho, _, n, od⟩ := (show ObjOk X.prog X.w H s.heap T (.tup [.int i]) from I.hok T _ e3)
    obtain ⟨u, rfl⟩ : ∃ u, its = [u] := by
      cases r with
      | cons r1 r2 => cases r2 with
        | nil => exact ⟨_, rfl⟩
    obtain ⟨k, k1, k2⟩ := Lp.b1 a1 e2 q bd cl T pm cv ctv
    refine ⟨[u], ?_⟩
    rw [e1, e2]
    exact .of_defaults rfl ho od k1 (k2 u)
/-- a(), a the name of a parameter that holds the lambda -/
theorem lam_act {CXg : CXT} {Eg : XK} {Ng : List Str} {qg : Str} {sg : Scope} {g f c' : Addr} {cdg pm ctv dV : Value} {params : Arguments} {bd : Expr} {scope : Scope} {k i : Nat} {a : Str} {pn : List (Addr × Obj)} {xe : Value → Shared → Prop} {W : WX} {E : XK} {tb : TE} {p1 p2 : Pos} {pa : List Str}
    (I : Inv X pins σ H s) (L : LamN X.N X.env.scope scope) (Lp : LamP params scope pa) (hf : s.heap.get? f = some (lamO (lamQ X) params bd scope (lamC X scope) dV pm (.ref c') ctv)) (hfn : H f = none) (hfr : f ∉ frs X.stack)
    (tk : Takes ((cxOf CXg X.prog X.w X.K X.mg X.base Ng qg sg g cdg X.A X.stack s H Eg).tr pn xe) W) (hW : ∀ cls d σ' H', E cls d H' → W cls d σ' H') (hr : Room (k + 1) (X.A.deeper (envOfC qg sg s.heap.objs.size g cdg)))
    (hbody : ∀ (A : Around) (outer : List Env) (s : Shared) (H : Hp), Room k (A.deeper (lamEnv X scope s.heap.objs.size f c')) → PE (lamCx X A outer s H E scope f c') bd tb)
    (hN : Ng[i]? = some a) (hv : Vis sg a) (hd : (a == ("__debug__" : Str)) = false := by decide) (hcd : (a == ("__classdict__" : Str)) = false := by decide) :
    PE ((cxOf CXg X.prog X.w X.K X.mg X.base Ng qg sg g cdg X.A X.stack s H Eg).tr pn xe) (.Call (.Name a p1) [] [] p2)
      (fun σZ HZ Q => σZ[i]? = some (some (.ref f)) ∧ HZ c' = some (CodeO c' (lamQ X)) ∧ LamD HZ dV pa ∧ tb σ HZ Q) := by
  constructor
  intro pinsZ sZ σZ HZ Q IZ ⟨z1, z2, z3, z4⟩
  have nm := (pe_var (pos := p1) (i := i) hN hv hd hcd).run pinsZ sZ σZ HZ (fun v H1 => v = .ref f ∧ H1 = HZ) IZ ⟨.ref f, z1, rfl, rfl⟩
  refine wpAny_Call_Name_kw (thn nm fun u s1 ⟨v, H1, I1, r1, ev, eH⟩ => ?_)
  cases ev
  cases eH
  cases (show u = Value.ref f from r1)
  have of1 := I1.base.keep f _ hf hfn hfr (fun z => nomatch (show f ∈ ([] : List Addr) from z))
  have un : Un (frs X.stack) [] H HZ s.heap s1.heap := I1.base
  obtain ⟨⟨oc, vs, t, o1, o2, o3⟩, _, _⟩ := I1.hok c' _ z2
  obtain ⟨us, hb⟩ := lam_binds Lp I1 z3 (lamQ X) bd (lamC X scope) pm (.ref c') ctv
  have loc : ∀ y ∈ pa.zip us, scope.names.lookup y.1 = some .local := fun ⟨y, v⟩ hy => Lp.loc y (List.of_mem_zip hy).1
  have code : codeAny (model X.prog X.w) (X.A.deeper (envOfC qg sg s.heap.objs.size g cdg)) (.call (.ref f) ⟨[], []⟩) (CR (L2.CX X.prog X.w) (envOfC qg sg s.heap.objs.size g cdg :: X.stack) X.prog X.w HZ s1 Q E) s1 := by
    refine PySem.W.kla_callFunE hr.depth of1 rfl L.co L.gen rfl ⟨c', oc, vs, t, rfl, o1, o2, o3⟩ (hb _ _ _ _ (wpAny_newFunctionEnv L.nc loc (fun h₁ hns hsb => ⟨I1.nolimit.fresh _ hsb, ?_⟩) L.kind))
    have kp : ∀ b o, s1.heap.get? b = some o → h₁.get? b = some o := fun b o e => hsb.extBut b o (Nat.ne_of_lt (Heap.lt_size e)) (Heap.get?_push_of_some _ e)
    have J := lam_in (E := E) (f := f) (c' := c') (tk := s1.toks + (pa.zip us).length) I L I1.env0 hr.hd un hns kp
    refine PySem.W.kla_codeExpr (wpAny_mono ((hbody _ _ s1 HZ (hr.deeper _)).run [] _ _ HZ Q J z4) (fun v s' ⟨w', H', J', rv, q⟩ => ⟨w', H', J'.os, J'.bare, J'.base, J'.hok, rv, q⟩) fun e s' z => z)
  have out : L2.Passes (L2.CX X.prog X.w) ((cxOf CXg X.prog X.w X.K X.mg X.base Ng qg sg g cdg X.A X.stack s H Eg).tr pn xe) E := passes_call tk hW
  refine PySem.W.callWith_F0 ⟨_, _, _, _, of1⟩ (wpAny_call (codeAny_mono code fun r s' hq => ?_))
  match r, hq with
  | .error e, hq => exact out pinsZ σZ HZ s1 e s' I1 hq
  | .ok (.ret u), hq => exact I1.after hq
  | .ok .next, hq => exact hq.elim
  | .ok .brk, hq => exact hq.elim
  | .ok .cont, hq => exact hq.elim
/-- the lambda, no parameters -/
theorem lam_eval0 {params : Arguments} {bd : Expr} {scope : Scope} {pos : Pos} {E : Value → Shared → Prop} {Q : Value → Shared → Prop} (df : defaultsOf params X.env = ([], []))
    (h : wpAny (model X.prog X.w) X.A (makeTail "<lambda>" (lamQ X) params (.expr bd) scope X.env .none .none none pos pos.line) Q E s) : wpAny (model X.prog X.w) X.A (eval (.Lambda params bd scope pos) X.env) Q E s := by
  refine PySem.W.kla_eval df ?_
  rw [makeFunction_eq]
  simp only [List.zip_nil_right, List.filterMap_nil, List.isEmpty_nil, if_true, pure_bind]
  exact h
/-- one parameter, its default an int -/
theorem lam_eval1 {params : Arguments} {bd : Expr} {scope : Scope} {pos pz : Pos} {j : Nat} {i : Int} {E : Value → Shared → Prop} {Q : Value → Shared → Prop} (df : defaultsOf params X.env = ([eval (.Constant (.int i) j pz) X.env], [])) (I : Inv X pins σ H s)
    (h : ∀ (T : Addr) (s' : Shared), H T = none → Inv X pins σ (upd H T (.tup [.int i])) s' → wpAny (model X.prog X.w) X.A (makeTail "<lambda>" (lamQ X) params (.expr bd) scope X.env (.ref T) .none none pos pos.line) Q E s') : wpAny (model X.prog X.w) X.A (eval (.Lambda params bd scope pos) X.env) Q E s := by
  rw [arm_eval_Lambda, df]
  have ev : wpAny (model X.prog X.w) X.A (evalAll [eval (.Constant (.int i) j pz) X.env]) (fun dv s' => ∃ u, dv = [u] ∧ RelV (.int i) u ∧ Inv X pins σ H s') E s := by
    have hx := (pe_int (X := { X with xe := E }) (i := i) (pos := pz) (j := j)).run pins s σ H (fun v H1 => v = .int i ∧ H1 = H) (I.wish _) ⟨rfl, rfl⟩
    refine wpAny_bind (wpAny_mono hx (fun u s' ⟨v, H1, I1, r, e1, e2⟩ => ?_) fun _ _ z => z)
    cases e1
    cases e2
    exact wpAny_bind (wpAny_holding (wpAny_pure (wpAny_pure ⟨u, rfl, r, (I1.wish X.xe : Inv X pins σ H s')⟩)))
  refine wpAny_bind (wpAny_mono ev (fun dv s' ⟨u, e1, r, I1⟩ => ?_) fun _ _ z => z)
  cases e1
  refine wpAny_bind (wpAny_holding (wpAny_pure ?_))
  rw [makeFunction_eq]
  simp only [List.zip_nil_right, List.filterMap_nil, List.isEmpty_nil, List.isEmpty_cons, Bool.false_eq_true, if_true, if_false, pure_bind]
  refine wpAny_bind (wpAny_newTextTuple ?_)
  have J : Inv X pins σ (upd H s'.heap.objs.size (.tup [.int i])) { s' with heap := s'.heap.push { cls := .type "tuple", data := .seq [u].toArray } } :=
    I1.laid (t' := s'.toks) (fun b o e => Heap.get?_push_of_some _ e) (Nat.le_refl _) ⟨by rw [sizeLine_eq]; show 1 ≤ 16777216; decide, [u], .cons r .nil, IsTup.new _ _⟩
  exact h _ _ (I1.hok.fresh (Nat.le_refl _)) J
end
end NM

set_option linter.all false
set_option maxRecDepth 100000
set_option maxHeartbeats 2000000
/-! try: .. / except C as n: y = n, the exception known behind. -/
namespace NM
open PySem PySem.Spec PyProof.Rows L2
/-- an exception of the class cls, its dict d -/
def ExP (a : Addr) (cls : Value) (d : Option Addr) (h : Heap) : Prop := ∃ (oe : Obj) (vs : Array Value), h.get? a = some oe ∧ oe.cls = cls ∧ oe.dict = d ∧ oe.data = .fields vs
abbrev ExH (a : Addr) (cls : Value) (d : Option Addr) : HO := .ext (ExP a cls d)
section
variable {X : Cx} {pins : List (Addr × Obj)} {σ : L2.St} {H : Hp} {s : Shared}
theorem exh_ok {P : Program} {w : World} {h : Heap} {a : Addr} {cls : Value} {d : Option Addr} (e : ExP a cls d h) : ObjOk P w H h a (ExH a cls d) :=
  ⟨e, let ⟨oe, _, q, _⟩ := e; ⟨oe, q⟩, fun h1 h2 ⟨oe, vs, q1, q2⟩ k => ⟨oe, vs, k _ q1, q2⟩⟩
/-- known from now on -/
theorem trackG {a : Addr} {ψ : Heap → Prop} (I : Inv X pins σ H s) (na : H a = none) (e : ∀ H', ObjOk X.prog X.w H' s.heap a (.ext ψ)) (nc : ∀ o, s.heap.get? a = some o → ∀ v, o.data ≠ .cell v) (n0 : X.s_0.heap.get? a = none) (nL : a ≠ X.env.locals) (np : ∀ p ∈ X.pn ++ pins, p.1 ≠ a) : Inv X pins σ (upd H a (.ext ψ)) s := by
  have ne : ∀ {b o}, H b = some o → b ≠ a := fun {b o} q => ne_of_none q na
  have nx : ∀ {b o}, H b = some o → upd H a (.ext ψ) b = some o := fun {b o} q => by rw [upd_ne (ne q)]; exact q
  have n0' : ∀ b o, X.s_0.heap.get? b = some o → b ≠ a := fun b o q z => by rw [z, n0] at q; cases q
  exact {
    ok := I.ok, os := I.os, bare := I.bare, loc := I.loc, cell := I.cell, len := I.len
    base := {
      keep := I.base.keep, slot := I.base.slot, there := I.base.there
      free := fun b o q n hx => by rw [upd_ne (n0' b o q)]; exact I.base.free b o q n hx
      tups := fun b xs q => nx (I.base.tups b xs q)
      frzs := fun b o u q => nx (I.base.frzs b o u q)
      tbls := fun b ps q => let ⟨m, z⟩ := I.base.tbls b ps q; ⟨m, nx z⟩ }
    free := by rw [upd_ne (Ne.symm nL)]; exact I.free
    freeC := fun x c q => by
      have cn : c ≠ a := fun z => by
        obtain ⟨v, o, ho, hv⟩ := I.cell x c q
        rw [z] at ho
        exact nc o ho v hv
      rw [upd_ne cn]
      exact I.freeC x c q
    pin := fun p hp => let ⟨a1, a2, r⟩ := I.pin p hp; ⟨a1, by rw [upd_ne (np p hp)]; exact a2, r⟩
    hok := fun b o q => by
      by_cases hb : b = a
      · rw [hb, upd_same] at q
        cases q
        rw [hb]
        exact e _
      · rw [upd_ne hb] at q
        exact (I.hok b o q).stay (fun _ _ _ z => z) (fun _ z => nx z) fun _ _ z => nx z }
theorem track {a : Addr} {cls : Value} {d : Option Addr} (I : Inv X pins σ H s) (na : H a = none) (e : ExP a cls d s.heap) (n0 : X.s_0.heap.get? a = none) (nL : a ≠ X.env.locals) (np : ∀ p ∈ X.pn ++ pins, p.1 ≠ a) : Inv X pins σ (upd H a (ExH a cls d)) s :=
  trackG I na (fun _ => exh_ok e) (fun o ho v hv => by
    obtain ⟨oe, vs, e1, _, _, e2⟩ := e
    rw [e1] at ho
    cases ho
    rw [e2] at hv
    cases hv) n0 nL np
/-- what the clause wishes -/
def wKeep (K : PySem.W.Frag) (N : List Str) (c : Value) (iy i : Nat) (D : Ends) : WX := fun cls d σ H =>
  PySem.W.exmOne K cls c = some true ∧ (σ.length = N.length → ∀ a, H a = none → D.nx (((σ.set i (some (.ref a))).set iy (some (.ref a))).set i none) (upd H a (ExH a cls d)))
theorem Inv.back {a : Addr} {pn : List (Addr × Obj)} (I : Inv (X.suite a (X.pn ++ pins)) pn σ H s) (ok : X.Ok) : Inv X pins σ H s :=
  ⟨ok, I.os, I.bare, I.base, I.loc, I.cell, I.free, I.freeC, fun p hp => I.pin p (List.mem_append_left _ hp), I.hok, I.len⟩
theorem Inv.into {a : Addr} (I : Inv X pins σ H s) : Inv (X.suite a (X.pn ++ pins)) [] σ H s :=
  ⟨I.ok.suite a _, I.os, I.bare, I.base, I.loc, I.cell, I.free, I.freeC, fun p hp => I.pin p (by rw [List.append_nil] at hp; exact hp), I.hok, I.len⟩
variable {x n : Str} {c : Value} {i iy : Nat} {body : List Stmt} {b₀ : Stmt} {np pos pos' : Pos} {tb : WX → TS}
theorem ps_keep (hs : X.stack = X.env :: X.outer) (hf : X.env.frame = some X.env.locals) (hx : X.ex = []) (hN : X.N.Nodup) (hi : X.N[i]? = some n) (hln : X.env.kindOf n = some .local) (hc : Names X x c)
    (hb : ∀ (W : WX) (pn : List (Addr × Obj)) (xe : Value → Shared → Prop), Takes (X.tr pn xe) W → PassesOwn (model X.prog X.w) X.A X.env xe → PSs (X.tr pn xe) body (tb W))
    (hsu : ∀ (a : Addr) (pn : List (Addr × Obj)), PS (X.suite a pn) b₀ (tAsg (tVar i) (gName iy))) :
    PS X (.Try body [.ExceptHandler (some (.Name x np)) (some n) [b₀] pos'] [] [] pos) (fun D σ H => tb (wKeep X.K X.N c iy i D) D σ H) := by
  constructor
  intro pins s σ H D I h
  have ok := I.ok
  have fr : X.A.frames = some (X.env :: X.outer) := by rw [ok.frames, hs]
  have caught : Takes (X.tr (X.pn ++ pins) (fun e s₁ => wpAny (model X.prog X.w) X.A (noteFrame e X.env) (fun _ s₂ => wpAny (model X.prog X.w) X.A (setFlight e none) (fun _ s₃ =>
      wpAny (model X.prog X.w) X.A (handleBy e X.env [.ExceptHandler (some (.Name x np)) (some n) [b₀] pos']) (SP X pins D) X.xe s₃) X.xe s₂) X.xe s₁)) (wKeep X.K X.N c iy i D) := by
    intro u s' ⟨a, B, sI, pins', σ', H', cls, d, eu, J', nb, up, sky, na, os, ag, m1, go⟩
    subst eu
    have J : Inv X pins σ' H' sI := J'.ofTry ok
    have sky : Sky B (X.env :: X.outer) a (Zc cls d) X.env.locals s'.heap := by rw [← hs]; exact sky
    refine Sky.land Zc.steady fr hf sky fun h3 fl3 up3 => ?_
    have J3 : Inv X pins σ' H' { s' with heap := h3 } := J.landed nb fl3.1 (up.trans up3) os ag
    obtain ⟨oe3, vs3, p1, p2, p3⟩ := fl3.there
    have nfr : a ∉ frs (X.env :: X.outer) := fun hm => by
      obtain ⟨_, o', q, r⟩ := (fl3.2.2.1).mem hm
      rw [p1] at q
      cases q
      exact r _ p3
    have nL : a ≠ X.env.locals := fun z => nfr (List.mem_filterMap.mpr ⟨X.env, List.mem_cons_self, by rw [hf, z]⟩)
    have inB : ∀ b o, sI.heap.get? b = some o → b ∉ frs X.stack → b ≠ a := fun b o q1 q2 z => by
      have q := nb b o q1 q2
      rw [z, fl3.2.1] at q
      cases q
    have n0 : X.s_0.heap.get? a = none := by
      cases q : X.s_0.heap.get? a with
      | none => rfl
      | some o =>
        obtain ⟨o', q'⟩ := J.base.there a o q (by rw [hx]; exact fun z => nomatch z)
        exact absurd rfl (inB a o' q' (by rw [hs]; exact nfr))
    have npin : ∀ p ∈ X.pn ++ pins, p.1 ≠ a := fun p hp => by
      obtain ⟨a1, _, a3, a4, _⟩ := J.pin p hp
      refine inB p.1 p.2 a1 fun hm => ?_
      rw [hs] at hm
      obtain ⟨e, he, q⟩ := List.mem_filterMap.mp hm
      rcases List.mem_cons.mp he with rfl | he
      · rw [hf] at q
        exact a3 (Option.some.inj q).symm
      · exact a4 (List.mem_filterMap.mpr ⟨e, he, q⟩)
    have T3 := NM.Inv.into (a := a) (track J3 na ⟨oe3, vs3, p1, p2.1, p2.2, p3⟩ n0 nL npin)
    have LT : PySem.W.Looks (model X.prog X.w) h3 (typeOf (.ref a)) cls := fun A Q E s k q => wpAny_typeOf_ref (k _ _ p1) (by rw [p2.1]; exact q)
    have LM := PySem.W.exm_one (M := model X.prog X.w) J3.kIn LT m1
    have test : ∀ {Q E : Value → Shared → Prop}, Q c { s' with heap := h3 } → wpAny (model X.prog X.w) (X.A.mark (some (.ref a))) (eval (.Name x np) X.env) Q E { s' with heap := h3 } := fun {Q E} q => by
      obtain ⟨g1, g2, g3 | ⟨g3, g4, g5⟩⟩ := hc
      · exact ld_glob (X := X.suite a (X.pn ++ pins)) T3 g1 g3 q g2
      · exact ld_blt (X := X.suite a (X.pn ++ pins)) T3 g1 g3 g4 q g5 g2
    refine wpAny_handleBy_cons (codeAny_handlers_test (test (LM.here ?_))) (fun z => nomatch z)
    refine codeAny_handlers_suite_as (HandSPX.lands_againZ fl3 fun h4 fl4 up4 => ?_)
    have J4 : Inv X pins σ' H' { s' with heap := h4 } := J.landed nb fl4.1 ((up.trans up3).trans up4) os ag
    obtain ⟨oe4, vs4, r1, r2, r3⟩ := fl4.there
    have T4 := NM.Inv.into (a := a) (track J4 na ⟨oe4, vs4, r1, r2.1, r2.2, r3⟩ n0 nL npin)
    refine store_ok (X := X.suite a (X.pn ++ pins)) (v := .ref a) T4 hN hi (.inl hln) rfl (fun s5 S5 => ?_) (.inr hln)
    have il : i < σ'.length := by
      rw [J.len]
      exact (List.getElem?_eq_some_iff.mp hi).1
    refine wpAny_mono ((pss_one (hsu a (X.pn ++ pins))).run [] s5 _ _ { nx := fun σ6 H6 => D.nx (σ6.set i none) H6, rt := fun _ _ => False } S5 ⟨.ref a, List.getElem?_set_self il, go J.len a na⟩) (fun f s6 hsp => ?_) (fun _ _ z => False.elim z)
    match f, hsp with
    | .next, ⟨σ6, H6, S6, q6⟩ => exact gone_ok (NM.Inv.back S6 ok) hN hi hln fun s7 J7 => ⟨_, _, J7, q6⟩
    | .ret u, ⟨_, _, _, _, _, z⟩ => exact z.elim
    | .brk, ⟨_, _, _, z⟩ => exact (show False from z).elim
    | .cont, ⟨_, _, _, z⟩ => exact (show False from z).elim
  refine wpAny_Try_except (wpAny_mono ((hb _ _ _ caught PassesOwn.looking).run [] s σ H D (I.toTry _) h) (fun f s1 hsp => ?_) fun e s1 z => z)
  match f, hsp with
  | .next, ⟨σ', H', J', q⟩ => exact wpAny_execs_nil ⟨σ', H', J'.ofTry ok, q⟩
  | .brk, ⟨σ', H', J', q⟩ => exact ⟨σ', H', J'.ofTry ok, q⟩
  | .cont, ⟨σ', H', J', q⟩ => exact ⟨σ', H', J'.ofTry ok, q⟩
  | .ret u, ⟨v, σ', H', J', r, q⟩ => exact ⟨v, σ', H', J'.ofTry ok, r, q⟩
end
end NM

set_option linter.all false
set_option maxRecDepth 100000
set_option maxHeartbeats 2000000
/-! _law_caught(lambda: e): what e gives, or what is made of the error that it lets out. -/
namespace NM
open PySem PySem.Spec PyProof.Rows L2 LamX
/-- a def's end, nothing let out -/
def fin (rest : Sx) (ρ : Rho) (S : Store) : R D := (rest ρ S).shut.bind fun f S1 => match f with
  | .next _ => .ok .non S1
  | .ret d => .ok d S1
  | _ => .stuck
/-- slots: ask, caught, found, error -/
def eCaught (vs : List Str) (m : Ex) (rest : Sx) : Ex := fun ρ S => match m ρ S with
  | .ok d S1 => fin rest [none, some .non, some d, none] S1
  | .exc x fs S1 => if x ∈ vs then fin rest [none, some (.ptr S1.length), none, none] (S1 ++ [.exc x fs]) else .stuck
  | .stuck => .stuck
section
variable {c : Cf} {H H1 : Hp} {φ : List Addr} {S : Store}
theorem objr_ntbl {a : Addr} : ∀ {o : O}, ObjR c H φ a o → ∃ u, H a = some u ∧ ∀ ps, u ≠ .tbl ps
  | .lst ds, ⟨vs, q1, q2⟩ => ⟨_, q1, fun _ z => nomatch z⟩
  | .dic false kvs, ⟨m, q1, q2⟩ => ⟨_, q1, fun _ z => nomatch z⟩
  | .dic true kvs, ⟨m, q1, q2⟩ => ⟨_, q1, fun _ z => nomatch z⟩
  | .ins n fs, ⟨dx, gs, q1, q2⟩ => ⟨_, q1, fun _ z => nomatch z⟩
  | .exc n fs, ⟨d, gs, φo, q1, q2, q3, q4, q5⟩ => ⟨_, q1, fun _ z => nomatch z⟩
  | .fn, ⟨φo, q1, q2⟩ => ⟨_, q1, fun _ z => nomatch z⟩
/-- only tables grow -/
theorem SR.tab (s : SR c H φ S) (k : ExtN H H1) (t : Tabs c.T H1) (lv : ∀ a, H1 a = none → H a = none) : SR c H1 φ S ∧ Xt φ H φ H1 := by
  have x : Xt φ H φ H1 := ⟨⟨[], by simp, by simp⟩, fun a o h _ n => k a o h n, fun a xs h => k a _ h (fun _ z => nomatch z), fun a o u h => k a _ h (fun _ z => nomatch z), lv⟩
  refine ⟨⟨s.len, s.nd, fun n a o h1 h2 => ?_, t⟩, x⟩
  have q := s.ob n a o h1 h2
  obtain ⟨u, hu, nt⟩ := objr_ntbl q
  exact q.mono x.w (fun u' h' => k a u' h' (by rw [hu] at h'; cases h'; exact nt)) fun d gs h1 h2 => ⟨k d _ h1 (fun _ z => nomatch z), h2⟩
theorem Po.fin {E : XK} {rest : Sx} {ρ : Rho} {Z : D → Store → List Addr → Hp → Prop} (h : Po c E φ H (NM.fin rest ρ S) Z) : Po c EN φ H (rest ρ S) fun f S1 φ' H' => (match f with
    | .next _ => Z .non S1 φ' H'
    | .ret d => Z d S1 φ' H'
    | _ => False) := by
  unfold NM.fin at h
  cases r : rest ρ S with
  | ok f S1 =>
    rw [r] at h
    intro φ' H' x s
    cases f with
    | next ρ1 => exact h φ' H' x s
    | ret d => exact h φ' H' x s
    | brk ρ1 => exact (show False from h)
    | cont ρ1 => exact (show False from h)
  | exc n fs S1 => rw [r] at h; exact (show False from h).elim
  | stuck => rw [r] at h; exact (show False from h).elim
end
section
variable {X : Cx} {c : Cf} {E : XK}
/-- the context of the def that catches -/
abbrev Zc0 (X : Cx) (Ng : List Str) (x : Str) (sg : Scope) (g : Addr) (cdg : Value) (s : Shared) (H : Hp) : Cx := cxOf C8.CX0 X.prog X.w X.K X.mg X.base Ng x sg g cdg X.A X.stack s H C8.E0
abbrev NC : List Str := ["ask", "caught", "found", "error"]
/-- what is known of the def that catches -/
structure CatD (K : PySem.W.Frag) (mg : Str → Option Value) (base : Heap) (P : Program) (w : World) (c : Cf) (x : Str) (k : Nat) (pg : Arguments) (bg : List Stmt) (sg : Scope) (vs : List Str) (rest : Sx) : Prop where
  fd : ∃ fd, FunD K x x pg bg sg [] [] (He.ga K x) fd ∧ L2.Binds K fd ["ask"] []
  gm : mg x = some (.ref (He.ga K x))
  kp : PySem.W.keepIn K (.ref (He.ga K x)) = true
  sc : FnScope NC ["ask"] sg
  l0 : sg.names.lookup ("ask" : Str) = some .local
  l1 : sg.names.lookup ("caught" : Str) = some .local
  l2 : sg.names.lookup ("found" : Str) = some .local
  l3 : sg.names.lookup ("error" : Str) = some .local
  gt : sg.names.lookup ("TrialError" : Str) = some .globalImplicit
  mt : mg "TrialError" = some (.ref (He.ga K "TrialError"))
  ex : ∀ y ∈ vs, y ∈ c.V ∧ PySem.W.exmOne K (.ref (He.ga K y)) (.ref (He.ga K "TrialError")) = some true
  bd : ∃ (s1 sf b0 : Stmt) (rs : List Stmt) (p1 p2 q1 q2 q3 q4 q5 : Pos), bg = s1 :: .Try [.Assign [.Name "found" p1] (.Call (.Name "ask" q1) [] [] q2) q3] [.ExceptHandler (some (.Name "TrialError" p2)) (some "error") [b0] q4] [] [] q5 :: rs ∧
    (∀ (cdg : Value) (A : Around) (outer : List Env) (s : Shared) (H : Hp), PS (cxOf C8.CX0 P w K mg base NC x sg (He.ga K x) cdg A outer s H C8.E0) s1 (tAsg (tTup (tCons (tC .non) (tCons (tC .non) tNil))) (gTup K 2 (gCons (gName 1) (gCons (gName 2) gNil))))) ∧
    (∀ (cdg : Value) (A : Around) (outer : List Env) (s : Shared) (H : Hp) (a : Addr) (pn : List (Addr × Obj)), PS ((cxOf C8.CX0 P w K mg base NC x sg (He.ga K x) cdg A outer s H C8.E0).suite a pn) b0 (tAsg (tVar 3) (gName 1))) ∧
    (∀ (cdg : Value) (A : Around) (outer : List Env) (s : Shared) (H : Hp), Room k (A.deeper (envOfC x sg s.heap.objs.size (He.ga K x) cdg)) → SB (cxOf C8.CX0 P w K mg base NC x sg (He.ga K x) cdg A outer s H C8.E0) c EN rs rest) ∧
    (∀ (cdg : Value) (A : Around) (outer : List Env) (s : Shared) (H : Hp) (pn : List (Addr × Obj)) (xe : Value → Shared → Prop) (te : TE), PE ((cxOf C8.CX0 P w K mg base NC x sg (He.ga K x) cdg A outer s H C8.E0).tr pn xe) (.Call (.Name "ask" q1) [] [] q2) te →
      PS ((cxOf C8.CX0 P w K mg base NC x sg (He.ga K x) cdg A outer s H C8.E0).tr pn xe) (.Assign [.Name "found" p1] (.Call (.Name "ask" q1) [] [] q2) q3) (tAsg te (gName 2)))
/-- the lambda read: its defaults laid -/
def Lays (X : Cx) (params : Arguments) (bd : Expr) (scope : Scope) (lpos : Pos) (pa : List Str) : Prop := ∀ (pins : List (Addr × Obj)) (s : Shared) (σ : L2.St) (H : Hp) (Q E : Value → Shared → Prop), Inv X pins σ H s →
  (∀ (dV : Value) (H0 : Hp) (s0 : Shared), Inv X pins σ H0 s0 → (H0 = H ∨ ∃ (T : Addr) (xs : List V), H T = none ∧ H0 = upd H T (.tup xs)) → LamD H0 dV pa → wpAny (model X.prog X.w) X.A (makeTail "<lambda>" (lamQ X) params (.expr bd) scope X.env dV .none none lpos lpos.line) Q E s0) →
  wpAny (model X.prog X.w) X.A (eval (.Lambda params bd scope lpos) X.env) Q E s
theorem lays0 {params : Arguments} {bd : Expr} {scope : Scope} {lpos : Pos} (df : defaultsOf params X.env = ([], [])) : Lays X params bd scope lpos [] := fun pins s σ H Q E I h => lam_eval0 df (h .none H s I (.inl rfl) (.inl ⟨rfl, rfl⟩))
theorem lays1 {params : Arguments} {bd : Expr} {scope : Scope} {lpos pz : Pos} {j : Nat} {i : Int} {a1 : Str} (df : defaultsOf params X.env = ([eval (.Constant (.int i) j pz) X.env], [])) : Lays X params bd scope lpos [a1] := fun pins s σ H Q E I h =>
  lam_eval1 df I fun T s' nT J => h (.ref T) _ s' J (.inr ⟨T, _, nT, rfl⟩) (.inr ⟨T, a1, i, rfl, rfl, upd_same⟩)
/-- _law_caught(lambda: e) -/
theorem se_caught {k : Nat} {x : Str} {pg : Arguments} {bg : List Stmt} {sg : Scope} {vs : List Str} {rest : Sx} {cd P : Addr} {params : Arguments} {bd : Expr} {scope : Scope} {m : Ex} {p lpos pos : Pos} {pa : List Str} (hK : X.K = c.K)
    (G : CatD X.K X.mg X.base X.prog X.w c x (k + 1) pg bg sg vs rest) (hg : Gl X x) (TB : TabB X.base X.mg cd P) (kc : X.env.code = .ref cd) (kT : (P, lamQ X) ∈ c.T) (ku : ∀ p ∈ c.T, p.1 = P → p.2 = lamQ X) (hr : Room (k + 2) X.A)
    (L : LamN X.N X.env.scope scope) (Lp : LamP params scope pa) (La : Lays X params bd scope lpos pa)
    (hbody : ∀ (A : Around) (outer : List Env) (s : Shared) (H : Hp) (E' : XK) (f c' : Addr), Room k (A.deeper (lamEnv X scope s.heap.objs.size f c')) → SE (lamCx X A outer s H E' scope f c') c E' bd m) (hdb : (x == ("__debug__" : Str)) = false := by decide) :
    SE X c E (.Call (.Name x p) [.Lambda params bd scope lpos] [] pos) (eCaught vs m rest) := by
  constructor
  intro pins s σ H Q I ⟨φ, ρ, S, at_, po⟩
  obtain ⟨fd, F, hb⟩ := G.fd
  obtain ⟨oc, od, dV0, kV, doc, pm0, an, cdv, ct, osl, rfl, lk, hcd, _, _⟩ := F.ex
  obtain ⟨s1, sf, b0, rs, p1, p2, q1, q2, q3, q4, q5, eb, d1, d2, d3, d4⟩ := G.bd
  refine wpAny_Call_Name_kw (ld_glob I hg G.gm ?_ hdb)
  refine PySem.W.callWith_K (h₀ := X.base) I.ok.mod.kin G.kp ?_ (by rfl) (by rfl)
  show wpAny _ _ (spliced ((false, eval (.Lambda params bd scope lpos) X.env) :: backTo pos (starEach [] X.env))) _ _ s
  refine Calls.spliced_cons (La pins s σ H _ _ I fun dV H0 s0 I0 e0 ld => lam_mk I0 TB kc kT ku ?tabs (L.has I.ok) fun f c' pm' ctv H1 s' I1 eH xN T1 hf hfn _ hfr hco => ?_)
  case tabs =>
    rcases e0 with e | ⟨T, xs, nT, e⟩
    · rw [e]; exact at_.s.tb
    · rw [e]; exact (at_.s.new nT (by intro _ z; cases z)).1.tb
  have up : SR c H1 φ S ∧ Xt φ H φ H1 := by
    have a0 : SR c H0 φ S ∧ Xt φ H φ H0 := by
      rcases e0 with e | ⟨T, xs, nT, e⟩
      · rw [e]; exact ⟨at_.s, Xt.refl φ H⟩
      · rw [e]; exact ⟨(at_.s.new nT (by intro _ z; cases z)).1, (at_.s.new nT (by intro _ z; cases z)).2.1⟩
    have a1 := a0.1.tab xN T1 (fun a n => by
      obtain ⟨tb, z⟩ := eH
      rcases z with ⟨e, n0⟩ | e
      · rw [e] at n
        by_cases h1 : a = c'
        · rw [h1]; exact n0
        · rw [upd_ne h1] at n
          by_cases h2 : a = P
          · rw [h2, upd_same] at n; cases n
          · rw [upd_ne h2] at n; exact n
      · rw [e] at n; exact n)
    exact ⟨a1.1, a0.2.trans a1.2⟩
  have ld1 : LamD H1 dV pa := ld.up fun a xs q => xN a _ q (by intro _ z; cases z)
  refine Calls.spliced_nil ⟨I1.kIn, ?_⟩
  have l1 : LR c.K H1 φ ρ σ := at_.l.mono up.2.w
  have po1 : Po c E φ H1 (eCaught vs m rest ρ S) (ZE c Q) := po.later up.2
  have rc : codeAny (model X.prog X.w) X.A (.call (.ref (He.ga X.K x)) ⟨[.ref f], []⟩) (CR C8.CX0 X.stack X.prog X.w H1 s' Q C8.E0) s' := by
    refine LamX.run_ofS (N := NC) (ps := ["ask"]) (us := [.ref f]) (vs := [.ref f]) lk hcd G.sc hr I1.env0 (hb s' [.ref f] I1.kIn rfl) (.cons rfl .nil) rfl fun hr' => ?_
    have tr := ps_keep (X := Zc0 X NC x sg (He.ga X.K x) cdv s' H1) (x := "TrialError") (n := "error") (c := .ref (He.ga X.K "TrialError")) (i := 3) (iy := 1) (np := p2) (pos := q5) (pos' := q4)
      (body := [.Assign [.Name "found" p1] (.Call (.Name "ask" q1) [] [] q2) q3]) (b₀ := b0)
      (tb := fun W D σZ HZ => ∃ Ech : XK, (∀ cls d σ' H', Ech cls d H' → W cls d σ' H') ∧ σZ[0]? = some (some (.ref f)) ∧ HZ c' = some (CodeO c' (lamQ X)) ∧ LamD HZ dV pa ∧ tE c Ech m σ HZ fun v H2 => D.nx (σZ.set 2 (some v)) H2)
      rfl rfl rfl G.sc.nd rfl G.l3 ⟨G.gt, by decide, .inl G.mt⟩ (fun W pn xe tk _ => ?_) (fun a pn => d2 _ _ _ _ _ a pn)
    · refine ⟨_, by rw [eb]; exact pss_cons (d1 _ _ _ _ _) (pss_cons tr (d3 _ _ _ _ _ hr')), ?_⟩
      refine ⟨by rw [sizeLine_eq]; show 2 ≤ 16777216; decide, fun qt nq => ?_⟩
      refine ⟨qt, _, rfl, SqT.of upd_same, rfl, _, _, rfl, _, _, rfl, rfl, ?_⟩
      obtain ⟨s2, x2, _⟩ := up.1.new (o := .tup [V.non, V.non]) nq (by intro _ z; cases z)
      have hcn : c' ≠ qt := fun z => by rw [z, nq] at hco; cases hco
      have hco2 : upd H1 qt (.tup [V.non, V.non]) c' = some (CodeO c' (lamQ X)) := by rw [upd_ne hcn]; exact hco
      have po2 := po1.later x2
      refine ⟨fun cls d H' => ∀ σ', wKeep X.K NC (.ref (He.ga X.K "TrialError")) 1 3 _ cls d σ' H', fun cls d σ' H' z => z σ', rfl, hco2, ld1.up fun a xs q => x2.tups _ _ q, φ, ρ, S, ⟨s2, l1.mono x2.w⟩, ?_⟩
      unfold eCaught at po2
      have lr : ∀ (φ' : List Addr) (H' : Hp) (a b : Option D) (va vb : V), (∀ d, a = some d → Den c.K H' φ' d va) → (∀ d, b = some d → Den c.K H' φ' d vb) → ∀ (σ' : L2.St), σ'.length = 4 → σ'[1]? = some (some va) → (b ≠ none → σ'[2]? = some (some vb)) → LR c.K H' φ' [none, a, b, none] σ' := by
        intro φ' H' a b va vb ha hb σ' hl h1 h2
        refine ⟨by rw [hl]; rfl, fun i d e => ?_⟩
        match i, e with
        | 0, e => cases e
        | 1, e => exact ⟨va, h1, ha d (Option.some.inj e)⟩
        | 2, e =>
          have e := Option.some.inj e
          exact ⟨vb, h2 (by rw [e]; exact fun z => nomatch z), hb d e⟩
        | 3, e => cases e
        | i + 4, e => cases e
      cases hm : m ρ S with
      | stuck => rw [hm] at po2; exact po2.elim
      | ok d S1 =>
        rw [hm] at po2
        intro φ' H' x3 s3 v dv
        have p4 := (Po.later po2 x3).fin
        refine ⟨φ', [none, some .non, some d, none], S1, ⟨s3, lr φ' H' (some .non) (some d) .non v (fun _ e => by cases e; exact .non) (fun _ e => by cases e; exact dv) _ rfl rfl fun _ => rfl⟩, ?_⟩
        refine p4.imp fun fl S2 φ2 H2 _ x4 s4 z => ?_
        cases fl with
        | next ρ1 => exact fun σ' _ => z _ .non
        | ret d => exact z
        | brk ρ1 => exact (show False from z).elim
        | cont ρ1 => exact (show False from z).elim
      | exc n fs S1 =>
        rw [hm] at po2
        dsimp only at po2
        split at po2
        · rename_i hn
          intro φ' H' x3 s3 cls dd xr σ'
          obtain ⟨ec, d, gs, ed, hd, nd, dfs⟩ := xr
          obtain ⟨hV, hx⟩ := G.ex n hn
          refine ⟨by rw [ec, ← hK]; exact hx, fun hl a na => ?_⟩
          obtain ⟨s4, x4, np⟩ := s3.new (o := ExH a cls dd) na (by intro _ z; cases z)
          have nda : d ≠ a := fun z => by rw [z, na] at hd; cases hd
          have ob : ObjR c (upd H' a (ExH a cls dd)) φ' a (.exc n fs) := ⟨d, gs, ExP a cls dd, upd_same, by rw [upd_ne nda]; exact hd, nd, dfs.mono x4.w, fun h ⟨oe, us, e1, e2, e3, e4⟩ => ⟨oe, us, e1, e2.trans ec, e3.trans ed, e4⟩, hV⟩
          have s5 := s4.place np ob
          have x5 : Xt φ (upd H1 qt (.tup [V.non, V.non])) (φ' ++ [a]) (upd H' a (ExH a cls dd)) := (x3.trans x4).place (x3.live _ na)
          have p4 := (Po.later po2 x5).fin
          have il : 4 = σ'.length := hl.symm
          refine ⟨φ' ++ [a], [none, some (.ptr S1.length), none, none], S1 ++ [.exc n fs], ⟨s5, lr _ _ (some (.ptr S1.length)) none (.ref a) .non (fun _ e => by
              cases e
              refine .ptr ?_
              rw [List.getElem?_append_right (by rw [s3.len]; exact Nat.le_refl _), s3.len]
              simp) (fun _ e => nomatch e) _ (by simp [← il]) ?_ (fun z => absurd rfl z)⟩, ?_⟩
          · rw [List.getElem?_set_ne (by decide), List.getElem?_set_self (by simp [← il])]
          · refine p4.imp fun fl S2 φ2 H2 _ x6 s6 z => ?_
            cases fl with
            | next ρ1 => exact fun σ' _ => z _ .non
            | ret d => exact z
            | brk ρ1 => exact (show False from z).elim
            | cont ρ1 => exact (show False from z).elim
        · exact po2.elim
    · refine ⟨fun pins s' σ' H' D I h' => ?_⟩
      obtain ⟨Ech, hW, z1, z2, z3, z4⟩ := h'
      have act := lam_act (i := 0) (p1 := q1) (p2 := q2) (pn := pn) (xe := xe) (W := W) (E := Ech) (tb := tE c Ech m) I1 L Lp hf hfn hfr tk hW hr' (fun A outer s H hr2 => hbody A outer s H Ech f c' hr2) rfl (.inl G.l0)
      exact (pss_one (d4 _ _ _ _ _ pn xe _ act)).run pins s' σ' H' D I ⟨z1, z2, z3, z4⟩
  refine wpAny_call (codeAny_mono rc fun r s2 hq => ?_)
  match r, hq with
  | .error e, hq => exact (show False from hq).elim
  | .ok (.ret u), hq => exact I1.after hq
  | .ok .next, hq => exact hq.elim
  | .ok .brk, hq => exact hq.elim
  | .ok .cont, hq => exact hq.elim
end
end NM

set_option linter.all false
set_option maxRecDepth 100000
set_option maxHeartbeats 2000000
/-! enumerate over a text, over a list. -/
namespace NM
open PySem PySem.Spec PyProof.Rows L2
/-- pairs of a count and a sign -/
def ItEs (z : Str) : It := ⟨fun i _ => i < z.cps.size, fun i H v H' => ∃ (T : Addr) (k : Nat), v = .ref T ∧ H T = none ∧ z.cps[i]? = some k ∧ H' = upd H T (.tup [.int (i : Nat), .str ⟨#[k]⟩]), fun i _ => z.cps.size ≤ i⟩
theorem turn_es {P : Program} {w : World} {K : PySem.W.Frag} {elts : List Expr} {kk : Nat} {tpos : Pos} (z : Str) (tz : Tok) (e it : Addr) :
    Turn P w K (.Tuple elts kk tpos) (ItEs z) [e, it] e (fun i h => i ≤ z.cps.size ∧ (∃ old, IsEnum h e it ((i : Nat) : Int) old) ∧ h.IsStrIter it (strIterType z) z tz i ∧ e ≠ it) where
  mem := List.mem_cons_self
  obj := fun i h ⟨_, ⟨old, he⟩, ⟨o, ho, hc, hd⟩, _⟩ b hb => by
    rcases List.mem_cons.mp hb with q | hb
    · exact ⟨_, by rw [q]; exact he, by intro v z; cases z⟩
    · exact ⟨o, by rw [List.mem_singleton.mp hb]; exact ho, fun v q => by rw [hd] at q; cases q⟩
  keep := fun i h h' ⟨a, ⟨old, he⟩, ⟨o, ho, r⟩, n⟩ k => ⟨a, ⟨old, k e (by simp) _ he⟩, ⟨o, k it (by simp) _ ho, r⟩, n⟩
  item := by
    intro X hP hw hK hc i pins s σ H E I hf ⟨_, ⟨old, he⟩, hit, ne⟩ hlt
    subst hP hw hK
    have lt : i < z.cps.size := hlt
    have Dr := PySem.Draws.text (prog := X.prog) (w := X.w) (A := X.A.in1) (I.ok.hd hc) it z tz
    have el : e < s.heap.objs.size := Heap.lt_size he
    have il : it < s.heap.objs.size := by
      obtain ⟨o, q, _⟩ := hit
      exact Heap.lt_size q
    refine wpAny_pyNext_enum_itemC Dr he hit lt ne (by simpa using ne) fun x h' tk px out st' tup sz k => ?_
    obtain ⟨cp, u, c1, rfl⟩ := px
    refine ⟨_, rfl, wpAny_letOwnedTupleGo_enum (s := { s with heap := h', toks := tk + 1 }) out fun h2 en2 sb => ?_⟩
    have t2 : h2.get? s.heap.objs.size = some { cls := .type "tuple", data := .seq #[.int i tk, .str ⟨#[cp]⟩ u] } := (sb.2 _ (Nat.ne_of_gt el)).trans tup
    have new : ObjOk X.prog X.w (upd H s.heap.objs.size (.tup [.int (i : Nat), .str ⟨#[cp]⟩])) h2 s.heap.objs.size (.tup [.int (i : Nat), .str ⟨#[cp]⟩]) :=
      ⟨by show 2 ≤ sizeLine; decide, [.int i tk, .str ⟨#[cp]⟩ u], .cons ⟨_, rfl⟩ (.cons ⟨_, rfl⟩ .nil), ⟨_, t2, rfl, _, rfl⟩⟩
    have J : Inv X pins σ (upd H s.heap.objs.size (.tup [.int (i : Nat), .str ⟨#[cp]⟩])) { s with heap := h2, toks := tk + 1 } :=
      I.turnedNew (ch := [e, it]) (fun b ob hb q => (sb.2 b (fun z => hb (by simp [z]))).trans (k b ob (fun z => hb (by simp [z])) (fun z => hb (by simp [z])) q)) hf (Nat.le_refl _) new
    refine ⟨.ref s.heap.objs.size, _, J, rfl, ⟨_, cp, rfl, I.hok.fresh (Nat.le_refl _), c1, rfl⟩, ⟨lt, ⟨_, by rw [show ((i + 1 : Nat) : Int) = (i : Int) + 1 from by omega]; exact en2⟩, ?_, ne⟩, fun b hb => ?_⟩
    · obtain ⟨o, ho, r⟩ := st'
      exact ⟨o, (sb.2 it (Ne.symm ne)).trans ho, r⟩
    · have lb : b < s.heap.objs.size := by
        rcases List.mem_cons.mp hb with q | hb
        · rw [q]; exact el
        · rw [List.mem_singleton.mp hb]; exact il
      rw [upd_ne (Nat.ne_of_lt lb)]
      exact (hf b hb).1
  done := by
    intro X hP hw hK hc i pins s σ H E I hf ⟨hle, ⟨old, he⟩, hit, ne⟩ hs
    subst hP hw hK
    obtain ⟨f0, f1, f2, f3, f4, f5⟩ := hf it (by simp)
    have ei : i = z.cps.size := Nat.le_antisymm hle hs
    subst ei
    exact wpAny_pyNext_enum_endD (PySem.Draws.text (prog := X.prog) (w := X.w) (A := X.A.in1) (I.ok.hd hc) it z tz) he hit fun h' eb => ⟨rfl, I.turned (t' := s.toks) (fun b o hb q => eb b o hb q) f0 f1 f3 f4 f5⟩
  self := fun A i s Q E ⟨_, ⟨_, he⟩, _⟩ h => wpAny_pyIter_enum he h
section
variable {X : Cx} {c : Cf} {E : XK} {e : Expr} {f : Ex} {p pos tpos : Pos} {elts : List Expr} {kk : Nat}
def iEnumS (ta : TA) : TI := fun σ H R => ta σ H fun vs H1 => ∃ z : Str, vs = [.str z] ∧ R (ItEs z) H1
theorem pi_enumS {ta : TA} (hg : Gl X "enumerate") (hm : X.mg "enumerate" = none) (ha : PA X [e] ta) (hs : starEach [e] X.env = [(false, eval e X.env)] := by rfl) : PI X (.Tuple elts kk tpos) (.Call (.Name "enumerate" p) [e] [] pos) (iEnumS ta) := by
  constructor
  intro pins s σ H R I h
  refine Call_ (ld_blt I hg hm boot_enumerate (PyProof.Rows.callWith_type1 (thn (ha.run pos pins s σ H _ I h) fun us s1 ⟨vs, H1, I1, r1, z, ev, q⟩ => ?_) hs rfl))
  subst ev
  cases r1 with
  | cons r rr =>
    cases rr
    obtain ⟨tz, rfl⟩ := r
    refine call_enumerate_str fun h' he hit hsz hk => wpAny_pyIter_enum he ?_
    have J : Inv X pins σ H1 { s1 with heap := h' } := I1.kept (t' := s1.toks) hk
    refine ⟨s1.heap.objs.size + 1, [s1.heap.objs.size + 1, s1.heap.objs.size], _, _, H1, rfl, J, turn_es z tz (s1.heap.objs.size + 1) s1.heap.objs.size, ⟨Nat.zero_le _, ⟨.none, he⟩, hit, Nat.succ_ne_self _⟩, fun b hb => ?_, q⟩
    have le : s1.heap.objs.size ≤ b := by
      rcases List.mem_cons.mp hb with q | hb
      · rw [q]; exact Nat.le_succ _
      · rw [List.mem_singleton.mp hb]; exact Nat.le_refl _
    exact I1.fpOk le (I1.hok.fresh le)
/-! ### the plain side -/
def numD : Nat → List D → List D
  | _, [] => []
  | i, d :: ds => .tup [.int (i : Nat), d] :: numD (i + 1) ds
theorem numD_len : ∀ (i : Nat) (ds : List D), (numD i ds).length = ds.length
  | _, [] => rfl
  | i, d :: ds => by simp [numD, numD_len (i + 1) ds]
theorem numD_get : ∀ (j : Nat) (ds : List D) (i : Nat) {d : D}, (numD j ds)[i]? = some d → ∃ x, ds[i]? = some x ∧ d = .tup [.int ((j + i : Nat) : Int), x]
  | _, [], _, _, e => by simp [numD] at e
  | j, x :: ds, 0, d, e => by
    simp [numD] at e
    exact ⟨x, by simp, by rw [← e]; simp⟩
  | j, x :: ds, i + 1, d, e => by
    obtain ⟨y, h1, h2⟩ := numD_get (j + 1) ds i (d := d) (by simpa [numD] using e)
    exact ⟨y, by simpa using h1, by rw [h2]; have : j + 1 + i = j + (i + 1) := by omega
                                    rw [this]⟩
/-- enumerate(e) -/
def srcE : D → Store → R Src
  | .tup _, _ => .stuck
  | d, S => srcOf d S
def iEn (a : Ex) : Ix := fun ρ S => (a ρ S).bind fun d S1 => (srcE d S1).bind fun s S2 => .ok ⟨numD 0 s.items, s.ok⟩ S2
theorem walks_es {z : Str} {φ0 : List Addr} {H0 : Hp} : Walks c ⟨numD 0 (chars z), fun _ => True⟩ (ItEs z) φ0 H0 := by
  refine ⟨fun i φ H S x s _ => ⟨fun d hi => ?_, fun hl => by
    have hl : (numD 0 (chars z)).length ≤ i := hl
    rw [numD_len] at hl
    show z.cps.size ≤ i
    simpa [chars] using hl⟩⟩
  obtain ⟨y, h1, rfl⟩ := numD_get 0 (chars z) i hi
  obtain ⟨k, hk, rfl⟩ := chars_get h1
  have hlt : i < z.cps.size := (Array.getElem?_eq_some_iff.mp hk).1
  refine ⟨hlt, fun v H' hy => ?_⟩
  obtain ⟨T, k', rfl, nT, k2, rfl⟩ := hy
  rw [hk] at k2
  cases k2
  obtain ⟨s2, x2, d2⟩ := newT (ds := [.int (i : Nat), .str ⟨#[k]⟩]) s nT (.cons (.int _) (.cons (.str _) .nil))
  exact ⟨x2, s2, by simpa using d2⟩
theorem walks_en {a : Addr} {vs : List V} {ds : List D} {ok : Store → Prop} {φ0 : List Addr} {H0 : Hp} (h : ∀ φ H S, Xt φ0 H0 φ H → SR c H φ S → ok S → ∃ vs, SqL c.K H a vs ∧ Dens c.K H φ ds vs) : Walks c ⟨numD 0 ds, ok⟩ (Ite c.K a) φ0 H0 := by
  refine ⟨fun i φ H S x s o => ?_⟩
  obtain ⟨ws, h3, h4⟩ := h φ H S x s o
  refine ⟨fun d hi => ?_, fun hl => ⟨ws, h3, by
    have hl : (numD 0 ds).length ≤ i := hl
    rw [numD_len, h4.length] at hl
    exact hl⟩⟩
  obtain ⟨y, h1, rfl⟩ := numD_get 0 ds i hi
  obtain ⟨v, hv, dv⟩ := h4.get h1
  refine ⟨⟨ws, v, h3, hv⟩, fun u H' hy => ?_⟩
  obtain ⟨T, x', rfl, nT, rfl, q⟩ := hy
  have q2 := q ws h3
  rw [hv] at q2
  cases q2
  obtain ⟨s2, x2, d2⟩ := newT (ds := [.int (i : Nat), y]) s nT (.cons (.int _) (.cons dv .nil))
  exact ⟨x2, s2, by simpa using d2⟩
theorem si_en (hK : X.K = c.K) (hg : Gl X "enumerate") (hm : X.mg "enumerate" = none) (h : SE X c E e f) (hs : starEach [e] X.env = [(false, eval e X.env)] := by rfl) (hs' : starEach [e] X.env = (false, eval e X.env) :: starEach [] X.env := by rfl) : SI X c E (.Tuple elts kk tpos) (.Call (.Name "enumerate" p) [e] [] pos) (iEn f) := by
  have ha : PA X [e] (tCons (tE c E f) tNil) := pa_cons h pa_nil hs'
  constructor
  intro pins s σ H R I ⟨φ, ρ, S, a, p⟩
  have p : Po c E φ H ((f ρ S).bind fun d S1 => (srcE d S1).bind fun s S2 => .ok ⟨numD 0 s.items, s.ok⟩ S2) (ZI c R) := p
  cases er : f ρ S with
  | stuck => rw [er] at p; exact p.elim
  | exc n xs S1 =>
    refine (pi_enum hg hm ha hs).run pins s σ H R I ⟨φ, ρ, S, a, ?_⟩
    rw [er] at p ⊢
    exact p
  | ok d S1 =>
    rw [er] at p
    have p : Po c E φ H ((srcE d S1).bind fun s S2 => .ok ⟨numD 0 s.items, s.ok⟩ S2) (ZI c R) := p
    cases d with
    | str z =>
      refine (pi_enumS hg hm ha hs).run pins s σ H R I ⟨φ, ρ, S, a, ?_⟩
      rw [er]
      intro φ1 H1 x1 s1 v dv
      cases dv
      exact ⟨z, rfl, p φ1 H1 x1 s1 _ walks_es⟩
    | frl ds =>
      refine (pi_enum hg hm ha hs).run pins s σ H R I ⟨φ, ρ, S, a, ?_⟩
      rw [er]
      intro φ1 H1 x1 s1 v dv
      cases dv with
      | @frl _ q vs hq hd =>
        have k : ∀ φ2 H2, Xt φ1 H1 φ2 H2 → SqL c.K H2 q vs := fun φ2 H2 x2 => hq.elim (fun ⟨o, z⟩ => .inl (.inr ⟨o, x2.frzs _ _ _ z⟩)) fun z => z H2
        refine ⟨q, vs, rfl, by rw [hK]; exact k φ1 H1 (Xt.refl _ _), ?_⟩
        rw [hK]
        exact p φ1 H1 x1 s1 _ (walks_en (vs := vs) fun φ2 H2 S2 x2 _ _ => ⟨vs, k φ2 H2 x2, hd.mono x2.w⟩)
    | ptr n =>
      have p2 : Po c E φ H (((match S1[n]? with | some (.lst ds) => .ok ⟨ds, fun S' => S'[n]? = some (.lst ds)⟩ S1 | _ => .stuck : NM.R Src)).bind fun s S2 => .ok ⟨numD 0 s.items, s.ok⟩ S2) (ZI c R) := p
      split at p2
      · rename_i ds hn
        refine (pi_enum hg hm ha hs).run pins s σ H R I ⟨φ, ρ, S, a, ?_⟩
        rw [er]
        intro φ1 H1 x1 s1 v dv
        cases dv with
        | @ptr _ q hq =>
          obtain ⟨vs, h1, h2⟩ := s1.ob n q _ hq hn
          refine ⟨q, vs, rfl, SqL.of h1, ?_⟩
          rw [hK]
          exact p2 φ1 H1 x1 s1 _ (walks_en (vs := vs) fun φ2 H2 S2 x2 s2 o2 => let ⟨ws, h3, h4⟩ := s2.ob n q _ (x2.sub hq) o2; ⟨ws, SqL.of h3, h4⟩)
      · exact p2.elim
    | tup ds => exact p.elim
    | _ => exact p.elim
end
end NM

set_option linter.all false
set_option maxRecDepth 100000
set_option maxHeartbeats 2000000
/-! Stores at places, dicts read and made, lists added, texts joined, keywords, lambdas as values, fields of errors. -/
namespace NM
open PySem PySem.Spec PyProof.Rows L2 LamX
/-! ### the plain side -/
def sPar2 (i j : Nat) (as : Exs) : Sx := fun ρ S => (as ρ S).bind fun ds S1 => match ds with
  | [a, b] => .ok (.next ((ρ.set i (some a)).set j (some b))) S1
  | _ => .stuck
def sPar3 (i j l : Nat) (as : Exs) : Sx := fun ρ S => (as ρ S).bind fun ds S1 => match ds with
  | [a, b, d] => .ok (.next (((ρ.set i (some a)).set j (some b)).set l (some d))) S1
  | _ => .stuck
def sSetI (o i v : Ex) : Sx := fun ρ S => (v ρ S).bind fun d S1 => (o ρ S1).bind fun x S2 => (i ρ S2).bind fun y S3 => (mSet x y d S3).bind fun _ S4 => .ok (.next ρ) S4
/-- d[k], k there -/
def oKey : D → D → Store → R D
  | .ptr n, k, S => match S[n]? with
    | some (.dic b kvs) => match dkD k with
      | some q => if isT q = b then match dGet kvs q with
        | some d => .ok d S
        | none => .stuck
        else .stuck
      | none => .stuck
    | _ => .stuck
  | _, _, _ => .stuck
/-- k in d -/
def oInD (neg : Bool) : D → D → Store → R D
  | k, .ptr n, S => match S[n]? with
    | some (.dic b kvs) => match dkD k with
      | some q => if isT q = b then .ok (.bl (if neg then !(dGet kvs q).isSome else (dGet kvs q).isSome)) S else .stuck
      | none => .stuck
    | _ => .stuck
  | _, _, _ => .stuck
/-- {k: v, ..} -/
def ePairs : List (Ex × Ex) → Rho → Store → R (List (D × D))
  | [], _, S => .ok [] S
  | (a, b) :: r, ρ, S => (a ρ S).bind fun x S1 => (b ρ S1).bind fun y S2 => (ePairs r ρ S2).bind fun ps S3 => .ok ((x, y) :: ps) S3
def kvsD (ps : List (D × D)) : Option (List (Ky × D)) := mapO (fun p => (kyD p.1).map fun k => (k, p.2)) ps
def mergeD (kvs : List (DK × D)) (more : List (Ky × D)) : List (DK × D) := more.foldl (fun acc kv => dPut acc (.k kv.1) kv.2) kvs
def eDisp (ps : List (Ex × Ex)) : Ex := fun ρ S => (ePairs ps ρ S).bind fun l S1 => match kvsD l with
  | some kvs => .ok (.ptr S1.length) (S1 ++ [.dic false (mergeD [] kvs)])
  | none => .stuck
def eDict0 (b : Bool) : Ex := fun ρ S => .ok (.ptr S.length) (S ++ [.dic b []])
def lCat (a b : Ex) : Exs := fun ρ S => (a ρ S).bind fun x S1 => (b ρ S1).bind fun y S2 => match x, y with
  | .ptr n, .ptr m => match S2[n]?, S2[m]? with
    | some (.lst xs), some (.lst ys) => if xs.length + ys.length ≤ cap then .ok (xs ++ ys) S2 else .stuck
    | _, _ => .stuck
  | _, _ => .stuck
def itemsD : D → Store → Option (List D)
  | .tup ds, _ => some ds
  | .frl ds, _ => some ds
  | .ptr n, S => match S[n]? with
    | some (.lst ds) => some ds
    | _ => none
  | _, _ => none
/-- list(x) -/
def lOf (a : Ex) : Exs := fun ρ S => (a ρ S).bind fun x S1 => match itemsD x S1 with
  | some ds => .ok ds S1
  | none => .stuck
/-- o.join(e) -/
def eJoin (o e : Ex) : Ex := fun ρ S => (o ρ S).bind fun x S1 => match x with
  | .str a => (e ρ S1).bind fun y S2 => match itemsD y S2 with
    | some ds => match strsD ds with
      | some ys => if (ys.map (·.length)).sum + ys.length * a.length ≤ 16777216 then .ok (.str (Txt.join a ys)) S2 else .stuck
      | none => .stuck
    | none => .stuck
  | _ => .stuck
/-- o.index(e), o a text -/
def eSIdx (o e : Ex) : Ex := fun ρ S => (o ρ S).bind fun x S1 => match x with
  | .str a => (e ρ S1).bind fun y S2 => match y with
    | .str b => match Builtin.Str.occurrences a b 0 a.length 1 with
      | i :: _ => .ok (.int (i : Nat)) S2
      | [] => .stuck
    | _ => .stuck
  | _ => .stuck
/-- a call with keywords -/
def eCallK (m : List D → Store → R D) (g : List D → List D → List D) (as ks : Exs) : Ex := fun ρ S => (as ρ S).bind fun ds S1 => (ks ρ S1).bind fun es S2 => m (g ds es) S2
/-- a lambda as a value -/
def eLam : Ex := fun _ S => .ok (.ptr S.length) (S ++ [.fn])
/-- a field of an error -/
def oXf (f : Str) : D → Store → R D
  | .ptr n, S => match S[n]? with
    | some (.exc _ fs) => match fs.lookup f with
      | some d => .ok d S
      | none => .stuck
    | _ => .stuck
  | _, _ => .stuck
section
variable {X : Cx} {c : Cf} {E : XK} {e a b o i : Expr} {es : List Expr} {f g h : Ex} {fs : Exs} {pos : Pos} {H : Hp} {φ : List Addr} {S : Store}
theorem ss_asg {tg : Expr} {gt : Tg} (he : SE X c E e f) (hg : SG X c E tg gt) (hs : swapsWithSole [tg] e pos.line X.env = pure false := by rfl) (hw : swappedStores [tg] e X.env = pure none := by rfl)
    (h1 : (assignEach [tg] X.env).map (·.2) = [assign tg X.env] := by rfl) : SS X c E (.Assign [tg] e pos) (sAsg gt f) := askS (ps_asg he hg hs hw h1) fun D σ H ⟨φ, ρ, S, a, p⟩ =>
  ⟨φ, ρ, S, a, (Po.bind (r := f ρ S) p).imp fun d S1 φ1 H1 _ x1 s1 p1 v dv => ⟨φ1, ρ, S1, d, a.later x1 s1, dv, (Po.bind (r := gt d ρ S1) p1).imp fun ρ1 S2 φ2 H2 _ x2 s2 p2 => Po.now (a := Fl.next ρ1) p2 s2⟩⟩
theorem ss_par2 {st : Stmt} {i j : Nat} (h : PS X st (tPar i j (tA c E fs))) : SS X c E st (sPar2 i j fs) := askS h fun D σ H ⟨φ, ρ, S, a, p⟩ => by
  refine ⟨φ, ρ, S, a, (Po.bind (r := fs ρ S) p).imp fun ds S1 φ1 H1 _ x1 s1 p1 vs dvs => ?_⟩
  match ds, dvs, p1 with
  | [x, y], .cons (v := u) h1 (.cons (v := w) h2 .nil), p1 => exact ⟨u, w, rfl, Po.now p1 s1 _ (((a.l.mono x1.w).set i h1).set j h2)⟩
theorem ss_par3 {st : Stmt} {i j l : Nat} (h : PS X st (tPar3 i j l (tA c E fs))) : SS X c E st (sPar3 i j l fs) := askS h fun D σ H ⟨φ, ρ, S, a, p⟩ => by
  refine ⟨φ, ρ, S, a, (Po.bind (r := fs ρ S) p).imp fun ds S1 φ1 H1 _ x1 s1 p1 vs dvs => ?_⟩
  match ds, dvs, p1 with
  | [x, y, z], .cons (v := u) h1 (.cons (v := w) h2 (.cons (v := q) h3 .nil)), p1 => exact ⟨u, w, q, rfl, Po.now p1 s1 _ ((((a.l.mono x1.w).set i h1).set j h2).set l h3)⟩
/-- o[i] = v -/
theorem ss_sub {st : Stmt} (hp : PS X st (tAsg (tE c E h) (gSub (tE c E f) (tE c E g) rSetA))) : SS X c E st (sSetI f g h) := askS hp fun D σ H ⟨φ, ρ, S, a, p⟩ => by
  refine ⟨φ, ρ, S, a, (Po.bind (r := h ρ S) p).imp fun d S1 φ1 H1 _ x1 s1 p1 v dv => ⟨φ1, ρ, S1, a.later x1 s1, (Po.bind (r := f ρ S1) p1).imp fun x S2 φ2 H2 _ x2 s2 p2 u du => ⟨φ2, ρ, S2, (a.later x1 s1).later x2 s2, (Po.bind (r := g ρ S2) p2).imp fun y S3 φ3 H3 _ x3 s3 p3 w dw => ?_⟩⟩⟩
  have p4 : Po c E φ3 H3 ((mSet x y d S3).bind fun _ S4 => .ok (.next ρ) S4) (ZS c D) := p3
  have l3 := a.l.mono ((x1.trans x2).trans x3).w
  cases q : mSet x y d S3 with
  | stuck => rw [q] at p4; exact p4.elim
  | exc n xs S4 =>
    exfalso
    unfold mSet at q
    (repeat' split at q) <;> cases q
  | ok un S4 =>
    rw [q] at p4
    exact mSet_ok s3 q (du.mono x3.w) dw (dv.mono (x2.trans x3).w) fun H' x4 s4 => p4 φ3 H' x4 s4 σ (l3.mono x4.w)
/-! ### dicts -/
theorem dget_ok (s : SR c H φ S) {n : Nat} {p : Addr} {bb : Bool} {kvs : List (DK × D)} {y : D} {vy : V} {q : DK} (hp : φ[n]? = some p) (hn : S[n]? = some (.dic bb kvs)) (dy : Den c.K H φ y vy) (hk : dkD y = some q) (hb : isT q = bb) :
    (∀ d, dGet kvs q = some d → ∃ v, DGet H p vy (some v) ∧ Den c.K H φ d v) ∧ (dGet kvs q = none → DGet H p vy none) := by
  have z := s.ob n p _ hp hn
  cases q with
  | k k =>
    have e : bb = false := hb.symm
    subst e
    obtain ⟨m, h1, h2⟩ := z
    have hv : vy = kV k := by
      cases dy with
      | int i => have w : some (DK.k (Sum.inl i)) = some (DK.k k) := hk; cases w; rfl
      | str x => have w : some (DK.k (Sum.inr x)) = some (DK.k k) := hk; cases w; rfl
      | @tup ds q ws _ _ =>
        have w : (mapO kyD ds).map DK.t = some (DK.k k) := hk
        cases q : mapO kyD ds with
        | none => rw [q] at w; cases w
        | some r => rw [q] at w; cases w
      | _ => cases hk
    subst hv
    obtain ⟨f1, f2⟩ := DKs.find (k := k) injK h2
    refine ⟨fun d e => ?_, fun e => ?_⟩
    · obtain ⟨v, hv, dv⟩ := f1 d e
      exact ⟨v, by rw [← hv]; exact DGet.k h1, dv⟩
    · rw [← f2 e]
      exact DGet.k h1
  | t ks =>
    have e : bb = true := hb.symm
    subst e
    obtain ⟨m, h1, h2⟩ := z
    obtain ⟨q, hv, hq⟩ : ∃ q, vy = .ref q ∧ H q = some (.tup (ks.map kV)) := by
      cases dy with
      | @tup ds q ws g1 g2 =>
        have w : (mapO kyD ds).map DK.t = some (DK.t ks) := hk
        cases r : mapO kyD ds with
        | none => rw [r] at w; cases w
        | some r' =>
          rw [r] at w
          cases w
          exact ⟨q, rfl, by rw [← keysV g2 r]; exact g1⟩
      | int i => have w : some (DK.k (Sum.inl i)) = some (DK.t ks) := hk; cases w
      | str x => have w : some (DK.k (Sum.inr x)) = some (DK.t ks) := hk; cases w
      | _ => cases hk
    subst hv
    obtain ⟨f1, f2⟩ := DKs.find (k := ks) injT h2
    refine ⟨fun d e => ?_, fun e => ?_⟩
    · obtain ⟨v, hv, dv⟩ := f1 d e
      exact ⟨v, by rw [← hv]; exact DGet.t h1 hq, dv⟩
    · rw [← f2 e]
      exact DGet.t h1 hq
def rIxDk : R2 := fun x y H Q => ∃ a v, x = .ref a ∧ DGet H a y (some v) ∧ Q v H
theorem ix_dk (hu : X.A.units + 1 < cLine) : IxR X rIxDk := by
  intro value slice pins s σ H x y v u Q I rx ry ⟨a, r, ex, g, q⟩ hs
  subst ex
  obtain rfl : v = Value.ref a := rx
  have ty : s.TypeIs (.ref a) "dict" := by
    rcases g with ⟨kvs, k, e, _⟩ | ⟨kvs, k, b, e, _⟩
    · obtain ⟨_, _, vs, _, dd⟩ := dk_rd I.hok e
      exact dd.typeIs
    · obtain ⟨_, _, xs, _, o, es, ep, h1, h2, h3, h4⟩ := dt_rd I.hok e
      exact ⟨o, h1, h2.1⟩
  exact tail_any ty slot_dict_getitem.lookup (d_getItem hu I g ry fun w' s' I' rw' => ⟨r, H, I', rw', q⟩) hs
theorem re_key : Re2 c E oKey rIxDk := by
  intro φ H S x y v w Q s dx dy p
  cases dx with
  | @ptr n q h1 =>
    have p : Po c E φ H (match S[n]? with
      | some (.dic b kvs) => match dkD y with
        | some q => if isT q = b then match dGet kvs q with
          | some d => .ok d S
          | none => .stuck
          else .stuck
        | none => .stuck
      | _ => .stuck) (ZE c Q) := p
    split at p
    · rename_i bb kvs hn
      split at p
      · rename_i k hk
        split at p
        · rename_i hb
          split at p
          · rename_i d hd
            obtain ⟨u, g, du⟩ := (dget_ok s h1 hn dy hk hb).1 d hd
            exact ⟨q, u, rfl, g, Po.now p s _ du⟩
          · exact p.elim
        · exact p.elim
      · exact p.elim
    · exact p.elim
  | _ => exact p.elim
theorem se_key (hu : X.A.units + 1 < cLine) (ha : SE X c E a f) (hb : SE X c E b g) (hs : PlainIx b) : SE X c E (.Subscript a b pos) (e2 oKey f g) := askE (pe_ix (ix_dk hu) ha hb hs) (bin2 re_key)
def rInD (neg : Bool) : R2 := fun x y H Q => ∃ a o, y = .ref a ∧ DGet H a x o ∧ Q (.bl (if neg then !o.isSome else o.isSome)) H
theorem op_inD (hu : X.A.units + 1 < cLine) : OpR X (compareOp .In) (rInD false) := by
  intro pins s σ H x y v u Q I rx ry ⟨a, o, e, g, q⟩
  subst e
  obtain rfl : u = Value.ref a := ry
  exact d_in hu I g rx fun s' I' => ⟨.bl o.isSome, H, I', rfl, q⟩
theorem op_niD (hu : X.A.units + 1 < cLine) : OpR X (compareOp .NotIn) (rInD true) := by
  intro pins s σ H x y v u Q I rx ry ⟨a, o, e, g, q⟩
  subst e
  obtain rfl : u = Value.ref a := ry
  exact d_notIn hu I g rx fun s' I' => ⟨.bl (!o.isSome), H, I', rfl, q⟩
theorem re_inD {neg : Bool} : Re2 c E (oInD neg) (rInD neg) := by
  intro φ H S x y v w Q s dx dy p
  cases dy with
  | @ptr n q h1 =>
    have p : Po c E φ H (match S[n]? with
      | some (.dic b kvs) => match dkD x with
        | some q => if isT q = b then .ok (.bl (if neg then !(dGet kvs q).isSome else (dGet kvs q).isSome)) S else .stuck
        | none => .stuck
      | _ => .stuck) (ZE c Q) := p
    split at p
    · rename_i bb kvs hn
      split at p
      · rename_i k hk
        split at p
        · rename_i hb
          obtain ⟨g1, g2⟩ := dget_ok s h1 hn dx hk hb
          have q2 := Po.now p s
          cases hd : dGet kvs k with
          | none =>
            rw [hd] at q2
            exact ⟨q, none, rfl, g2 hd, q2 _ (.bl _)⟩
          | some d =>
            obtain ⟨u, g, _⟩ := g1 d hd
            rw [hd] at q2
            exact ⟨q, some u, rfl, g, q2 _ (.bl _)⟩
        · exact p.elim
      · exact p.elim
    · exact p.elim
  | _ => exact p.elim
theorem newO {o : O} {u : HO} (s : SR c H φ S) {p : Addr} (hp : H p = none) (hu : ∀ ps, u ≠ .tbl ps) (ho : Xw φ H φ (upd H p u) → ObjR c (upd H p u) φ p o) : SR c (upd H p u) (φ ++ [p]) (S ++ [o]) ∧ Xt φ H (φ ++ [p]) (upd H p u) ∧ Den c.K (upd H p u) (φ ++ [p]) (.ptr S.length) (.ref p) := by
  obtain ⟨s1, x, np⟩ := s.new hp hu
  refine ⟨s1.place np (ho x.w), x.place hp, .ptr ?_⟩
  rw [List.getElem?_append_right (by rw [s.len]; exact Nat.le_refl _), s.len]
  simp
theorem se_dict0K : SE X c E (.Dict [] [] pos) (eDict0 false) := askE pe_dnewK fun σ H Q ⟨φ, ρ, S, a, p⟩ q nq => by
  obtain ⟨s1, x1, d1⟩ := newO (o := .dic false []) (u := .dK []) a.s nq (by intro _ z; cases z) fun _ => ⟨[], upd_same, .nil⟩
  exact (show Po c E φ H (.ok (.ptr S.length) (S ++ [.dic false []])) (ZE c Q) from p) _ _ x1 s1 _ d1
theorem se_dict0T : SE X c E (.Dict [] [] pos) (eDict0 true) := askE pe_dnewT fun σ H Q ⟨φ, ρ, S, a, p⟩ q nq => by
  obtain ⟨s1, x1, d1⟩ := newO (o := .dic true []) (u := .dT []) a.s nq (by intro _ z; cases z) fun _ => ⟨[], upd_same, .nil⟩
  exact (show Po c E φ H (.ok (.ptr S.length) (S ++ [.dic true []])) (ZE c Q) from p) _ _ x1 s1 _ d1
/-! ### lists -/
theorem sl_cat (ha : SE X c E a f) (hb : SE X c E b g) : SL X c E (.BinOp a .Add b pos) (lCat f g) := askE (pe_op op_cat ha hb) fun σ H Q ⟨φ, ρ, S, at_, p⟩ => by
  refine ⟨φ, ρ, S, at_, (Po.bind (r := f ρ S) p).imp fun x S1 φ1 H1 _ x1 s1 p1 v dv => ⟨φ1, ρ, S1, at_.later x1 s1, (Po.bind (r := g ρ S1) p1).imp fun y S2 φ2 H2 _ x2 s2 p2 w dw => ?_⟩⟩
  have dv := dv.mono x2.w
  cases dv with
  | @ptr n q1 h1 => cases dw with
    | @ptr m q2 h2 =>
      have p3 : Po c E φ2 H2 (match S2[n]?, S2[m]? with
        | some (.lst xs), some (.lst ys) => if xs.length + ys.length ≤ cap then .ok (xs ++ ys) S2 else .stuck
        | _, _ => .stuck) (ZL c H Q) := p2
      split at p3
      · rename_i xs ys e1 e2
        split at p3
        · rename_i hl
          obtain ⟨vs, k1, k2⟩ := s2.lsts n xs q1 h1 e1
          obtain ⟨ws, k3, k4⟩ := s2.lsts m ys q2 h2 e2
          refine ⟨q1, q2, vs, ws, rfl, rfl, k1, k3, by rw [← k2.length, ← k4.length, sizeLine_eq]; exact hl, fun q hq => ?_⟩
          obtain ⟨s4, x4, np, d4⟩ := newL s2 hq (k2.append k4)
          exact p3 φ2 _ x4 s4 q _ (x1.live _ (x2.live _ hq)) np upd_same d4
        · exact p3.elim
      · exact p3.elim
    | _ => exact p2.elim
  | _ => cases dw <;> exact p2.elim
theorem items_ok (s : SR c H φ S) {x : D} {v : V} {ds : List D} (dv : Den c.K H φ x v) (e : itemsD x S = some ds) : ∃ p vs, v = .ref p ∧ (SqL c.K H p vs ∨ SqT c.K H p vs) ∧ Dens c.K H φ ds vs := by
  cases dv with
  | @tup d q vs h1 h2 => cases e; exact ⟨q, vs, rfl, .inr (SqT.of h1), h2⟩
  | @frl d q vs h1 h2 => cases e; exact ⟨q, vs, rfl, .inl (h1.elim (fun ⟨o, z⟩ => .inl (.inr ⟨o, z⟩)) (fun z => z H)), h2⟩
  | @ptr n q h1 =>
    have e : (match S[n]? with
      | some (.lst ds) => some ds
      | _ => none) = some ds := e
    split at e
    · rename_i ds' hn
      cases e
      obtain ⟨vs, k1, k2⟩ := s.lsts n ds q h1 hn
      exact ⟨q, vs, rfl, .inl (SqL.of k1), k2⟩
    · cases e
  | _ => cases e
theorem sl_of {x : Str} {p' : Pos} (hK : X.K = c.K) (h : PE X (.Call (.Name x p') [e] [] pos) (tCB (fun xs H Q => ∃ p ys, xs = [.ref p] ∧ (SqL X.K H p ys ∨ SqT X.K H p ys) ∧ ∀ l, H l = none → Q (.ref l) (upd H l (.lst ys))) (tCons (tE c E f) tNil))) : SL X c E (.Call (.Name x p') [e] [] pos) (lOf f) := askE h fun σ H Q ⟨φ, ρ, S, at_, p⟩ => by
  refine ⟨φ, ρ, S, at_, (Po.bind (r := f ρ S) p).imp fun d S1 φ1 H1 _ x1 s1 p1 v dv => ?_⟩
  have p2 : Po c E φ1 H1 (match itemsD d S1 with
    | some ds => .ok ds S1
    | none => .stuck) (ZL c H Q) := p1
  split at p2
  · rename_i ds hd
    obtain ⟨q, vs, rfl, sq, dvs⟩ := items_ok s1 dv hd
    rw [hK]
    refine ⟨q, vs, rfl, sq, fun l hl => ?_⟩
    obtain ⟨s4, x4, np, d4⟩ := newL s1 hl dvs
    exact p2 φ1 _ x4 s4 l _ (x1.live _ hl) np upd_same d4
  · exact p2.elim
theorem se_join {apos : Pos} (hK : X.K = c.K) (ho : SE X c E o f) (he : SE X c E e g) (hs : starEach [e] X.env = [(false, eval e X.env)] := by rfl) (hbase : attributeBase o "join" X.env (eval o X.env) = eval o X.env := by rfl) (hline : (apos.endLine == pos.line) = true := by rfl) :
    SE X c E (.Call (.Attribute o "join" apos) [e] [] pos) (eJoin f g) := askE (pe_join ho he hs hbase hline) fun σ H Q ⟨φ, ρ, S, at_, p⟩ => by
  refine ⟨φ, ρ, S, at_, (Po.bind (r := f ρ S) p).imp fun x S1 φ1 H1 _ x1 s1 p1 v dv => ?_⟩
  cases dv with
  | str a =>
    refine ⟨⟨a, rfl⟩, φ1, ρ, S1, at_.later x1 s1, (Po.bind (r := g ρ S1) p1).imp fun y S2 φ2 H2 _ x2 s2 p2 w dw => ?_⟩
    have p3 : Po c E φ2 H2 (match itemsD y S2 with
      | some ds => match strsD ds with
        | some ys => if (ys.map (·.length)).sum + ys.length * a.length ≤ 16777216 then .ok (.str (Txt.join a ys)) S2 else .stuck
        | none => .stuck
      | none => .stuck) (ZE c Q) := p2
    split at p3
    · rename_i ds hd
      split at p3
      · rename_i ys hy
        split at p3
        · rename_i hl
          obtain ⟨q, vs, rfl, sq, dvs⟩ := items_ok s2 dw hd
          have ev := strs_of dvs hy
          subst ev
          rw [hK]
          exact ⟨a, q, ys, rfl, rfl, sq, hl, Po.now p3 s2 _ (.str _)⟩
        · exact p3.elim
      · exact p3.elim
    · exact p3.elim
  | _ => exact p1.elim
theorem se_sidx {apos : Pos} (ho : SE X c E o f) (he : SE X c E e g) (h : PE X (.Call (.Attribute o "index" apos) [e] [] pos) (tBM X.K "str" (fun x xs H Q => ∃ a b i rest, x = .str a ∧ xs = [.str b] ∧ Builtin.Str.occurrences a b 0 a.length 1 = i :: rest ∧ Q (.int (i : Nat)) H) (tE c E f) (tCons (tE c E g) tNil))) :
    SE X c E (.Call (.Attribute o "index" apos) [e] [] pos) (eSIdx f g) := askE h fun σ H Q ⟨φ, ρ, S, at_, p⟩ => by
  refine ⟨φ, ρ, S, at_, (Po.bind (r := f ρ S) p).imp fun x S1 φ1 H1 _ x1 s1 p1 v dv => ?_⟩
  cases dv with
  | str a =>
    refine ⟨rfl, φ1, ρ, S1, at_.later x1 s1, (Po.bind (r := g ρ S1) p1).imp fun y S2 φ2 H2 _ x2 s2 p2 w dw => ?_⟩
    cases dw with
    | str b =>
      have p3 : Po c E φ2 H2 (match Builtin.Str.occurrences a b 0 a.length 1 with
        | i :: _ => .ok (.int (i : Nat)) S2
        | [] => .stuck) (ZE c Q) := p2
      split at p3
      · rename_i i rest ho
        exact ⟨a, b, i, rest, rfl, rfl, ho, Po.now p3 s2 _ (.int _)⟩
      · exact p3.elim
    | _ => exact p2.elim
  | _ => exact p1.elim
end
end NM

set_option linter.all false
set_option maxRecDepth 100000
set_option maxHeartbeats 2000000
namespace NM
open PySem PySem.Spec PyProof.Rows L2 LamX
section
variable {X : Cx} {c : Cf} {E : XK} {e a b o i : Expr} {es : List Expr} {f g h : Ex} {fs ks : Exs} {pos : Pos} {H : Hp} {φ : List Addr} {S : Store}
/-- an object that nobody holds is replaced -/
theorem swapU {φ2 : List Addr} {H2 : Hp} {S2 : Store} {q : Addr} {u u' : HO} (x : Xt φ H φ2 H2) (nq : H q = none) (s2 : SR c H2 φ2 S2) (np : q ∉ φ2) (hq : H2 q = some u) (h1 : ∀ gs, u ≠ .xd gs) (h2 : ∀ xs, u ≠ .tup xs) (h3 : ∀ o v, u ≠ .frz o v) (h4 : ∀ ps, u ≠ .tbl ps) (h5 : ∀ ψ, u ≠ .ext ψ) :
    SR c (upd H2 q u') φ2 S2 ∧ Xt φ H φ2 (upd H2 q u') ∧ Xw φ2 H2 φ2 (upd H2 q u') := by
  have nx : ∀ {a o}, H2 a = some o → o ≠ u → upd H2 q u' a = some o := fun {a o} e n => by
    rw [upd_ne (fun z => n (by rw [z, hq] at e; exact (Option.some.inj e).symm))]
    exact e
  have w : Xw φ2 H2 φ2 (upd H2 q u') := ⟨fun _ _ h => h, fun a xs e => nx e (Ne.symm (h2 xs)), fun a o v e => nx e (Ne.symm (h3 o v))⟩
  refine ⟨⟨s2.len, s2.nd, fun n a o e1 e2 => ?_, fun p hp => ?_⟩, ⟨x.grow, fun a o e n t => ?_, fun a xs e => nx (x.tups _ _ e) (Ne.symm (h2 xs)), fun a o v e => nx (x.frzs _ _ _ e) (Ne.symm (h3 o v)), fun a e => ?_⟩, w⟩
  · have na : a ≠ q := fun z => np (by rw [← z]; exact List.mem_of_getElem? e1)
    exact (s2.ob n a o e1 e2).mono w (fun v h => by rw [upd_ne na]; exact h) fun d gs e3 e4 => ⟨nx e3 (Ne.symm (h1 gs)), e4⟩
  · obtain ⟨ps, a1, a2, a3⟩ := s2.tb p hp
    exact ⟨ps, nx a1 (Ne.symm (h4 ps)), a2, fun po cv hc => let ⟨c', b1, b2⟩ := a3 po cv hc; ⟨c', b1, nx b2 (Ne.symm (h5 _))⟩⟩
  · have na : a ≠ q := fun z => by rw [z, nq] at e; cases e
    rw [upd_ne na]
    exact x.keep a o e n t
  · by_cases z : a = q
    · rw [z]; exact nq
    · rw [upd_ne z] at e
      exact x.live a e
/-! ### {k: v, ..} -/
theorem Den.keyD {K : PySem.W.Frag} {x : D} {v : V} {k : Ky} (d : Den K H φ x v) (e : kyD x = some k) : v = kV k := keyV d e
abbrev VVD (c : Cf) (H : Hp) (φ : List Addr) : List (D × D) → List (V × V) → Prop := fun l m => Dens c.K H φ (l.map (·.1)) (m.map (·.1)) ∧ Dens c.K H φ (l.map (·.2)) (m.map (·.2)) ∧ l.length = m.length
theorem pairs_ok : ∀ {prs : List (Ex × Ex)} {σ : L2.St} {H : Hp} {φ : List Addr} {ρ : Rho} {S : Store} {Q : List (V × V) → Hp → Prop}, At c σ H φ ρ S →
    (Po c E φ H (ePairs prs ρ S) fun l S' φ' H' => ∀ m, VVD c H' φ' l m → Q m H') → tPairs (prs.map fun p => (tE c E p.1, tE c E p.2)) σ H Q
  | [], σ, H, φ, ρ, S, Q, at_, p => Po.now (a := ([] : List (D × D))) (S := S) p at_.s [] ⟨.nil, .nil, rfl⟩
  | (a, b) :: r, σ, H, φ, ρ, S, Q, at_, p => by
    have p : Po c E φ H ((a ρ S).bind fun x S1 => (b ρ S1).bind fun y S2 => (ePairs r ρ S2).bind fun ps S3 => .ok ((x, y) :: ps) S3) (fun l S' φ' H' => ∀ m, VVD c H' φ' l m → Q m H') := p
    refine ⟨φ, ρ, S, at_, (Po.bind p).imp fun x S1 φ1 H1 _ x1 s1 p1 v dv => ⟨φ1, ρ, S1, at_.later x1 s1, (Po.bind p1).imp fun y S2 φ2 H2 _ x2 s2 p2 w dw => ?_⟩⟩
    refine pairs_ok (prs := r) (φ := φ2) (ρ := ρ) (S := S2) ((at_.later x1 s1).later x2 s2) ((Po.bind p2).imp fun l S3 φ3 H3 _ x3 s3 p3 m hm => ?_)
    refine Po.now p3 s3 ((v, w) :: m) ⟨.cons (dv.mono (x2.trans x3).w) hm.1, .cons (dw.mono x3.w) hm.2.1, by simp [hm.2.2]⟩
theorem kvs_ok : ∀ {l : List (D × D)} {m : List (V × V)} {kvs : List (Ky × D)}, VVD c H φ l m → kvsD l = some kvs → ∃ ws : List (Key × V), m = ws.map (fun kv => (kV kv.1, kv.2)) ∧ ws.length = l.length ∧ ws.map (·.1) = kvs.map (·.1) ∧ Dens c.K H φ (kvs.map (·.2)) (ws.map (·.2))
  | [], [], kvs, _, e => by
    have e : some [] = some kvs := e
    cases e
    exact ⟨[], rfl, rfl, rfl, .nil⟩
  | [], _ :: _, _, h, _ => by cases h.2.2
  | _ :: _, [], _, h, _ => by cases h.2.2
  | (x, y) :: l, (v, w) :: m, kvs, h, e => by
    obtain ⟨h1, h2, h3⟩ := h
    have e : mapO (fun p : D × D => (kyD p.1).map fun k => (k, p.2)) ((x, y) :: l) = some kvs := e
    unfold mapO at e
    cases q1 : kyD x with
    | none => simp [q1] at e
    | some k =>
      cases q2 : kvsD l with
      | none =>
        have q2 : mapO (fun p : D × D => (kyD p.1).map fun k => (k, p.2)) l = none := q2
        rw [q2] at e
        simp [q1] at e
      | some r =>
        have q3 : mapO (fun p : D × D => (kyD p.1).map fun k => (k, p.2)) l = some r := q2
        rw [q3] at e
        simp [q1] at e
        subst e
        cases h1 with
        | cons a1 b1 => cases h2 with
          | cons a2 b2 =>
            obtain ⟨ws, e1, e2, e3, e4⟩ := kvs_ok (l := l) (m := m) ⟨b1, b2, by simpa using h3⟩ q2
            refine ⟨(k, w) :: ws, ?_, by simp [e2], by simp [e3], by simpa using Dens.cons a2 e4⟩
            have hv : v = kV k := keyV (K := c.K) (H := H) (φ := φ) a1 q1
            rw [e1, hv]
            rfl
theorem merge_ok {K : PySem.W.Frag} : ∀ {kvs : List (Ky × D)} {ws : List (Key × V)} {l : List (DK × D)} {m : List (Key × V)}, ws.map (·.1) = kvs.map (·.1) → Dens K H φ (kvs.map (·.2)) (ws.map (·.2)) → DKs DK.k K H φ l m → DKs DK.k K H φ (mergeD l kvs) (mergeK m ws)
  | [], [], _, _, _, _, h => h
  | [], _ :: _, _, _, e, _, _ => by simp at e
  | _ :: _, [], _, _, e, _, _ => by simp at e
  | (k, d) :: kvs, (k', v) :: ws, l, m, e, dd, h => by
    have e1 : k' = k ∧ ws.map (·.1) = kvs.map (·.1) := by simpa using e
    obtain ⟨rfl, e2⟩ := e1
    cases dd with
    | cons a1 b1 => exact merge_ok (kvs := kvs) (ws := ws) e2 b1 (DKs.put injK a1 h)
theorem se_disp {keys : List (Option Expr)} {values : List Expr} {prs : List (Ex × Ex)} (h : PPs X pos keys values (prs.map fun p => (tE c E p.1, tE c E p.2))) (hall : keys.all (·.isSome) = true) (hl : keys.length = values.length) (h0 : keys ≠ []) (h15 : keys.length ≤ 15) (hn : prs.length ≤ 15) :
    SE X c E (.Dict keys values pos) (eDisp prs) := askE (pe_disp h hall hl h0 h15) fun σ H Q ⟨φ, ρ, S, at_, p⟩ q nq => by
  obtain ⟨s1, x1, np⟩ := at_.s.new (o := .dK []) nq (by intro _ z; cases z)
  have len : ∀ {prs : List (Ex × Ex)} {ρ : Rho} {S S' : Store} {l : List (D × D)}, ePairs prs ρ S = .ok l S' → l.length = prs.length := by
    intro prs
    induction prs with
    | nil =>
      intro ρ S S' l e
      cases e
      rfl
    | cons ab r ih =>
      intro ρ S S' l e
      obtain ⟨a, b⟩ := ab
      have e : ((a ρ S).bind fun x S1 => (b ρ S1).bind fun y S2 => (ePairs r ρ S2).bind fun ps S3 => .ok ((x, y) :: ps) S3) = .ok l S' := e
      cases e1 : a ρ S with
      | ok x S1 =>
        rw [e1] at e
        cases e2 : b ρ S1 with
        | ok y S2 =>
          rw [R.bind_ok, e2] at e
          cases e3 : ePairs r ρ S2 with
          | ok ps S3 =>
            rw [R.bind_ok, e3] at e
            cases e
            simp [ih e3]
          | exc n f T => rw [R.bind_ok, e3] at e; cases e
          | stuck => rw [R.bind_ok, e3] at e; cases e
        | exc n f T => rw [R.bind_ok, e2] at e; cases e
        | stuck => rw [R.bind_ok, e2] at e; cases e
      | exc n f T => rw [e1] at e; cases e
      | stuck => rw [e1] at e; cases e
  have p : Po c E φ H ((ePairs prs ρ S).bind fun l S1 => match kvsD l with
    | some kvs => .ok (.ptr S1.length) (S1 ++ [.dic false (mergeD [] kvs)])
    | none => .stuck) (ZE c Q) := p
  refine pairs_ok (at_.later x1 s1) (((Po.later p x1).bind).imp fun l S2 φ2 H2 er x2 s2 p2 m hm => ?_)
  have hq : H2 q = some (.dK []) := x2.keep _ _ upd_same np (by intro _ z; cases z)
  refine ⟨hq, ?_⟩
  split at p2
  · rename_i kvs hk
    obtain ⟨ws, e1, e2, e3, e4⟩ := kvs_ok hm hk
    refine ⟨ws, e1, by rw [e2, len er]; exact hn, ?_⟩
    have x3 := x1.trans x2
    have np2 : q ∉ φ2 := fun hm => by
      obtain ⟨ψ, g1, g2⟩ := x2.grow
      rw [g1] at hm
      rcases List.mem_append.mp hm with z | z
      · exact np z
      · have y := g2 q z
        rw [upd_same] at y
        cases y
    obtain ⟨s4, x4, w4⟩ := swapU (u' := .dK (mergeK [] ws)) x3 nq s2 np2 hq (by intro _ z; cases z) (by intro _ z; cases z) (by intro _ _ z; cases z) (by intro _ z; cases z) (by intro _ z; cases z)
    have s5 := s4.place np2 (o := .dic false (mergeD [] kvs)) ⟨_, upd_same, merge_ok e3 (e4.mono w4) .nil⟩
    rw [er] at p
    have p3 : Po c E φ H (match kvsD l with
      | some kvs => .ok (.ptr S2.length) (S2 ++ [.dic false (mergeD [] kvs)])
      | none => .stuck) (ZE c Q) := p
    rw [hk] at p3
    refine p3 _ _ (x4.place nq) s5 _ (.ptr ?_)
    rw [List.getElem?_append_right (by rw [s2.len]; exact Nat.le_refl _), s2.len]
    simp
  · exact p2.elim
end
end NM

set_option linter.all false
set_option maxRecDepth 100000
set_option maxHeartbeats 2000000
namespace NM
open PySem PySem.Spec PyProof.Rows L2 LamX
/-- a def of the module, called with keywords -/
structure DefK (P : Program) (w : World) (K : PySem.W.Frag) (mg : Str → Option Value) (base : Heap) (c : Cf) (k : Nat) (x : Str) (ps ks : List Str) (g : {α : Type} → List α → List α → List α) (m : List D → Store → R D) : Prop where
  ok : ∃ fd, FnOk P w K mg base (L2.CX P w) k (He.ga K x) fd ps (spM c m) ∧ KBinds K fd ps ks (fun us ws => g us ws) (fun us ws => g us ws)
  gm : mg x = some (.ref (He.ga K x))
  kp : PySem.W.keepIn K (.ref (He.ga K x)) = true
section
variable {X : Cx} {c : Cf} {E : XK} {e a b o i : Expr} {es : List Expr} {f h : Ex} {fs ks : Exs} {pos : Pos} {H : Hp} {φ : List Addr} {S : Store}
abbrev SK (X : Cx) (c : Cf) (E : XK) (kws : List Keyword) (f : Exs) : Prop := PK X kws (tA c E f)
theorem askK {kws : List Keyword} {t t' : TA} (h : PK X kws t) (q : ∀ σ H Q, t' σ H Q → t σ H Q) : PK X kws t' := ⟨fun pos pins s σ H Q I hw => h.run pos pins s σ H Q I (q _ _ _ hw)⟩
theorem sk_nil : SK X c E [] eNil := askK pk_nil fun σ H Q ⟨φ, ρ, S, a, p⟩ => Po.now (a := []) p a.s [] .nil
theorem sk_cons {kws : List Keyword} {nm : Option Str} {kpos : Pos} (ha : SE X c E e f) (hr : SK X c E kws fs) : SK X c E (⟨nm, e, kpos⟩ :: kws) (eCons f fs) := askK (pk_cons ha hr) fun σ H Q ⟨φ, ρ, S, a, p⟩ =>
  ⟨φ, ρ, S, a, (Po.bind (r := f ρ S) p).imp fun x S1 φ1 H1 _ x1 s1 p1 v dv => ⟨φ1, ρ, S1, a.later x1 s1, (Po.bind (r := fs ρ S1) p1).imp fun xs S2 φ2 H2 _ x2 s2 p2 vs dvs => Po.now (a := x :: xs) p2 s2 (v :: vs) (.cons (dv.mono x2.w) dvs)⟩⟩
/-- g keeps what stands for what -/
def KeepsG (g : {α : Type} → List α → List α → List α) : Prop := ∀ {K : PySem.W.Frag} {H : Hp} {φ : List Addr} {ds es : List D} {vs ws : List V}, Dens K H φ ds vs → Dens K H φ es ws → Dens K H φ (g ds es) (g vs ws)
/-- f(k = v, ..) -/
theorem se_callK0 {k : Nat} {x : Str} {ps kn : List Str} {g : {α : Type} → List α → List α → List α} {m : List D → Store → R D} {kws : List Keyword} {p' : Pos} (G : DefK X.prog X.w X.K X.mg X.base c k x ps kn g m) (kg : KeepsG g) (hr : Room k X.A) (tk : Takes X (wE E)) (hg : Gl X x) (hk : SK X c E kws ks)
    (hall : (backToKw pos (keywordEach kws X.env)).all (·.1.isSome) = true := by rfl) (hks : (backToKw pos (keywordEach kws X.env)).filterMap (·.1) = kn := by rfl) (hdb : (x == ("__debug__" : Str)) = false := by decide)
    (hpl : ((backTo pos (starEach [] X.env)).any (·.1) || (backToKw pos (keywordEach kws X.env)).any (·.1.isNone)) = false := by rfl) : SE X c E (.Call (.Name x p') [] kws pos) (eCallK m (fun a b => g a b) eNil ks) := by
  obtain ⟨fd, F, hb⟩ := G.ok
  constructor
  intro pins s σ H Q I ⟨φ, ρ, S, at_, po⟩
  have po : Po c E φ H ((ks ρ S).bind fun es S2 => m (g [] es) S2) (ZE c Q) := po
  have rd : tA c E ks σ H fun zs H2 => spM c m (g [] zs) H2 Q E := ⟨φ, ρ, S, at_, (Po.bind po).imp fun es S1 φ1 H1 _ x1 s1 p1 vs dvs => ⟨φ1, g [] es, S1, s1, kg .nil dvs, p1⟩⟩
  refine wpAny_Call_Name_kw (ld_glob I hg G.gm ?_ hdb)
  refine PySem.W.callWith_KW0 (h₀ := X.base) I.ok.mod.kin G.kp hall ?_ hpl
  refine thn (hk.run pos pins s σ H _ I rd) fun ws s2 ⟨zs, H2, I2, rz, q2⟩ => ⟨I2.kIn, ?_⟩
  rw [hks]
  exact run_fnk F hr hb (passes_call (W := wE E) tk fun _ _ _ _ z => z) I2 .nil rz q2
/-- f(e, .., k = v, ..) -/
theorem se_callK {k : Nat} {x : Str} {ps kn : List Str} {g : {α : Type} → List α → List α → List α} {m : List D → Store → R D} {kws : List Keyword} {p' : Pos} (G : DefK X.prog X.w X.K X.mg X.base c k x ps kn g m) (kg : KeepsG g) (hr : Room k X.A) (tk : Takes X (wE E)) (hg : Gl X x) (ha : SA X c E (e :: es) fs) (hk : SK X c E kws ks)
    (hall : (backToKw pos (keywordEach kws X.env)).all (·.1.isSome) = true := by rfl) (hks : (backToKw pos (keywordEach kws X.env)).filterMap (·.1) = kn := by rfl) (hdb : (x == ("__debug__" : Str)) = false := by decide) (he : starEach (e :: es) X.env = (false, eval e X.env) :: starEach es X.env := by rfl)
    (hpl : ((backTo pos (starEach (e :: es) X.env)).any (·.1) || (backToKw pos (keywordEach kws X.env)).any (·.1.isNone)) = false := by rfl) : SE X c E (.Call (.Name x p') (e :: es) kws pos) (eCallK m (fun a b => g a b) fs ks) := by
  obtain ⟨fd, F, hb⟩ := G.ok
  exact askE (pe_callK F hr hg G.gm G.kp hb (passes_call (W := wE E) tk fun _ _ _ _ z => z) ha hk hall hks hdb he hpl) fun σ H Q ⟨φ, ρ, S, at_, p⟩ =>
    ⟨φ, ρ, S, at_, (Po.bind (r := fs ρ S) p).imp fun ds S1 φ1 H1 _ x1 s1 p1 vs dvs => ⟨φ1, ρ, S1, at_.later x1 s1, (Po.bind (r := ks ρ S1) p1).imp fun es S2 φ2 H2 _ x2 s2 p2 ws dws => ⟨φ2, g ds es, S2, s2, kg (dvs.mono x2.w) dws, p2⟩⟩⟩
/-! ### a lambda as a value -/
def FnP (a : Addr) (h : Heap) : Prop := ∃ (oe : Obj) (fd : FuncData), h.get? a = some oe ∧ oe.cls = .type "function" ∧ oe.data = .func fd
theorem se_lam {cd P : Addr} {params : Arguments} {bd : Expr} {scope : Scope} {lpos : Pos} {pa : List Str} (TB : TabB X.base X.mg cd P) (kc : X.env.code = .ref cd) (kT : (P, lamQ X) ∈ c.T) (ku : ∀ p ∈ c.T, p.1 = P → p.2 = lamQ X) (L : LamN X.N X.env.scope scope) (La : Lays X params bd scope lpos pa) :
    SE X c E (.Lambda params bd scope lpos) eLam := by
  constructor
  intro pins s σ H Q I ⟨φ, ρ, S, at_, po⟩
  refine La pins s σ H _ _ I fun dV H0 s0 I0 e0 ld => lam_mk I0 TB kc kT ku ?tabs (L.has I.ok) fun f c' pm' ctv H1 s' I1 eH xN T1 hf hfn big hfr hco => ?_
  case tabs =>
    rcases e0 with e | ⟨T, xs, nT, e⟩
    · rw [e]; exact at_.s.tb
    · rw [e]; exact (at_.s.new nT (by intro _ z; cases z)).1.tb
  have a0 : SR c H0 φ S ∧ Xt φ H φ H0 := by
    rcases e0 with e | ⟨T, xs, nT, e⟩
    · rw [e]; exact ⟨at_.s, Xt.refl φ H⟩
    · rw [e]; exact ⟨(at_.s.new nT (by intro _ z; cases z)).1, (at_.s.new nT (by intro _ z; cases z)).2.1⟩
  have a1 := a0.1.tab xN T1 (fun a n => by
    obtain ⟨tb, z⟩ := eH
    rcases z with ⟨e, n0⟩ | e
    · rw [e] at n
      by_cases h1 : a = c'
      · rw [h1]; exact n0
      · rw [upd_ne h1] at n
        by_cases h2 : a = P
        · rw [h2, upd_same] at n; cases n
        · rw [upd_ne h2] at n; exact n
    · rw [e] at n; exact n)
  have ok : ∀ H', ObjOk X.prog X.w H' s'.heap f (.ext (FnP f)) := fun H' => ⟨⟨_, _, hf, rfl, rfl⟩, ⟨_, hf⟩, fun h1 h2 ⟨oe, fd, q1, q2⟩ k => ⟨oe, fd, k _ q1, q2⟩⟩
  have n0 : X.s_0.heap.get? f = none := by
    cases z : X.s_0.heap.get? f with
    | none => rfl
    | some o => exact absurd (Nat.lt_of_lt_of_le (Heap.lt_size z) (Nat.le_trans I0.sz big)) (Nat.lt_irrefl _)
  have nL : f ≠ X.env.locals := Nat.ne_of_gt (Nat.lt_of_lt_of_le I0.lt big)
  have np : ∀ p ∈ X.pn ++ pins, p.1 ≠ f := fun p hp => Nat.ne_of_lt (Nat.lt_of_lt_of_le (Heap.lt_size (I0.pin p hp).1) big)
  have J := trackG I1 hfn ok (fun o ho v hv => by rw [hf] at ho; cases ho; cases hv) n0 nL np
  obtain ⟨s4, x4, d4⟩ := newO (o := .fn) (u := .ext (FnP f)) a1.1 hfn (by intro _ z; cases z) fun _ => ⟨FnP f, upd_same, fun h ⟨oe, fd, q1, q2, q3⟩ => ⟨oe, fd, q1, q2, q3⟩⟩
  exact ⟨.ref f, _, J, rfl, (show Po c E φ H (.ok (.ptr S.length) (S ++ [.fn])) (ZE c Q) from po) _ _ ((a0.2.trans a1.2).trans x4) s4 _ d4⟩
/-! ### a field of an error -/
/-- what the reading of errors' fields leans on -/
structure FX (c : Cf) (f : Str) : Prop where
  ok : ∀ x ∈ c.V, XfC c.K (He.ga c.K x) ∧ PySem.W.findIn c.K (.ref (He.ga c.K x)) f = some none
theorem dfs_get {K : PySem.W.Frag} {f : Str} : ∀ {fs : List (Str × D)} {gs : List (Str × V)} {d : D}, DFs K H φ fs gs → fs.lookup f = some d → ∃ v, gs.lookup f = some v ∧ Den K H φ d v
  | [], _, _, _, e => by cases e
  | _ :: _, [], _, ⟨h, _⟩, _ => by simp at h
  | (x, d') :: fs, (y, v) :: gs, d, ⟨h1, h2⟩, e => by
    have h3 : x = y ∧ fs.map (·.1) = gs.map (·.1) := by simpa using h1
    obtain ⟨rfl, h4⟩ := h3
    cases h2 with
    | cons a b =>
      by_cases q : f = x
      · subst q
        simp [List.lookup] at e
        subst e
        exact ⟨v, by simp [List.lookup], a⟩
      · have n : (f == x) = false := by simpa using q
        simp [List.lookup, n] at e ⊢
        exact dfs_get ⟨h4, b⟩ e
theorem se_xf {n : Str} (hK : X.K = c.K) (F : FX c n) (he : SE X c E e f) (hb : attributeBase e n X.env (eval e X.env) = eval e X.env := by rfl) : SE X c E (.Attribute e n pos) (e1 (oXf n) f) := by
  constructor
  intro pins s σ H Q I ⟨φ, ρ, S, at_, po⟩
  refine attr_of hb (thn (he.run pins s σ H (fun v H1 => ∃ d S1 φ1, SR c H1 φ1 S1 ∧ Den c.K H1 φ1 d v ∧ Po c E φ1 H1 (oXf n d S1) (ZE c Q)) I ⟨φ, ρ, S, at_, (Po.bind (r := f ρ S) po).imp fun d S1 φ1 H1 _ x1 s1 p1 v dv => ⟨d, S1, φ1, s1, dv, p1⟩⟩) fun u s1 ⟨v, H1, I1, rv, d, S1, φ1, sr, dv, p1⟩ => ?_)
  cases dv with
  | @ptr m q h1 =>
    have p2 : Po c E φ1 H1 (match S1[m]? with
      | some (.exc _ fs) => match fs.lookup n with
        | some d => .ok d S1
        | none => .stuck
      | _ => .stuck) (ZE c Q) := p1
    split at p2
    · rename_i x fs hn
      split at p2
      · rename_i d hd
        obtain ⟨dx, gs, φo, q1, q2, q3, q4, q5, q6⟩ := sr.ob m q _ h1 hn
        cases (show u = Value.ref q from rv)
        obtain ⟨hφ, _, _⟩ := (show ObjOk X.prog X.w H1 s1.heap q (.ext φo) from I1.hok q _ q1)
        obtain ⟨oe, vs, e1, e2, e3, e4⟩ := q5 s1.heap hφ
        obtain ⟨mA, ns, rl⟩ := (show ObjOk X.prog X.w H1 s1.heap dx (.xd gs) from I1.hok dx _ q2)
        obtain ⟨od, ho, hl⟩ := lookIn_ns ns
        obtain ⟨w, hw, dw⟩ := dfs_get q4 hd
        obtain ⟨u2, hu, ru⟩ := RelO.some_of (v := w) (o := mA n) (by rw [← hw]; exact rl n)
        obtain ⟨T, hno⟩ := F.ok x q6
        rw [← hK] at T hno e2
        have J : PySem.W.InstAt s1.heap q oe (He.ga X.K x) (some od) := ⟨e1, e2, by unfold PySem.W.notCls; rw [e4], by rw [e3]; exact ho⟩
        exact HandSPX.exc_get I1.kIn J T.ga T.gg T.exC (PySem.W.findObj_own T.hdC hno rfl (by rw [hl, hu])) (handed_of ru) ⟨w, H1, I1.tok _, ru, Po.now p2 sr _ dw⟩
      · exact p2.elim
    · exact p2.elim
  | _ => exact p1.elim
end
end NM

set_option linter.all false
set_option maxRecDepth 100000
set_option maxHeartbeats 2000000
/-! Defs whose code object is known (they make lambdas). -/
namespace NM
open PySem PySem.Spec PyProof.Rows L2 LamX
section
variable {P : Program} {w : World} {K : PySem.W.Frag} {mg : Str → Option Value} {base : Heap} {c : Cf}
abbrev lamOf (qual : Str) : Str := (qual ++ (".<locals>." : Str)) ++ ("<lambda>" : Str)
/-- a def that makes lambdas: its code object and its table -/
structure LamF (base : Heap) (mg : Str → Option Value) (c : Cf) (qual : Str) (fd : FuncData) (cd P : Addr) : Prop where
  code : fd.code = .ref cd
  tb : TabB base mg cd P
  mem : (P, lamOf qual) ∈ c.T
  one : ∀ p ∈ c.T, p.1 = P → p.2 = lamOf qual
theorem fn_okL {x qual : Str} {params : Arguments} {bd : List Stmt} {scope : Scope} {dvs : List V} {kws : List (Str × V)} {f : Addr} {fd : FuncData} {N ps : List Str} {k : Nat} {s : Sx} (hK : c.K = K) (F : FunD K x qual params bd scope dvs kws f fd) (Sc : FnScope N ps scope)
    (hb : ∀ (A : Around) (outer : List Env) (sh : Shared) (H : Hp) (E : XK), Room k (A.deeper (envOfC qual scope sh.heap.objs.size f fd.code)) → SB (cxOf (L2.CX P w) P w K mg base N qual scope f fd.code A outer sh H E) c E bd s) :
    FnOk P w K mg base (L2.CX P w) (k + 1) f fd ps (spM c (body ps.length N.length s)) := by
  obtain ⟨oc, od, dV, kV, doc, pm, an, cdv, ct, osl, rfl, lk, hcd, _, _⟩ := F.ex
  refine fn_of lk hcd Sc (fun vs H Q E h => ?_) (fun A outer sh H vs Q E hr h => ⟨tS c E s, hb A outer sh H E hr, ?_⟩)
  · obtain ⟨φ, ds, S, _, dv, p⟩ := h
    rw [← dv.length]
    by_cases q : ds.length = ps.length
    · exact q
    · unfold body at p
      rw [if_pos q] at p
      exact p.elim
  · obtain ⟨φ, ds, S, sr, dv, p⟩ := h
    unfold body at p
    split at p
    · exact p.elim
    · refine ⟨φ, _, S, ⟨sr, by rw [hK] at dv ⊢; exact start_lr N dv⟩, (Po.bind (r := s _ S) p).imp fun fl S1 φ1 H1 _ x1 s1 p1 => ?_⟩
      cases fl with
      | next ρ => exact fun σ' _ => Po.now (a := NM.D.non) (E := E) p1 s1 _ .non
      | ret d => exact Po.now (a := d) (E := E) p1 s1
      | brk ρ => exact p1.elim
      | cont ρ => exact p1.elim
theorem CatD.mono {x : Str} {j k : Nat} {pg : Arguments} {bg : List Stmt} {sg : Scope} {vs : List Str} {rest : Sx} (d : CatD K mg base P w c x j pg bg sg vs rest) (h : j ≤ k) : CatD K mg base P w c x k pg bg sg vs rest :=
  ⟨d.fd, d.gm, d.kp, d.sc, d.l0, d.l1, d.l2, d.l3, d.gt, d.mt, d.ex, let ⟨s1, sf, b0, rs, p1, p2, q1, q2, q3, q4, q5, e, a1, a2, a3, a4⟩ := d.bd; ⟨s1, sf, b0, rs, p1, p2, q1, q2, q3, q4, q5, e, a1, a2, fun cdg A outer s H hr => a3 cdg A outer s H (hr.mono h), a4⟩⟩
/-- no statement is come to here -/
theorem ss_stuck {X : Cx} {E : XK} {st : Stmt} : SS X c E st (fun _ _ => .stuck) := ⟨fun _ _ _ _ _ _ ⟨_, _, _, _, p⟩ => (show False from p).elim⟩
end
end NM
namespace L2
theorem Room.u1 {k : Nat} {A : PySem.Around} (r : Room k A) : A.units + 1 < PySem.cLine := by have := r.un; omega
end L2

set_option linter.all false
set_option maxRecDepth 100000
set_option maxHeartbeats 2000000
/-! The head: what is read off the machine behind the top. -/
namespace NM
open PySem PySem.Spec PyProof.Rows L2 LamX He
/-- a class's body, its statements -/
def clsBody : Stmt → List Stmt
  | .ClassDef _ _ _ b _ _ _ _ _ _ _ => b
  | _ => []
/-- its i-th statement -/
def inSt (s : Stmt) (i : Nat) : Stmt := (clsBody s).getD i (.Pass ⟨0, 0, 0, 0⟩)
abbrev InW : Type := Option (Str × Str × Arguments × FuncBody × Scope × Addr × List Str × Addr)
def iniA (K : PySem.W.Frag) (x : Str) : Addr := ma K (ga K x) "__init__"
def iniW (K : PySem.W.Frag) (x : Str) : InW := match K.lookup (iniA K x) with
  | some ⟨_, _, .func fd, _⟩ => some (fd.name, fd.qualname, fd.params, fd.body, fd.scope, fd.globals, fd.closure.map (·.1), fd.builtins)
  | _ => none
/-- such an __init__: the class's name, the def -/
structure IniD where
  x : Str
  ps : List Str
  st : Stmt
def IniD.val (d : IniD) : InW := some ("__init__", d.x ++ (".__init__" : Str), defArgs d.st, .stmts (defBody d.st), defScope d.st, mainGlobals, ["__class__"], builtinsNs)
/-- all else of it -/
def iniB (K : PySem.W.Frag) (main : Str) (d : IniD) : Bool := eqO (PySem.W.findIn K (.ref (ga K d.x)) "__init__") (some (some (.ref (iniA K d.x)))) && (decide (PySem.W.typeIn K (.ref (iniA K d.x)) = some (.type "function")) && (match K.lookup (iniA K d.x) with
  | some ⟨_, _, .func fd, _⟩ => PySem.W.codeIn K fd.code (d.x ++ (".__init__" : Str)) && ((match fd.defaults with
      | .none => true
      | _ => false) && ((match fd.code with
      | .ref cda => (match K.lookup cda with
        | some ⟨_, _, .fields vs, _⟩ => (match vs[2]? with
          | some (Value.str file _) => (main == file)
          | _ => false)
        | _ => false)
      | _ => false) && (match fd.closure with
      | [(_, cc)] => (match K.lookup cc with
        | some ⟨_, _, .cell (some (.ref D)), _⟩ => decide (D = ga K d.x)
        | _ => false)
      | _ => false)))
  | _ => false))
def clsB (K : PySem.W.Frag) (x : Str) : Bool := decide (PySem.W.mroIn K (ga K x) (.ref (ga K x)) = some true) && (eqO (PySem.W.nsIn K mainGlobals "super") (some none) && (eqO (PySem.W.nsIn K cStatics "thirdparty.any") (some none) && (eqO (PySem.W.ks_superIn K (ga K x) (ga K x) "__init__") (some (some (.builtin "ValueError.__init__"))) &&
  (decide (PySem.W.subIn K (.ref (ga K x)) (.type "ValueError") = some true) && (PySem.W.excInitIn K (ga K x) PySem.HandSPX.veTail "ValueError.__new__")))))
def oexB (K : PySem.W.Frag) (C : Addr) : Bool := (match K.lookup C with
  | some ⟨.type c, _, .cls cd, sl⟩ => decide (c = "type") && (match cd.mro, sl.toList with
    | .ref C' :: bm, [_, _, _, _, some (.builtin n), _] => decide (C' = C) && (decide (n = "ValueError.__new__") && (cd.hasDict && (!cd.hasDel && PySem.HandSPX.refsVE bm)))
    | _, _ => false)
  | _ => false) && (eqO (PySem.W.findIn K (.ref C) "__setattr__") (some (some (.builtin "object.__setattr__"))) && (decide (PySem.W.subIn K (.ref C) (.type "BaseException") = some true) && (decide (PySem.W.typeIn K (.ref C) = some (.type "type")) && PySem.W.keepIn K (.ref C))))
theorem oexB_ok {K : PySem.W.Frag} {C : Addr} (h : oexB K C = true) : OexC K C := by
  unfold oexB at h
  obtain ⟨h0, h⟩ := ba h
  obtain ⟨h1, h⟩ := ba h
  obtain ⟨h2, h⟩ := ba h
  obtain ⟨h3, h4⟩ := ba h
  refine ⟨?_, eqO_ok h1, of_decide_eq_true h2, of_decide_eq_true h3, h4⟩
  split at h0
  · rename_i c dd cd sl lk
    obtain ⟨e0, h0⟩ := ba h0
    have e0 := of_decide_eq_true e0
    subst e0
    split at h0
    · rename_i C' bm k0 k1 k2 k3 n k5 hm hs
      obtain ⟨_, h0⟩ := ba h0
      obtain ⟨e1, h0⟩ := ba h0
      obtain ⟨e2, h0⟩ := ba h0
      obtain ⟨e3, h0⟩ := ba h0
      obtain ⟨e4, e5⟩ := ba h0
      have e1 := of_decide_eq_true e1
      have e2 := of_decide_eq_true e2
      subst e1 e2
      obtain ⟨a1, a2, a3, a4, a5, a6, a7, a8, a9, a10, a11⟩ := cd
      dsimp only at hm e3 e4
      have e4 : a11 = false := by simpa using e4
      subst hm e3 e4
      have es : sl = #[k0, k1, k2, k3, some (.builtin "ValueError.__new__"), k5] := by
        have := congrArg List.toArray hs
        simpa using this
      subst es
      exact ⟨_, _, _, _, bm, _, _, _, _, _, k0, k1, k2, k3, k5, lk, e5⟩
    · cases h0
  · cases h0
/-- the __init__ of a class, its data known -/
theorem ini_of {P : Program} {K : PySem.W.Frag} {main : Str} {d : IniD} (hm : (P.main.file : Str) = main) (e : iniW K d.x = d.val) (h : iniB K main d = true) (hc : clsB K d.x = true) (top : (P.main.scope.names.lookup ("super" : Str)).isSome = false) :
    PySem.W.findIn K (.ref (ga K d.x)) "__init__" = some (some (.ref (iniA K d.x))) ∧ PySem.W.typeIn K (.ref (iniA K d.x)) = some (.type "function") ∧ ∃ (cda cc : Addr) (dV kV doc pm ct : Value) (an : Option Addr), dV = .none ∧ IniK P K (ga K d.x) (iniA K d.x) cda cc (d.x ++ (".__init__" : Str)) (defArgs d.st) (defBody d.st) (defScope d.st) dV kV doc pm ct an := by
  unfold iniB at h
  obtain ⟨h1, h⟩ := ba h
  obtain ⟨h2, h⟩ := ba h
  refine ⟨eqO_ok h1, of_decide_eq_true h2, ?_⟩
  unfold clsB at hc
  obtain ⟨c1, hc⟩ := ba hc
  obtain ⟨c2, hc⟩ := ba hc
  obtain ⟨c3, hc⟩ := ba hc
  obtain ⟨c4, hc⟩ := ba hc
  obtain ⟨c5, c6⟩ := ba hc
  unfold iniW at e
  split at h
  · rename_i oc od fd osl lk
    rw [lk] at e
    obtain ⟨k1, h⟩ := ba h
    obtain ⟨k0, h⟩ := ba h
    obtain ⟨k2, k3⟩ := ba h
    obtain ⟨n1, n2, n3, n4, n5, n6, n7, n8, n9, n10, n11, n12, n13, n14, n15⟩ := fd
    have e2 : (some (n1, n2, n3, n4, n5, n6, n7.map (·.1), n15) : InW) = some (("__init__" : Str), d.x ++ (".__init__" : Str), defArgs d.st, FuncBody.stmts (defBody d.st), defScope d.st, mainGlobals, [("__class__" : Str)], builtinsNs) := e
    simp only [Option.some.injEq, Prod.mk.injEq] at e2
    obtain ⟨g1, g2, g3, g4, g5, g6, g7, g8⟩ := e2
    subst g1 g2 g3 g4 g5 g6 g8
    dsimp only at k0 k1 k2 k3
    have d0 : n8 = .none := by cases n8 <;> first | rfl | cases k0
    cases n13 with
    | ref cda =>
      dsimp only at k2
      rcases n7 with _ | ⟨⟨nm, cc⟩, _ | ⟨q, r⟩⟩
      · cases k3
      · dsimp only at k3
        have gn : nm = ("__class__" : Str) := by simpa using g7
        subst gn
        refine ⟨cda, cc, n8, n9, n10, n11, n14, n12, d0, ⟨⟨oc, od, osl, lk⟩, k1, ?_, ?_, of_decide_eq_true c1, eqO_ok c2, eqO_ok c3, eqO_ok c4, of_decide_eq_true c5, c6, top⟩⟩
        · split at k2
          · rename_i a1 a2 vs a4 lk2
            split at k2
            · rename_i file tf e5
              exact ⟨_, _, vs, _, file, tf, lk2, e5, by rw [hm]; exact k2⟩
            · cases k2
          · cases k2
        · split at k3
          · rename_i a1 a2 D a4 lk3
            have e6 := of_decide_eq_true k3
            subst e6
            exact ⟨_, _, _, lk3⟩
          · cases k3
      · cases k3
    | _ => cases k2
  · cases h
/-! ### the Hook -/
def asN (g : Addr → Option Obj) (n : Nat) : List Addr := cStatics :: asD g n
abbrev AlN : Type := (AlD × Bool) × List InW
def obsNK (fa : List Fa) (fn : List DefD) (tf : List Defn) (ex : PySem.W.Frag → Bool) (is : List IniD) (g : Addr → Option Obj) (K : PySem.W.Frag) : AlN := ((obsD fa fn K, ex K && tabsB g tf K), is.map fun d => iniW K d.x)
def obsN (n : Nat) (fa : List Fa) (fn : List DefD) (tf : List Defn) (ex : PySem.W.Frag → Bool) (is : List IniD) (g : Addr → Option Obj) : AlN := obsNK fa fn tf ex is g (frT g (asN g n))
def valN (fn : List DefD) (is : List IniD) : AlN := ((valD fn, true), is.map IniD.val)
structure SaysN (fa : List Fa) (fn : List DefD) (tf : List Defn) (ex : PySem.W.Frag → Bool) (is : List IniD) (h : Heap) (K : PySem.W.Frag) : Prop where
  d : SaysD fa fn K
  more : ex K = true
  hd : ∀ p ∈ tf, PySem.W.codeHdIn K (cT K p).1 (cT K p).2 = true
  out : ∀ p ∈ tf, K.lookup (cT K p).2 = none
  empty : ∀ p ∈ tf, h.get? (cT K p).2 = some { cls := .none, data := .fields #[] }
  ini : ∀ d ∈ is, iniW K d.x = d.val
theorem saysN_of {n : Nat} {fa : List Fa} {fn : List DefD} {tf : List Defn} {ex : PySem.W.Frag → Bool} {is : List IniD} {h : Heap} (e : obsN n fa fn tf ex is h.get? = valN fn is) : SaysN fa fn tf ex is h (frT h.get? (asN h.get? n)) := by
  have e1 : obsD fa fn (frT h.get? (asN h.get? n)) = valD fn := congrArg (fun z : AlN => z.1.1) e
  have e2 : (ex (frT h.get? (asN h.get? n)) && tabsB h.get? tf (frT h.get? (asN h.get? n))) = true := congrArg (fun z : AlN => z.1.2) e
  have e3 : is.map (fun d => iniW (frT h.get? (asN h.get? n)) d.x) = is.map IniD.val := congrArg (fun z : AlN => z.2) e
  obtain ⟨h1, h2⟩ := ba e2
  have key : ∀ p ∈ tf, PySem.W.codeHdIn (frT h.get? (asN h.get? n)) (cT (frT h.get? (asN h.get? n)) p).1 (cT (frT h.get? (asN h.get? n)) p).2 = true ∧ ∃ o, h.get? (cT (frT h.get? (asN h.get? n)) p).2 = some o ∧ emptyTab o = true := fun p hp => by
    obtain ⟨h3, h4⟩ := ba (List.all_eq_true.mp h2 p hp)
    refine ⟨h3, ?_⟩
    cases q : h.get? (cT (frT h.get? (asN h.get? n)) p).2 with
    | none => rw [q] at h4; cases h4
    | some o => rw [q] at h4; exact ⟨o, rfl, h4⟩
  refine ⟨e1, h1, fun p hp => (key p hp).1, fun p hp => let ⟨_, o, q, z⟩ := key p hp; frT_none q z, fun p hp => ?_, fun d hd => ?_⟩
  · obtain ⟨_, o, q, z⟩ := key p hp
    rw [q, emptyTab_eq z]
  · exact (List.map_inj_left.mp e3) d hd
def hookN (n : Nat) (fa : List Fa) (fn : List DefD) (tf : List Defn) (ex : PySem.W.Frag → Bool) (is : List IniD) : PySem.W.Hook where
  α := AlN
  obs := fun s => obsN n fa fn tf ex is s.heap.get?
  val := fun _ => valN fn is
  says := fun _ h => ∃ K : PySem.W.Frag, K.In h ∧ SaysN fa fn tf ex is h K
  of := fun _ _ e => ⟨_, frT_in, saysN_of e⟩
  keeps := fun _ _ _ ⟨K, hK, c⟩ k => ⟨K, PySem.W.Frag.In.keeps hK k, ⟨c.d, c.more, c.hd, c.out, fun p hp => k _ _ (c.empty p hp), c.ini⟩⟩
theorem obsN_eq {n : Nat} {fa : List Fa} {fn : List DefD} {tf : List Defn} {ex : PySem.W.Frag → Bool} {is : List IniD} {g : Addr → Option Obj} {s : Shared} (h : ∀ a, g a = s.heap.get? a) : obsN n fa fn tf ex is g = (hookN n fa fn tf ex is).obs s := by
  have e : g = s.heap.get? := funext h
  rw [e] <;> rfl
end NM

set_option linter.all false
set_option maxRecDepth 100000
set_option maxHeartbeats 4000000
namespace NM
open PySem PySem.Spec PyProof.Rows L2
def top (i : Nat) : Stmt := PySem.Challenge.pw_nomatterwho_k01_spots_by_own_arithmetic.main.body.getD i (.Pass ⟨0, 0, 0, 0⟩)
abbrev errs : List Str := ["BadName", "BadNumber"]
noncomputable def m_is_integer : List D → Store → R D := body 1 1 (sRet (vAnd (eIsi [.ty "int"] (eVar 0)) (vNot (eIsi [.ty "bool"] (eVar 0)))))
noncomputable def m_is_between : List D → Store → R D := body 3 3 (sRet (vAnd (eN m_is_integer (eCons (eVar 0) eNil)) (eChain oLe oLe (eVar 1) (eVar 0) (eVar 2))))
noncomputable def m_is_name : List D → Store → R D := body 1 2 (sSeq (sIf (tOr (tNot (tVal (eIsi [.ty "str"] (eVar 0)))) (tNot (tVal (eChain oLe oLe (eC (.int 1)) (eN bLen (eCons (eVar 0) eNil)) (eC (.int 8)))))) (sRet (eC (.bl false))) sNext)
    (sRet (vAnd (e2 (oInS false) (e2 oIx (eVar 0) (eC (.int 0))) (eC (.str "abcdefghijklmnopqrstuvwxyz"))) (eUse uAll (lComp (iD (eVar 0)) (gSlot 1) tTrue (e2 (oInS false) (eVar 1) (eC (.str "abcdefghijklmnopqrstuvwxyz0123456789"))) [1])))))
noncomputable def m_value_of : List D → Store → R D := body 1 1 (sRet (e2 oAdd (eC (.int 1)) (eSIdx (e2 oAdd (eC (.str "abcdefghijklmnopqrstuvwxyz0123456789")) (eC (.str "/"))) (eVar 0))))
noncomputable def m_mixed : List D → Store → R D := body 1 3 (sSeq (sSet 1 (eC (.int 7)))
    (sSeq (sFor (iD (eVar 0)) (gSlot 2) (sSet 1 (e2 oMod (e2 oPow (e2 oAdd (e2 oMul (eVar 1) (eC (.int 131))) (eN m_value_of (eCons (eVar 2) eNil))) (eC (.int 2))) (eC (.int 1000003)))))
    (sRet (eVar 1))))
noncomputable def m_spot_of : List D → Store → R D := body 3 3 (sRet (e2 oMod (e2 oDiv (eN m_mixed (eCons (e2 oAdd (e2 oAdd (eVar 0) (eC (.str "/"))) (eVar 1)) eNil)) (eC (.int 16))) (eVar 2)))
noncomputable def m_spot : List D → Store → R D := body 3 3 (sSeq (sIf (tNot (tVal (eN m_is_name (eCons (eVar 0) eNil)))) (sRaise "BadName" (keepD ["part"]) (eCons (eC (.str "salt")) eNil)) sNext)
    (sSeq (sIf (tNot (tVal (eN m_is_name (eCons (eVar 1) eNil)))) (sRaise "BadName" (keepD ["part"]) (eCons (eC (.str "name")) eNil)) sNext)
    (sSeq (sIf (tNot (tVal (eN m_is_between (eCons (eVar 2) (eCons (eC (.int 1)) (eCons (eC (.int 64)) eNil)))))) (sRaise "BadNumber" (keepD ["part"]) (eCons (eC (.str "spots")) eNil)) sNext)
    (sRet (eN m_spot_of (eCons (eVar 0) (eCons (eVar 1) (eCons (eVar 2) eNil))))))))
noncomputable def m__law_pen : List D → Store → R D := body 1 1 (sRet (eNew (lDisp (eCons (eNew (lOf (eNew (lSl (eVar 0) oNone (oSome (eC (.int 63))))))) (eCons (eC (.int 0)) (eCons (eC (.int 0)) eNil))))))
noncomputable def m__law_draw : List D → Store → R D := body 2 6 (sSeq (sIf (tVal (e2 oLt (eVar 1) (eC (.int 1)))) (sRet (eC (.int 0))) sNext)
    (sSeq (sIf (tVal (e2 oGt (e2 oIx (eVar 0) (eC (.int 2))) (eC (.int 0)))) (sSeq (sSet 2 (eN bInt (eCons (e2 oIx (eVar 0) (eC (.int 2))) eNil)))
    (sSeq (sSetI (eVar 0) (eC (.int 2)) (e2 oDiv (eVar 2) (eVar 1)))
    (sRet (e2 oMod (eN bInt (eCons (eVar 2) eNil)) (eVar 1))))) sNext)
    (sSeq (sSet 3 (e2 oIx (eVar 0) (eC (.int 1))))
    (sSeq (sSetI (eVar 0) (eC (.int 1)) (e2 oAdd (eVar 3) (eC (.int 1))))
    (sSeq (sSet 4 (e2 oAdd (e2 oMul (eC (.int 7956)) (eVar 3)) (eC (.int 91784))))
    (sSeq (sIf (tVal (e2 oNe (e2 oIx (eVar 0) (eC (.int 0))) (eNew (lDisp eNil)))) (sSet 4 (e2 oIx (e2 oIx (eVar 0) (eC (.int 0))) (e2 oMod (eN bInt (eCons (eVar 3) eNil)) (eN bLen (eCons (e2 oIx (eVar 0) (eC (.int 0))) eNil))))) sNext)
    (sSeq (sIf (tAnd (tVal (e2 oLt (eVar 3) (eN bLen (eCons (e2 oIx (eVar 0) (eC (.int 0))) eNil)))) (tVal (e2 oGe (eN bAbs (eCons (eVar 4) eNil)) (e2 oPow (eC (.int 10)) (eC (.int 18)))))) (sSeq (sSet 2 (e2 oAdd (e2 oMul (eC (.int 2)) (e2 oSub (eN bAbs (eCons (eVar 4) eNil)) (e2 oPow (eC (.int 10)) (eC (.int 18))))) (eN bInt (eCons (e2 oLt (eVar 4) (eC (.int 0))) eNil))))
    (sSeq (sSetI (eVar 0) (eC (.int 2)) (e2 oDiv (eN bInt (eCons (eVar 2) eNil)) (eVar 1)))
    (sRet (e2 oMod (eN bInt (eCons (eVar 2) eNil)) (eVar 1))))) sNext)
    (sSeq (sSet 5 (e2 oMod (eN bInt (eCons (e2 oAdd (e2 oAdd (e2 oMul (e2 oMod (eN bInt (eCons (eVar 4) eNil)) (eC (.int 2305843009213693921))) (eC (.int 1000003))) (e2 oMul (eVar 3) (eC (.int 91784)))) (eC (.int 7956))) eNil)) (eC (.int 2305843009213693951))))
    (sSeq (sSet 5 (e2 oMod (eN bInt (eCons (e2 oAdd (e2 oAdd (e2 oMul (eVar 5) (eVar 5)) (e2 oMul (eVar 3) (eC (.int 7956)))) (eC (.int 91784))) eNil)) (eC (.int 2305843009213693951))))
    (sSeq (sSet 5 (e2 oMod (eN bInt (eCons (e2 oAdd (e2 oMul (e2 oMul (eVar 5) (eVar 5)) (eC (.int 3))) (eVar 5)) eNil)) (eC (.int 2305843009213693951))))
    (sRet (e2 oMod (eN bInt (eCons (e2 oDiv (eVar 5) (eC (.int 65537))) eNil)) (eVar 1)))))))))))))
noncomputable def m__law_pick : List D → Store → R D := body 2 2 (sRet (e2 oIx (eVar 1) (eN m__law_draw (eCons (eVar 0) (eCons (eN bLen (eCons (eVar 1) eNil)) eNil)))))
noncomputable def m__law_word_of : List D → Store → R D := body 1 4 (sSeq (sSet 1 (eNew (lDisp (eCons (eTup (eCons (eC (.str "value")) (eCons (eIsi [.own "BadValue"] (eVar 0)) eNil))) (eCons (eTup (eCons (eC (.str "number")) (eCons (eIsi [.own "BadNumber"] (eVar 0)) eNil))) (eCons (eTup (eCons (eC (.str "ratio")) (eCons (eIsi [.own "BadRatio"] (eVar 0)) eNil))) (eCons (eTup (eCons (eC (.str "name")) (eCons (eIsi [.own "BadName"] (eVar 0)) eNil))) eNil)))))))
    (sSeq (sSet 1 (eNew (lCat (eVar 1) (eNew (lDisp (eCons (eTup (eCons (eC (.str "layer")) (eCons (eIsi [.own "BadLayer"] (eVar 0)) eNil))) (eCons (eTup (eCons (eC (.str "deal")) (eCons (eIsi [.own "BadDeal"] (eVar 0)) eNil))) (eCons (eTup (eCons (eC (.str "kinds")) (eCons (eIsi [.own "BadKinds"] (eVar 0)) eNil))) (eCons (eTup (eCons (eC (.str "crowd")) (eCons (eIsi [.own "BadCrowd"] (eVar 0)) eNil))) eNil)))))))))
    (sSeq (sSet 1 (eNew (lCat (eVar 1) (eNew (lDisp (eCons (eTup (eCons (eC (.str "sight")) (eCons (eIsi [.own "BadSight"] (eVar 0)) eNil))) (eCons (eTup (eCons (eC (.str "claims")) (eCons (eIsi [.own "BadClaims"] (eVar 0)) eNil))) (eCons (eTup (eCons (eC (.str "trial")) (eCons (eIsi [.own "BadTrial"] (eVar 0)) eNil))) (eCons (eTup (eCons (eC (.str "rule")) (eCons (eIsi [.own "BadRule"] (eVar 0)) eNil))) eNil)))))))))
    (sSeq (sSet 1 (eNew (lCat (eVar 1) (eNew (lDisp (eCons (eTup (eCons (eC (.str "world")) (eCons (eIsi [.own "BadWorld"] (eVar 0)) eNil))) (eCons (eTup (eCons (eC (.str "paper")) (eCons (eIsi [.own "BadPaper"] (eVar 0)) eNil))) (eCons (eTup (eCons (eC (.str "misfit")) (eCons (eIsi [.own "Misfit"] (eVar 0)) eNil))) eNil))))))))
    (sRet (eTup (eCons (e2 oIx (eNew (lCat (eNew (lComp (iD (eVar 1)) (gUnp [(gSlot 2), (gSlot 3)]) (tVal (eVar 3)) (eVar 2) [2, 3])) (eNew (lDisp (eCons (eC (.str "other")) eNil))))) (eC (.int 0))) (eCons (e1 (oXf "part") (eVar 0)) eNil))))))))
noncomputable def m__law_caught : Sx := (sSeq (sIf (tVal (e2 oIsN (eVar 1) (eC .non))) (sRet (eNew (lDisp (eCons (eVar 2) eNil)))) sNext)
    (sSeq (sIf (tVal (eIsi [.own "TooMany"] (eVar 1))) (sRet (eTup (eCons (eC (.str "many")) (eCons (e1 (oXf "what") (eVar 1)) (eCons (e1 (oXf "most") (eVar 1)) eNil))))) sNext)
    (sSeq (sIf (tVal (eIsi [.own "BadText"] (eVar 1))) (sRet (eTup (eCons (eC (.str "text")) (eCons (e1 (oXf "line") (eVar 1)) (eCons (e1 (oXf "word") (eVar 1)) eNil))))) sNext)
    (sSeq (sIf (tVal (eIsi [.own "BadLog"] (eVar 1))) (sRet (eTup (eCons (eC (.str "log")) (eCons (e1 (oXf "index") (eVar 1)) eNil)))) sNext)
    (sSeq (sIf (tVal (eIsi [.own "BadLine"] (eVar 1))) (sRet (eTup (eCons (eC (.str "line")) (eCons (e1 (oXf "word") (eVar 1)) eNil)))) sNext)
    (sSeq (sIf (tVal (eIsi [.own "NoName"] (eVar 1))) (sRet (eTup (eCons (eC (.str "noname")) (eCons (e1 (oXf "value") (eVar 1)) eNil)))) sNext)
    (sSeq (sIf (tVal (eIsi [.own "Nothing"] (eVar 1))) (sRet (eTup (eCons (eC (.str "nothing")) (eCons (e1 (oXf "what") (eVar 1)) eNil)))) sNext)
    (sRet (eN m__law_word_of (eCons (eVar 1) eNil))))))))))
noncomputable def m__law_spot : List D → Store → R D := body 3 8 (sSeq (sSet 3 (eDisp (((eC (.str "/")), (eC (.int 37))) :: [])))
    (sSeq (sFor (iEn (eC (.str "abcdefghijklmnopqrstuvwxyz0123456789"))) (gUnp [(gSlot 4), (gSlot 5)]) (sSetI (eVar 3) (eVar 5) (e2 oAdd (eVar 4) (eC (.int 1)))))
    (sSeq (sSet 6 (eC (.int 7)))
    (sSeq (sFor (iD (e2 oAdd (e2 oAdd (eVar 0) (eC (.str "/"))) (eVar 1))) (gSlot 5) (sSeq (sSet 7 (e2 oAdd (e2 oMul (eVar 6) (eC (.int 131))) (e2 oKey (eVar 3) (eVar 5))))
    (sSet 6 (e2 oMod (e2 oMul (eVar 7) (eVar 7)) (eC (.int 1000003))))))
    (sRet (e2 oMod (e2 oDiv (eVar 6) (eC (.int 16))) (eVar 2)))))))
noncomputable def m__law_name : List D → Store → R D := body 1 4 (sSeq (sSet 1 (eC (.str "abcdefghijklmnopqrstuvwxyz")))
    (sSeq (sSet 2 (eJoin (eC (.str "")) (eNew (lComp (iRange1 (eCons (eN m__law_draw (eCons (eVar 0) (eCons (eC (.int 8)) eNil))) eNil)) (gSlot 3) tTrue (eN m__law_pick (eCons (eVar 0) (eCons (e2 oAdd (eVar 1) (eC (.str "0123456789999"))) eNil))) [3]))))
    (sRet (e2 oAdd (eN m__law_pick (eCons (eVar 0) (eCons (eVar 1) eNil))) (eVar 2)))))
def gkw_spot_0_spots_name_salt {α : Type} : List α → List α → List α
  | [], [b0, b1, b2] => [b2, b1, b0]
  | _, _ => []
noncomputable def m_law : List D → Store → R D := body 1 11 (sSeq (sSet 1 (eN m__law_pen (eCons (eVar 0) eNil)))
    (sSeq (sFor (iRange1 (eCons (eC (.int 40)) eNil)) (gSlot 2) (sSeq (sPar3 3 4 5 (eCons (eN m__law_name (eCons (eVar 1) eNil)) (eCons (eN m__law_name (eCons (eVar 1) eNil)) (eCons (e2 oAdd (eC (.int 1)) (eN m__law_draw (eCons (eVar 1) (eCons (eC (.int 64)) eNil)))) eNil))))
    (sIf (tOr (tVal (e2 oNe (eN m_spot (eCons (eVar 3) (eCons (eVar 4) (eCons (eVar 5) eNil)))) (eN m__law_spot (eCons (eVar 3) (eCons (eVar 4) (eCons (eVar 5) eNil)))))) (tOr (tVal (e2 oNe (eCallK m_spot (fun a b => gkw_spot_0_spots_name_salt a b) eNil (eCons (eVar 5) (eCons (eVar 4) (eCons (eVar 3) eNil)))) (eN m__law_spot (eCons (eVar 3) (eCons (eVar 4) (eCons (eVar 5) eNil)))))) (tNot (tVal (eChain oLe oLt (eC (.int 0)) (eN m_spot (eCons (eVar 3) (eCons (eVar 4) (eCons (eVar 5) eNil)))) (eVar 5)))))) (sRet (eC (.bl false))) sNext)))
    (sSeq (sSet 6 eLam)
    (sSeq (sFor (iRange1 (eCons (eC (.int 6)) eNil)) (gSlot 2) (sSeq (sAsg (gUnp [(gSlot 7), (gSlot 8), (gSlot 9)]) (eTup (eCons (eN m__law_pick (eCons (eVar 1) (eCons (eNew (lDisp (eCons (eC .non) (eCons (eC (.int 5)) (eCons (eC (.str "")) (eCons (eC (.str "9a")) (eCons (eC (.str "Ann")) (eCons (eC (.str "a b")) (eCons (eC (.str "abcdefghi")) (eCons (eNew (lDisp (eCons (eC (.str "a")) eNil))) (eCons (eC (.bl true)) (eCons (eVar 6) eNil)))))))))))) eNil))) (eCons (eN m__law_pick (eCons (eVar 1) (eCons (eNew (lDisp (eCons (eC .non) (eCons (eC (.str "")) (eCons (eC (.str "-")) (eCons (eC (.str "ann/")) (eCons (eC (.int 0)) (eCons (eTup eNil) eNil)))))))) eNil))) (eCons (eN m__law_pick (eCons (eVar 1) (eCons (eNew (lDisp (eCons (eC (.int 0)) (eCons (eC (.int 65)) (eCons (e1 oNeg (eC (.int 1))) (eCons (eC (.bl true)) (eCons (eC .non) (eCons (eC (.str "2")) (eCons (e2 oPow (eC (.int 10)) (eC (.int 29))) eNil))))))))) eNil))) eNil)))))
    (sSeq (sSet 10 (eNew (lDisp (eCons (eCaught errs (eN m_spot (eCons (eVar 7) (eCons (eVar 8) (eCons (eVar 9) eNil)))) m__law_caught) (eCons (eCaught errs (eN m_spot (eCons (eC (.str "ann")) (eCons (eVar 8) (eCons (eVar 9) eNil)))) m__law_caught) (eCons (eCaught errs (eN m_spot (eCons (eC (.str "ann")) (eCons (eC (.str "bob")) (eCons (eVar 9) eNil)))) m__law_caught) eNil))))))
    (sIf (tVal (e2 oNe (eVar 10) (eNew (lDisp (eCons (eTup (eCons (eC (.str "name")) (eCons (eC (.str "salt")) eNil))) (eCons (eTup (eCons (eC (.str "name")) (eCons (eC (.str "name")) eNil))) (eCons (eTup (eCons (eC (.str "number")) (eCons (eC (.str "spots")) eNil))) eNil))))))) (sRet (eC (.bl false))) sNext))))
    (sRet (vAnd (e2 oEq (eN m_spot (eCons (eC (.str "a")) (eCons (eC (.str "a")) (eCons (eC (.int 1)) eNil)))) (eC (.int 0))) (e2 oEq (eN m_spot (eCons (eC (.str "abcdefg9")) (eCons (eC (.str "z9999999")) (eCons (eC (.int 64)) eNil)))) (eN m__law_spot (eCons (eC (.str "abcdefg9")) (eCons (eC (.str "z9999999")) (eCons (eC (.int 64)) eNil)))))))))))
abbrev st_is_integer : Stmt := top 4
abbrev st_is_between : Stmt := top 5
abbrev st_is_name : Stmt := top 6
abbrev st_value_of : Stmt := top 37
abbrev st_mixed : Stmt := top 38
abbrev st_spot_of : Stmt := top 39
abbrev st_spot : Stmt := top 40
abbrev st__law_pen : Stmt := top 42
abbrev st__law_draw : Stmt := top 43
abbrev st__law_pick : Stmt := top 44
abbrev st__law_word_of : Stmt := top 46
abbrev st__law_caught : Stmt := top 45
abbrev st__law_spot : Stmt := top 47
abbrev st__law_name : Stmt := top 48
abbrev st_law : Stmt := top 49
structure Txt (c : Cf) (mg : Str → Option Value) (base : Heap) (P : Program) (w : World) : Prop where
  ki : KI c
  g_BEGIN : ∃ t, mg "BEGIN" = some (.int 7 t)
  g_FACTOR : ∃ t, mg "FACTOR" = some (.int 131 t)
  g_FIRST_SIGNS : ∃ t, mg "FIRST_SIGNS" = some (.str "abcdefghijklmnopqrstuvwxyz" t)
  g_MODULUS : ∃ t, mg "MODULUS" = some (.int 1000003 t)
  g_MOST_SIGNS : ∃ t, mg "MOST_SIGNS" = some (.int 8 t)
  g_MOST_SPOTS : ∃ t, mg "MOST_SPOTS" = some (.int 64 t)
  g_SHIFT : ∃ t, mg "SHIFT" = some (.int 16 t)
  g_SIGNS : ∃ t, mg "SIGNS" = some (.str "abcdefghijklmnopqrstuvwxyz0123456789" t)
  g_STROKE : ∃ t, mg "STROKE" = some (.str "/" t)
  b_abs : mg "abs" = none
  b_all : mg "all" = none
  b_bool : mg "bool" = none
  b_enumerate : mg "enumerate" = none
  b_int : mg "int" = none
  b_isinstance : mg "isinstance" = none
  b_len : mg "len" = none
  b_list : mg "list" = none
  b_range : mg "range" = none
  b_str : mg "str" = none
  c_BadClaims : mg "BadClaims" = some (.ref (He.ga c.K "BadClaims"))
  c_BadCrowd : mg "BadCrowd" = some (.ref (He.ga c.K "BadCrowd"))
  c_BadDeal : mg "BadDeal" = some (.ref (He.ga c.K "BadDeal"))
  c_BadKinds : mg "BadKinds" = some (.ref (He.ga c.K "BadKinds"))
  c_BadLayer : mg "BadLayer" = some (.ref (He.ga c.K "BadLayer"))
  c_BadLine : mg "BadLine" = some (.ref (He.ga c.K "BadLine"))
  c_BadLog : mg "BadLog" = some (.ref (He.ga c.K "BadLog"))
  c_BadName : mg "BadName" = some (.ref (He.ga c.K "BadName"))
  c_BadNumber : mg "BadNumber" = some (.ref (He.ga c.K "BadNumber"))
  c_BadPaper : mg "BadPaper" = some (.ref (He.ga c.K "BadPaper"))
  c_BadRatio : mg "BadRatio" = some (.ref (He.ga c.K "BadRatio"))
  c_BadRule : mg "BadRule" = some (.ref (He.ga c.K "BadRule"))
  c_BadSight : mg "BadSight" = some (.ref (He.ga c.K "BadSight"))
  c_BadText : mg "BadText" = some (.ref (He.ga c.K "BadText"))
  c_BadTrial : mg "BadTrial" = some (.ref (He.ga c.K "BadTrial"))
  c_BadValue : mg "BadValue" = some (.ref (He.ga c.K "BadValue"))
  c_BadWorld : mg "BadWorld" = some (.ref (He.ga c.K "BadWorld"))
  c_Misfit : mg "Misfit" = some (.ref (He.ga c.K "Misfit"))
  c_NoName : mg "NoName" = some (.ref (He.ga c.K "NoName"))
  c_Nothing : mg "Nothing" = some (.ref (He.ga c.K "Nothing"))
  c_TooMany : mg "TooMany" = some (.ref (He.ga c.K "TooMany"))
  c_TrialError : mg "TrialError" = some (.ref (He.ga c.K "TrialError"))
  w_BadClaims : ("BadClaims" : Str) ∈ c.W
  w_BadCrowd : ("BadCrowd" : Str) ∈ c.W
  w_BadDeal : ("BadDeal" : Str) ∈ c.W
  w_BadKinds : ("BadKinds" : Str) ∈ c.W
  w_BadLayer : ("BadLayer" : Str) ∈ c.W
  w_BadLine : ("BadLine" : Str) ∈ c.W
  w_BadLog : ("BadLog" : Str) ∈ c.W
  w_BadName : ("BadName" : Str) ∈ c.W
  w_BadNumber : ("BadNumber" : Str) ∈ c.W
  w_BadPaper : ("BadPaper" : Str) ∈ c.W
  w_BadRatio : ("BadRatio" : Str) ∈ c.W
  w_BadRule : ("BadRule" : Str) ∈ c.W
  w_BadSight : ("BadSight" : Str) ∈ c.W
  w_BadText : ("BadText" : Str) ∈ c.W
  w_BadTrial : ("BadTrial" : Str) ∈ c.W
  w_BadValue : ("BadValue" : Str) ∈ c.W
  w_BadWorld : ("BadWorld" : Str) ∈ c.W
  w_Misfit : ("Misfit" : Str) ∈ c.W
  w_NoName : ("NoName" : Str) ∈ c.W
  w_Nothing : ("Nothing" : Str) ∈ c.W
  w_TooMany : ("TooMany" : Str) ∈ c.W
  i_BadName : CI P w c.K mg base "BadName" ["part"]
  i_BadNumber : CI P w c.K mg base "BadNumber" ["part"]
  x_index : FX c "index"
  x_line : FX c "line"
  x_most : FX c "most"
  x_part : FX c "part"
  x_value : FX c "value"
  x_what : FX c "what"
  x_word : FX c "word"
  ex : ∀ y ∈ errs, y ∈ c.V ∧ PySem.W.exmOne c.K (.ref (He.ga c.K y)) (.ref (He.ga c.K "TrialError")) = some true
  m_is_integer : mg "is_integer" = some (.ref (He.ga c.K "is_integer"))
  f_is_integer : ∃ fd, FunD c.K "is_integer" "is_integer" (defArgs st_is_integer) (defBody st_is_integer) (defScope st_is_integer) [] [] (He.ga c.K "is_integer") fd
  m_is_between : mg "is_between" = some (.ref (He.ga c.K "is_between"))
  f_is_between : ∃ fd, FunD c.K "is_between" "is_between" (defArgs st_is_between) (defBody st_is_between) (defScope st_is_between) [] [] (He.ga c.K "is_between") fd
  m_is_name : mg "is_name" = some (.ref (He.ga c.K "is_name"))
  f_is_name : ∃ fd, FunD c.K "is_name" "is_name" (defArgs st_is_name) (defBody st_is_name) (defScope st_is_name) [] [] (He.ga c.K "is_name") fd
  m_value_of : mg "value_of" = some (.ref (He.ga c.K "value_of"))
  f_value_of : ∃ fd, FunD c.K "value_of" "value_of" (defArgs st_value_of) (defBody st_value_of) (defScope st_value_of) [] [] (He.ga c.K "value_of") fd
  m_mixed : mg "mixed" = some (.ref (He.ga c.K "mixed"))
  f_mixed : ∃ fd, FunD c.K "mixed" "mixed" (defArgs st_mixed) (defBody st_mixed) (defScope st_mixed) [] [] (He.ga c.K "mixed") fd
  m_spot_of : mg "spot_of" = some (.ref (He.ga c.K "spot_of"))
  f_spot_of : ∃ fd, FunD c.K "spot_of" "spot_of" (defArgs st_spot_of) (defBody st_spot_of) (defScope st_spot_of) [] [] (He.ga c.K "spot_of") fd
  m_spot : mg "spot" = some (.ref (He.ga c.K "spot"))
  f_spot : ∃ fd, FunD c.K "spot" "spot" (defArgs st_spot) (defBody st_spot) (defScope st_spot) [] [] (He.ga c.K "spot") fd
  m__law_pen : mg "_law_pen" = some (.ref (He.ga c.K "_law_pen"))
  f__law_pen : ∃ fd, FunD c.K "_law_pen" "_law_pen" (defArgs st__law_pen) (defBody st__law_pen) (defScope st__law_pen) [] [] (He.ga c.K "_law_pen") fd
  m__law_draw : mg "_law_draw" = some (.ref (He.ga c.K "_law_draw"))
  f__law_draw : ∃ fd, FunD c.K "_law_draw" "_law_draw" (defArgs st__law_draw) (defBody st__law_draw) (defScope st__law_draw) [] [] (He.ga c.K "_law_draw") fd
  m__law_pick : mg "_law_pick" = some (.ref (He.ga c.K "_law_pick"))
  f__law_pick : ∃ fd, FunD c.K "_law_pick" "_law_pick" (defArgs st__law_pick) (defBody st__law_pick) (defScope st__law_pick) [] [] (He.ga c.K "_law_pick") fd
  m__law_caught : mg "_law_caught" = some (.ref (He.ga c.K "_law_caught"))
  f__law_caught : ∃ fd, FunD c.K "_law_caught" "_law_caught" (defArgs st__law_caught) (defBody st__law_caught) (defScope st__law_caught) [] [] (He.ga c.K "_law_caught") fd
  m__law_word_of : mg "_law_word_of" = some (.ref (He.ga c.K "_law_word_of"))
  f__law_word_of : ∃ fd, FunD c.K "_law_word_of" "_law_word_of" (defArgs st__law_word_of) (defBody st__law_word_of) (defScope st__law_word_of) [] [] (He.ga c.K "_law_word_of") fd
  m__law_spot : mg "_law_spot" = some (.ref (He.ga c.K "_law_spot"))
  f__law_spot : ∃ fd, FunD c.K "_law_spot" "_law_spot" (defArgs st__law_spot) (defBody st__law_spot) (defScope st__law_spot) [] [] (He.ga c.K "_law_spot") fd
  m__law_name : mg "_law_name" = some (.ref (He.ga c.K "_law_name"))
  f__law_name : ∃ fd, FunD c.K "_law_name" "_law_name" (defArgs st__law_name) (defBody st__law_name) (defScope st__law_name) [] [] (He.ga c.K "_law_name") fd
  m_law : mg "law" = some (.ref (He.ga c.K "law"))
  l_law : ∃ fd cd tP, FunD c.K "law" "law" (defArgs st_law) (defBody st_law) (defScope st_law) [] [] (He.ga c.K "law") fd ∧ LamF base mg c "law" fd cd tP
section
variable {P : Program} {w : World} {mg : Str → Option Value} {base : Heap} {c : Cf}
theorem d_BadName (T : Txt c mg base P w) : CI P w c.K mg base "BadName" ["part"] := T.i_BadName
theorem d_BadNumber (T : Txt c mg base P w) : CI P w c.K mg base "BadNumber" ["part"] := T.i_BadNumber
abbrev N_is_integer : List Str := ["value"]
theorem sc_is_integer : FnScope N_is_integer ["value"] (defScope st_is_integer) := ⟨rfl, rfl, rfl, by decide +kernel, rfl, by decide +kernel, by decide +kernel⟩
theorem o_is_integer (T : Txt c mg base P w) {fd : FuncData} (F : FunD c.K "is_integer" "is_integer" (defArgs st_is_integer) (defBody st_is_integer) (defScope st_is_integer) [] [] (He.ga c.K "is_integer") fd) : FnOk P w c.K mg base (L2.CX P w) 1 (He.ga c.K "is_integer") fd ["value"] (spM c m_is_integer) :=
  fn_ok rfl F sc_is_integer (fun cdv A outer sh H E hr => (sb_one (ss_ret (se_and (se_isi1 (pe_callB (call_isiM rfl T.ki (isi6 (by decide))) rfl T.b_isinstance (by decide +kernel) (pa_cons (se_var (pv 0)) (pa_cons (pe_bltn (v := .ty "int") rfl T.b_int (by decide +kernel) rfl) pa_nil)))) (se_one (se_not (se_isi1 (pe_callB (call_isiM rfl T.ki (isi6 (by decide))) rfl T.b_isinstance (by decide +kernel) (pa_cons (se_var (pv 0)) (pa_cons (pe_bltn (v := .ty "bool") rfl T.b_bool (by decide +kernel) rfl) pa_nil))))))))))
theorem d_is_integer (T : Txt c mg base P w) : Def P w c.K mg base c 1 "is_integer" ["value"] m_is_integer := by
  obtain ⟨fd, F⟩ := T.f_is_integer
  exact ⟨⟨fd, o_is_integer T F, F.bindsN fun _ _ _ _ _ _ us hl => match us, hl with | [_], _ => rfl⟩, T.m_is_integer, F.kp⟩
abbrev N_is_between : List Str := ["value", "least", "most"]
theorem sc_is_between : FnScope N_is_between ["value", "least", "most"] (defScope st_is_between) := ⟨rfl, rfl, rfl, by decide +kernel, rfl, by decide +kernel, by decide +kernel⟩
theorem o_is_between (T : Txt c mg base P w) {fd : FuncData} (F : FunD c.K "is_between" "is_between" (defArgs st_is_between) (defBody st_is_between) (defScope st_is_between) [] [] (He.ga c.K "is_between") fd) : FnOk P w c.K mg base (L2.CX P w) 2 (He.ga c.K "is_between") fd ["value", "least", "most"] (spM c m_is_between) :=
  fn_ok rfl F sc_is_between (fun cdv A outer sh H E hr => (sb_one (ss_ret (se_and (se_call (d_is_integer T) (hr.mono (by decide)) (takes_of rfl rfl rfl rfl) rfl (sa_cons (se_var (pv 0)) sa_nil)) (se_one (se_chain op_le re_le op_le re_le (se_var (pv 1)) (se_var (pv 0)) (se_var (pv 2))))))))
theorem d_is_between (T : Txt c mg base P w) : Def P w c.K mg base c 2 "is_between" ["value", "least", "most"] m_is_between := by
  obtain ⟨fd, F⟩ := T.f_is_between
  exact ⟨⟨fd, o_is_between T F, F.bindsN fun _ _ _ _ _ _ us hl => match us, hl with | [_, _, _], _ => rfl⟩, T.m_is_between, F.kp⟩
abbrev N_is_name : List Str := ["value", "sign"]
theorem sc_is_name : FnScope N_is_name ["value"] (defScope st_is_name) := ⟨rfl, rfl, rfl, by decide +kernel, rfl, by decide +kernel, by decide +kernel⟩
theorem o_is_name (T : Txt c mg base P w) {fd : FuncData} (F : FunD c.K "is_name" "is_name" (defArgs st_is_name) (defBody st_is_name) (defScope st_is_name) [] [] (He.ga c.K "is_name") fd) : FnOk P w c.K mg base (L2.CX P w) 1 (He.ga c.K "is_name") fd ["value"] (spM c m_is_name) :=
  fn_ok rfl F sc_is_name (fun cdv A outer sh H E hr => (sb_cons (ss_if (st_w (sw_or (st_not (st_val (se_isi1 (pe_callB (call_isiM rfl T.ki (isi6 (by decide))) rfl T.b_isinstance (by decide +kernel) (pa_cons (se_var (pv 0)) (pa_cons (pe_bltn (v := .ty "str") rfl T.b_str (by decide +kernel) rfl) pa_nil)))))) (sw_or1 (st_not (st_chain op_le re_le op_le re_le se_int (callB (pe_callB call_lenA rfl T.b_len boot_len (sa_cons (se_var (pv 0)) sa_nil)) (re_len rfl)) (se_gint rfl T.g_MOST_SIGNS)))))) (sb_one (ss_ret se_bl)) sb_nil)
      (sb_one (ss_ret (se_and (se_cmp op_in_sign re_inS (se_ix rfl (se_var (pv 0)) se_int (fun _ _ => rfl)) (se_gstr rfl T.g_FIRST_SIGNS)) (se_one (use (pe_callB (cr_all rfl) rfl T.b_all boot_all (pa_cons (sl_comp (pe_lc (own := [("sign", 1)]) rfl sc_is_name.nd (si_d rfl (se_var (pv 0))) (blkOk_by (N := N_is_name) (sc := defScope st_is_name) (by decide +kernel)) (fun _ _ _ _ _ => (sgv_name (by decide) (pg_name (i := 1) sc_is_name.nd rfl (.inl rfl)))) (fun _ _ _ _ _ => sts_nil) (fun _ _ _ _ _ => (se_cmp op_in_sign re_inS (se_var (pv 1)) (se_gstr rfl T.g_SIGNS))))) pa_nil)) (re_uAll rfl))))))))
theorem d_is_name (T : Txt c mg base P w) : Def P w c.K mg base c 1 "is_name" ["value"] m_is_name := by
  obtain ⟨fd, F⟩ := T.f_is_name
  exact ⟨⟨fd, o_is_name T F, F.bindsN fun _ _ _ _ _ _ us hl => match us, hl with | [_], _ => rfl⟩, T.m_is_name, F.kp⟩
abbrev N_value_of : List Str := ["sign"]
theorem sc_value_of : FnScope N_value_of ["sign"] (defScope st_value_of) := ⟨rfl, rfl, rfl, by decide +kernel, rfl, by decide +kernel, by decide +kernel⟩
theorem o_value_of (T : Txt c mg base P w) {fd : FuncData} (F : FunD c.K "value_of" "value_of" (defArgs st_value_of) (defBody st_value_of) (defScope st_value_of) [] [] (He.ga c.K "value_of") fd) : FnOk P w c.K mg base (L2.CX P w) 1 (He.ga c.K "value_of") fd ["sign"] (spM c m_value_of) :=
  fn_ok rfl F sc_value_of (fun cdv A outer sh H E hr => (sb_one (ss_ret (se_op op_addA (re_add rfl) se_int (se_sidx (se_op op_addA (re_add rfl) (se_gstr rfl T.g_SIGNS) (se_gstr rfl T.g_STROKE)) (se_var (pv 0)) (pe_bm PySem.F.plainAttrs_str PySem.F.slot_str_index PySem.F.type_str_index mt_sindex (se_op op_addA (re_add rfl) (se_gstr rfl T.g_SIGNS) (se_gstr rfl T.g_STROKE)) (pa_cons (se_var (pv 0)) pa_nil)))))))
theorem d_value_of (T : Txt c mg base P w) : Def P w c.K mg base c 1 "value_of" ["sign"] m_value_of := by
  obtain ⟨fd, F⟩ := T.f_value_of
  exact ⟨⟨fd, o_value_of T F, F.bindsN fun _ _ _ _ _ _ us hl => match us, hl with | [_], _ => rfl⟩, T.m_value_of, F.kp⟩
abbrev N_mixed : List Str := ["text", "found", "sign"]
theorem sc_mixed : FnScope N_mixed ["text"] (defScope st_mixed) := ⟨rfl, rfl, rfl, by decide +kernel, rfl, by decide +kernel, by decide +kernel⟩
theorem o_mixed (T : Txt c mg base P w) {fd : FuncData} (F : FunD c.K "mixed" "mixed" (defArgs st_mixed) (defBody st_mixed) (defScope st_mixed) [] [] (He.ga c.K "mixed") fd) : FnOk P w c.K mg base (L2.CX P w) 2 (He.ga c.K "mixed") fd ["text"] (spM c m_mixed) :=
  fn_ok rfl F sc_mixed (fun cdv A outer sh H E hr => (sb_cons (ss_set (ps_set (i := 1) sc_mixed.nd rfl (.inl rfl) (se_gint rfl T.g_BEGIN)))
      (sb_cons (ss_for (passes_of rfl) rfl (si_d rfl (se_var (pv 0))) (sg_name (pg_name (i := 2) sc_mixed.nd rfl (.inl rfl))) (sb_one (ss_set (ps_set (i := 1) sc_mixed.nd rfl (.inl rfl) (se_op op_modN re_mod (se_op op_pow re_pow (se_op op_addA (re_add rfl) (se_op op_mul re_mul (se_var (pv 1)) (se_gint rfl T.g_FACTOR)) (se_call (d_value_of T) (hr.mono (by decide)) (takes_of rfl rfl rfl rfl) rfl (sa_cons (se_var (pv 2)) sa_nil))) se_int) (se_gint rfl T.g_MODULUS))))))
      (sb_one (ss_ret (se_var (pv 1)))))))
theorem d_mixed (T : Txt c mg base P w) : Def P w c.K mg base c 2 "mixed" ["text"] m_mixed := by
  obtain ⟨fd, F⟩ := T.f_mixed
  exact ⟨⟨fd, o_mixed T F, F.bindsN fun _ _ _ _ _ _ us hl => match us, hl with | [_], _ => rfl⟩, T.m_mixed, F.kp⟩
abbrev N_spot_of : List Str := ["salt", "name", "spots"]
theorem sc_spot_of : FnScope N_spot_of ["salt", "name", "spots"] (defScope st_spot_of) := ⟨rfl, rfl, rfl, by decide +kernel, rfl, by decide +kernel, by decide +kernel⟩
theorem o_spot_of (T : Txt c mg base P w) {fd : FuncData} (F : FunD c.K "spot_of" "spot_of" (defArgs st_spot_of) (defBody st_spot_of) (defScope st_spot_of) [] [] (He.ga c.K "spot_of") fd) : FnOk P w c.K mg base (L2.CX P w) 3 (He.ga c.K "spot_of") fd ["salt", "name", "spots"] (spM c m_spot_of) :=
  fn_ok rfl F sc_spot_of (fun cdv A outer sh H E hr => (sb_one (ss_ret (se_op op_modN re_mod (se_op op_fdivN re_div (se_call (d_mixed T) (hr.mono (by decide)) (takes_of rfl rfl rfl rfl) rfl (sa_cons (se_op op_addA (re_add rfl) (se_op op_addA (re_add rfl) (se_var (pv 0)) (se_gstr rfl T.g_STROKE)) (se_var (pv 1))) sa_nil)) (se_gint rfl T.g_SHIFT)) (se_var (pv 2))))))
theorem d_spot_of (T : Txt c mg base P w) : Def P w c.K mg base c 3 "spot_of" ["salt", "name", "spots"] m_spot_of := by
  obtain ⟨fd, F⟩ := T.f_spot_of
  exact ⟨⟨fd, o_spot_of T F, F.bindsN fun _ _ _ _ _ _ us hl => match us, hl with | [_, _, _], _ => rfl⟩, T.m_spot_of, F.kp⟩
abbrev N_spot : List Str := ["salt", "name", "spots"]
theorem sc_spot : FnScope N_spot ["salt", "name", "spots"] (defScope st_spot) := ⟨rfl, rfl, rfl, by decide +kernel, rfl, by decide +kernel, by decide +kernel⟩
theorem o_spot (T : Txt c mg base P w) {fd : FuncData} (F : FunD c.K "spot" "spot" (defArgs st_spot) (defBody st_spot) (defScope st_spot) [] [] (He.ga c.K "spot") fd) : FnOk P w c.K mg base (L2.CX P w) 4 (He.ga c.K "spot") fd ["salt", "name", "spots"] (spM c m_spot) :=
  fn_ok rfl F sc_spot (fun cdv A outer sh H E hr => (sb_cons (ss_if (st_not (st_val (se_call (d_is_name T) (hr.mono (by decide)) (takes_of rfl rfl rfl rfl) rfl (sa_cons (se_var (pv 0)) sa_nil)))) (sb_one (ss_raise rfl (d_BadName T) (hr.mono (by decide)) rfl rfl (takes_of rfl rfl rfl rfl) (sa_cons se_str sa_nil))) sb_nil)
      (sb_cons (ss_if (st_not (st_val (se_call (d_is_name T) (hr.mono (by decide)) (takes_of rfl rfl rfl rfl) rfl (sa_cons (se_var (pv 1)) sa_nil)))) (sb_one (ss_raise rfl (d_BadName T) (hr.mono (by decide)) rfl rfl (takes_of rfl rfl rfl rfl) (sa_cons se_str sa_nil))) sb_nil)
      (sb_cons (ss_if (st_not (st_val (se_call (d_is_between T) (hr.mono (by decide)) (takes_of rfl rfl rfl rfl) rfl (sa_cons (se_var (pv 2)) (sa_cons se_int (sa_cons (se_gint rfl T.g_MOST_SPOTS) sa_nil)))))) (sb_one (ss_raise rfl (d_BadNumber T) (hr.mono (by decide)) rfl rfl (takes_of rfl rfl rfl rfl) (sa_cons se_str sa_nil))) sb_nil)
      (sb_one (ss_ret (se_call (d_spot_of T) (hr.mono (by decide)) (takes_of rfl rfl rfl rfl) rfl (sa_cons (se_var (pv 0)) (sa_cons (se_var (pv 1)) (sa_cons (se_var (pv 2)) sa_nil))))))))))
theorem d_spot (T : Txt c mg base P w) : Def P w c.K mg base c 4 "spot" ["salt", "name", "spots"] m_spot := by
  obtain ⟨fd, F⟩ := T.f_spot
  exact ⟨⟨fd, o_spot T F, F.bindsN fun _ _ _ _ _ _ us hl => match us, hl with | [_, _, _], _ => rfl⟩, T.m_spot, F.kp⟩
abbrev N__law_pen : List Str := ["script"]
theorem sc__law_pen : FnScope N__law_pen ["script"] (defScope st__law_pen) := ⟨rfl, rfl, rfl, by decide +kernel, rfl, by decide +kernel, by decide +kernel⟩
theorem o__law_pen (T : Txt c mg base P w) {fd : FuncData} (F : FunD c.K "_law_pen" "_law_pen" (defArgs st__law_pen) (defBody st__law_pen) (defScope st__law_pen) [] [] (He.ga c.K "_law_pen") fd) : FnOk P w c.K mg base (L2.CX P w) 1 (He.ga c.K "_law_pen") fd ["script"] (spM c m__law_pen) :=
  fn_ok rfl F sc__law_pen (fun cdv A outer sh H E hr => (sb_one (ss_ret (se_new (sl_lst (sa_cons (se_new (sl_of rfl (pe_callTy call_list_of rfl T.b_list boot_list (pa_cons (se_new (sl_sl rfl (se_var (pv 0)) so_none (so_some se_int))) pa_nil)))) (sa_cons se_int (sa_cons se_int sa_nil))))))))
theorem d__law_pen (T : Txt c mg base P w) : Def P w c.K mg base c 1 "_law_pen" ["script"] m__law_pen := by
  obtain ⟨fd, F⟩ := T.f__law_pen
  exact ⟨⟨fd, o__law_pen T F, F.bindsN fun _ _ _ _ _ _ us hl => match us, hl with | [_], _ => rfl⟩, T.m__law_pen, F.kp⟩
abbrev N__law_draw : List Str := ["pen", "many", "rest", "at", "cell", "found"]
theorem sc__law_draw : FnScope N__law_draw ["pen", "many"] (defScope st__law_draw) := ⟨rfl, rfl, rfl, by decide +kernel, rfl, by decide +kernel, by decide +kernel⟩
theorem o__law_draw (T : Txt c mg base P w) {fd : FuncData} (F : FunD c.K "_law_draw" "_law_draw" (defArgs st__law_draw) (defBody st__law_draw) (defScope st__law_draw) [] [] (He.ga c.K "_law_draw") fd) : FnOk P w c.K mg base (L2.CX P w) 1 (He.ga c.K "_law_draw") fd ["pen", "many"] (spM c m__law_draw) :=
  fn_ok rfl F sc__law_draw (fun cdv A outer sh H E hr => (sb_cons (ss_if (st_cmp op_ltA re_lt (se_var (pv 1)) se_int) (sb_one (ss_ret se_int)) sb_nil)
      (sb_cons (ss_if (st_cmp op_gt re_gt (se_ix rfl (se_var (pv 0)) se_int (fun _ _ => rfl)) se_int) (sb_cons (ss_set (ps_set (i := 2) sc__law_draw.nd rfl (.inl rfl) (callB (pe_callTy call_int1 rfl T.b_int boot_int (sa_cons (se_ix rfl (se_var (pv 0)) se_int (fun _ _ => rfl)) sa_nil)) re_int)))
      (sb_cons (ss_sub (ps_asg (se_op op_fdivN re_div (se_var (pv 2)) (se_var (pv 1))) (pg_sub (se_var (pv 0)) se_int (set_A hr.u1))))
      (sb_one (ss_ret (se_op op_modN re_mod (callB (pe_callTy call_int1 rfl T.b_int boot_int (sa_cons (se_var (pv 2)) sa_nil)) re_int) (se_var (pv 1))))))) sb_nil)
      (sb_cons (ss_set (ps_set (i := 3) sc__law_draw.nd rfl (.inl rfl) (se_ix rfl (se_var (pv 0)) se_int (fun _ _ => rfl))))
      (sb_cons (ss_sub (ps_asg (se_op op_addA (re_add rfl) (se_var (pv 3)) se_int) (pg_sub (se_var (pv 0)) se_int (set_A hr.u1))))
      (sb_cons (ss_set (ps_set (i := 4) sc__law_draw.nd rfl (.inl rfl) (se_op op_addA (re_add rfl) (se_op op_mul re_mul se_int (se_var (pv 3))) se_int)))
      (sb_cons (ss_if (st_cmp (op_neD hr.units) (re_ne rfl) (se_ix rfl (se_var (pv 0)) se_int (fun _ _ => rfl)) (se_new (sl_lst sa_nil))) (sb_one (ss_set (ps_set (i := 4) sc__law_draw.nd rfl (.inl rfl) (se_ix rfl (se_ix rfl (se_var (pv 0)) se_int (fun _ _ => rfl)) (se_op op_modN re_mod (callB (pe_callTy call_int1 rfl T.b_int boot_int (sa_cons (se_var (pv 3)) sa_nil)) re_int) (callB (pe_callB call_lenA rfl T.b_len boot_len (sa_cons (se_ix rfl (se_var (pv 0)) se_int (fun _ _ => rfl)) sa_nil)) (re_len rfl))) (fun _ _ => rfl))))) sb_nil)
      (sb_cons (ss_if (st_w (sw_and (st_cmp op_ltA re_lt (se_var (pv 3)) (callB (pe_callB call_lenA rfl T.b_len boot_len (sa_cons (se_ix rfl (se_var (pv 0)) se_int (fun _ _ => rfl)) sa_nil)) (re_len rfl))) (sw_and1 (st_cmp op_ge re_ge (callB (pe_callB call_abs rfl T.b_abs (by decide +kernel) (sa_cons (se_var (pv 4)) sa_nil)) re_abs) (se_op op_pow re_pow se_int se_int))))) (sb_cons (ss_set (ps_set (i := 2) sc__law_draw.nd rfl (.inl rfl) (se_op op_addA (re_add rfl) (se_op op_mul re_mul se_int (se_op op_sub re_sub (callB (pe_callB call_abs rfl T.b_abs (by decide +kernel) (sa_cons (se_var (pv 4)) sa_nil)) re_abs) (se_op op_pow re_pow se_int se_int))) (callB (pe_callTy call_int1 rfl T.b_int boot_int (sa_cons (se_cmp op_ltA re_lt (se_var (pv 4)) se_int) sa_nil)) re_int))))
      (sb_cons (ss_sub (ps_asg (se_op op_fdivN re_div (callB (pe_callTy call_int1 rfl T.b_int boot_int (sa_cons (se_var (pv 2)) sa_nil)) re_int) (se_var (pv 1))) (pg_sub (se_var (pv 0)) se_int (set_A hr.u1))))
      (sb_one (ss_ret (se_op op_modN re_mod (callB (pe_callTy call_int1 rfl T.b_int boot_int (sa_cons (se_var (pv 2)) sa_nil)) re_int) (se_var (pv 1))))))) sb_nil)
      (sb_cons (ss_set (ps_set (i := 5) sc__law_draw.nd rfl (.inl rfl) (se_op op_modN re_mod (callB (pe_callTy call_int1 rfl T.b_int boot_int (sa_cons (se_op op_addA (re_add rfl) (se_op op_addA (re_add rfl) (se_op op_mul re_mul (se_op op_modN re_mod (callB (pe_callTy call_int1 rfl T.b_int boot_int (sa_cons (se_var (pv 4)) sa_nil)) re_int) se_int) se_int) (se_op op_mul re_mul (se_var (pv 3)) se_int)) se_int) sa_nil)) re_int) se_int)))
      (sb_cons (ss_set (ps_set (i := 5) sc__law_draw.nd rfl (.inl rfl) (se_op op_modN re_mod (callB (pe_callTy call_int1 rfl T.b_int boot_int (sa_cons (se_op op_addA (re_add rfl) (se_op op_addA (re_add rfl) (se_op op_mul re_mul (se_var (pv 5)) (se_var (pv 5))) (se_op op_mul re_mul (se_var (pv 3)) se_int)) se_int) sa_nil)) re_int) se_int)))
      (sb_cons (ss_set (ps_set (i := 5) sc__law_draw.nd rfl (.inl rfl) (se_op op_modN re_mod (callB (pe_callTy call_int1 rfl T.b_int boot_int (sa_cons (se_op op_addA (re_add rfl) (se_op op_mul re_mul (se_op op_mul re_mul (se_var (pv 5)) (se_var (pv 5))) se_int) (se_var (pv 5))) sa_nil)) re_int) se_int)))
      (sb_one (ss_ret (se_op op_modN re_mod (callB (pe_callTy call_int1 rfl T.b_int boot_int (sa_cons (se_op op_fdivN re_div (se_var (pv 5)) se_int) sa_nil)) re_int) (se_var (pv 1))))))))))))))))
theorem d__law_draw (T : Txt c mg base P w) : Def P w c.K mg base c 1 "_law_draw" ["pen", "many"] m__law_draw := by
  obtain ⟨fd, F⟩ := T.f__law_draw
  exact ⟨⟨fd, o__law_draw T F, F.bindsN fun _ _ _ _ _ _ us hl => match us, hl with | [_, _], _ => rfl⟩, T.m__law_draw, F.kp⟩
abbrev N__law_pick : List Str := ["pen", "some"]
theorem sc__law_pick : FnScope N__law_pick ["pen", "some"] (defScope st__law_pick) := ⟨rfl, rfl, rfl, by decide +kernel, rfl, by decide +kernel, by decide +kernel⟩
theorem o__law_pick (T : Txt c mg base P w) {fd : FuncData} (F : FunD c.K "_law_pick" "_law_pick" (defArgs st__law_pick) (defBody st__law_pick) (defScope st__law_pick) [] [] (He.ga c.K "_law_pick") fd) : FnOk P w c.K mg base (L2.CX P w) 2 (He.ga c.K "_law_pick") fd ["pen", "some"] (spM c m__law_pick) :=
  fn_ok rfl F sc__law_pick (fun cdv A outer sh H E hr => (sb_one (ss_ret (se_ix rfl (se_var (pv 1)) (se_call (d__law_draw T) (hr.mono (by decide)) (takes_of rfl rfl rfl rfl) rfl (sa_cons (se_var (pv 0)) (sa_cons (callB (pe_callB call_lenA rfl T.b_len boot_len (sa_cons (se_var (pv 1)) sa_nil)) (re_len rfl)) sa_nil))) (fun _ _ => rfl)))))
theorem d__law_pick (T : Txt c mg base P w) : Def P w c.K mg base c 2 "_law_pick" ["pen", "some"] m__law_pick := by
  obtain ⟨fd, F⟩ := T.f__law_pick
  exact ⟨⟨fd, o__law_pick T F, F.bindsN fun _ _ _ _ _ _ us hl => match us, hl with | [_, _], _ => rfl⟩, T.m__law_pick, F.kp⟩
abbrev N__law_word_of : List Str := ["caught", "some", "word", "is_one"]
theorem sc__law_word_of : FnScope N__law_word_of ["caught"] (defScope st__law_word_of) := ⟨rfl, rfl, rfl, by decide +kernel, rfl, by decide +kernel, by decide +kernel⟩
theorem o__law_word_of (T : Txt c mg base P w) {fd : FuncData} (F : FunD c.K "_law_word_of" "_law_word_of" (defArgs st__law_word_of) (defBody st__law_word_of) (defScope st__law_word_of) [] [] (He.ga c.K "_law_word_of") fd) : FnOk P w c.K mg base (L2.CX P w) 1 (He.ga c.K "_law_word_of") fd ["caught"] (spM c m__law_word_of) :=
  fn_ok rfl F sc__law_word_of (fun cdv A outer sh H E hr => (sb_cons (ss_set (ps_set (i := 1) sc__law_word_of.nd rfl (.inl rfl) (se_new (sl_lst (sa_cons (se_tup (sa_cons se_str (sa_cons (se_isi1 (pe_callB (call_isiM rfl T.ki (isiW T.w_BadValue)) rfl T.b_isinstance (by decide +kernel) (pa_cons (se_var (pv 0)) (pa_cons (pe_glob (v := .ref (He.ga _ "BadValue")) rfl T.c_BadValue rfl) pa_nil)))) sa_nil))) (sa_cons (se_tup (sa_cons se_str (sa_cons (se_isi1 (pe_callB (call_isiM rfl T.ki (isiW T.w_BadNumber)) rfl T.b_isinstance (by decide +kernel) (pa_cons (se_var (pv 0)) (pa_cons (pe_glob (v := .ref (He.ga _ "BadNumber")) rfl T.c_BadNumber rfl) pa_nil)))) sa_nil))) (sa_cons (se_tup (sa_cons se_str (sa_cons (se_isi1 (pe_callB (call_isiM rfl T.ki (isiW T.w_BadRatio)) rfl T.b_isinstance (by decide +kernel) (pa_cons (se_var (pv 0)) (pa_cons (pe_glob (v := .ref (He.ga _ "BadRatio")) rfl T.c_BadRatio rfl) pa_nil)))) sa_nil))) (sa_cons (se_tup (sa_cons se_str (sa_cons (se_isi1 (pe_callB (call_isiM rfl T.ki (isiW T.w_BadName)) rfl T.b_isinstance (by decide +kernel) (pa_cons (se_var (pv 0)) (pa_cons (pe_glob (v := .ref (He.ga _ "BadName")) rfl T.c_BadName rfl) pa_nil)))) sa_nil))) sa_nil))))))))
      (sb_cons (ss_set (ps_set (i := 1) sc__law_word_of.nd rfl (.inl rfl) (se_new (sl_cat (se_var (pv 1)) (se_new (sl_lst (sa_cons (se_tup (sa_cons se_str (sa_cons (se_isi1 (pe_callB (call_isiM rfl T.ki (isiW T.w_BadLayer)) rfl T.b_isinstance (by decide +kernel) (pa_cons (se_var (pv 0)) (pa_cons (pe_glob (v := .ref (He.ga _ "BadLayer")) rfl T.c_BadLayer rfl) pa_nil)))) sa_nil))) (sa_cons (se_tup (sa_cons se_str (sa_cons (se_isi1 (pe_callB (call_isiM rfl T.ki (isiW T.w_BadDeal)) rfl T.b_isinstance (by decide +kernel) (pa_cons (se_var (pv 0)) (pa_cons (pe_glob (v := .ref (He.ga _ "BadDeal")) rfl T.c_BadDeal rfl) pa_nil)))) sa_nil))) (sa_cons (se_tup (sa_cons se_str (sa_cons (se_isi1 (pe_callB (call_isiM rfl T.ki (isiW T.w_BadKinds)) rfl T.b_isinstance (by decide +kernel) (pa_cons (se_var (pv 0)) (pa_cons (pe_glob (v := .ref (He.ga _ "BadKinds")) rfl T.c_BadKinds rfl) pa_nil)))) sa_nil))) (sa_cons (se_tup (sa_cons se_str (sa_cons (se_isi1 (pe_callB (call_isiM rfl T.ki (isiW T.w_BadCrowd)) rfl T.b_isinstance (by decide +kernel) (pa_cons (se_var (pv 0)) (pa_cons (pe_glob (v := .ref (He.ga _ "BadCrowd")) rfl T.c_BadCrowd rfl) pa_nil)))) sa_nil))) sa_nil))))))))))
      (sb_cons (ss_set (ps_set (i := 1) sc__law_word_of.nd rfl (.inl rfl) (se_new (sl_cat (se_var (pv 1)) (se_new (sl_lst (sa_cons (se_tup (sa_cons se_str (sa_cons (se_isi1 (pe_callB (call_isiM rfl T.ki (isiW T.w_BadSight)) rfl T.b_isinstance (by decide +kernel) (pa_cons (se_var (pv 0)) (pa_cons (pe_glob (v := .ref (He.ga _ "BadSight")) rfl T.c_BadSight rfl) pa_nil)))) sa_nil))) (sa_cons (se_tup (sa_cons se_str (sa_cons (se_isi1 (pe_callB (call_isiM rfl T.ki (isiW T.w_BadClaims)) rfl T.b_isinstance (by decide +kernel) (pa_cons (se_var (pv 0)) (pa_cons (pe_glob (v := .ref (He.ga _ "BadClaims")) rfl T.c_BadClaims rfl) pa_nil)))) sa_nil))) (sa_cons (se_tup (sa_cons se_str (sa_cons (se_isi1 (pe_callB (call_isiM rfl T.ki (isiW T.w_BadTrial)) rfl T.b_isinstance (by decide +kernel) (pa_cons (se_var (pv 0)) (pa_cons (pe_glob (v := .ref (He.ga _ "BadTrial")) rfl T.c_BadTrial rfl) pa_nil)))) sa_nil))) (sa_cons (se_tup (sa_cons se_str (sa_cons (se_isi1 (pe_callB (call_isiM rfl T.ki (isiW T.w_BadRule)) rfl T.b_isinstance (by decide +kernel) (pa_cons (se_var (pv 0)) (pa_cons (pe_glob (v := .ref (He.ga _ "BadRule")) rfl T.c_BadRule rfl) pa_nil)))) sa_nil))) sa_nil))))))))))
      (sb_cons (ss_set (ps_set (i := 1) sc__law_word_of.nd rfl (.inl rfl) (se_new (sl_cat (se_var (pv 1)) (se_new (sl_lst (sa_cons (se_tup (sa_cons se_str (sa_cons (se_isi1 (pe_callB (call_isiM rfl T.ki (isiW T.w_BadWorld)) rfl T.b_isinstance (by decide +kernel) (pa_cons (se_var (pv 0)) (pa_cons (pe_glob (v := .ref (He.ga _ "BadWorld")) rfl T.c_BadWorld rfl) pa_nil)))) sa_nil))) (sa_cons (se_tup (sa_cons se_str (sa_cons (se_isi1 (pe_callB (call_isiM rfl T.ki (isiW T.w_BadPaper)) rfl T.b_isinstance (by decide +kernel) (pa_cons (se_var (pv 0)) (pa_cons (pe_glob (v := .ref (He.ga _ "BadPaper")) rfl T.c_BadPaper rfl) pa_nil)))) sa_nil))) (sa_cons (se_tup (sa_cons se_str (sa_cons (se_isi1 (pe_callB (call_isiM rfl T.ki (isiW T.w_Misfit)) rfl T.b_isinstance (by decide +kernel) (pa_cons (se_var (pv 0)) (pa_cons (pe_glob (v := .ref (He.ga _ "Misfit")) rfl T.c_Misfit rfl) pa_nil)))) sa_nil))) sa_nil)))))))))
      (sb_one (ss_ret (se_tup (sa_cons (se_ix rfl (se_new (sl_cat (se_new (sl_comp (pe_lc (own := [("word", 2), ("is_one", 3)]) rfl sc__law_word_of.nd (si_d rfl (se_var (pv 1))) (blkOk_by (N := N__law_word_of) (sc := defScope st__law_word_of) (by decide +kernel)) (fun _ _ _ _ _ => (sgv_tup rfl rfl (sgvs_cons (sgv_name (by decide) (pg_name (i := 2) sc__law_word_of.nd rfl (.inl rfl))) (sgvs_cons (sgv_name (by decide) (pg_name (i := 3) sc__law_word_of.nd rfl (.inl rfl))) sgvs_nil)))) (fun _ _ _ _ _ => (sts_one (st_val (se_var (pv 3))))) (fun _ _ _ _ _ => (se_var (pv 2)))))) (se_new (sl_lst (sa_cons se_str sa_nil))))) se_int (fun _ _ => rfl)) (sa_cons (se_xf rfl T.x_part (se_var (pv 0))) sa_nil))))))))))
theorem d__law_word_of (T : Txt c mg base P w) : Def P w c.K mg base c 1 "_law_word_of" ["caught"] m__law_word_of := by
  obtain ⟨fd, F⟩ := T.f__law_word_of
  exact ⟨⟨fd, o__law_word_of T F, F.bindsN fun _ _ _ _ _ _ us hl => match us, hl with | [_], _ => rfl⟩, T.m__law_word_of, F.kp⟩
abbrev N__law_caught : List Str := ["ask", "caught", "found", "error"]
theorem sc__law_caught : FnScope N__law_caught ["ask"] (defScope st__law_caught) := ⟨rfl, rfl, rfl, by decide +kernel, rfl, by decide +kernel, by decide +kernel⟩
theorem d__law_caught (T : Txt c mg base P w) : CatD c.K mg base P w c "_law_caught" 1 (defArgs st__law_caught) (defBody st__law_caught) (defScope st__law_caught) errs m__law_caught := by
  obtain ⟨fd, F⟩ := T.f__law_caught
  exact ⟨⟨fd, F, F.bindsN fun _ _ _ _ _ _ us hl => match us, hl with | [_], _ => rfl⟩, T.m__law_caught, F.kp, sc__law_caught, rfl, rfl, rfl, rfl, rfl, T.c_TrialError, T.ex, ⟨_, .Pass ⟨0, 0, 0, 0⟩, _, _, _, _, _, _, _, _, _, rfl,
    fun _ _ _ _ _ => ps_asg (pe_tup (pa_cons pe_non (pa_cons pe_non pa_nil))) (pg_tup rfl (pgs_cons (pg_name sc__law_caught.nd rfl (.inl rfl)) (pgs_cons (pg_name sc__law_caught.nd rfl (.inl rfl)) pgs_nil))),
    fun _ _ _ _ _ _ _ => ps_set (i := 1) sc__law_caught.nd rfl (.inl rfl) (pv 3),
    fun cdg A outer s H hr => (sb_cons (ss_if (st_cmp op_isN re_isN (se_var (pv 1)) se_non) (sb_one (ss_ret (se_new (sl_lst (sa_cons (se_var (pv 2)) sa_nil))))) sb_nil)
      (sb_cons (ss_if (st_val (se_isi1 (pe_callB (call_isiM rfl T.ki (isiW T.w_TooMany)) rfl T.b_isinstance (by decide +kernel) (pa_cons (se_var (pv 1)) (pa_cons (pe_glob (v := .ref (He.ga _ "TooMany")) rfl T.c_TooMany rfl) pa_nil))))) (sb_one (ss_ret (se_tup (sa_cons se_str (sa_cons (se_xf rfl T.x_what (se_var (pv 1))) (sa_cons (se_xf rfl T.x_most (se_var (pv 1))) sa_nil)))))) sb_nil)
      (sb_cons (ss_if (st_val (se_isi1 (pe_callB (call_isiM rfl T.ki (isiW T.w_BadText)) rfl T.b_isinstance (by decide +kernel) (pa_cons (se_var (pv 1)) (pa_cons (pe_glob (v := .ref (He.ga _ "BadText")) rfl T.c_BadText rfl) pa_nil))))) (sb_one (ss_ret (se_tup (sa_cons se_str (sa_cons (se_xf rfl T.x_line (se_var (pv 1))) (sa_cons (se_xf rfl T.x_word (se_var (pv 1))) sa_nil)))))) sb_nil)
      (sb_cons (ss_if (st_val (se_isi1 (pe_callB (call_isiM rfl T.ki (isiW T.w_BadLog)) rfl T.b_isinstance (by decide +kernel) (pa_cons (se_var (pv 1)) (pa_cons (pe_glob (v := .ref (He.ga _ "BadLog")) rfl T.c_BadLog rfl) pa_nil))))) (sb_one (ss_ret (se_tup (sa_cons se_str (sa_cons (se_xf rfl T.x_index (se_var (pv 1))) sa_nil))))) sb_nil)
      (sb_cons (ss_if (st_val (se_isi1 (pe_callB (call_isiM rfl T.ki (isiW T.w_BadLine)) rfl T.b_isinstance (by decide +kernel) (pa_cons (se_var (pv 1)) (pa_cons (pe_glob (v := .ref (He.ga _ "BadLine")) rfl T.c_BadLine rfl) pa_nil))))) (sb_one (ss_ret (se_tup (sa_cons se_str (sa_cons (se_xf rfl T.x_word (se_var (pv 1))) sa_nil))))) sb_nil)
      (sb_cons (ss_if (st_val (se_isi1 (pe_callB (call_isiM rfl T.ki (isiW T.w_NoName)) rfl T.b_isinstance (by decide +kernel) (pa_cons (se_var (pv 1)) (pa_cons (pe_glob (v := .ref (He.ga _ "NoName")) rfl T.c_NoName rfl) pa_nil))))) (sb_one (ss_ret (se_tup (sa_cons se_str (sa_cons (se_xf rfl T.x_value (se_var (pv 1))) sa_nil))))) sb_nil)
      (sb_cons (ss_if (st_val (se_isi1 (pe_callB (call_isiM rfl T.ki (isiW T.w_Nothing)) rfl T.b_isinstance (by decide +kernel) (pa_cons (se_var (pv 1)) (pa_cons (pe_glob (v := .ref (He.ga _ "Nothing")) rfl T.c_Nothing rfl) pa_nil))))) (sb_one (ss_ret (se_tup (sa_cons se_str (sa_cons (se_xf rfl T.x_what (se_var (pv 1))) sa_nil))))) sb_nil)
      (sb_one (ss_ret (se_call (d__law_word_of T) (hr.mono (by decide)) takes0 rfl (sa_cons (se_var (pv 1)) sa_nil))))))))))),
    fun _ _ _ _ _ _ _ _ h => ps_set (i := 2) sc__law_caught.nd rfl (.inl rfl) h⟩⟩
abbrev N__law_spot : List Str := ["salt", "name", "spots", "told", "at", "sign", "value", "here"]
theorem sc__law_spot : FnScope N__law_spot ["salt", "name", "spots"] (defScope st__law_spot) := ⟨rfl, rfl, rfl, by decide +kernel, rfl, by decide +kernel, by decide +kernel⟩
theorem o__law_spot (T : Txt c mg base P w) {fd : FuncData} (F : FunD c.K "_law_spot" "_law_spot" (defArgs st__law_spot) (defBody st__law_spot) (defScope st__law_spot) [] [] (He.ga c.K "_law_spot") fd) : FnOk P w c.K mg base (L2.CX P w) 1 (He.ga c.K "_law_spot") fd ["salt", "name", "spots"] (spM c m__law_spot) :=
  fn_ok rfl F sc__law_spot (fun cdv A outer sh H E hr => (sb_cons (ss_set (ps_set (i := 3) sc__law_spot.nd rfl (.inl rfl) (se_disp (pps_cons se_str se_int pps_nil) rfl rfl (by simp) (by decide) (by decide))))
      (sb_cons (ss_for (passes_of rfl) rfl (si_en rfl rfl T.b_enumerate se_str) (sg_tup rfl rfl (sgs_cons (sg_name (pg_name (i := 4) sc__law_spot.nd rfl (.inl rfl))) (sgs_cons (sg_name (pg_name (i := 5) sc__law_spot.nd rfl (.inl rfl))) sgs_nil))) (sb_one (ss_sub (ps_asg (se_op op_addA (re_add rfl) (se_var (pv 4)) se_int) (pg_sub (se_var (pv 3)) (se_var (pv 5)) (set_A hr.u1))))))
      (sb_cons (ss_set (ps_set (i := 6) sc__law_spot.nd rfl (.inl rfl) se_int))
      (sb_cons (ss_for (passes_of rfl) rfl (si_d rfl (se_op op_addA (re_add rfl) (se_op op_addA (re_add rfl) (se_var (pv 0)) se_str) (se_var (pv 1)))) (sg_name (pg_name (i := 5) sc__law_spot.nd rfl (.inl rfl))) (sb_cons (ss_set (ps_set (i := 7) sc__law_spot.nd rfl (.inl rfl) (se_op op_addA (re_add rfl) (se_op op_mul re_mul (se_var (pv 6)) se_int) (se_key hr.u1 (se_var (pv 3)) (se_var (pv 5)) (fun _ _ => rfl)))))
      (sb_one (ss_set (ps_set (i := 6) sc__law_spot.nd rfl (.inl rfl) (se_op op_modN re_mod (se_op op_mul re_mul (se_var (pv 7)) (se_var (pv 7))) se_int))))))
      (sb_one (ss_ret (se_op op_modN re_mod (se_op op_fdivN re_div (se_var (pv 6)) se_int) (se_var (pv 2))))))))))
theorem d__law_spot (T : Txt c mg base P w) : Def P w c.K mg base c 1 "_law_spot" ["salt", "name", "spots"] m__law_spot := by
  obtain ⟨fd, F⟩ := T.f__law_spot
  exact ⟨⟨fd, o__law_spot T F, F.bindsN fun _ _ _ _ _ _ us hl => match us, hl with | [_, _, _], _ => rfl⟩, T.m__law_spot, F.kp⟩
abbrev N__law_name : List Str := ["pen", "letters", "rest", "turn"]
theorem sc__law_name : FnScope N__law_name ["pen"] (defScope st__law_name) := ⟨rfl, rfl, rfl, by decide +kernel, rfl, by decide +kernel, by decide +kernel⟩
theorem o__law_name (T : Txt c mg base P w) {fd : FuncData} (F : FunD c.K "_law_name" "_law_name" (defArgs st__law_name) (defBody st__law_name) (defScope st__law_name) [] [] (He.ga c.K "_law_name") fd) : FnOk P w c.K mg base (L2.CX P w) 3 (He.ga c.K "_law_name") fd ["pen"] (spM c m__law_name) :=
  fn_ok rfl F sc__law_name (fun cdv A outer sh H E hr => (sb_cons (ss_set (ps_set (i := 1) sc__law_name.nd rfl (.inr rfl) se_str))
      (sb_cons (ss_set (ps_set (i := 2) sc__law_name.nd rfl (.inl rfl) (se_join rfl se_str (se_new (sl_comp (pe_lc (own := [("turn", 3)]) rfl sc__law_name.nd (si_range1 rfl T.b_range (sa_cons (se_call (d__law_draw T) (hr.mono (by decide)) (takes_of rfl rfl rfl rfl) rfl (sa_cons (se_var (pv 0)) (sa_cons se_int sa_nil))) sa_nil)) (blkOk_by (N := N__law_name) (sc := defScope st__law_name) (by decide +kernel)) (fun _ _ _ _ _ => (sgv_name (by decide) (pg_name (i := 3) sc__law_name.nd rfl (.inl rfl)))) (fun _ _ _ _ _ => sts_nil) (fun _ _ _ _ _ => (se_call (d__law_pick T) (hr.mono (by decide)) takes0 rfl (sa_cons (se_var (pv 0)) (sa_cons (se_op op_addA (re_add rfl) (se_var (pv 1)) se_str) sa_nil))))))))))
      (sb_one (ss_ret (se_op op_addA (re_add rfl) (se_call (d__law_pick T) (hr.mono (by decide)) (takes_of rfl rfl rfl rfl) rfl (sa_cons (se_var (pv 0)) (sa_cons (se_var (pv 1)) sa_nil))) (se_var (pv 2))))))))
theorem d__law_name (T : Txt c mg base P w) : Def P w c.K mg base c 3 "_law_name" ["pen"] m__law_name := by
  obtain ⟨fd, F⟩ := T.f__law_name
  exact ⟨⟨fd, o__law_name T F, F.bindsN fun _ _ _ _ _ _ us hl => match us, hl with | [_], _ => rfl⟩, T.m__law_name, F.kp⟩
theorem kkw_spot_0_spots_name_salt : KeepsG (fun a b => gkw_spot_0_spots_name_salt a b) := by
  intro K H φ ds es vs ws h1 h2
  have l1 := h1.length
  have l2 := h2.length
  show Dens K H φ (gkw_spot_0_spots_name_salt ds es) (gkw_spot_0_spots_name_salt vs ws)
  unfold gkw_spot_0_spots_name_salt
  split
  · cases h1; obtain _ | ⟨k0, h2'⟩ := h2; obtain _ | ⟨k1, h2''⟩ := h2'; obtain _ | ⟨k2, h2'''⟩ := h2''; cases h2'''; exact .cons k2 (.cons k1 (.cons k0 .nil))
  · rename_i hne
    split
    · match ds, es, l1, l2 with | [], [y0, y1, y2], _, _ => exact (hne y0 y1 y2 rfl rfl).elim
    · exact .nil
theorem rkw_spot_0_spots_name_salt {vs zs : List V} {us ws : List Value} (h1 : L2.Vals vs us) (h2 : L2.Vals zs ws) : L2.Vals (gkw_spot_0_spots_name_salt vs zs) (gkw_spot_0_spots_name_salt us ws) := by
  have l1 := h1.length
  have l2 := h2.length
  unfold gkw_spot_0_spots_name_salt
  split
  · cases h1; obtain _ | ⟨k0, h2'⟩ := h2; obtain _ | ⟨k1, h2''⟩ := h2'; obtain _ | ⟨k2, h2'''⟩ := h2''; cases h2'''; exact .cons k2 (.cons k1 (.cons k0 .nil))
  · rename_i hne
    split
    · match vs, zs, l1, l2 with | [], [y0, y1, y2], _, _ => exact (hne y0 y1 y2 rfl rfl).elim
    · exact .nil
theorem dkw_spot_0_spots_name_salt (T : Txt c mg base P w) : DefK P w c.K mg base c 4 "spot" ["salt", "name", "spots"] ["spots", "name", "salt"] (fun a b => gkw_spot_0_spots_name_salt a b) m_spot := by
  obtain ⟨fd, F⟩ := T.f_spot
  refine ⟨⟨fd, o_spot T F, ⟨fun s us ws kin hl => ?_, rkw_spot_0_spots_name_salt⟩⟩, T.m_spot, F.kp⟩
  obtain ⟨oc, od, dV, kV, doc, pm, an, cdv, ct, osl, rfl, lk, hcd, hD, hK⟩ := F.ex
  rcases hD with ⟨_, rfl⟩ | ⟨e, _⟩
  · unfold gkw_spot_0_spots_name_salt at hl ⊢
    split at hl
    · exact .of_eq rfl
    · cases hl
  · exact absurd rfl e
abbrev N_law : List Str := ["script", "pen", "turn", "salt", "name", "spots", "fun", "odd", "bad", "none", "heard"]
theorem sc_law : FnScope N_law ["script"] (defScope st_law) := ⟨rfl, rfl, rfl, by decide +kernel, rfl, by decide +kernel, by decide +kernel⟩
theorem o_law (T : Txt c mg base P w) {fd : FuncData} (F : FunD c.K "law" "law" (defArgs st_law) (defBody st_law) (defScope st_law) [] [] (He.ga c.K "law") fd) {cd tP : Addr} (TF : LamF base mg c "law" fd cd tP) : FnOk P w c.K mg base (L2.CX P w) 7 (He.ga c.K "law") fd ["script"] (spM c m_law) :=
  fn_okL rfl F sc_law (fun A outer sh H E hr => (sb_cons (ss_set (ps_set (i := 1) sc_law.nd rfl (.inl rfl) (se_call (d__law_pen T) (hr.mono (by decide)) (takes_of rfl rfl rfl rfl) rfl (sa_cons (se_var (pv 0)) sa_nil))))
      (sb_cons (ss_for (passes_of rfl) rfl (si_range1 rfl T.b_range (sa_cons se_int sa_nil)) (sg_name (pg_name (i := 2) sc_law.nd rfl (.inl rfl))) (sb_cons (ss_par3 (ps_par3 (i := 3) (j := 4) (l := 5) rfl sc_law.nd rfl rfl rfl (by decide) (by decide) (by decide) rfl rfl rfl (sa_cons (se_call (d__law_name T) (hr.mono (by decide)) (takes_of rfl rfl rfl rfl) rfl (sa_cons (se_var (pv 1)) sa_nil)) (sa_cons (se_call (d__law_name T) (hr.mono (by decide)) (takes_of rfl rfl rfl rfl) rfl (sa_cons (se_var (pv 1)) sa_nil)) (sa_cons (se_op op_addA (re_add rfl) se_int (se_call (d__law_draw T) (hr.mono (by decide)) (takes_of rfl rfl rfl rfl) rfl (sa_cons (se_var (pv 1)) (sa_cons se_int sa_nil)))) sa_nil))) rfl))
      (sb_one (ss_if (st_w (sw_or (st_cmp (op_neD hr.units) (re_ne rfl) (se_call (d_spot T) (hr.mono (by decide)) (takes_of rfl rfl rfl rfl) rfl (sa_cons (se_var (pv 3)) (sa_cons (se_var (pv 4)) (sa_cons (se_var (pv 5)) sa_nil)))) (se_call (d__law_spot T) (hr.mono (by decide)) (takes_of rfl rfl rfl rfl) rfl (sa_cons (se_var (pv 3)) (sa_cons (se_var (pv 4)) (sa_cons (se_var (pv 5)) sa_nil))))) (sw_or (st_cmp (op_neD hr.units) (re_ne rfl) (se_callK0 (dkw_spot_0_spots_name_salt T) kkw_spot_0_spots_name_salt (hr.mono (by decide)) (takes_of rfl rfl rfl rfl) rfl (sk_cons (se_var (pv 5)) (sk_cons (se_var (pv 4)) (sk_cons (se_var (pv 3)) sk_nil)))) (se_call (d__law_spot T) (hr.mono (by decide)) (takes_of rfl rfl rfl rfl) rfl (sa_cons (se_var (pv 3)) (sa_cons (se_var (pv 4)) (sa_cons (se_var (pv 5)) sa_nil))))) (sw_or1 (st_not (st_chain op_le re_le op_ltA re_lt se_int (se_call (d_spot T) (hr.mono (by decide)) (takes_of rfl rfl rfl rfl) rfl (sa_cons (se_var (pv 3)) (sa_cons (se_var (pv 4)) (sa_cons (se_var (pv 5)) sa_nil)))) (se_var (pv 5)))))))) (sb_one (ss_ret se_bl)) sb_nil))))
      (sb_cons (ss_set (ps_set (i := 6) sc_law.nd rfl (.inl rfl) (se_lam TF.tb TF.code TF.mem TF.one (lamN_by (N := N_law) (sc := defScope st_law) (by decide +kernel)) (lays0 rfl))))
      (sb_cons (ss_for (passes_of rfl) rfl (si_range1 rfl T.b_range (sa_cons se_int sa_nil)) (sg_name (pg_name (i := 2) sc_law.nd rfl (.inl rfl))) (sb_cons (ss_asg (se_tup (sa_cons (se_call (d__law_pick T) (hr.mono (by decide)) (takes_of rfl rfl rfl rfl) rfl (sa_cons (se_var (pv 1)) (sa_cons (se_new (sl_lst (sa_cons se_non (sa_cons se_int (sa_cons se_str (sa_cons se_str (sa_cons se_str (sa_cons se_str (sa_cons se_str (sa_cons (se_new (sl_lst (sa_cons se_str sa_nil))) (sa_cons se_bl (sa_cons (se_var (pv 6)) sa_nil)))))))))))) sa_nil))) (sa_cons (se_call (d__law_pick T) (hr.mono (by decide)) (takes_of rfl rfl rfl rfl) rfl (sa_cons (se_var (pv 1)) (sa_cons (se_new (sl_lst (sa_cons se_non (sa_cons se_str (sa_cons se_str (sa_cons se_str (sa_cons se_int (sa_cons (se_tup sa_nil) sa_nil)))))))) sa_nil))) (sa_cons (se_call (d__law_pick T) (hr.mono (by decide)) (takes_of rfl rfl rfl rfl) rfl (sa_cons (se_var (pv 1)) (sa_cons (se_new (sl_lst (sa_cons se_int (sa_cons se_int (sa_cons (se_un un_neg re_neg se_int) (sa_cons se_bl (sa_cons se_non (sa_cons se_str (sa_cons (se_op op_pow re_pow se_int se_int) sa_nil))))))))) sa_nil))) sa_nil)))) (sg_tup rfl rfl (sgs_cons (sg_name (pg_name (i := 7) sc_law.nd rfl (.inr rfl))) (sgs_cons (sg_name (pg_name (i := 8) sc_law.nd rfl (.inr rfl))) (sgs_cons (sg_name (pg_name (i := 9) sc_law.nd rfl (.inr rfl))) sgs_nil)))))
      (sb_cons (ss_set (ps_set (i := 10) sc_law.nd rfl (.inl rfl) (se_new (sl_lst (sa_cons (se_caught (k := 4) rfl ((d__law_caught T).mono (by decide)) rfl TF.tb TF.code TF.mem TF.one (hr.mono (by decide)) (lamN_by (N := N_law) (sc := defScope st_law) (by decide +kernel)) ⟨(by intro y hy; cases hy), fun _ _ _ _ _ _ _ => rfl, (by intro a1 h; cases h)⟩ (lays0 rfl) (fun A outer s H E' f c' hr => (se_call (d_spot T) (hr.mono (by decide)) (takes_of rfl rfl rfl rfl) rfl (sa_cons (se_var (pv 7)) (sa_cons (se_var (pv 8)) (sa_cons (se_var (pv 9)) sa_nil)))))) (sa_cons (se_caught (k := 4) rfl ((d__law_caught T).mono (by decide)) rfl TF.tb TF.code TF.mem TF.one (hr.mono (by decide)) (lamN_by (N := N_law) (sc := defScope st_law) (by decide +kernel)) ⟨(by intro y hy; rw [List.mem_singleton.mp hy]; rfl), (by intro h; cases h), (by intro a1 h; cases h; exact fun _ _ _ _ _ _ _ => ⟨_, rfl, fun u => rfl⟩)⟩ (lays1 (a1 := "a1") rfl) (fun A outer s H E' f c' hr => (se_call (d_spot T) (hr.mono (by decide)) (takes_of rfl rfl rfl rfl) rfl (sa_cons se_str (sa_cons (se_var (pv 8)) (sa_cons (se_var (pv 9)) sa_nil)))))) (sa_cons (se_caught (k := 4) rfl ((d__law_caught T).mono (by decide)) rfl TF.tb TF.code TF.mem TF.one (hr.mono (by decide)) (lamN_by (N := N_law) (sc := defScope st_law) (by decide +kernel)) ⟨(by intro y hy; rw [List.mem_singleton.mp hy]; rfl), (by intro h; cases h), (by intro a1 h; cases h; exact fun _ _ _ _ _ _ _ => ⟨_, rfl, fun u => rfl⟩)⟩ (lays1 (a1 := "a2") rfl) (fun A outer s H E' f c' hr => (se_call (d_spot T) (hr.mono (by decide)) (takes_of rfl rfl rfl rfl) rfl (sa_cons se_str (sa_cons se_str (sa_cons (se_var (pv 9)) sa_nil)))))) sa_nil)))))))
      (sb_one (ss_if (st_cmp (op_neD hr.units) (re_ne rfl) (se_var (pv 10)) (se_new (sl_lst (sa_cons (se_tup (sa_cons se_str (sa_cons se_str sa_nil))) (sa_cons (se_tup (sa_cons se_str (sa_cons se_str sa_nil))) (sa_cons (se_tup (sa_cons se_str (sa_cons se_str sa_nil))) sa_nil)))))) (sb_one (ss_ret se_bl)) sb_nil)))))
      (sb_one (ss_ret (se_and (se_cmp (op_eqD hr.units) (re_eq rfl) (se_call (d_spot T) (hr.mono (by decide)) (takes_of rfl rfl rfl rfl) rfl (sa_cons se_str (sa_cons se_str (sa_cons se_int sa_nil)))) se_int) (se_one (se_cmp (op_eqD hr.units) (re_eq rfl) (se_call (d_spot T) (hr.mono (by decide)) (takes_of rfl rfl rfl rfl) rfl (sa_cons se_str (sa_cons se_str (sa_cons se_int sa_nil)))) (se_call (d__law_spot T) (hr.mono (by decide)) (takes_of rfl rfl rfl rfl) rfl (sa_cons se_str (sa_cons se_str (sa_cons se_int sa_nil))))))))))))))
theorem d_law (T : Txt c mg base P w) : Def P w c.K mg base c 7 "law" ["script"] m_law := by
  obtain ⟨fd, cd, tP, F, TF⟩ := T.l_law
  exact ⟨⟨fd, o_law T F TF, F.bindsN fun _ _ _ _ _ _ us hl => match us, hl with | [_], _ => rfl⟩, T.m_law, F.kp⟩

end
end NM

set_option linter.all false
set_option maxRecDepth 100000
set_option maxHeartbeats 0
namespace NM
open PySem PySem.Spec PyProof.Rows L2 He
def dd_is_integer : DefD := ⟨("is_integer", none), "is_integer", "is_integer", defArgs st_is_integer, defBody st_is_integer, defScope st_is_integer, [], []⟩
def dd_is_between : DefD := ⟨("is_between", none), "is_between", "is_between", defArgs st_is_between, defBody st_is_between, defScope st_is_between, [], []⟩
def dd_is_name : DefD := ⟨("is_name", none), "is_name", "is_name", defArgs st_is_name, defBody st_is_name, defScope st_is_name, [], []⟩
def dd_value_of : DefD := ⟨("value_of", none), "value_of", "value_of", defArgs st_value_of, defBody st_value_of, defScope st_value_of, [], []⟩
def dd_mixed : DefD := ⟨("mixed", none), "mixed", "mixed", defArgs st_mixed, defBody st_mixed, defScope st_mixed, [], []⟩
def dd_spot_of : DefD := ⟨("spot_of", none), "spot_of", "spot_of", defArgs st_spot_of, defBody st_spot_of, defScope st_spot_of, [], []⟩
def dd_spot : DefD := ⟨("spot", none), "spot", "spot", defArgs st_spot, defBody st_spot, defScope st_spot, [], []⟩
def dd__law_pen : DefD := ⟨("_law_pen", none), "_law_pen", "_law_pen", defArgs st__law_pen, defBody st__law_pen, defScope st__law_pen, [], []⟩
def dd__law_draw : DefD := ⟨("_law_draw", none), "_law_draw", "_law_draw", defArgs st__law_draw, defBody st__law_draw, defScope st__law_draw, [], []⟩
def dd__law_pick : DefD := ⟨("_law_pick", none), "_law_pick", "_law_pick", defArgs st__law_pick, defBody st__law_pick, defScope st__law_pick, [], []⟩
def dd__law_word_of : DefD := ⟨("_law_word_of", none), "_law_word_of", "_law_word_of", defArgs st__law_word_of, defBody st__law_word_of, defScope st__law_word_of, [], []⟩
def dd__law_caught : DefD := ⟨("_law_caught", none), "_law_caught", "_law_caught", defArgs st__law_caught, defBody st__law_caught, defScope st__law_caught, [], []⟩
def dd__law_spot : DefD := ⟨("_law_spot", none), "_law_spot", "_law_spot", defArgs st__law_spot, defBody st__law_spot, defScope st__law_spot, [], []⟩
def dd__law_name : DefD := ⟨("_law_name", none), "_law_name", "_law_name", defArgs st__law_name, defBody st__law_name, defScope st__law_name, [], []⟩
def dd_law : DefD := ⟨("law", none), "law", "law", defArgs st_law, defBody st_law, defScope st_law, [], []⟩
def fnL : List DefD := [dd_is_integer, dd_is_between, dd_is_name, dd_value_of, dd_mixed, dd_spot_of, dd_spot, dd__law_pen, dd__law_draw, dd__law_pick, dd__law_word_of, dd__law_caught, dd__law_spot, dd__law_name, dd_law]
def fa0 : List Fa := [.int "BEGIN" 7, .int "FACTOR" 131, .str "FIRST_SIGNS" "abcdefghijklmnopqrstuvwxyz", .int "MODULUS" 1000003, .int "MOST_SIGNS" 8, .int "MOST_SPOTS" 64, .int "SHIFT" 16, .str "SIGNS" "abcdefghijklmnopqrstuvwxyz0123456789", .str "STROKE" "/", .free "abs", .free "all", .free "bool", .free "enumerate", .free "int", .free "isinstance", .free "len", .free "list", .free "range", .free "str", .glo "BadClaims", .glo "BadCrowd", .glo "BadDeal", .glo "BadKinds", .glo "BadLayer", .glo "BadLine", .glo "BadLog", .glo "BadName", .glo "BadNumber", .glo "BadPaper", .glo "BadRatio"]
def fa1 : List Fa := [.glo "BadRule", .glo "BadSight", .glo "BadText", .glo "BadTrial", .glo "BadValue", .glo "BadWorld", .glo "Misfit", .glo "NoName", .glo "Nothing", .glo "TooMany", .glo "TrialError", .glo "is_integer", .glo "is_between", .glo "is_name", .glo "value_of", .glo "mixed", .glo "spot_of", .glo "spot", .glo "_law_pen", .glo "_law_draw", .glo "_law_pick", .glo "_law_word_of", .glo "_law_caught", .glo "_law_spot", .glo "_law_name", .glo "law", .exm "BadName" "TrialError" true, .exm "BadNumber" "TrialError" true]
def faL : List Fa := fa0 ++ (fa1)
abbrev si_BadName : Stmt := inSt (top 12) 0
def ini_BadName : IniD := ⟨"BadName", ["part"], si_BadName⟩
abbrev si_BadNumber : Stmt := inSt (top 10) 0
def ini_BadNumber : IniD := ⟨"BadNumber", ["part"], si_BadNumber⟩
def isL : List IniD := [ini_BadName, ini_BadNumber]
def mainF : Str := PySem.Challenge.pw_nomatterwho_k01_spots_by_own_arithmetic.main.file
def vL : List Str := ["BadName", "BadNumber"]
def wL : List Str := ["BadClaims", "BadCrowd", "BadDeal", "BadKinds", "BadLayer", "BadLine", "BadLog", "BadName", "BadNumber", "BadPaper", "BadRatio", "BadRule", "BadSight", "BadText", "BadTrial", "BadValue", "BadWorld", "Misfit", "NoName", "Nothing", "TooMany"]
def xL : List Str := ["index", "line", "most", "part", "value", "what", "word"]
def cfK (K : PySem.W.Frag) : Cf := ⟨K, [((cT K ("law", none)).2, lamOf "law")], [], vL, wL⟩
def exB (K : PySem.W.Frag) : Bool := kiB (cfK K) && ((isL.all fun d => iniB K mainF d && (clsB K d.x && (oexB K (ga K d.x) && d.ps.all fun f => eqO (PySem.W.findIn K (.ref (ga K d.x)) f) (some none)))) && (vL.all fun x => xfB K (ga K x) && xL.all fun f => eqO (PySem.W.findIn K (.ref (ga K x)) f) (some none)))
def tfL : List Defn := [("law", none)]
abbrev RR : PySem.W.OpenRow := PySem.W.OpenLaw.row PySem.Challenge.rw_nomatterwho_k01_spots_by_own_arithmetic
abbrev hk : PySem.W.Hook := hookN 5 faL fnL tfL exB isL
def ob (s : PySem.W.SharedT) : AlN := obsN 5 faL fnL tfL exB isL (HandSHeadRun.getT s)
theorem ob_eq (s : PySem.W.SharedT) : ob s = hk.obs s.abs := obsN_eq (HandSHeadRun.getT_eq s)
def looseL : List PySem.Str := (["FIRST_SIGNS", "SIGNS", "MOST_SIGNS", "is_integer", "is_between", "is_name", "TrialError", "BadValue", "BadNumber", "BadRatio", "BadName", "BadLayer", "BadDeal", "BadKinds", "BadCrowd", "BadSight", "BadClaims", "BadTrial", "BadRule", "BadWorld", "BadPaper", "BadLog", "BadLine", "NoName", "Nothing", "Misfit", "BadText", "TooMany", "STROKE", "BEGIN"] : List PySem.Str) ++ (["FACTOR", "MODULUS", "SHIFT", "MOST_SPOTS", "value_of", "mixed", "spot_of", "spot", "_law_pen", "_law_draw", "_law_pick", "_law_caught", "_law_word_of", "_law_spot", "_law_name"] : List PySem.Str)
theorem run (w : World) : HandSHeadRun.RunEq RR (PySem.W.view RR.prog [49]) hk ob 7000 looseL w := by
  intro os
  kernel_rfl
end NM

set_option linter.all false
set_option maxRecDepth 100000
set_option maxHeartbeats 4000000
/-! The plain side of what the laws share: drawing numbers. -/
namespace NM
open PySem (Str PyData)
/-- all but one object stay -/
def Keep (p : Nat) (S S' : Store) : Prop := S.length ≤ S'.length ∧ ∀ n, n < S.length → n ≠ p → S'[n]? = S[n]?
theorem Keep.refl (p : Nat) (S : Store) : Keep p S S := ⟨Nat.le_refl _, fun _ _ _ => rfl⟩
theorem Keep.trans {p : Nat} {S S1 S2 : Store} (a : Keep p S S1) (b : Keep p S1 S2) : Keep p S S2 := ⟨Nat.le_trans a.1 b.1, fun n h1 h2 => (b.2 n (Nat.lt_of_lt_of_le h1 a.1) h2).trans (a.2 n h1 h2)⟩
theorem Keep.app (p : Nat) (S T : Store) : Keep p S (S ++ T) := ⟨by simp, fun n h _ => List.getElem?_append_left h⟩
theorem Keep.set (p : Nat) (S : Store) (o : O) : Keep p S (S.set p o) := ⟨by simp, fun n h q => List.getElem?_set_ne (Ne.symm q)⟩
theorem Keep.at_ {p : Nat} {S S' : Store} (k : Keep p S S') {n : Nat} {o : O} (h : S[n]? = some o) (q : n ≠ p) : S'[n]? = some o := by
  have hl : n < S.length := (List.getElem?_eq_some_iff.mp h).1
  rw [k.2 n hl q]
  exact h
/-- a pen at p -/
def Pen (p : Nat) (S : Store) : Prop := ∃ (q : Nat) (at_ rest : Int) (ns : List Int), S[p]? = some (.lst [.ptr q, .int at_, .int rest]) ∧ S[q]? = some (.lst (ns.map .int)) ∧ q ≠ p
theorem Pen.lt {p : Nat} {S : Store} (h : Pen p S) : p < S.length := let ⟨_, _, _, _, h, _⟩ := h; (List.getElem?_eq_some_iff.mp h).1
theorem Pen.app {p : Nat} {S : Store} (h : Pen p S) (T : Store) : Pen p (S ++ T) := by
  obtain ⟨q, a, r, ns, h1, h2, h3⟩ := h
  refine ⟨q, a, r, ns, ?_, ?_, h3⟩
  · rw [List.getElem?_append_left (List.getElem?_eq_some_iff.mp h1).1]; exact h1
  · rw [List.getElem?_append_left (List.getElem?_eq_some_iff.mp h2).1]; exact h2
theorem Pen.keep {p r : Nat} {S S' : Store} (h : Pen p S) (k : Keep r S S') (hr : r ≠ p) (hq : ∀ q a b, S[p]? = some (.lst [.ptr q, .int a, .int b]) → q ≠ r) : Pen p S' := by
  obtain ⟨q, a, b, ns, h1, h2, h3⟩ := h
  exact ⟨q, a, b, ns, k.at_ h1 (Ne.symm hr), k.at_ h2 (hq _ _ _ h1), h3⟩
def drawM (a b : Int) : List D → Store → R D := body 2 6 (sSeq (sIf (tVal (e2 oLt (eVar 1) (eC (.int 1)))) (sRet (eC (.int 0))) sNext)
    (sSeq (sIf (tVal (e2 oGt (e2 oIx (eVar 0) (eC (.int 2))) (eC (.int 0)))) (sSeq (sSet 2 (eN bInt (eCons (e2 oIx (eVar 0) (eC (.int 2))) eNil)))
    (sSeq (sSetI (eVar 0) (eC (.int 2)) (e2 oDiv (eVar 2) (eVar 1)))
    (sRet (e2 oMod (eN bInt (eCons (eVar 2) eNil)) (eVar 1))))) sNext)
    (sSeq (sSet 3 (e2 oIx (eVar 0) (eC (.int 1))))
    (sSeq (sSetI (eVar 0) (eC (.int 1)) (e2 oAdd (eVar 3) (eC (.int 1))))
    (sSeq (sSet 4 (e2 oAdd (e2 oMul (eC (.int a)) (eVar 3)) (eC (.int b))))
    (sSeq (sIf (tVal (e2 oNe (e2 oIx (eVar 0) (eC (.int 0))) (eNew (lDisp eNil)))) (sSet 4 (e2 oIx (e2 oIx (eVar 0) (eC (.int 0))) (e2 oMod (eN bInt (eCons (eVar 3) eNil)) (eN bLen (eCons (e2 oIx (eVar 0) (eC (.int 0))) eNil))))) sNext)
    (sSeq (sIf (tAnd (tVal (e2 oLt (eVar 3) (eN bLen (eCons (e2 oIx (eVar 0) (eC (.int 0))) eNil)))) (tVal (e2 oGe (eN bAbs (eCons (eVar 4) eNil)) (e2 oPow (eC (.int 10)) (eC (.int 18)))))) (sSeq (sSet 2 (e2 oAdd (e2 oMul (eC (.int 2)) (e2 oSub (eN bAbs (eCons (eVar 4) eNil)) (e2 oPow (eC (.int 10)) (eC (.int 18))))) (eN bInt (eCons (e2 oLt (eVar 4) (eC (.int 0))) eNil))))
    (sSeq (sSetI (eVar 0) (eC (.int 2)) (e2 oDiv (eN bInt (eCons (eVar 2) eNil)) (eVar 1)))
    (sRet (e2 oMod (eN bInt (eCons (eVar 2) eNil)) (eVar 1))))) sNext)
    (sSeq (sSet 5 (e2 oMod (eN bInt (eCons (e2 oAdd (e2 oAdd (e2 oMul (e2 oMod (eN bInt (eCons (eVar 4) eNil)) (eC (.int 2305843009213693921))) (eC (.int 1000003))) (e2 oMul (eVar 3) (eC (.int b)))) (eC (.int a))) eNil)) (eC (.int 2305843009213693951))))
    (sSeq (sSet 5 (e2 oMod (eN bInt (eCons (e2 oAdd (e2 oAdd (e2 oMul (eVar 5) (eVar 5)) (e2 oMul (eVar 3) (eC (.int a)))) (eC (.int b))) eNil)) (eC (.int 2305843009213693951))))
    (sSeq (sSet 5 (e2 oMod (eN bInt (eCons (e2 oAdd (e2 oMul (e2 oMul (eVar 5) (eVar 5)) (eC (.int 3))) (eVar 5)) eNil)) (eC (.int 2305843009213693951))))
    (sRet (e2 oMod (eN bInt (eCons (e2 oDiv (eVar 5) (eC (.int 65537))) eNil)) (eVar 1)))))))))))))
theorem rd_ints (S : Store) (n : Nat) : ∀ ns : List Int, mapO (rd S n) (ns.map D.int) = some (ns.map PyData.int)
  | [] => rfl
  | x :: xs => by
    have h : rd S n (.int x) = some (.int x) := by cases n <;> rfl
    simp [mapO, h, rd_ints S n xs]
theorem rd_lst {S : Store} {n k : Nat} {ds : List D} (h : S[k]? = some (.lst ds)) : rd S (n + 1) (.ptr k) = (mapO (rd S n) ds).map .list := by
  simp [rd, h]
end NM

set_option linter.all false
set_option maxRecDepth 100000
set_option maxHeartbeats 4000000
namespace NM
open PySem (Str PyData)
theorem draw0 {a b : Int} {p : Nat} {S : Store} {m : Int} (hm : m < 1) : drawM a b [.ptr p, .int m] S = .ok (.int 0) S := by
  simp [drawM, body, sSeq, sIf, tVal, e2, eVar, eC, oLt, hm, sRet]
theorem ix2 {S : Store} {p : Nat} {x y z : D} (h : S[p]? = some (.lst [x, y, z])) : oIx (.ptr p) (.int 0) S = .ok x S ∧ oIx (.ptr p) (.int 1) S = .ok y S ∧ oIx (.ptr p) (.int 2) S = .ok z S := by
  simp [oIx, h, atD, ixD]
theorem set2 {S : Store} {p : Nat} {x y z : D} (h : S[p]? = some (.lst [x, y, z])) (v : D) : mSet (.ptr p) (.int 1) v S = .ok () (S.set p (.lst [x, v, z])) ∧ mSet (.ptr p) (.int 2) v S = .ok () (S.set p (.lst [x, y, v])) := by
  simp [mSet, h, ixD]
theorem drawR {a b : Int} {p q : Nat} {S : Store} {m at_ r : Int} (hp : S[p]? = some (.lst [.ptr q, .int at_, .int r])) (hm : ¬ m < 1) (hm2 : m.natAbs < 1073741824) (hr : 0 < r) :
    drawM a b [.ptr p, .int m] S = .ok (.int (r.fmod m)) (S.set p (.lst [.ptr q, .int at_, .int (r.fdiv m)])) := by
  have h0 : m ≠ 0 := by omega
  obtain ⟨i0, i1, i2⟩ := ix2 hp
  obtain ⟨s1, s2⟩ := set2 hp (.int (r.fdiv m))
  simp [drawM, body, sSeq, sIf, tVal, e2, eVar, eC, oLt, hm, sRet, sNext, i2, oI, hr, sSet, eN, eCons, eNil, bInt, sSetI, s2, oIc, divOk, modOk, h0, hm2]
/-- behind the cell -/
def drawT (a b : Int) : Sx := (sSeq (sIf (tAnd (tVal (e2 oLt (eVar 3) (eN bLen (eCons (e2 oIx (eVar 0) (eC (.int 0))) eNil)))) (tVal (e2 oGe (eN bAbs (eCons (eVar 4) eNil)) (e2 oPow (eC (.int 10)) (eC (.int 18)))))) (sSeq (sSet 2 (e2 oAdd (e2 oMul (eC (.int 2)) (e2 oSub (eN bAbs (eCons (eVar 4) eNil)) (e2 oPow (eC (.int 10)) (eC (.int 18))))) (eN bInt (eCons (e2 oLt (eVar 4) (eC (.int 0))) eNil))))
    (sSeq (sSetI (eVar 0) (eC (.int 2)) (e2 oDiv (eN bInt (eCons (eVar 2) eNil)) (eVar 1)))
    (sRet (e2 oMod (eN bInt (eCons (eVar 2) eNil)) (eVar 1))))) sNext)
    (sSeq (sSet 5 (e2 oMod (eN bInt (eCons (e2 oAdd (e2 oAdd (e2 oMul (e2 oMod (eN bInt (eCons (eVar 4) eNil)) (eC (.int 2305843009213693921))) (eC (.int 1000003))) (e2 oMul (eVar 3) (eC (.int b)))) (eC (.int a))) eNil)) (eC (.int 2305843009213693951))))
    (sSeq (sSet 5 (e2 oMod (eN bInt (eCons (e2 oAdd (e2 oAdd (e2 oMul (eVar 5) (eVar 5)) (e2 oMul (eVar 3) (eC (.int a)))) (eC (.int b))) eNil)) (eC (.int 2305843009213693951))))
    (sSeq (sSet 5 (e2 oMod (eN bInt (eCons (e2 oAdd (e2 oMul (e2 oMul (eVar 5) (eVar 5)) (eC (.int 3))) (eVar 5)) eNil)) (eC (.int 2305843009213693951))))
    (sRet (e2 oMod (eN bInt (eCons (e2 oDiv (eVar 5) (eC (.int 65537))) eNil)) (eVar 1)))))))
theorem drawT_ok {a b : Int} (ha : a.natAbs < 2 ^ 63) (hb : b.natAbs < 2 ^ 63) {p q : Nat} {S : Store} {m at_ r cell : Int} {ns : List Int} (hp : S[p]? = some (.lst [.ptr q, .int at_, .int r])) (hq : S[q]? = some (.lst (ns.map .int))) (hm : ¬ m < 1) (hm2 : m.natAbs < 1073741824) {at0 : Int} :
    ∃ v S', drawT a b [some (.ptr p), some (.int m), none, some (.int at0), some (.int cell), none] S = .ok (.ret (.int v)) S' ∧ (∃ k : Int, v = k.fmod m) ∧ (S' = S ∨ ∃ r', S' = S.set p (.lst [.ptr q, .int at_, .int r'])) := by
  have h0 : m ≠ 0 := by omega
  obtain ⟨i0, i1, i2⟩ := ix2 hp
  have ma : ∀ x : Int, mulOk x b = true := fun x => by
    unfold mulOk
    have h1 : -(2 ^ 64) < b ∧ b < 2 ^ 64 := by omega
    simp
    omega
  have mb : ∀ x : Int, mulOk x a = true := fun x => by
    unfold mulOk
    have h1 : -(2 ^ 64) < a ∧ a < 2 ^ 64 := by omega
    simp
    omega
  have hlen : lenD (.ptr q) S = some ns.length := by simp [lenD, hq]
  have nz : (65537 : Int).natAbs < 1073741824 := by decide
  have small : ∀ x : Int, mulOk (x.fmod 2305843009213693951) (x.fmod 2305843009213693951) = true := fun x => by
    unfold mulOk
    have h1 := Int.fmod_nonneg_of_pos x (b := 2305843009213693951) (by decide)
    have h2 := Int.fmod_lt_of_pos x (b := 2305843009213693951) (by decide)
    have h3 : -(2 ^ 64) < x.fmod 2305843009213693951 ∧ x.fmod 2305843009213693951 < 2 ^ 64 := by omega
    simp
    omega
  have m3 : ∀ x : Int, mulOk x 3 = true := fun x => by simp [mulOk]
  have m2 : ∀ x : Int, mulOk 2 x = true := fun x => by simp [mulOk]
  have m1 : ∀ x : Int, mulOk x 1000003 = true := fun x => by simp [mulOk]
  have pw : powOk 10 18 = true := by decide
  have e18 : ((18 : Int).toNat) = 18 := rfl
  let f1 : Int := (cell.fmod 2305843009213693921 * 1000003 + at0 * b + a).fmod 2305843009213693951
  let f2 : Int := (f1 * f1 + at0 * a + b).fmod 2305843009213693951
  let f3 : Int := (f2 * f2 * 3 + f2).fmod 2305843009213693951
  by_cases hc : at0 < ns.length
  · by_cases hd : (10 : Int) ^ 18 ≤ (if cell < 0 then -cell else cell)
    · obtain ⟨s1, s2⟩ := set2 hp (.int (((2 * ((if cell < 0 then -cell else cell) - 10 ^ 18) + if decide (cell < 0) = true then 1 else 0)).fdiv m))
      refine ⟨_, _, ?_, ⟨(2 * ((if cell < 0 then -cell else cell) - 10 ^ 18) + if decide (cell < 0) = true then 1 else 0), rfl⟩, .inr ⟨(2 * ((if cell < 0 then -cell else cell) - 10 ^ 18) + if decide (cell < 0) = true then 1 else 0).fdiv m, rfl⟩⟩
      simp only [drawT, sSeq, sIf, tAnd, tVal, e2, eVar, eC, eN, eCons, eNil, List.getElem?_cons_zero, List.getElem?_cons_succ, R.bind_ok, i0, bLen, hlen, oLt, hc, decide_true, if_true, bAbs, oPow, oIc, pw, oGe, oI, e18, hd, sSet, List.set_cons_zero, List.set_cons_succ, oMul, oSub, m2, oAdd, bInt, sSetI, oDiv, divOk, h0, hm2, ne_eq, not_false_eq_true, Bool.and_self, s2, sRet, oMod, modOk]
    · refine ⟨(f3.fdiv 65537).fmod m, S, ?_, ⟨f3.fdiv 65537, rfl⟩, .inl rfl⟩
      simp only [drawT, sSeq, sIf, tAnd, tVal, e2, eVar, eC, eN, eCons, eNil, List.getElem?_cons_zero, List.getElem?_cons_succ, R.bind_ok, i0, bLen, hlen, oLt, hc, decide_true, if_true, bAbs, oPow, oIc, pw, oGe, oI, e18, hd, decide_false, if_false, Bool.false_eq_true, sNext, sSet, List.set_cons_zero, List.set_cons_succ, oMul, oSub, nz, show (65537 : Int) ≠ 0 from by decide, show (2305843009213693951 : Int) ≠ 0 from by decide, show (2305843009213693921 : Int) ≠ 0 from by decide, m2, m1, m3, ma, mb, small, oAdd, bInt, oDiv, divOk, h0, hm2, ne_eq, not_false_eq_true, Bool.and_self, sRet, oMod, modOk]
      rfl
  · refine ⟨(f3.fdiv 65537).fmod m, S, ?_, ⟨f3.fdiv 65537, rfl⟩, .inl rfl⟩
    simp only [drawT, sSeq, sIf, tAnd, tVal, e2, eVar, eC, eN, eCons, eNil, List.getElem?_cons_zero, List.getElem?_cons_succ, R.bind_ok, i0, bLen, hlen, oLt, hc, decide_false, Bool.false_eq_true, if_false, sNext, sSet, List.set_cons_zero, List.set_cons_succ, oMul, oI, oIc, nz, show (65537 : Int) ≠ 0 from by decide, show (2305843009213693951 : Int) ≠ 0 from by decide, show (2305843009213693921 : Int) ≠ 0 from by decide, m2, m1, m3, ma, mb, small, if_true, oAdd, bInt, oDiv, divOk, h0, hm2, ne_eq, not_false_eq_true, Bool.and_self, sRet, oMod, modOk, decide_true]
    rfl
theorem fmod_ix (x : Int) {n : Nat} (h : 0 < n) : ixD n (x.fmod n) = some (x.fmod n).toNat ∧ (x.fmod n).toNat < n := by
  have h1 := Int.fmod_nonneg_of_pos x (b := (n : Int)) (by omega)
  have h2 := Int.fmod_lt_of_pos x (b := (n : Int)) (by omega)
  unfold ixD
  rw [if_pos h1, if_pos h2]
  exact ⟨rfl, by omega⟩
theorem drawC {a b : Int} (ha : a.natAbs < 2 ^ 63) (hb : b.natAbs < 2 ^ 63) {p q : Nat} {S : Store} {m at_ r : Int} {ns : List Int} (hp : S[p]? = some (.lst [.ptr q, .int at_, .int r])) (hq : S[q]? = some (.lst (ns.map .int))) (qp : q ≠ p) (hm : ¬ m < 1) (hm2 : m.natAbs < 1073741824) (hr : ¬ 0 < r) :
    ∃ v S' r', drawM a b [.ptr p, .int m] S = .ok (.int v) S' ∧ (∃ k : Int, v = k.fmod m) ∧ S' = (S.set p (.lst [.ptr q, .int (at_ + 1), .int r']) ++ [.lst []]) := by
  have hl : p < S.length := (List.getElem?_eq_some_iff.mp hp).1
  have hlq : q < S.length := (List.getElem?_eq_some_iff.mp hq).1
  obtain ⟨i0, i1, i2⟩ := ix2 hp
  obtain ⟨s1, s2⟩ := set2 hp (.int (at_ + 1))
  let S1 : Store := S.set p (.lst [.ptr q, .int (at_ + 1), .int r])
  have hp1 : S1[p]? = some (.lst [.ptr q, .int (at_ + 1), .int r]) := List.getElem?_set_self hl
  have hq1 : S1[q]? = some (.lst (ns.map .int)) := by show (S.set p _)[q]? = _; rw [List.getElem?_set_ne (Ne.symm qp)]; exact hq
  let S2 : Store := S1 ++ [.lst []]
  have hl1 : S1.length = S.length := by simp [S1]
  have hp2 : S2[p]? = some (.lst [.ptr q, .int (at_ + 1), .int r]) := by show (S1 ++ _)[p]? = _; rw [List.getElem?_append_left (by omega)]; exact hp1
  have hq2 : S2[q]? = some (.lst (ns.map .int)) := by show (S1 ++ _)[q]? = _; rw [List.getElem?_append_left (by omega)]; exact hq1
  have hn2 : S2[S1.length]? = some (.lst []) := by show (S1 ++ _)[S1.length]? = _; simp
  obtain ⟨j0, j1, j2⟩ := ix2 hp1
  obtain ⟨k0, k1, k2⟩ := ix2 hp2
  have ma : ∀ x : Int, mulOk a x = true := fun x => by
    unfold mulOk
    have h1 : -(2 ^ 64) < a ∧ a < 2 ^ 64 := by omega
    simp
    omega
  have hlen : lenD (.ptr q) S2 = some ns.length := by simp [lenD, hq2]
  have ne : oNe (.ptr q) (.ptr S1.length) S2 = .ok (.bl (!ns.isEmpty)) S2 := by
    unfold oNe
    rw [rd_lst hq2, rd_lst hn2, rd_ints]
    cases ns <;> simp [mapO, PySem.PyData.eqv, PySem.PyData.eqvAll]
  cases ns with
  | nil =>
    obtain ⟨v, S', e1, hv, hS⟩ := drawT_ok ha hb hp2 hq2 hm hm2 (cell := a * at_ + b) (at0 := at_)
    have e : drawM a b [.ptr p, .int m] S = .ok (.int v) S' := by
      have e0 : drawM a b = body 2 6 (sSeq (sIf (tVal (e2 oLt (eVar 1) (eC (.int 1)))) (sRet (eC (.int 0))) sNext)
        (sSeq (sIf (tVal (e2 oGt (e2 oIx (eVar 0) (eC (.int 2))) (eC (.int 0)))) (sSeq (sSet 2 (eN bInt (eCons (e2 oIx (eVar 0) (eC (.int 2))) eNil)))
        (sSeq (sSetI (eVar 0) (eC (.int 2)) (e2 oDiv (eVar 2) (eVar 1)))
        (sRet (e2 oMod (eN bInt (eCons (eVar 2) eNil)) (eVar 1))))) sNext)
        (sSeq (sSet 3 (e2 oIx (eVar 0) (eC (.int 1))))
        (sSeq (sSetI (eVar 0) (eC (.int 1)) (e2 oAdd (eVar 3) (eC (.int 1))))
        (sSeq (sSet 4 (e2 oAdd (e2 oMul (eC (.int a)) (eVar 3)) (eC (.int b))))
        (sSeq (sIf (tVal (e2 oNe (e2 oIx (eVar 0) (eC (.int 0))) (eNew (lDisp eNil)))) (sSet 4 (e2 oIx (e2 oIx (eVar 0) (eC (.int 0))) (e2 oMod (eN bInt (eCons (eVar 3) eNil)) (eN bLen (eCons (e2 oIx (eVar 0) (eC (.int 0))) eNil))))) sNext)
        (drawT a b))))))) := rfl
      rw [e0]
      simp only [body, List.length_cons, List.length_nil, Nat.zero_add, Nat.reduceAdd, ne_eq, not_true, if_false, List.map_cons, List.map_nil, Nat.reduceSub, List.replicate, List.cons_append, List.nil_append, sSeq, sIf, tVal, e2, eVar, eC, eN, eCons, eNil, List.getElem?_cons_zero, List.getElem?_cons_succ, R.bind_ok, oLt, hm, decide_false, Bool.false_eq_true, sNext, i0, i1, i2, oGt, oI, hr, sSet, List.set_cons_zero, List.set_cons_succ, sSetI, oAdd, s1, oMul, oIc, ma, if_true, j0, eNew, lDisp, Nat.zero_le]
      rw [show (S.set p (.lst [.ptr q, .int (at_ + 1), .int r])) = S1 from rfl]
      simp only [j0, R.bind_ok, show S1 ++ [O.lst []] = S2 from rfl, ne, List.isEmpty_nil, Bool.not_true, Bool.false_eq_true, if_false, e1]
    rcases hS with rfl | ⟨r', rfl⟩
    · exact ⟨v, S2, r, e, hv, rfl⟩
    · refine ⟨v, _, r', e, hv, ?_⟩
      show (S1 ++ [O.lst []]).set p _ = _
      rw [List.set_append_left _ _ (by omega)]
      simp [S1, List.set_set]
  | cons n0 nr =>
    obtain ⟨x1, x2⟩ := fmod_ix at_ (n := (n0 :: nr).length) (by simp)
    obtain ⟨v, S', e1, hv, hS⟩ := drawT_ok ha hb hp2 hq2 hm hm2 (cell := (n0 :: nr)[(at_.fmod ((n0 :: nr).length : Nat)).toNat]'x2) (at0 := at_)
    have hat : oIx (.ptr q) (.int (at_.fmod ((n0 :: nr).length : Nat))) S2 = .ok (.int ((n0 :: nr)[(at_.fmod ((n0 :: nr).length : Nat)).toNat]'x2)) S2 := by
      simp only [oIx, hq2, atD, List.length_map, x1, Option.bind_some, List.getElem?_map, List.getElem?_eq_getElem x2, Option.map_some]
    have e : drawM a b [.ptr p, .int m] S = .ok (.int v) S' := by
      have e0 : drawM a b = body 2 6 (sSeq (sIf (tVal (e2 oLt (eVar 1) (eC (.int 1)))) (sRet (eC (.int 0))) sNext)
        (sSeq (sIf (tVal (e2 oGt (e2 oIx (eVar 0) (eC (.int 2))) (eC (.int 0)))) (sSeq (sSet 2 (eN bInt (eCons (e2 oIx (eVar 0) (eC (.int 2))) eNil)))
        (sSeq (sSetI (eVar 0) (eC (.int 2)) (e2 oDiv (eVar 2) (eVar 1)))
        (sRet (e2 oMod (eN bInt (eCons (eVar 2) eNil)) (eVar 1))))) sNext)
        (sSeq (sSet 3 (e2 oIx (eVar 0) (eC (.int 1))))
        (sSeq (sSetI (eVar 0) (eC (.int 1)) (e2 oAdd (eVar 3) (eC (.int 1))))
        (sSeq (sSet 4 (e2 oAdd (e2 oMul (eC (.int a)) (eVar 3)) (eC (.int b))))
        (sSeq (sIf (tVal (e2 oNe (e2 oIx (eVar 0) (eC (.int 0))) (eNew (lDisp eNil)))) (sSet 4 (e2 oIx (e2 oIx (eVar 0) (eC (.int 0))) (e2 oMod (eN bInt (eCons (eVar 3) eNil)) (eN bLen (eCons (e2 oIx (eVar 0) (eC (.int 0))) eNil))))) sNext)
        (drawT a b))))))) := rfl
      rw [e0]
      simp only [body, List.length_cons, List.length_nil, Nat.zero_add, Nat.reduceAdd, ne_eq, not_true, if_false, List.map_cons, List.map_nil, Nat.reduceSub, List.replicate, List.cons_append, List.nil_append, sSeq, sIf, tVal, e2, eVar, eC, eN, eCons, eNil, List.getElem?_cons_zero, List.getElem?_cons_succ, R.bind_ok, oLt, hm, decide_false, Bool.false_eq_true, sNext, i0, i1, i2, oGt, oI, hr, sSet, List.set_cons_zero, List.set_cons_succ, sSetI, oAdd, s1, oMul, oIc, ma, if_true, j0, eNew, lDisp, Nat.zero_le]
      rw [show (S.set p (.lst [.ptr q, .int (at_ + 1), .int r])) = S1 from rfl]
      simp only [j0, R.bind_ok, show S1 ++ [O.lst []] = S2 from rfl, ne, List.isEmpty_cons, Bool.not_false, if_true, k0, bInt, bLen, hlen, oMod, oIc, modOk, ne_eq, decide_not, Bool.not_eq_true', decide_eq_false_iff_not]
      have hz : ¬ (((n0 :: nr).length : Nat) : Int) = 0 := by simp; omega
      rw [if_pos hz]
      simp only [R.bind_ok, hat, List.set_cons_zero, List.set_cons_succ, e1]
    rcases hS with rfl | ⟨r', rfl⟩
    · exact ⟨v, S2, r, e, hv, rfl⟩
    · refine ⟨v, _, r', e, hv, ?_⟩
      show (S1 ++ [O.lst []]).set p _ = _
      rw [List.set_append_left _ _ (by omega)]
      simp [S1, List.set_set]
end NM

set_option linter.all false
set_option maxRecDepth 100000
set_option maxHeartbeats 4000000
namespace NM
open PySem (Str PyData)
/-- all stays -/
def Old (S S' : Store) : Prop := S.length ≤ S'.length ∧ ∀ n, n < S.length → S'[n]? = S[n]?
theorem Old.refl (S : Store) : Old S S := ⟨Nat.le_refl _, fun _ _ => rfl⟩
theorem Old.trans {S S1 S2 : Store} (a : Old S S1) (b : Old S1 S2) : Old S S2 := ⟨Nat.le_trans a.1 b.1, fun n h => (b.2 n (Nat.lt_of_lt_of_le h a.1)).trans (a.2 n h)⟩
theorem Old.app (S T : Store) : Old S (S ++ T) := ⟨by simp, fun n h => List.getElem?_append_left h⟩
theorem Old.keep {S S' : Store} (o : Old S S') (p : Nat) : Keep p S S' := ⟨o.1, fun n h _ => o.2 n h⟩
theorem Old.at_ {S S' : Store} (o : Old S S') {n : Nat} {x : O} (h : S[n]? = some x) : S'[n]? = some x := by
  rw [o.2 n (List.getElem?_eq_some_iff.mp h).1]
  exact h
theorem Old.pen {p : Nat} {S S' : Store} (o : Old S S') (h : Pen p S) : Pen p S' := let ⟨q, a, r, ns, h1, h2, h3⟩ := h; ⟨q, a, r, ns, o.at_ h1, o.at_ h2, h3⟩
theorem fmod_rng {k m : Int} (h : ¬ m < 1) : 0 ≤ k.fmod m ∧ k.fmod m < m := ⟨Int.fmod_nonneg_of_pos k (by omega), Int.fmod_lt_of_pos k (by omega)⟩
theorem draw_ok {a b : Int} (ha : a.natAbs < 2 ^ 63) (hb : b.natAbs < 2 ^ 63) {p : Nat} {S : Store} {m : Int} (h : Pen p S) (hm2 : m.natAbs < 1073741824) :
    ∃ v S', drawM a b [.ptr p, .int m] S = .ok (.int v) S' ∧ Pen p S' ∧ Keep p S S' ∧ (if m < 1 then v = 0 else 0 ≤ v ∧ v < m) := by
  by_cases hm : m < 1
  · exact ⟨0, S, draw0 hm, h, Keep.refl p S, by rw [if_pos hm]⟩
  · have hl := h.lt
    obtain ⟨q, at_, r, ns, h1, h2, h3⟩ := h
    simp only [if_neg hm]
    by_cases hr : 0 < r
    · refine ⟨_, _, drawR h1 hm hm2 hr, ⟨q, at_, _, ns, List.getElem?_set_self hl, ?_, h3⟩, Keep.set _ _ _, fmod_rng hm⟩
      rw [List.getElem?_set_ne (Ne.symm h3)]; exact h2
    · obtain ⟨v, S', r', e, ⟨k, hk⟩, rfl⟩ := drawC ha hb h1 h2 h3 hm hm2 hr
      have lq : q < S.length := (List.getElem?_eq_some_iff.mp h2).1
      refine ⟨v, _, e, ⟨q, at_ + 1, r', ns, ?_, ?_, h3⟩, (Keep.set p S _).trans (Keep.app _ _ _), by rw [hk]; exact fmod_rng hm⟩
      · rw [List.getElem?_append_left (by simpa using hl)]
        exact List.getElem?_set_self hl
      · rw [List.getElem?_append_left (by simpa using lq), List.getElem?_set_ne (Ne.symm h3)]
        exact h2
def pickM (a b : Int) : List D → Store → R D := body 2 2 (sRet (e2 oIx (eVar 1) (eN (drawM a b) (eCons (eVar 0) (eCons (eN bLen (eCons (eVar 1) eNil)) eNil)))))
theorem atD_nat {ds : List D} {v : Int} (h0 : 0 ≤ v) (h1 : v < ds.length) : ∃ d, atD ds v = some d ∧ d ∈ ds := by
  have hl : v.toNat < ds.length := by omega
  refine ⟨ds[v.toNat], ?_, List.getElem_mem _⟩
  unfold atD ixD
  rw [if_pos h0, if_pos h1, Option.bind_some, List.getElem?_eq_getElem hl]
theorem pick_str {a b : Int} (ha : a.natAbs < 2 ^ 63) (hb : b.natAbs < 2 ^ 63) {p : Nat} {S : Store} {z : Str} (h : Pen p S) (h0 : 0 < z.length) (h1 : z.length ≤ cap) :
    ∃ c S', pickM a b [.ptr p, .str z] S = .ok (.str ⟨#[c]⟩) S' ∧ c ∈ z.cps.toList ∧ Pen p S' ∧ Keep p S S' := by
  obtain ⟨v, S', e, hp, hk, hv⟩ := draw_ok ha hb h (m := (z.length : Int)) (by have hc : cap = 16777216 := rfl; simp; omega)
  rw [if_neg (by omega)] at hv
  have lc : (chars z).length = z.length := by simp [chars, Str.length]
  obtain ⟨d, hd, hm⟩ := atD_nat (ds := chars z) (v := v) hv.1 (by rw [lc]; exact hv.2)
  obtain ⟨c, hc, rfl⟩ := List.mem_map.mp hm
  refine ⟨c, S', ?_, hc, hp, hk⟩
  simp only [pickM, body, List.length_cons, List.length_nil, Nat.zero_add, Nat.reduceAdd, ne_eq, not_true, if_false, List.map_cons, List.map_nil, Nat.reduceSub, List.replicate, List.cons_append, List.nil_append, sRet, e2, eVar, eN, eCons, eNil, List.getElem?_cons_zero, List.getElem?_cons_succ, R.bind_ok, bLen, lenD, h1, if_true, e, oIx, hd]
theorem pick_lst {a b : Int} (ha : a.natAbs < 2 ^ 63) (hb : b.natAbs < 2 ^ 63) {p l : Nat} {S : Store} {ds : List D} (h : Pen p S) (hl : S[l]? = some (.lst ds)) (lp : l ≠ p) (h0 : 0 < ds.length) (h1 : ds.length ≤ cap) :
    ∃ d S', pickM a b [.ptr p, .ptr l] S = .ok d S' ∧ d ∈ ds ∧ Pen p S' ∧ Keep p S S' := by
  obtain ⟨v, S', e, hp, hk, hv⟩ := draw_ok ha hb h (m := (ds.length : Int)) (by have hc : cap = 16777216 := rfl; simp; omega)
  rw [if_neg (by omega)] at hv
  obtain ⟨d, hd, hm⟩ := atD_nat (ds := ds) (v := v) hv.1 hv.2
  refine ⟨d, S', ?_, hm, hp, hk⟩
  simp only [pickM, body, List.length_cons, List.length_nil, Nat.zero_add, Nat.reduceAdd, ne_eq, not_true, if_false, List.map_cons, List.map_nil, Nat.reduceSub, List.replicate, List.cons_append, List.nil_append, sRet, e2, eVar, eN, eCons, eNil, List.getElem?_cons_zero, List.getElem?_cons_succ, R.bind_ok, bLen, lenD, hl, if_true, e, oIx, hk.at_ hl lp, hd]
end NM

set_option linter.all false
set_option maxRecDepth 100000
set_option maxHeartbeats 4000000
namespace NM
open PySem (Str PyData)
theorem shut_ok {α : Type} (a : α) (S : Store) : (R.ok a S).shut = R.ok a S := rfl
theorem compGo_pure {ok : Store → Prop} {g : Tg} {t : Tx} {e : Ex} {ρ : Rho} {S : Store} (f : D → D) (hok : ok S) : ∀ (ds acc : List D), (∀ d ∈ ds, ∃ ρ1, g d ρ S = .ok ρ1 S ∧ t ρ1 S = .ok true S ∧ e ρ1 S = .ok (f d) S) → acc.length + ds.length ≤ cap → compGo ok g t e ρ ds acc S = .ok (acc ++ ds.map f) S
  | [], acc, _, _ => by rw [compGo_nil hok]; simp
  | d :: ds, acc, h, hl => by
    obtain ⟨ρ1, h1, h2, h3⟩ := h d List.mem_cons_self
    have hc : acc.length < cap := by simp at hl; omega
    rw [compGo_cons hok, h1, shut_ok, R.bind_ok, h2, shut_ok, R.bind_ok, if_pos rfl, h3, shut_ok, R.bind_ok, if_pos hc, compGo_pure f hok ds (acc ++ [f d]) (fun x hx => h x (List.mem_cons_of_mem _ hx)) (by simp at hl ⊢; omega)]
    simp
theorem compGo_filter {ok : Store → Prop} {g : Tg} {t : Tx} {e : Ex} {ρ : Rho} {S : Store} (f : D → D) (pr : D → Bool) (hok : ok S) : ∀ (ds acc : List D), (∀ d ∈ ds, ∃ ρ1, g d ρ S = .ok ρ1 S ∧ t ρ1 S = .ok (pr d) S ∧ (pr d = true → e ρ1 S = .ok (f d) S)) → acc.length + ds.length ≤ cap → compGo ok g t e ρ ds acc S = .ok (acc ++ (ds.filter pr).map f) S
  | [], acc, _, _ => by rw [compGo_nil hok]; simp
  | d :: ds, acc, h, hl => by
    obtain ⟨ρ1, h1, h2, h3⟩ := h d List.mem_cons_self
    have hc : acc.length < cap := by simp at hl; omega
    rw [compGo_cons hok, h1, shut_ok, R.bind_ok, h2, shut_ok, R.bind_ok]
    cases hp : pr d with
    | true =>
      rw [if_pos rfl, h3 hp, shut_ok, R.bind_ok, if_pos hc, compGo_filter f pr hok ds (acc ++ [f d]) (fun x hx => h x (List.mem_cons_of_mem _ hx)) (by simp at hl ⊢; omega)]
      simp [hp]
    | false =>
      rw [if_neg (by decide), compGo_filter f pr hok ds acc (fun x hx => h x (List.mem_cons_of_mem _ hx)) (by simp at hl ⊢; omega)]
      simp [hp]
theorem compGo_inv {ok : Store → Prop} {g : Tg} {t : Tx} {e : Ex} {ρ : Rho} (I : Store → Prop) (P : D → Prop) (hok : ∀ S, I S → ok S) : ∀ (ds acc : List D) (S : Store), I S → (∀ d ∈ ds, ∀ S, I S → ∃ ρ1, g d ρ S = .ok ρ1 S ∧ t ρ1 S = .ok true S ∧ ∃ x S', e ρ1 S = .ok x S' ∧ I S' ∧ P x) → acc.length + ds.length ≤ cap →
    ∃ xs S', compGo ok g t e ρ ds acc S = .ok (acc ++ xs) S' ∧ I S' ∧ (∀ x ∈ xs, P x) ∧ xs.length = ds.length
  | [], acc, S, hI, _, _ => ⟨[], S, by rw [compGo_nil (hok S hI)]; simp, hI, by simp, rfl⟩
  | d :: ds, acc, S, hI, h, hl => by
    obtain ⟨ρ1, h1, h2, x, S1, h3, h4, h5⟩ := h d List.mem_cons_self S hI
    have hc : acc.length < cap := by simp at hl; omega
    obtain ⟨xs, S', e1, e2, e3, e4⟩ := compGo_inv I P hok ds (acc ++ [x]) S1 h4 (fun y hy => h y (List.mem_cons_of_mem _ hy)) (by simp at hl ⊢; omega)
    refine ⟨x :: xs, S', ?_, e2, ?_, by simp [e4]⟩
    · rw [compGo_cons (hok S hI), h1, shut_ok, R.bind_ok, h2, shut_ok, R.bind_ok, if_pos rfl, h3, shut_ok, R.bind_ok, if_pos hc, e1]
      simp
    · intro y hy
      rcases List.mem_cons.mp hy with rfl | hy
      · exact h5
      · exact e3 y hy
theorem forGo_inv {ok : Store → Prop} {g : Tg} {bd : Sx} (J : Rho → Store → Prop) (hok : ∀ ρ S, J ρ S → ok S) : ∀ (ds : List D) (ρ : Rho) (S : Store), J ρ S → (∀ d ∈ ds, ∀ ρ S, J ρ S → ∃ ρ1, g d ρ S = .ok ρ1 S ∧ ∃ ρ2 S2, bd ρ1 S = .ok (.next ρ2) S2 ∧ J ρ2 S2) →
    ∃ ρ' S', forGo ok g bd ds ρ S = .ok (.next ρ') S' ∧ J ρ' S'
  | [], ρ, S, hJ, _ => ⟨ρ, S, forGo_nil (hok ρ S hJ), hJ⟩
  | d :: ds, ρ, S, hJ, h => by
    obtain ⟨ρ1, h1, ρ2, S2, h2, h3⟩ := h d List.mem_cons_self ρ S hJ
    obtain ⟨ρ', S', e1, e2⟩ := forGo_inv J hok ds ρ2 S2 h3 (fun y hy => h y (List.mem_cons_of_mem _ hy))
    exact ⟨ρ', S', by rw [forGo_cons (hok ρ S hJ), h1, R.bind_ok, h2, R.bind_ok]; exact e1, e2⟩
theorem forGo_fold {σ : Type} {ok : Store → Prop} {g : Tg} {bd : Sx} (step : σ → D → σ) (J : σ → Rho → Store → Prop) (hok : ∀ s ρ S, J s ρ S → ok S) : ∀ (ds : List D) (s : σ) (ρ : Rho) (S : Store), J s ρ S → (∀ d ∈ ds, ∀ s ρ S, J s ρ S → ∃ ρ1, g d ρ S = .ok ρ1 S ∧ ∃ ρ2 S2, bd ρ1 S = .ok (.next ρ2) S2 ∧ J (step s d) ρ2 S2) →
    ∃ ρ' S', forGo ok g bd ds ρ S = .ok (.next ρ') S' ∧ J (ds.foldl step s) ρ' S'
  | [], s, ρ, S, hJ, _ => ⟨ρ, S, forGo_nil (hok s ρ S hJ), hJ⟩
  | d :: ds, s, ρ, S, hJ, h => by
    obtain ⟨ρ1, h1, ρ2, S2, h2, h3⟩ := h d List.mem_cons_self s ρ S hJ
    obtain ⟨ρ', S', e1, e2⟩ := forGo_fold step J hok ds (step s d) ρ2 S2 h3 (fun y hy => h y (List.mem_cons_of_mem _ hy))
    exact ⟨ρ', S', by rw [forGo_cons (hok s ρ S hJ), h1, R.bind_ok, h2, R.bind_ok]; exact e1, e2⟩
theorem bls_map {α : Type} (f : α → Bool) : ∀ l : List α, blsD (l.map fun x => D.bl (f x)) = some (l.map f)
  | [] => rfl
  | x :: l => by simp [blsD, bls_map f l]
end NM

set_option linter.all false
set_option maxRecDepth 100000
set_option maxHeartbeats 4000000
namespace NM
open PySem (Str PyData)
theorem draw_eq : m__law_draw = drawM 7956 91784 := rfl
theorem pick_eq : m__law_pick = pickM 7956 91784 := rfl
abbrev LET : Str := "abcdefghijklmnopqrstuvwxyz"
abbrev SGN : Str := "abcdefghijklmnopqrstuvwxyz0123456789"
def nameB (z : Str) : Bool := (decide (1 ≤ z.length) && decide (z.length ≤ 8)) && ((match z.cps.toList with | [] => false | c :: _ => decide (c ∈ LET.cps.toList)) && z.cps.toList.all fun c => decide (c ∈ SGN.cps.toList))
theorem isn_other {d : D} {S : Store} {t : Ty} (h : tyD d S = some t) (hb : subTy t (.ty "str") = some false) : m_is_name [d] S = .ok (.bl false) S := by
  simp [m_is_name, body, sSeq, sIf, tOr, tNot, tVal, eIsi, eVar, bIsi, h, anyTy, hb, sRet, eC]
theorem isn_str {z : Str} {S : Store} (hz : z.length ≤ cap) : m_is_name [.str z] S = .ok (.bl (nameB z)) S := by
  have lc : (chars z).length = z.length := by simp [chars, Str.length]
  have ht : anyTy (.ty "str") [.ty "str"] = some true := by decide
  by_cases h1 : 1 ≤ z.length
  · by_cases h8 : z.length ≤ 8
    · have hc : ∃ c cs, z.cps.toList = c :: cs := by
        cases e : z.cps.toList with
        | nil =>
          have : z.length = 0 := by simp [Str.length, ← Array.length_toList, e]
          omega
        | cons c cs => exact ⟨c, cs, rfl⟩
      obtain ⟨c, cs, hcs⟩ := hc
      have h0 : oIx (.str z) (.int 0) S = .ok (.str ⟨#[c]⟩) S := by
        have : atD (chars z) 0 = some (.str ⟨#[c]⟩) := by simp [atD, ixD, chars, hcs]
        simp only [oIx, hz, if_true, this]
      have comp := compGo_pure (ok := fun _ => True) (g := gSlot 1) (t := tTrue) (e := e2 (oInS false) (eVar 1) (eC (.str SGN))) (ρ := [some (.str z), none]) (S := S) (fun d => match d with | .str x => .bl (match x.cps.toList with | [k] => decide (k ∈ SGN.cps.toList) | _ => false) | _ => .non) trivial (chars z) []
        (by
          intro d hd
          obtain ⟨k, hk, rfl⟩ := List.mem_map.mp hd
          exact ⟨[some (.str z), some (.str ⟨#[k]⟩)], rfl, rfl, by simp [e2, eVar, eC, oInS]⟩) (by simp [lc]; exact hz)
      have hb : blsD ((chars z).map (fun d => match d with | .str x => D.bl (match x.cps.toList with | [k] => decide (k ∈ SGN.cps.toList) | _ => false) | _ => .non)) = some (z.cps.toList.map fun c => decide (c ∈ SGN.cps.toList)) := by
        simp only [chars, List.map_map]
        exact bls_map (fun c => decide (c ∈ SGN.cps.toList)) z.cps.toList
      have i1 : (1 : Int) ≤ (z.length : Nat) := by omega
      have i8 : ((z.length : Nat) : Int) ≤ 8 := by omega
      have fin : nameB z = (decide (c ∈ LET.cps.toList) && (z.cps.toList.map fun c => decide (c ∈ SGN.cps.toList)).all id) := by
        unfold nameB
        rw [hcs]
        simp [h1, h8, List.all_map]
      rw [fin]
      simp only [m_is_name, body, List.length_cons, List.length_nil, Nat.zero_add, Nat.reduceAdd, ne_eq, not_true, if_false, List.map_cons, List.map_nil, Nat.reduceSub, List.replicate, List.cons_append, List.nil_append, sSeq, sIf, tOr, tNot, tVal, eIsi, eVar, bIsi, tyD, ht, List.getElem?_cons_zero, R.bind_ok, Bool.not_true, Bool.false_eq_true, eChain, eC, eN, eCons, eNil, bLen, lenD, hz, if_true, oLe, oI, i1, i8, decide_true, sNext, sRet, vAnd, e2, h0, oInS]
      by_cases hl : c ∈ LET.cps.toList
      · simp only [hl, decide_true, R.bind_ok, eUse, lComp, iD, eVar, List.getElem?_cons_zero, srcOf, wipe, List.set_cons_succ, List.set_cons_zero, comp, List.nil_append, uAll, hb, Bool.true_and]
      · simp only [hl, decide_false, R.bind_ok, Bool.false_and]
    · have i1 : (1 : Int) ≤ (z.length : Nat) := by omega
      have i8 : ¬ ((z.length : Nat) : Int) ≤ 8 := by omega
      have fin : nameB z = false := by simp [nameB, h8]
      rw [fin]
      simp only [m_is_name, body, List.length_cons, List.length_nil, Nat.zero_add, Nat.reduceAdd, ne_eq, not_true, if_false, List.map_cons, List.map_nil, Nat.reduceSub, List.replicate, List.cons_append, List.nil_append, sSeq, sIf, tOr, tNot, tVal, eIsi, eVar, bIsi, tyD, ht, List.getElem?_cons_zero, R.bind_ok, Bool.not_true, Bool.false_eq_true, eChain, eC, eN, eCons, eNil, bLen, lenD, hz, if_true, oLe, oI, i1, i8, decide_true, decide_false, Bool.not_false, sNext, sRet]
  · have i1 : ¬ (1 : Int) ≤ (z.length : Nat) := by omega
    have fin : nameB z = false := by simp [nameB, h1]
    rw [fin]
    simp only [m_is_name, body, List.length_cons, List.length_nil, Nat.zero_add, Nat.reduceAdd, ne_eq, not_true, if_false, List.map_cons, List.map_nil, Nat.reduceSub, List.replicate, List.cons_append, List.nil_append, sSeq, sIf, tOr, tNot, tVal, eIsi, eVar, bIsi, tyD, ht, List.getElem?_cons_zero, R.bind_ok, Bool.not_true, Bool.false_eq_true, eChain, eC, eN, eCons, eNil, bLen, lenD, hz, if_true, oLe, oI, i1, decide_false, Bool.not_false, sNext, sRet]
end NM

set_option linter.all false
set_option maxRecDepth 100000
set_option maxHeartbeats 4000000
namespace NM
open PySem (Str PyData)
theorem forGo_ix {ok : Store → Prop} {g : Tg} {bd : Sx} (J : Nat → Rho → Store → Prop) (hok : ∀ i ρ S, J i ρ S → ok S) (all : List D) : ∀ (ds : List D) (i : Nat) (ρ : Rho) (S : Store), all.drop i = ds → J i ρ S → (∀ i d, all[i]? = some d → ∀ ρ S, J i ρ S → ∃ ρ1, g d ρ S = .ok ρ1 S ∧ ∃ ρ2 S2, bd ρ1 S = .ok (.next ρ2) S2 ∧ J (i + 1) ρ2 S2) →
    ∃ ρ' S', forGo ok g bd ds ρ S = .ok (.next ρ') S' ∧ J (i + ds.length) ρ' S'
  | [], i, ρ, S, _, hJ, _ => ⟨ρ, S, forGo_nil (hok i ρ S hJ), hJ⟩
  | d :: ds, i, ρ, S, hd, hJ, h => by
    obtain ⟨e1, e2⟩ := drop_cons hd
    obtain ⟨ρ1, h1, ρ2, S2, h2, h3⟩ := h i d e1 ρ S hJ
    obtain ⟨ρ', S', f1, f2⟩ := forGo_ix J hok all ds (i + 1) ρ2 S2 e2 h3 h
    refine ⟨ρ', S', by rw [forGo_cons (hok i ρ S hJ), h1, R.bind_ok, h2, R.bind_ok]; exact f1, ?_⟩
    rw [show i + (d :: ds).length = i + 1 + ds.length from by simp; omega]
    exact f2
abbrev ALL : Str := "abcdefghijklmnopqrstuvwxyz0123456789/"
def vOf (c : Nat) : Option Int := match PySem.Builtin.Str.occurrences ALL ⟨#[c]⟩ 0 37 1 with
  | i :: _ => some (1 + (i : Int))
  | [] => none
def vN (c : Nat) : Int := (vOf c).getD 0
theorem vOf_ok : ∀ c ∈ ALL.cps.toList, vOf c = some (vN c) ∧ 0 ≤ vN c ∧ vN c ≤ 37 := by decide +kernel
theorem value_ok {c : Nat} {S : Store} (h : c ∈ ALL.cps.toList) : m_value_of [.str ⟨#[c]⟩] S = .ok (.int (vN c)) S := by
  obtain ⟨h1, _, _⟩ := vOf_ok c h
  unfold vOf at h1
  have e : (SGN ++ ("/" : Str) : Str) = ALL := by decide +kernel
  have l1 : SGN.length + ("/" : Str).length ≤ cap := by decide +kernel
  have l2 : ALL.length = 37 := by decide +kernel
  split at h1
  · rename_i i r ho
    have h1 := Option.some.inj h1
    rw [← l2] at ho
    simp only [m_value_of, body, List.length_cons, List.length_nil, Nat.zero_add, ne_eq, not_true, if_false, List.map_cons, List.map_nil, Nat.sub_self, List.replicate, List.append_nil, sRet, e2, eC, R.bind_ok, eSIdx, oAdd, l1, if_true, e, eVar, List.getElem?_cons_zero, ho, h1]
  · cases h1
def stepD (s : Int) (d : D) : Int := match d with
  | .str x => (match x.cps.toList with
    | [k] => ((s * 131 + vN k) ^ 2).fmod 1000003
    | _ => s)
  | _ => s
def mixV (z : Str) : Int := (chars z).foldl stepD 7
theorem step_in {s : Int} {k : Nat} : stepD s (.str ⟨#[k]⟩) = ((s * 131 + vN k) ^ 2).fmod 1000003 := rfl
theorem mixed_ok {z : Str} {S : Store} (h : ∀ c ∈ z.cps.toList, c ∈ ALL.cps.toList) : m_mixed [.str z] S = .ok (.int (mixV z)) S := by
  obtain ⟨ρ', S', e1, ⟨e2, e3, e4⟩⟩ := forGo_fold (ok := fun _ => True) (g := gSlot 2) (bd := (sSet 1 (e2 oMod (e2 oPow (e2 oAdd (e2 oMul (eVar 1) (eC (.int 131))) (eN m_value_of (eCons (eVar 2) eNil))) (eC (.int 2))) (eC (.int 1000003))))) stepD
    (fun s ρ S' => S' = S ∧ (∃ a b, ρ = [a, some (.int s), b]) ∧ 0 ≤ s ∧ s < 1000003) (fun _ _ _ _ => trivial) (chars z) 7 [some (.str z), some (.int 7), none] S ⟨rfl, ⟨_, _, rfl⟩, by decide, by decide⟩ (by
      intro d hd s ρ S1 hJ
      obtain ⟨rfl, ⟨a, b, rfl⟩, h0, h1⟩ := hJ
      obtain ⟨k, hk, rfl⟩ := List.mem_map.mp hd
      obtain ⟨_, v0, v1⟩ := vOf_ok k (h k hk)
      have hp : powOk (s * 131 + vN k) 2 = true := by
        unfold powOk
        have : (s * 131 + vN k).natAbs < 2 ^ 64 := by omega
        simp [this]
      have hm : mulOk s 131 = true := by simp [mulOk]
      refine ⟨[a, some (.int s), some (.str ⟨#[k]⟩)], rfl, [a, some (.int (stepD s (.str ⟨#[k]⟩))), some (.str ⟨#[k]⟩)], S1, ?_, rfl, ⟨_, _, rfl⟩, ?_⟩
      · simp only [sSet, e2, eVar, eC, eN, eCons, eNil, List.getElem?_cons_zero, List.getElem?_cons_succ, R.bind_ok, oMul, oIc, hm, if_true, value_ok (h k hk), oAdd, oPow, hp, oMod, modOk, show (1000003 : Int) ≠ 0 from by decide, ne_eq, not_false_eq_true, decide_true, List.set_cons_succ, List.set_cons_zero, step_in]
        rfl
      · rw [step_in]
        exact ⟨Int.fmod_nonneg_of_pos _ (by decide), Int.fmod_lt_of_pos _ (by decide)⟩)
  obtain ⟨⟨a, b, rfl⟩, _⟩ := (⟨e3, e4⟩ : _ ∧ _)
  subst e2
  simp only [m_mixed, body, List.length_cons, List.length_nil, Nat.zero_add, ne_eq, not_true, if_false, List.map_cons, List.map_nil, Nat.reduceSub, List.replicate, List.cons_append, List.nil_append, sSeq, sSet, eC, R.bind_ok, List.set_cons_succ, List.set_cons_zero, sFor, iD, eVar, List.getElem?_cons_zero, srcOf, e1, sRet, List.getElem?_cons_succ]
  rfl
theorem mixV_rng (z : Str) (h : ∀ c ∈ z.cps.toList, c ∈ ALL.cps.toList) : 0 ≤ mixV z := by
  have key : ∀ (ds : List D) (s : Int), 0 ≤ s → 0 ≤ ds.foldl stepD s := by
    intro ds
    induction ds with
    | nil => intro s h; exact h
    | cons d ds ih =>
      intro s h
      refine ih _ ?_
      unfold stepD
      split
      · split
        · exact Int.fmod_nonneg_of_pos _ (by decide)
        · exact h
      · exact h
  exact key _ _ (by decide)
end NM

set_option linter.all false
set_option maxRecDepth 100000
set_option maxHeartbeats 4000000
namespace NM
open PySem (Str PyData)
def SpotV (salt name : Str) (n : Int) : Int := ((mixV (salt ++ ("/" : Str) ++ name)).fdiv 16).fmod n
/-- a name -/
structure NameS (z : Str) : Prop where
  b : nameB z = true
theorem NameS.len {z : Str} (h : NameS z) : 1 ≤ z.length ∧ z.length ≤ 8 := by
  have := h.b
  unfold nameB at this
  simp only [Bool.and_eq_true, decide_eq_true_eq] at this
  exact this.1
theorem NameS.sgn {z : Str} (h : NameS z) : ∀ c ∈ z.cps.toList, c ∈ SGN.cps.toList := by
  have := h.b
  unfold nameB at this
  simp only [Bool.and_eq_true, decide_eq_true_eq, List.all_eq_true] at this
  exact this.2.2
theorem sgn_all : ∀ c ∈ SGN.cps.toList, c ∈ ALL.cps.toList := by decide +kernel
theorem cps_append (x y : Str) : (x ++ y).cps.toList = x.cps.toList ++ y.cps.toList := by
  show (x.cps ++ y.cps).toList = _
  simp
theorem len_append (x y : Str) : (x ++ y).length = x.length + y.length := by
  show (x.cps ++ y.cps).size = x.cps.size + y.cps.size
  simp
theorem slash_all : ∀ c ∈ ("/" : Str).cps.toList, c ∈ ALL.cps.toList := by decide +kernel
theorem full_all {salt name : Str} (h1 : NameS salt) (h2 : NameS name) : ∀ c ∈ (salt ++ ("/" : Str) ++ name).cps.toList, c ∈ ALL.cps.toList := by
  intro c hc
  rw [cps_append, cps_append] at hc
  rcases List.mem_append.mp hc with hc | hc
  · rcases List.mem_append.mp hc with hc | hc
    · exact sgn_all c (h1.sgn c hc)
    · exact slash_all c hc
  · exact sgn_all c (h2.sgn c hc)
theorem add_full {salt name : Str} (h1 : NameS salt) (h2 : NameS name) (S : Store) : oAdd (.str salt) (.str "/") S = .ok (.str (salt ++ ("/" : Str))) S ∧ oAdd (.str (salt ++ ("/" : Str))) (.str name) S = .ok (.str (salt ++ ("/" : Str) ++ name)) S := by
  have a := h1.len
  have b := h2.len
  have c : ("/" : Str).length = 1 := by decide +kernel
  have hc : cap = 16777216 := rfl
  have e : (salt ++ ("/" : Str)).length = salt.length + 1 := by rw [len_append, c]
  constructor
  · simp only [oAdd]
    rw [if_pos (by rw [c]; omega)]
  · simp only [oAdd]
    rw [if_pos (by rw [e]; omega)]
theorem spot_of_ok {salt name : Str} {n : Int} {S : Store} (h1 : NameS salt) (h2 : NameS name) (hn : n ≠ 0) : m_spot_of [.str salt, .str name, .int n] S = .ok (.int (SpotV salt name n)) S := by
  obtain ⟨a1, a2⟩ := add_full h1 h2 S
  have d16 : (16 : Int) ≠ 0 ∧ (16 : Int).natAbs < 1073741824 := by decide
  simp only [m_spot_of, body, List.length_cons, List.length_nil, Nat.zero_add, Nat.reduceAdd, ne_eq, not_true, if_false, List.map_cons, List.map_nil, Nat.sub_self, List.replicate, List.append_nil, sRet, e2, eN, eCons, eNil, eC, eVar, List.getElem?_cons_zero, List.getElem?_cons_succ, R.bind_ok, a1, a2, mixed_ok (full_all h1 h2), oDiv, oIc, divOk, d16.1, d16.2, not_false_eq_true, decide_true, Bool.and_self, if_true, oMod, modOk, hn, SpotV]
theorem between_int {i a b : Int} {S : Store} : m_is_between [.int i, .int a, .int b] S = .ok (.bl (decide (a ≤ i) && decide (i ≤ b))) S := by
  have t1 : anyTy (.ty "int") [.ty "int"] = some true := by decide
  have t2 : anyTy (.ty "int") [.ty "bool"] = some false := by decide
  have e : m_is_integer [.int i] S = .ok (.bl true) S := by
    simp only [m_is_integer, body, List.length_cons, List.length_nil, Nat.zero_add, ne_eq, not_true, if_false, List.map_cons, List.map_nil, Nat.sub_self, List.replicate, List.append_nil, sRet, vAnd, vNot, eIsi, eVar, List.getElem?_cons_zero, R.bind_ok, bIsi, tyD, t1, t2, Bool.not_false]
  by_cases h : a ≤ i
  · simp only [m_is_between, body, List.length_cons, List.length_nil, Nat.zero_add, Nat.reduceAdd, ne_eq, not_true, if_false, List.map_cons, List.map_nil, Nat.sub_self, List.replicate, List.append_nil, sRet, vAnd, eN, eCons, eNil, eVar, List.getElem?_cons_zero, List.getElem?_cons_succ, R.bind_ok, e, eChain, oLe, oI, h, decide_true, Bool.true_and]
  · simp only [m_is_between, body, List.length_cons, List.length_nil, Nat.zero_add, Nat.reduceAdd, ne_eq, not_true, if_false, List.map_cons, List.map_nil, Nat.sub_self, List.replicate, List.append_nil, sRet, vAnd, eN, eCons, eNil, eVar, List.getElem?_cons_zero, List.getElem?_cons_succ, R.bind_ok, e, eChain, oLe, oI, h, decide_false, Bool.false_and]
theorem between_not {d : D} {a b : D} {S : Store} {t : Ty} (h : tyD d S = some t) (h2 : subTy t (.ty "int") = some false ∨ (subTy t (.ty "int") = some true ∧ subTy t (.ty "bool") = some true)) : m_is_between [d, a, b] S = .ok (.bl false) S := by
  have e : m_is_integer [d] S = .ok (.bl false) S := by
    rcases h2 with h2 | ⟨h2, h3⟩
    · simp [m_is_integer, body, sRet, vAnd, vNot, eIsi, eVar, bIsi, h, anyTy, h2]
    · simp [m_is_integer, body, sRet, vAnd, vNot, eIsi, eVar, bIsi, h, anyTy, h2, h3]
  simp [m_is_between, body, sRet, vAnd, eN, eCons, eNil, eVar, e]
theorem spot_ok {salt name : Str} {n : Int} {S : Store} (h1 : NameS salt) (h2 : NameS name) (hn : 1 ≤ n) (hn2 : n ≤ 64) : m_spot [.str salt, .str name, .int n] S = .ok (.int (SpotV salt name n)) S := by
  have hc : cap = 16777216 := rfl
  have i1 := isn_str (z := salt) (S := S) (by have := h1.len; omega)
  have i2 := isn_str (z := name) (S := S) (by have := h2.len; omega)
  rw [h1.b] at i1
  rw [h2.b] at i2
  have i3 := between_int (i := n) (a := 1) (b := 64) (S := S)
  simp only [hn, hn2, decide_true, Bool.and_self] at i3
  simp only [m_spot, body, List.length_cons, List.length_nil, Nat.zero_add, Nat.reduceAdd, ne_eq, not_true, if_false, List.map_cons, List.map_nil, Nat.sub_self, List.replicate, List.append_nil, sSeq, sIf, tNot, tVal, eN, eCons, eNil, eC, eVar, List.getElem?_cons_zero, List.getElem?_cons_succ, R.bind_ok, i1, i2, i3, Bool.not_true, Bool.false_eq_true, sNext, sRet, spot_of_ok h1 h2 (show n ≠ 0 by omega)]
theorem spot_rng {salt name : Str} {n : Int} (hn : 1 ≤ n) : 0 ≤ SpotV salt name n ∧ SpotV salt name n < n := ⟨Int.fmod_nonneg_of_pos _ (by omega), Int.fmod_lt_of_pos _ (by omega)⟩
/-! ### the errors -/
theorem spot_bad1 {d e n : D} {S : Store} (h : m_is_name [d] S = .ok (.bl false) S) : m_spot [d, e, n] S = .exc "BadName" [("part", .str "salt")] S := by
  simp [m_spot, body, sSeq, sIf, tNot, tVal, eN, eCons, eNil, eC, eVar, h, sRaise, keepD]
theorem spot_bad2 {d e n : D} {S : Store} (h : m_is_name [d] S = .ok (.bl true) S) (h2 : m_is_name [e] S = .ok (.bl false) S) : m_spot [d, e, n] S = .exc "BadName" [("part", .str "name")] S := by
  simp [m_spot, body, sSeq, sIf, tNot, tVal, eN, eCons, eNil, eC, eVar, h, h2, sNext, sRaise, keepD]
theorem spot_bad3 {d e n : D} {S : Store} (h : m_is_name [d] S = .ok (.bl true) S) (h2 : m_is_name [e] S = .ok (.bl true) S) (h3 : m_is_between [n, .int 1, .int 64] S = .ok (.bl false) S) : m_spot [d, e, n] S = .exc "BadNumber" [("part", .str "spots")] S := by
  simp [m_spot, body, sSeq, sIf, tNot, tVal, eN, eCons, eNil, eC, eVar, h, h2, h3, sNext, sRaise, keepD]
end NM

set_option linter.all false
set_option maxRecDepth 100000
set_option maxHeartbeats 4000000
namespace NM
open PySem (Str PyData)
/-! ### the law's own spot -/
def tellS (kvs : List (DK × D)) (d : D) : List (DK × D) := match d with
  | .tup [.int i, .str x] => dPut kvs (.k (.inr x)) (.int (i + 1))
  | _ => kvs
def kvs0 : List (DK × D) := mergeD [] [(.inr "/", .int 37)]
def kvsA (i : Nat) : List (DK × D) := ((numD 0 (chars SGN)).take i).foldl tellS kvs0
theorem kvsA_len : ∀ i, i ≤ 36 → (kvsA i).length ≤ 37 := by
  have h : ((List.range 37).all fun i => decide ((kvsA i).length ≤ 37)) = true := by decide +kernel
  intro i hi
  exact of_decide_eq_true (List.all_eq_true.mp h i (List.mem_range.mpr (by omega)))
theorem num_len : (numD 0 (chars SGN)).length = 36 := by decide +kernel
theorem kvs_get : ∀ c ∈ ALL.cps.toList, dGet (kvsA 36) (.k (.inr ⟨#[c]⟩)) = some (.int (vN c)) := by
  have h : (ALL.cps.toList.all fun c => match dGet (kvsA 36) (.k (.inr ⟨#[c]⟩)) with
    | some (.int v) => decide (v = vN c)
    | _ => false) = true := by decide +kernel
  intro c hc
  have := List.all_eq_true.mp h c hc
  split at this
  · rename_i v e
    rw [e, of_decide_eq_true this]
  · cases this
theorem law_spot_ok {salt name : Str} {n : Int} {S : Store} (h1 : NameS salt) (h2 : NameS name) (hn : n ≠ 0) : ∃ S', m__law_spot [.str salt, .str name, .int n] S = .ok (.int (SpotV salt name n)) S' ∧ Old S S' := by
  let t := S.length
  have hd : eDisp (((eC (.str "/")), (eC (.int 37))) :: []) [some (.str salt), some (.str name), some (.int n), none, none, none, none, none] S = .ok (.ptr t) (S ++ [.dic false kvs0]) := by
    simp only [eDisp, ePairs, eC, R.bind_ok, kvsD, mapO, kyD, Option.map_some]
    rfl
  -- the table
  obtain ⟨ρ1, S1, e1, ⟨a4, a5, r1, o1, g1⟩⟩ := forGo_ix (ok := fun _ => True) (g := gUnp [(gSlot 4), (gSlot 5)]) (bd := (sSetI (eVar 3) (eVar 5) (e2 oAdd (eVar 4) (eC (.int 1)))))
    (fun i ρ S' => ∃ a4 a5, ρ = [some (.str salt), some (.str name), some (.int n), some (.ptr t), a4, a5, none, none] ∧ Old S S' ∧ S'[t]? = some (.dic false (kvsA i))) (fun _ _ _ _ => trivial) (numD 0 (chars SGN)) (numD 0 (chars SGN)) 0 [some (.str salt), some (.str name), some (.int n), some (.ptr t), none, none, none, none] (S ++ [.dic false kvs0]) (by simp) ⟨none, none, rfl, Old.app S _, by simp [t, kvsA]⟩ (by
      intro i d hi ρ S2 hJ
      obtain ⟨a4, a5, rfl, o2, g2⟩ := hJ
      obtain ⟨x, hx, rfl⟩ := numD_get 0 (chars SGN) i hi
      obtain ⟨k, hk, rfl⟩ := chars_get hx
      have il : i < 36 := by rw [← num_len]; exact (List.getElem?_eq_some_iff.mp hi).1
      have hl := kvsA_len i (by omega)
      have hcap : (kvsA i).length < cap := by have hc : cap = 16777216 := rfl; omega
      have tl : t < S2.length := (List.getElem?_eq_some_iff.mp g2).1
      refine ⟨[some (.str salt), some (.str name), some (.int n), some (.ptr t), some (.int ((0 + i : Nat) : Int)), some (.str ⟨#[k]⟩), none, none], rfl, [some (.str salt), some (.str name), some (.int n), some (.ptr t), some (.int ((0 + i : Nat) : Int)), some (.str ⟨#[k]⟩), none, none], S2.set t (.dic false (dPut (kvsA i) (.k (.inr ⟨#[k]⟩)) (.int (((0 + i : Nat) : Int) + 1)))), ?_, ⟨_, _, rfl, ?_, ?_⟩⟩
      · simp only [sSetI, e2, eVar, eC, List.getElem?_cons_zero, List.getElem?_cons_succ, R.bind_ok, oAdd, mSet, g2, dkD, isT, hcap, and_self, if_true]
      · exact ⟨Nat.le_trans o2.1 (by simp), fun m hm => by rw [List.getElem?_set_ne (by show S.length ≠ m; omega)]; exact o2.2 m hm⟩
      · rw [List.getElem?_set_self tl]
        unfold kvsA
        rw [List.take_add_one, hi]
        simp [tellS])
  rw [num_len] at g1
  have gk : S1[t]? = some (.dic false (kvsA 36)) := g1
  subst r1
  -- the walk
  obtain ⟨ρ2, S2, e2', ⟨rfl, ⟨b5, b7, rfl⟩, h0, hM⟩⟩ := forGo_fold (ok := fun _ => True) (g := gSlot 5) (bd := (sSeq (sSet 7 (e2 oAdd (e2 oMul (eVar 6) (eC (.int 131))) (e2 oKey (eVar 3) (eVar 5)))) (sSet 6 (e2 oMod (e2 oMul (eVar 7) (eVar 7)) (eC (.int 1000003)))))) stepD
    (fun s ρ S' => S' = S1 ∧ (∃ b5 b7, ρ = [some (.str salt), some (.str name), some (.int n), some (.ptr t), a4, b5, some (.int s), b7]) ∧ 0 ≤ s ∧ s < 1000003) (fun _ _ _ _ => trivial) (chars (salt ++ ("/" : Str) ++ name)) 7 [some (.str salt), some (.str name), some (.int n), some (.ptr t), a4, a5, some (.int 7), none] S1 ⟨rfl, ⟨_, _, rfl⟩, by decide, by decide⟩ (by
      intro d hd s ρ S3 hJ
      obtain ⟨rfl, ⟨b5, b7, rfl⟩, h0, hM⟩ := hJ
      obtain ⟨k, hk, rfl⟩ := List.mem_map.mp hd
      have hA := full_all h1 h2 k hk
      obtain ⟨_, v0, v1⟩ := vOf_ok k hA
      have hm : mulOk s 131 = true := by simp [mulOk]
      have hq : mulOk (s * 131 + vN k) (s * 131 + vN k) = true := by
        unfold mulOk
        simp
        omega
      have eq : stepD s (.str ⟨#[k]⟩) = ((s * 131 + vN k) * (s * 131 + vN k)).fmod 1000003 := by
        rw [step_in, show ((s * 131 + vN k) ^ 2) = (s * 131 + vN k) * (s * 131 + vN k) from by rw [Int.pow_succ, Int.pow_succ, Int.pow_zero, Int.one_mul]]
      refine ⟨_, rfl, [some (.str salt), some (.str name), some (.int n), some (.ptr t), a4, some (.str ⟨#[k]⟩), some (.int (stepD s (.str ⟨#[k]⟩))), some (.int (s * 131 + vN k))], S3, ?_, rfl, ⟨_, _, rfl⟩, ?_⟩
      · simp only [sSeq, sSet, e2, eVar, eC, List.getElem?_cons_zero, List.getElem?_cons_succ, List.set_cons_zero, List.set_cons_succ, R.bind_ok, oMul, oIc, hm, if_true, oKey, gk, dkD, isT, kvs_get k hA, oAdd, hq, oMod, modOk, show (1000003 : Int) ≠ 0 from by decide, ne_eq, not_false_eq_true, decide_true, eq]
      · rw [eq]
        exact ⟨Int.fmod_nonneg_of_pos _ (by decide), Int.fmod_lt_of_pos _ (by decide)⟩)
  obtain ⟨a1, a2⟩ := add_full h1 h2 S2
  have d16 : (16 : Int) ≠ 0 ∧ (16 : Int).natAbs < 1073741824 := by decide
  refine ⟨S2, ?_, o1⟩
  simp only [m__law_spot, body, List.length_cons, List.length_nil, Nat.zero_add, Nat.reduceAdd, ne_eq, not_true, if_false, List.map_cons, List.map_nil, Nat.reduceSub, List.replicate, List.cons_append, List.nil_append, sSeq, sSet, hd, R.bind_ok, List.set_cons_zero, List.set_cons_succ, sFor, iEn, eC, srcE, srcOf, e1, iD, e2, eVar, List.getElem?_cons_zero, List.getElem?_cons_succ, a1, a2, e2', sRet, oDiv, oIc, divOk, d16.1, d16.2, not_false_eq_true, decide_true, Bool.and_self, if_true, oMod, modOk, hn]
  rfl
end NM

set_option linter.all false
set_option maxRecDepth 100000
set_option maxHeartbeats 4000000
namespace NM
open PySem (Str PyData)
theorem strs_map (ys : List Str) : strsD (ys.map D.str) = some ys := by
  induction ys with
  | nil => rfl
  | cons y ys ih => simp [strsD, ih]
theorem join_cps : ∀ ys : List Str, (PySem.Txt.join ("" : Str) ys).cps.toList = (ys.map fun y => y.cps.toList).flatten := by
  have key : ∀ ys : List Str, (PySem.Str.join ("" : Str) ys).cps.toList = (ys.map fun y => y.cps.toList).flatten := by
    intro ys
    induction ys with
    | nil => rfl
    | cons x r ih =>
      cases r with
      | nil => simp [PySem.Str.join]
      | cons z r =>
        have e : PySem.Str.join ("" : Str) (x :: z :: r) = x ++ ("" : Str) ++ PySem.Str.join ("" : Str) (z :: r) := rfl
        rw [e, cps_append, cps_append, ih]
        have : ("" : Str).cps.toList = [] := by decide +kernel
        rw [this]
        simp
  intro ys
  have e : PySem.Txt.join ("" : Str) ys = PySem.Str.join ("" : Str) ys := PySem.StrLaws.glued_eq_join _ _
  rw [e]
  exact key ys
abbrev LTD : Str := "abcdefghijklmnopqrstuvwxyz0123456789999"
theorem ltd_sgn : ∀ c ∈ LTD.cps.toList, c ∈ SGN.cps.toList := by decide +kernel
theorem let_sgn : ∀ c ∈ LET.cps.toList, c ∈ SGN.cps.toList := by decide +kernel
theorem singles : ∀ {xs : List D}, (∀ x ∈ xs, ∃ c : Nat, x = .str ⟨#[c]⟩ ∧ c ∈ LTD.cps.toList) → ∃ cs : List Nat, xs = cs.map (fun c => .str ⟨#[c]⟩) ∧ ∀ c ∈ cs, c ∈ LTD.cps.toList
  | [], _ => ⟨[], rfl, by simp⟩
  | x :: xs, h => by
    obtain ⟨c, rfl, hc⟩ := h x List.mem_cons_self
    obtain ⟨cs, rfl, h2⟩ := singles (xs := xs) fun y hy => h y (List.mem_cons_of_mem _ hy)
    exact ⟨c :: cs, rfl, fun y hy => (List.mem_cons.mp hy).elim (fun e => by rw [e]; exact hc) (h2 y)⟩
theorem name_of {c0 : Nat} {cs : List Nat} (h0 : c0 ∈ LET.cps.toList) (h : ∀ c ∈ cs, c ∈ LTD.cps.toList) (hl : cs.length ≤ 7) : NameS ((⟨#[c0]⟩ : Str) ++ PySem.Txt.join ("" : Str) (cs.map fun c => (⟨#[c]⟩ : Str))) := by
  have e : ((⟨#[c0]⟩ : Str) ++ PySem.Txt.join ("" : Str) (cs.map fun c => (⟨#[c]⟩ : Str))).cps.toList = c0 :: cs := by
    rw [cps_append, join_cps]
    simp [Function.comp_def]
    induction cs with
    | nil => rfl
    | cons c cs ih => simp at hl ⊢; exact ih (fun y hy => h y (List.mem_cons_of_mem _ hy)) (by omega)
  have el : ((⟨#[c0]⟩ : Str) ++ PySem.Txt.join ("" : Str) (cs.map fun c => (⟨#[c]⟩ : Str))).length = cs.length + 1 := by
    have : ((⟨#[c0]⟩ : Str) ++ PySem.Txt.join ("" : Str) (cs.map fun c => (⟨#[c]⟩ : Str))).cps.toList.length = cs.length + 1 := by rw [e]; simp
    simpa [Str.length] using this
  constructor
  unfold nameB
  rw [e, el]
  simp only [Bool.and_eq_true, decide_eq_true_eq, List.all_eq_true]
  refine ⟨⟨by omega, by omega⟩, h0, fun c hc => ?_⟩
  rcases List.mem_cons.mp hc with rfl | hc
  · exact let_sgn _ h0
  · exact ltd_sgn c (h c hc)
theorem name_ok {p : Nat} {S : Store} (h : Pen p S) : ∃ z S', m__law_name [.ptr p] S = .ok (.str z) S' ∧ NameS z ∧ Pen p S' ∧ Keep p S S' := by
  have A : (7956 : Int).natAbs < 2 ^ 63 := by decide
  have B : (91784 : Int).natAbs < 2 ^ 63 := by decide
  have hc : cap = 16777216 := rfl
  obtain ⟨v, S1, e1, p1, k1, r1⟩ := draw_ok A B h (m := 8) (by decide)
  rw [if_neg (by decide)] at r1
  have add : ∀ T : Store, oAdd (.str LET) (.str "0123456789999") T = .ok (.str LTD) T := fun T => by
    have e : (LET ++ ("0123456789999" : Str) : Str) = LTD := by decide +kernel
    have l : LET.length + ("0123456789999" : Str).length ≤ cap := by decide +kernel
    simp only [oAdd, l, if_true, e]
  obtain ⟨xs, S2, q2, ⟨p2, k2⟩, hx, hl⟩ := compGo_inv (ok := fun _ => True) (g := gSlot 3) (t := tTrue) (e := (eN (pickM 7956 91784) (eCons (eVar 0) (eCons (e2 oAdd (eVar 1) (eC (.str "0123456789999"))) eNil)))) (ρ := [some (.ptr p), some (.str LET), none, none])
    (fun T => Pen p T ∧ Keep p S T) (fun x => ∃ c : Nat, x = .str ⟨#[c]⟩ ∧ c ∈ LTD.cps.toList) (fun _ _ => trivial) (rangeD 0 v.toNat) [] S1 ⟨p1, k1⟩ (by
      intro d _ T hT
      obtain ⟨c, T', f1, f2, f3, f4⟩ := pick_str A B hT.1 (z := LTD) (by decide +kernel) (by decide +kernel)
      refine ⟨[some (.ptr p), some (.str LET), none, some d], rfl, rfl, .str ⟨#[c]⟩, T', ?_, ⟨f3, hT.2.trans f4⟩, c, rfl, f2⟩
      simp only [eN, eCons, eNil, eVar, e2, eC, List.getElem?_cons_zero, List.getElem?_cons_succ, R.bind_ok, add, f1]) (by simp [rangeD]; omega)
  obtain ⟨cs, rfl, hcs⟩ := singles hx
  have lcs : cs.length ≤ 7 := by
    simp [rangeD] at hl
    omega
  obtain ⟨c0, S4, e4, h0, p4, k4⟩ := pick_str A B (p2.app [.lst (cs.map fun c => D.str ⟨#[c]⟩)]) (z := LET) (by decide +kernel) (by decide +kernel)
  refine ⟨_, S4, ?_, name_of h0 hcs lcs, p4, (k2.trans (Keep.app p S2 _)).trans k4⟩
  have it : itemsD (.ptr S2.length) (S2 ++ [.lst (cs.map fun c => D.str ⟨#[c]⟩)]) = some (cs.map fun c => D.str ⟨#[c]⟩) := by simp [itemsD]
  have st : strsD (cs.map fun c => D.str ⟨#[c]⟩) = some (cs.map fun c => (⟨#[c]⟩ : Str)) := by
    have := strs_map (cs.map fun c => (⟨#[c]⟩ : Str))
    rw [List.map_map] at this
    exact this
  have sz : ((cs.map fun c => (⟨#[c]⟩ : Str)).map (·.length)).sum + (cs.map fun c => (⟨#[c]⟩ : Str)).length * ("" : Str).length ≤ 16777216 := by
    have z : ("" : Str).length = 0 := by decide +kernel
    rw [z]
    have : ∀ l : List Nat, ((l.map fun c => (⟨#[c]⟩ : Str)).map (·.length)).sum = l.length := by
      intro l
      induction l with
      | nil => rfl
      | cons c l ih =>
        simp only [List.map_cons, List.sum_cons, ih, List.length_cons]
        show (#[c] : Array Nat).size + l.length = l.length + 1
        simp
        omega
    rw [this]
    simp
    omega
  have v8 : -(2 ^ 62) ≤ v ∧ v < 2 ^ 62 := by omega
  have ladd : (⟨#[c0]⟩ : Str).length + (PySem.Txt.join ("" : Str) (cs.map fun c => (⟨#[c]⟩ : Str))).length ≤ cap := by
    have e := (name_of h0 hcs lcs).len
    rw [len_append] at e
    omega
  simp only [m__law_name, draw_eq, pick_eq, body, List.length_cons, List.length_nil, Nat.zero_add, ne_eq, not_true, if_false, List.map_cons, List.map_nil, Nat.reduceSub, List.replicate, List.cons_append, List.nil_append, sSeq, sSet, eC, R.bind_ok, List.set_cons_zero, List.set_cons_succ, eJoin, eNew, lComp, iRange1, eN, eCons, eNil, eVar, List.getElem?_cons_zero, List.getElem?_cons_succ, e1, v8, and_self, if_true, wipe]
  rw [q2]
  simp only [R.bind_ok, List.nil_append, it, st, sz, if_true, sRet, e2, eN, eCons, eNil, eVar, List.getElem?_cons_zero, List.getElem?_cons_succ, e4, oAdd, ladd]
end NM

set_option linter.all false
set_option maxRecDepth 100000
set_option maxHeartbeats 4000000
namespace NM
open PySem (Str PyData)
theorem tyD_app {a : Nat} {S : Store} {t : Ty} (h : tyD (.ptr a) S = some t) (T : Store) : tyD (.ptr a) (S ++ T) = some t := by
  have hl : a < S.length := by
    by_cases q : a < S.length
    · exact q
    · simp [tyD, List.getElem?_eq_none (Nat.le_of_not_lt q)] at h
  dsimp only [tyD] at h ⊢
  rw [List.getElem?_append_left hl]
  exact h
def rowsD (x : Str) (l : List (Str × Str)) : List D := l.map fun p => .tup [.str p.1, .bl (anc x p.2)]
def rowsE : List (Str × Str) → Exs
  | [] => eNil
  | p :: r => eCons (eTup (eCons (eC (.str p.1)) (eCons (eIsi [.own p.2] (eVar 0)) eNil))) (rowsE r)
theorem any_own (x y : Str) : anyTy (.own x) [.own y] = some (anc x y) := by
  cases h : anc x y <;> simp [anyTy, subTy, h]
theorem rows_ok {x : Str} {a : Nat} {S : Store} {ρ : Rho} (h : tyD (.ptr a) S = some (.own x)) (hr : ρ[0]? = some (some (.ptr a))) : ∀ l : List (Str × Str), rowsE l ρ S = .ok (rowsD x l) S
  | [] => rfl
  | p :: r => by
    have h2 : (2 : Nat) ≤ cap := by decide
    simp only [rowsE, eCons, eTup, eC, R.bind_ok, eIsi, eVar, hr, bIsi, h, any_own, eNil, List.length_cons, List.length_nil, Nat.zero_add, Nat.reduceAdd, h2, if_true, rows_ok h hr r]
    rfl
theorem cat_ok {S : Store} {n : Nat} {xs ys : List D} {ρ : Rho} {as : Exs} (hr : ρ[1]? = some (some (.ptr n))) (hn : S[n]? = some (.lst xs)) (ha : as ρ S = .ok ys S) (hl : xs.length + ys.length ≤ cap) :
    lCat (eVar 1) (eNew (lDisp as)) ρ S = .ok (xs ++ ys) (S ++ [.lst ys]) := by
  have h1 : ys.length ≤ cap := by omega
  have h2 : (S ++ [O.lst ys])[n]? = some (.lst xs) := by rw [List.getElem?_append_left (List.getElem?_eq_some_iff.mp hn).1]; exact hn
  have h3 : (S ++ [O.lst ys])[S.length]? = some (.lst ys) := by simp
  simp only [lCat, eVar, hr, R.bind_ok, eNew, lDisp, ha, h1, if_true, h2, h3, hl]
abbrev rw1 : List (Str × Str) := [("value", "BadValue"), ("number", "BadNumber"), ("ratio", "BadRatio"), ("name", "BadName")]
abbrev rw2 : List (Str × Str) := [("layer", "BadLayer"), ("deal", "BadDeal"), ("kinds", "BadKinds"), ("crowd", "BadCrowd")]
abbrev rw3 : List (Str × Str) := [("sight", "BadSight"), ("claims", "BadClaims"), ("trial", "BadTrial"), ("rule", "BadRule")]
abbrev rw4 : List (Str × Str) := [("world", "BadWorld"), ("paper", "BadPaper"), ("misfit", "Misfit")]
abbrev rwA : List (Str × Str) := rw1 ++ rw2 ++ rw3 ++ rw4
theorem word_ok {x : Str} {a : Nat} {S : Store} {d : D} {word : Str} (h : tyD (.ptr a) S = some (.own x)) (hp : ∀ T : Store, oXf "part" (.ptr a) (S ++ T) = .ok d (S ++ T)) (hw : rwA.filter (fun p => anc x p.2) = [(word, x)]) :
    ∃ T, m__law_word_of [.ptr a] S = .ok (.tup [.str word, d]) (S ++ T) := by
  have hc : cap = 16777216 := rfl
  let S1 := S ++ [O.lst (rowsD x rw1)]
  let S2 := S1 ++ [O.lst (rowsD x rw2)]
  let S3 := S2 ++ [O.lst (rowsD x rw1 ++ rowsD x rw2)]
  let S4 := S3 ++ [O.lst (rowsD x rw3)]
  let S5 := S4 ++ [O.lst (rowsD x rw1 ++ rowsD x rw2 ++ rowsD x rw3)]
  let S6 := S5 ++ [O.lst (rowsD x rw4)]
  let S7 := S6 ++ [O.lst (rowsD x rw1 ++ rowsD x rw2 ++ rowsD x rw3 ++ rowsD x rw4)]
  let S8 := S7 ++ [O.lst [D.str word]]
  let S9 := S8 ++ [O.lst [D.str "other"]]
  let SA := S9 ++ [O.lst [D.str word, D.str "other"]]
  have t1 : tyD (.ptr a) S1 = some (.own x) := tyD_app h _
  have t3 : tyD (.ptr a) S3 = some (.own x) := tyD_app (tyD_app t1 _) _
  have t5 : tyD (.ptr a) S5 = some (.own x) := tyD_app (tyD_app t3 _) _
  have r1 := rows_ok (ρ := [some (.ptr a), none, none, none]) h rfl rw1
  have r2 := rows_ok (ρ := [some (.ptr a), some (.ptr S.length), none, none]) t1 rfl rw2
  have r3 := rows_ok (ρ := [some (.ptr a), some (.ptr S2.length), none, none]) t3 rfl rw3
  have r4 := rows_ok (ρ := [some (.ptr a), some (.ptr S4.length), none, none]) t5 rfl rw4
  have l1 : S1[S.length]? = some (.lst (rowsD x rw1)) := by simp [S1]
  have l3 : S3[S2.length]? = some (.lst (rowsD x rw1 ++ rowsD x rw2)) := by simp [S3]
  have l5 : S5[S4.length]? = some (.lst (rowsD x rw1 ++ rowsD x rw2 ++ rowsD x rw3)) := by simp [S5]
  have l7 : S7[S6.length]? = some (.lst (rowsD x rw1 ++ rowsD x rw2 ++ rowsD x rw3 ++ rowsD x rw4)) := by simp [S7]
  have l8 : S9[S7.length]? = some (.lst [D.str word]) := by simp [S9, S8]
  have l9 : S9[S8.length]? = some (.lst [D.str "other"]) := by simp [S9]
  have lA : SA[S9.length]? = some (.lst [D.str word, D.str "other"]) := by simp [SA]
  have c2 := cat_ok (ρ := [some (.ptr a), some (.ptr S.length), none, none]) rfl l1 r2 (by simp [rowsD]; omega)
  have c3 := cat_ok (ρ := [some (.ptr a), some (.ptr S2.length), none, none]) rfl l3 r3 (by simp [rowsD]; omega)
  have c4 := cat_ok (ρ := [some (.ptr a), some (.ptr S4.length), none, none]) rfl l5 r4 (by simp [rowsD]; omega)
  have all : rowsD x rw1 ++ rowsD x rw2 ++ rowsD x rw3 ++ rowsD x rw4 = rowsD x rwA := by simp [rowsD]
  have comp := compGo_filter (ok := fun S' => S'[S6.length]? = some (.lst (rowsD x rwA))) (g := gUnp [gSlot 2, gSlot 3]) (t := tVal (eVar 3)) (e := eVar 2) (ρ := [some (.ptr a), some (.ptr S6.length), none, none]) (S := S7)
    (fun d => match d with | .tup [w, _] => w | _ => .non) (fun d => match d with | .tup [_, .bl b] => b | _ => false) (by rw [← all]; exact l7) (rowsD x rwA) []
    (by
      intro d hd
      obtain ⟨p, _, rfl⟩ := List.mem_map.mp hd
      exact ⟨[some (.ptr a), some (.ptr S6.length), some (.str p.1), some (.bl (anc x p.2))], rfl, by simp [tVal, eVar], fun _ => rfl⟩) (by simp [rowsD]; omega)
  have fil : ((rowsD x rwA).filter (fun d => match d with | .tup [_, .bl b] => b | _ => false)).map (fun d => match d with | .tup [w, _] => w | _ => .non) = [D.str word] := by
    unfold rowsD
    rw [List.filter_map, List.map_map]
    have e : ((fun d => match d with | D.tup [_, .bl b] => b | _ => false) ∘ fun p : Str × Str => D.tup [.str p.1, .bl (anc x p.2)]) = fun p : Str × Str => anc x p.2 := rfl
    rw [e, hw]
    rfl
  rw [fil, List.nil_append] at comp
  have n4 : ∀ l : List (Str × Str), l.length ≤ 4 → (rowsD x l).length ≤ cap := fun l h => by simp [rowsD]; omega
  have hl1 : (rowsD x rw1).length ≤ cap := n4 rw1 (by decide)
  have pa : oXf "part" (.ptr a) SA = .ok d SA := by
    have := hp ([O.lst (rowsD x rw1)] ++ [O.lst (rowsD x rw2)] ++ [O.lst (rowsD x rw1 ++ rowsD x rw2)] ++ [O.lst (rowsD x rw3)] ++ [O.lst (rowsD x rw1 ++ rowsD x rw2 ++ rowsD x rw3)] ++ [O.lst (rowsD x rw4)] ++ [O.lst (rowsD x rw1 ++ rowsD x rw2 ++ rowsD x rw3 ++ rowsD x rw4)] ++ [O.lst [D.str word]] ++ [O.lst [D.str "other"]] ++ [O.lst [D.str word, D.str "other"]])
    simpa only [SA, S9, S8, S7, S6, S5, S4, S3, S2, S1, List.append_assoc] using this
  have i1 : (1 : Nat) ≤ cap := by decide
  have i2 : (1 : Nat) + 1 ≤ cap := by decide
  have i3 : (2 : Nat) ≤ cap := by decide
  refine ⟨[O.lst (rowsD x rw1)] ++ [O.lst (rowsD x rw2)] ++ [O.lst (rowsD x rw1 ++ rowsD x rw2)] ++ [O.lst (rowsD x rw3)] ++ [O.lst (rowsD x rw1 ++ rowsD x rw2 ++ rowsD x rw3)] ++ [O.lst (rowsD x rw4)] ++ [O.lst (rowsD x rw1 ++ rowsD x rw2 ++ rowsD x rw3 ++ rowsD x rw4)] ++ [O.lst [D.str word]] ++ [O.lst [D.str "other"]] ++ [O.lst [D.str word, D.str "other"]], ?_⟩
  have eA : S ++ ([O.lst (rowsD x rw1)] ++ [O.lst (rowsD x rw2)] ++ [O.lst (rowsD x rw1 ++ rowsD x rw2)] ++ [O.lst (rowsD x rw3)] ++ [O.lst (rowsD x rw1 ++ rowsD x rw2 ++ rowsD x rw3)] ++ [O.lst (rowsD x rw4)] ++ [O.lst (rowsD x rw1 ++ rowsD x rw2 ++ rowsD x rw3 ++ rowsD x rw4)] ++ [O.lst [D.str word]] ++ [O.lst [D.str "other"]] ++ [O.lst [D.str word, D.str "other"]]) = SA := by
    simp only [SA, S9, S8, S7, S6, S5, S4, S3, S2, S1, List.append_assoc]
  rw [eA]
  have src : srcOf (.ptr S6.length) S7 = .ok ⟨rowsD x rwA, fun S' => S'[S6.length]? = some (.lst (rowsD x rwA))⟩ S7 := by
    have l7' := l7
    rw [all] at l7'
    simp only [srcOf, l7']
  have q1 : sSet 1 (eNew (lDisp (rowsE rw1))) [some (.ptr a), none, none, none] S = .ok (.next [some (.ptr a), some (.ptr S.length), none, none]) S1 := by
    simp only [sSet, eNew, lDisp, r1, R.bind_ok, hl1, if_true, List.set_cons_zero, List.set_cons_succ, S1]
  have q2 : sSet 1 (eNew (lCat (eVar 1) (eNew (lDisp (rowsE rw2))))) [some (.ptr a), some (.ptr S.length), none, none] S1 = .ok (.next [some (.ptr a), some (.ptr S2.length), none, none]) S3 := by
    simp only [sSet, eNew, c2, R.bind_ok, List.set_cons_zero, List.set_cons_succ]
    rfl
  have q3 : sSet 1 (eNew (lCat (eVar 1) (eNew (lDisp (rowsE rw3))))) [some (.ptr a), some (.ptr S2.length), none, none] S3 = .ok (.next [some (.ptr a), some (.ptr S4.length), none, none]) S5 := by
    have : eNew (lCat (eVar 1) (eNew (lDisp (rowsE rw3)))) [some (.ptr a), some (.ptr S2.length), none, none] S3 = .ok (.ptr S4.length) S5 := by
      show (lCat (eVar 1) (eNew (lDisp (rowsE rw3))) _ _).bind _ = _
      rw [c3]; rfl
    simp only [sSet, this, R.bind_ok, List.set_cons_zero, List.set_cons_succ]
  have q4 : sSet 1 (eNew (lCat (eVar 1) (eNew (lDisp (rowsE rw4))))) [some (.ptr a), some (.ptr S4.length), none, none] S5 = .ok (.next [some (.ptr a), some (.ptr S6.length), none, none]) S7 := by
    have : eNew (lCat (eVar 1) (eNew (lDisp (rowsE rw4)))) [some (.ptr a), some (.ptr S4.length), none, none] S5 = .ok (.ptr S6.length) S7 := by
      show (lCat (eVar 1) (eNew (lDisp (rowsE rw4))) _ _).bind _ = _
      rw [c4]; rfl
    simp only [sSet, this, R.bind_ok, List.set_cons_zero, List.set_cons_succ]
  have lc : lComp (iD (eVar 1)) (gUnp [(gSlot 2), (gSlot 3)]) (tVal (eVar 3)) (eVar 2) [2, 3] [some (.ptr a), some (.ptr S6.length), none, none] S7 = .ok [D.str word] S7 := by
    simp only [lComp, iD, eVar, List.getElem?_cons_zero, List.getElem?_cons_succ, R.bind_ok, src, wipe, List.set_cons_zero, List.set_cons_succ]
    exact comp
  have q5 : lCat (eNew (lComp (iD (eVar 1)) (gUnp [(gSlot 2), (gSlot 3)]) (tVal (eVar 3)) (eVar 2) [2, 3])) (eNew (lDisp (eCons (eC (.str "other")) eNil))) [some (.ptr a), some (.ptr S6.length), none, none] S7 = .ok [D.str word, D.str "other"] S9 := by
    have a1 : eNew (lComp (iD (eVar 1)) (gUnp [(gSlot 2), (gSlot 3)]) (tVal (eVar 3)) (eVar 2) [2, 3]) [some (.ptr a), some (.ptr S6.length), none, none] S7 = .ok (.ptr S7.length) S8 := by
      show (lComp _ _ _ _ _ _ _).bind _ = _
      rw [lc]; rfl
    have a2 : eNew (lDisp (eCons (eC (.str "other")) eNil)) [some (.ptr a), some (.ptr S6.length), none, none] S8 = .ok (.ptr S8.length) S9 := by
      simp only [eNew, lDisp, eCons, eC, eNil, R.bind_ok, List.length_cons, List.length_nil, Nat.zero_add, i1, if_true, S9]
    simp only [lCat, a1, a2, R.bind_ok, l8, l9, List.length_cons, List.length_nil, Nat.zero_add, i2, if_true]
    rfl
  have q6 : e2 oIx (eNew (lCat (eNew (lComp (iD (eVar 1)) (gUnp [(gSlot 2), (gSlot 3)]) (tVal (eVar 3)) (eVar 2) [2, 3])) (eNew (lDisp (eCons (eC (.str "other")) eNil))))) (eC (.int 0)) [some (.ptr a), some (.ptr S6.length), none, none] S7 = .ok (.str word) SA := by
    have a1 : eNew (lCat (eNew (lComp (iD (eVar 1)) (gUnp [(gSlot 2), (gSlot 3)]) (tVal (eVar 3)) (eVar 2) [2, 3])) (eNew (lDisp (eCons (eC (.str "other")) eNil)))) [some (.ptr a), some (.ptr S6.length), none, none] S7 = .ok (.ptr S9.length) SA := by
      show (lCat _ _ _ _).bind _ = _
      rw [q5]; rfl
    have a2 : oIx (.ptr S9.length) (.int 0) SA = .ok (.str word) SA := by simp [oIx, lA, atD, ixD]
    simp only [e2, a1, eC, R.bind_ok, a2]
  have e0 : m__law_word_of = body 1 4 (sSeq (sSet 1 (eNew (lDisp (rowsE rw1)))) (sSeq (sSet 1 (eNew (lCat (eVar 1) (eNew (lDisp (rowsE rw2)))))) (sSeq (sSet 1 (eNew (lCat (eVar 1) (eNew (lDisp (rowsE rw3)))))) (sSeq (sSet 1 (eNew (lCat (eVar 1) (eNew (lDisp (rowsE rw4))))))
    (sRet (eTup (eCons (e2 oIx (eNew (lCat (eNew (lComp (iD (eVar 1)) (gUnp [(gSlot 2), (gSlot 3)]) (tVal (eVar 3)) (eVar 2) [2, 3])) (eNew (lDisp (eCons (eC (.str "other")) eNil))))) (eC (.int 0))) (eCons (e1 (oXf "part") (eVar 0)) eNil)))))))) := rfl
  rw [e0]
  simp only [body, List.length_cons, List.length_nil, Nat.zero_add, ne_eq, not_true, if_false, List.map_cons, List.map_nil, Nat.reduceSub, List.replicate, List.cons_append, List.nil_append, sSeq, q1, q2, q3, q4, R.bind_ok, sRet, eTup, eCons, q6, e1, eVar, List.getElem?_cons_zero, pa, eNil, Nat.reduceAdd, i3, if_true]
end NM

set_option linter.all false
set_option maxRecDepth 100000
set_option maxHeartbeats 4000000
namespace NM
open PySem (Str PyData)
theorem caught_ok {x word w : Str} {m : Ex} {ρ : Rho} {S S1 : Store} (hx : x ∈ errs) (h1 : anc x "TooMany" = false) (h2 : anc x "BadText" = false) (h3 : anc x "BadLog" = false) (h4 : anc x "BadLine" = false) (h5 : anc x "NoName" = false) (h6 : anc x "Nothing" = false)
    (hw : rwA.filter (fun p => anc x p.2) = [(word, x)]) (hm : m ρ S = .exc x [("part", .str w)] S1) : ∃ T, eCaught errs m m__law_caught ρ S = .ok (.tup [.str word, .str w]) (S1 ++ T) := by
  let S2 := S1 ++ [O.exc x [("part", .str w)]]
  have g : S2[S1.length]? = some (.exc x [("part", .str w)]) := by simp [S2]
  have t : tyD (.ptr S1.length) S2 = some (.own x) := by simp only [tyD, g]
  have pt : ∀ T : Store, oXf "part" (.ptr S1.length) (S2 ++ T) = .ok (.str w) (S2 ++ T) := fun T => by
    have g2 : (S2 ++ T)[S1.length]? = some (.exc x [("part", .str w)]) := by rw [List.getElem?_append_left (by simp [S2])]; exact g
    simp [oXf, g2]
  obtain ⟨T, e⟩ := word_ok t pt hw
  refine ⟨[O.exc x [("part", .str w)]] ++ T, ?_⟩
  have e0 : eCaught errs m m__law_caught ρ S = fin m__law_caught [none, some (.ptr S1.length), none, none] S2 := by
    unfold eCaught
    rw [hm]
    simp only [hx, if_true]
    rfl
  rw [e0, ← List.append_assoc]
  simp only [fin, m__law_caught, sSeq, sIf, tVal, e2, eVar, eC, List.getElem?_cons_zero, List.getElem?_cons_succ, R.bind_ok, oIsN, Bool.false_eq_true, if_false, sNext, eIsi, bIsi, t, any_own, h1, h2, h3, h4, h5, h6, sRet, eN, eCons, eNil, e, shut_ok]
  rfl
theorem flagsN : anc "BadName" "TooMany" = false ∧ anc "BadName" "BadText" = false ∧ anc "BadName" "BadLog" = false ∧ anc "BadName" "BadLine" = false ∧ anc "BadName" "NoName" = false ∧ anc "BadName" "Nothing" = false ∧ rwA.filter (fun p => anc "BadName" p.2) = ([("name", "BadName")] : List (Str × Str)) := by decide +kernel
theorem flagsM : anc "BadNumber" "TooMany" = false ∧ anc "BadNumber" "BadText" = false ∧ anc "BadNumber" "BadLog" = false ∧ anc "BadNumber" "BadLine" = false ∧ anc "BadNumber" "NoName" = false ∧ anc "BadNumber" "Nothing" = false ∧ rwA.filter (fun p => anc "BadNumber" p.2) = ([("number", "BadNumber")] : List (Str × Str)) := by decide +kernel
theorem caughtN {w : Str} {m : Ex} {ρ : Rho} {S S1 : Store} (hm : m ρ S = .exc "BadName" [("part", .str w)] S1) : ∃ T, eCaught errs m m__law_caught ρ S = .ok (.tup [.str "name", .str w]) (S1 ++ T) :=
  let ⟨a, b, c, d, e, f, g⟩ := flagsN
  caught_ok (by decide) a b c d e f g hm
theorem caughtM {w : Str} {m : Ex} {ρ : Rho} {S S1 : Store} (hm : m ρ S = .exc "BadNumber" [("part", .str w)] S1) : ∃ T, eCaught errs m m__law_caught ρ S = .ok (.tup [.str "number", .str w]) (S1 ++ T) :=
  let ⟨a, b, c, d, e, f, g⟩ := flagsM
  caught_ok (by decide) a b c d e f g hm
end NM

set_option linter.all false
set_option maxRecDepth 100000
set_option maxHeartbeats 4000000
namespace NM
open PySem (Str PyData)
theorem pen_ok {x : D} {S : Store} {ns : List Int} (h : x = .frl (ns.map .int) ∨ ∃ n, x = .ptr n ∧ S[n]? = some (.lst (ns.map .int))) : ∃ p S', m__law_pen [x] S = .ok (.ptr p) S' ∧ Pen p S' := by
  let A := cutD (ns.map D.int) none (some 63)
  have eA : A = (cutD ns none (some 63)).map D.int := by
    show cutD (ns.map D.int) none (some 63) = _
    simp [cutD, List.map_take, List.map_drop]
  have sl : lSl (eVar 0) oNone (oSome (eC (.int 63))) [some x] S = .ok A S := by
    rcases h with rfl | ⟨n, rfl, hn⟩
    · simp only [lSl, eVar, List.getElem?_cons_zero, R.bind_ok, oNone, oSome, eC, A]
    · simp only [lSl, eVar, List.getElem?_cons_zero, R.bind_ok, oNone, oSome, eC, hn, A]
  let S1 := S ++ [O.lst A]
  let S2 := S1 ++ [O.lst A]
  let S3 := S2 ++ [O.lst [.ptr S1.length, .int 0, .int 0]]
  have i1 : itemsD (.ptr S.length) S1 = some A := by simp [itemsD, S1]
  have c3 : (3 : Nat) ≤ cap := by decide
  refine ⟨S2.length, S3, ?_, S1.length, 0, 0, cutD ns none (some 63), by simp [S3], ?_, by simp [S2]⟩
  · simp only [m__law_pen, body, List.length_cons, List.length_nil, Nat.zero_add, ne_eq, not_true, if_false, List.map_cons, List.map_nil, Nat.sub_self, List.replicate, List.append_nil, sRet, eNew, lDisp, eCons, eNil, lOf, sl, R.bind_ok]
    rw [show S ++ [O.lst A] = S1 from rfl]
    simp only [i1, R.bind_ok, eC, List.length_cons, List.length_nil, Nat.zero_add, Nat.reduceAdd, c3, if_true]
    rfl
  · rw [← eA]
    simp [S3, S2]
theorem ne_int (a : Int) (S : Store) : oNe (.int a) (.int a) S = .ok (.bl false) S ∧ oEq (.int a) (.int a) S = .ok (.bl true) S := by
  constructor <;> simp [oNe, oEq, rd, PySem.PyData.eqv]
noncomputable def testM : Tx := (tOr (tVal (e2 oNe (eN m_spot (eCons (eVar 3) (eCons (eVar 4) (eCons (eVar 5) eNil)))) (eN m__law_spot (eCons (eVar 3) (eCons (eVar 4) (eCons (eVar 5) eNil)))))) (tOr (tVal (e2 oNe (eCallK m_spot (fun a b => gkw_spot_0_spots_name_salt a b) eNil (eCons (eVar 5) (eCons (eVar 4) (eCons (eVar 3) eNil)))) (eN m__law_spot (eCons (eVar 3) (eCons (eVar 4) (eCons (eVar 5) eNil)))))) (tNot (tVal (eChain oLe oLt (eC (.int 0)) (eN m_spot (eCons (eVar 3) (eCons (eVar 4) (eCons (eVar 5) eNil)))) (eVar 5))))))
noncomputable def body1 : Sx := (sSeq (sPar3 3 4 5 (eCons (eN m__law_name (eCons (eVar 1) eNil)) (eCons (eN m__law_name (eCons (eVar 1) eNil)) (eCons (e2 oAdd (eC (.int 1)) (eN m__law_draw (eCons (eVar 1) (eCons (eC (.int 64)) eNil)))) eNil)))) (sIf testM (sRet (eC (.bl false))) sNext))
theorem body1_ok {p : Nat} {S : Store} {x0 a2 a3 a4 a5 a6 a7 a8 a9 a10 : Option D} (h : Pen p S) :
    ∃ z1 z2 n S', body1 [x0, some (.ptr p), a2, a3, a4, a5, a6, a7, a8, a9, a10] S = .ok (.next [x0, some (.ptr p), a2, some (.str z1), some (.str z2), some (.int n), a6, a7, a8, a9, a10]) S' ∧ Pen p S' := by
  obtain ⟨z1, S1, e1', n1, p1, k1⟩ := name_ok h
  obtain ⟨z2, S2, e2', n2, p2, k2⟩ := name_ok p1
  obtain ⟨v, S3, e3', p3, k3, r3⟩ := draw_ok (a := 7956) (b := 91784) (by decide) (by decide) p2 (m := 64) (by decide)
  rw [if_neg (by decide)] at r3
  obtain ⟨S4, l4, o4⟩ := law_spot_ok (salt := z1) (name := z2) (n := 1 + v) (S := S3) n1 n2 (by omega)
  obtain ⟨S5, l5, o5⟩ := law_spot_ok (salt := z1) (name := z2) (n := 1 + v) (S := S4) n1 n2 (by omega)
  have s3 := spot_ok (salt := z1) (name := z2) (n := 1 + v) (S := S3) n1 n2 (by omega) (by omega)
  have s4 := spot_ok (salt := z1) (name := z2) (n := 1 + v) (S := S4) n1 n2 (by omega) (by omega)
  have s5 := spot_ok (salt := z1) (name := z2) (n := 1 + v) (S := S5) n1 n2 (by omega) (by omega)
  obtain ⟨b0, b1⟩ := spot_rng (salt := z1) (name := z2) (n := 1 + v) (by omega)
  have q4 := (ne_int (SpotV z1 z2 (1 + v)) S4).1
  have q5 := (ne_int (SpotV z1 z2 (1 + v)) S5).1
  refine ⟨z1, z2, 1 + v, S5, ?_, o5.pen (o4.pen p3)⟩
  simp only [body1, testM, sSeq, sPar3, eCons, eNil, eN, eVar, List.getElem?_cons_zero, List.getElem?_cons_succ, R.bind_ok, e1', e2', draw_eq, e2, eC, e3', oAdd, List.set_cons_zero, List.set_cons_succ, sIf, tOr, tVal, s3, l4, q4, Bool.false_eq_true, if_false, eCallK, gkw_spot_0_spots_name_salt, s4, l5, q5, tNot, eChain, s5, oLe, oI, b0, decide_true, oLt, b1, Bool.not_true, sNext]
end NM

set_option linter.all false
set_option maxRecDepth 100000
set_option maxHeartbeats 4000000
namespace NM
open PySem (Str PyData)
/-- no name, now and later -/
def BadN (p : Nat) (d : D) (S : Store) : Prop := (∃ z, d = .str z ∧ z.length ≤ cap ∧ nameB z = false) ∨ ∃ t, (∀ S', Keep p S S' → tyD d S' = some t) ∧ subTy t (.ty "str") = some false
theorem BadN.isn {p : Nat} {d : D} {S S' : Store} (h : BadN p d S) (k : Keep p S S') : m_is_name [d] S' = .ok (.bl false) S' := by
  rcases h with ⟨z, rfl, hl, hb⟩ | ⟨t, ht, hs⟩
  · rw [isn_str hl, hb]
  · exact isn_other (ht S' k) hs
theorem BadN.of_str {p : Nat} {S : Store} (z : Str) (hl : z.length ≤ cap) (hb : nameB z = false) : BadN p (.str z) S := .inl ⟨z, rfl, hl, hb⟩
theorem BadN.of_ty {p : Nat} {d : D} {S : Store} (t : String) (h : ∀ S', tyD d S' = some (.ty t)) (hs : subTy (.ty t) (.ty "str") = some false) : BadN p d S := .inr ⟨_, fun S' _ => h S', hs⟩
def NotI (d : D) : Prop := ∀ S, m_is_between [d, .int 1, .int 64] S = .ok (.bl false) S
def L1 (a f : Nat) : List D := [.non, .int 5, .str "", .str "9a", .str "Ann", .str "a b", .str "abcdefghi", .ptr a, .bl true, .ptr f]
def L2 : List D := [.non, .str "", .str "-", .str "ann/", .int 0, .tup []]
def L3 : List D := [.int 0, .int 65, .int (-1), .bl true, .non, .str "2", .int (10 ^ 29)]
theorem L1_bad {p a f : Nat} {S : Store} {ds : List D} (ha : S[a]? = some (.lst ds)) (ap : a ≠ p) (hf : S[f]? = some .fn) (fp : f ≠ p) : ∀ d ∈ L1 a f, BadN p d S := by
  intro d hd
  simp only [L1, List.mem_cons, List.not_mem_nil, or_false] at hd
  rcases hd with rfl | rfl | rfl | rfl | rfl | rfl | rfl | rfl | rfl | rfl
  · exact .of_ty "NoneType" (fun _ => rfl) (by decide)
  · exact .of_ty "int" (fun _ => rfl) (by decide)
  · exact .of_str _ (by decide +kernel) (by decide +kernel)
  · exact .of_str _ (by decide +kernel) (by decide +kernel)
  · exact .of_str _ (by decide +kernel) (by decide +kernel)
  · exact .of_str _ (by decide +kernel) (by decide +kernel)
  · exact .of_str _ (by decide +kernel) (by decide +kernel)
  · exact .inr ⟨.ty "list", fun S' k => by simp [tyD, k.at_ ha ap], by decide⟩
  · exact .of_ty "bool" (fun _ => rfl) (by decide)
  · exact .inr ⟨.ty "function", fun S' k => by simp [tyD, k.at_ hf fp], by decide⟩
theorem L2_bad {p : Nat} {S : Store} : ∀ d ∈ L2, BadN p d S := by
  intro d hd
  simp only [L2, List.mem_cons, List.not_mem_nil, or_false] at hd
  rcases hd with rfl | rfl | rfl | rfl | rfl | rfl
  · exact .of_ty "NoneType" (fun _ => rfl) (by decide)
  · exact .of_str _ (by decide +kernel) (by decide +kernel)
  · exact .of_str _ (by decide +kernel) (by decide +kernel)
  · exact .of_str _ (by decide +kernel) (by decide +kernel)
  · exact .of_ty "int" (fun _ => rfl) (by decide)
  · exact .of_ty "tuple" (fun _ => rfl) (by decide)
theorem L3_bad : ∀ d ∈ L3, NotI d := by
  intro d hd
  simp only [L3, List.mem_cons, List.not_mem_nil, or_false] at hd
  rcases hd with rfl | rfl | rfl | rfl | rfl | rfl | rfl
  · exact fun S => by rw [between_int]; rfl
  · exact fun S => by rw [between_int]; rfl
  · exact fun S => by rw [between_int]; rfl
  · exact fun S => between_not (t := .ty "bool") rfl (.inr ⟨by decide, by decide⟩)
  · exact fun S => between_not (t := .ty "NoneType") rfl (.inl (by decide))
  · exact fun S => between_not (t := .ty "str") rfl (.inl (by decide))
  · exact fun S => by rw [between_int]; rfl
def HL : List D := [.tup [.str "name", .str "salt"], .tup [.str "name", .str "name"], .tup [.str "number", .str "spots"]]
def HP : List PyData := [.tuple [.str "name", .str "salt"], .tuple [.str "name", .str "name"], .tuple [.str "number", .str "spots"]]
theorem rd_HL (S : Store) : mapO (rd S 29) HL = some HP := by
  have o : okS "name" = true ∧ okS "salt" = true ∧ okS "number" = true ∧ okS "spots" = true := by decide +kernel
  simp [HL, HP, mapO, rd, o]
theorem eq_HP : PyData.eqv (.list HP) (.list HP) = true := by
  simp [HP, PySem.PyData.eqv, PySem.PyData.eqvAll]
noncomputable def E1 : Ex := (eN m__law_pick (eCons (eVar 1) (eCons (eNew (lDisp (eCons (eC .non) (eCons (eC (.int 5)) (eCons (eC (.str "")) (eCons (eC (.str "9a")) (eCons (eC (.str "Ann")) (eCons (eC (.str "a b")) (eCons (eC (.str "abcdefghi")) (eCons (eNew (lDisp (eCons (eC (.str "a")) eNil))) (eCons (eC (.bl true)) (eCons (eVar 6) eNil)))))))))))) eNil)))
noncomputable def E2 : Ex := (eN m__law_pick (eCons (eVar 1) (eCons (eNew (lDisp (eCons (eC .non) (eCons (eC (.str "")) (eCons (eC (.str "-")) (eCons (eC (.str "ann/")) (eCons (eC (.int 0)) (eCons (eTup eNil) eNil)))))))) eNil)))
noncomputable def E3 : Ex := (eN m__law_pick (eCons (eVar 1) (eCons (eNew (lDisp (eCons (eC (.int 0)) (eCons (eC (.int 65)) (eCons (e1 oNeg (eC (.int 1))) (eCons (eC (.bl true)) (eCons (eC .non) (eCons (eC (.str "2")) (eCons (e2 oPow (eC (.int 10)) (eC (.int 29))) eNil))))))))) eNil)))
noncomputable def EH : Exs := (lDisp (eCons (eCaught errs (eN m_spot (eCons (eVar 7) (eCons (eVar 8) (eCons (eVar 9) eNil)))) m__law_caught) (eCons (eCaught errs (eN m_spot (eCons (eC (.str "ann")) (eCons (eVar 8) (eCons (eVar 9) eNil)))) m__law_caught) (eCons (eCaught errs (eN m_spot (eCons (eC (.str "ann")) (eCons (eC (.str "bob")) (eCons (eVar 9) eNil)))) m__law_caught) eNil))))
noncomputable def EW : Ex := (eNew (lDisp (eCons (eTup (eCons (eC (.str "name")) (eCons (eC (.str "salt")) eNil))) (eCons (eTup (eCons (eC (.str "name")) (eCons (eC (.str "name")) eNil))) (eCons (eTup (eCons (eC (.str "number")) (eCons (eC (.str "spots")) eNil))) eNil)))))
noncomputable def body2 : Sx := (sSeq (sAsg (gUnp [(gSlot 7), (gSlot 8), (gSlot 9)]) (eTup (eCons E1 (eCons E2 (eCons E3 eNil)))))
    (sSeq (sSet 10 (eNew EH)) (sIf (tVal (e2 oNe (eVar 10) EW)) (sRet (eC (.bl false))) sNext)))
theorem pick1 {p f : Nat} {S : Store} {ρ : Rho} (h : Pen p S) (h1 : ρ[1]? = some (some (.ptr p))) (h6 : ρ[6]? = some (some (.ptr f))) (hf : S[f]? = some .fn) (fp : f ≠ p) : ∃ d S', E1 ρ S = .ok d S' ∧ BadN p d S' ∧ Pen p S' ∧ Keep p S S' := by
  let S1 := S ++ [O.lst [D.str "a"]]
  let S2 := S1 ++ [O.lst (L1 S.length f)]
  have hp := h.lt
  have h2 : Pen p S2 := (h.app _).app _
  have hl : S2[S1.length]? = some (.lst (L1 S.length f)) := by simp [S2]
  obtain ⟨d, S', e, hd, hp', hk⟩ := pick_lst (a := 7956) (b := 91784) (by decide) (by decide) h2 hl (by simp [S1]; omega) (by simp [L1]) (by simp [L1]; decide)
  have ha : S2[S.length]? = some (.lst [D.str "a"]) := by simp [S2, S1]
  have hf2 : S2[f]? = some .fn := by
    have lf : f < S.length := (List.getElem?_eq_some_iff.mp hf).1
    show (S ++ [O.lst [D.str "a"]] ++ _)[f]? = _
    rw [List.getElem?_append_left (by simp; omega), List.getElem?_append_left lf]
    exact hf
  have k0 : Keep p S S' := ((Keep.app p S _).trans (Keep.app p S1 _)).trans hk
  have c1 : (1 : Nat) ≤ cap ∧ (10 : Nat) ≤ cap := by decide
  have lS : p ≠ S.length := by omega
  refine ⟨d, S', ?_, ?_, hp', k0⟩
  · have nw : eNew (lDisp (eCons (eC .non) (eCons (eC (.int 5)) (eCons (eC (.str "")) (eCons (eC (.str "9a")) (eCons (eC (.str "Ann")) (eCons (eC (.str "a b")) (eCons (eC (.str "abcdefghi")) (eCons (eNew (lDisp (eCons (eC (.str "a")) eNil))) (eCons (eC (.bl true)) (eCons (eVar 6) eNil))))))))))) ρ S = .ok (.ptr S1.length) S2 := by
      simp only [eNew, lDisp, eCons, eC, eNil, R.bind_ok, eVar, h6, List.length_cons, List.length_nil, Nat.zero_add, Nat.reduceAdd, c1.1, c1.2, if_true]
      rfl
    simp only [E1, pick_eq, eN, eCons, eNil, R.bind_ok]
    simp only [eVar, h1, R.bind_ok]
    have nw2 := nw
    simp only [eNew, lDisp, eCons, eC, eNil, R.bind_ok, eVar, h6, List.length_cons, List.length_nil, Nat.zero_add, Nat.reduceAdd, c1.1, c1.2, if_true] at nw2 ⊢
    exact e
  · have b := L1_bad (p := p) ha (Ne.symm lS) hf2 fp d hd
    rcases b with b | ⟨t, ht, hs⟩
    · exact .inl b
    · exact .inr ⟨t, fun S'' k => ht S'' (hk.trans k), hs⟩
theorem pick2 {p : Nat} {S : Store} {ρ : Rho} (h : Pen p S) (h1 : ρ[1]? = some (some (.ptr p))) : ∃ d S', E2 ρ S = .ok d S' ∧ BadN p d S' ∧ Pen p S' ∧ Keep p S S' := by
  let S2 := S ++ [O.lst L2]
  have hp := h.lt
  have hl : S2[S.length]? = some (.lst L2) := by simp [S2]
  obtain ⟨d, S', e, hd, hp', hk⟩ := pick_lst (a := 7956) (b := 91784) (by decide) (by decide) (h.app [O.lst L2]) hl (by omega) (by simp [L2]) (by simp [L2]; decide)
  have c1 : (0 : Nat) ≤ cap ∧ (6 : Nat) ≤ cap := by decide
  refine ⟨d, S', ?_, L2_bad d hd, hp', (Keep.app p S _).trans hk⟩
  simp only [E2, pick_eq, eN, eCons, eNil, R.bind_ok, eVar, h1, eNew, lDisp, eC, eTup, List.length_cons, List.length_nil, Nat.zero_add, Nat.reduceAdd, c1.1, c1.2, if_true]
  exact e
theorem pick3 {p : Nat} {S : Store} {ρ : Rho} (h : Pen p S) (h1 : ρ[1]? = some (some (.ptr p))) : ∃ d S', E3 ρ S = .ok d S' ∧ NotI d ∧ Pen p S' ∧ Keep p S S' := by
  let S2 := S ++ [O.lst L3]
  have hp := h.lt
  have hl : S2[S.length]? = some (.lst L3) := by simp [S2]
  obtain ⟨d, S', e, hd, hp', hk⟩ := pick_lst (a := 7956) (b := 91784) (by decide) (by decide) (h.app [O.lst L3]) hl (by omega) (by simp [L3]) (by simp [L3]; decide)
  have c1 : (7 : Nat) ≤ cap := by decide
  have pw : powOk 10 29 = true := by decide
  have e29 : ((29 : Int).toNat) = 29 := rfl
  refine ⟨d, S', ?_, L3_bad d hd, hp', (Keep.app p S _).trans hk⟩
  simp only [E3, pick_eq, eN, eCons, eNil, R.bind_ok, eVar, h1, eNew, lDisp, eC, e1, oNeg, e2, oPow, oIc, pw, e29, List.length_cons, List.length_nil, Nat.zero_add, Nat.reduceAdd, c1, if_true]
  exact e
end NM

set_option linter.all false
set_option maxRecDepth 100000
set_option maxHeartbeats 4000000
namespace NM
open PySem (Str PyData)
theorem ann_ok (S : Store) : m_is_name [.str "ann"] S = .ok (.bl true) S ∧ m_is_name [.str "bob"] S = .ok (.bl true) S := by
  have a : nameB "ann" = true ∧ nameB "bob" = true ∧ ("ann" : Str).length ≤ cap ∧ ("bob" : Str).length ≤ cap := by decide +kernel
  constructor
  · rw [isn_str a.2.2.1, a.1]
  · rw [isn_str a.2.2.2, a.2.1]
theorem disp3 {a b c : Ex} {ρ : Rho} {S S1 S2 S3 : Store} {x y z : D} (h1 : a ρ S = .ok x S1) (h2 : b ρ S1 = .ok y S2) (h3 : c ρ S2 = .ok z S3) : lDisp (eCons a (eCons b (eCons c eNil))) ρ S = .ok [x, y, z] S3 := by
  have c3 : (3 : Nat) ≤ cap := by decide
  simp only [lDisp, eCons, eNil, h1, h2, h3, R.bind_ok, List.length_cons, List.length_nil, Nat.zero_add, Nat.reduceAdd, c3, if_true]
theorem body2_ok {p f : Nat} {S : Store} {x0 a2 a3 a4 a5 a7 a8 a9 a10 : Option D} (h : Pen p S) (hf : S[f]? = some .fn) (fp : f ≠ p) :
    ∃ d7 d8 d9 d10 S', body2 [x0, some (.ptr p), a2, a3, a4, a5, some (.ptr f), a7, a8, a9, a10] S = .ok (.next [x0, some (.ptr p), a2, a3, a4, a5, some (.ptr f), d7, d8, d9, d10]) S' ∧ Pen p S' ∧ S'[f]? = some .fn := by
  obtain ⟨d1, S1, e1', b1, p1, k1⟩ := pick1 (ρ := [x0, some (.ptr p), a2, a3, a4, a5, some (.ptr f), a7, a8, a9, a10]) h rfl rfl hf fp
  obtain ⟨d2, S2, e2', b2, p2, k2⟩ := pick2 (ρ := [x0, some (.ptr p), a2, a3, a4, a5, some (.ptr f), a7, a8, a9, a10]) p1 rfl
  obtain ⟨d3, S3, e3', b3, p3, k3⟩ := pick3 (ρ := [x0, some (.ptr p), a2, a3, a4, a5, some (.ptr f), a7, a8, a9, a10]) p2 rfl
  let ρ : Rho := [x0, some (.ptr p), a2, a3, a4, a5, some (.ptr f), some d1, some d2, some d3, a10]
  have c3 : (3 : Nat) ≤ cap ∧ (2 : Nat) ≤ cap := by decide
  have i1 : m_is_name [d1] S3 = .ok (.bl false) S3 := b1.isn (k2.trans k3)
  obtain ⟨T1, c1⟩ := caughtN (m := eN m_spot (eCons (eVar 7) (eCons (eVar 8) (eCons (eVar 9) eNil)))) (ρ := ρ) (S := S3) (by
    simp only [ρ, eN, eCons, eNil, eVar, List.getElem?_cons_zero, List.getElem?_cons_succ, R.bind_ok]
    exact spot_bad1 i1)
  let S4 := S3 ++ T1
  have i2 : m_is_name [d2] S4 = .ok (.bl false) S4 := b2.isn (k3.trans (Keep.app p S3 T1))
  obtain ⟨T2, c2⟩ := caughtN (m := eN m_spot (eCons (eC (.str "ann")) (eCons (eVar 8) (eCons (eVar 9) eNil)))) (ρ := ρ) (S := S4) (by
    simp only [ρ, eN, eCons, eNil, eVar, eC, List.getElem?_cons_zero, List.getElem?_cons_succ, R.bind_ok]
    exact spot_bad2 (ann_ok S4).1 i2)
  let S5 := S4 ++ T2
  obtain ⟨T3, c4⟩ := caughtM (m := eN m_spot (eCons (eC (.str "ann")) (eCons (eC (.str "bob")) (eCons (eVar 9) eNil)))) (ρ := ρ) (S := S5) (by
    simp only [ρ, eN, eCons, eNil, eVar, eC, List.getElem?_cons_zero, List.getElem?_cons_succ, R.bind_ok]
    exact spot_bad3 (ann_ok S5).1 (ann_ok S5).2 (b3 S5))
  let S6 := S5 ++ T3
  let S7 := S6 ++ [O.lst HL]
  let S8 := S7 ++ [O.lst HL]
  have eh : EH ρ S3 = .ok HL S6 := by
    have c1' : eCaught errs (eN m_spot (eCons (eVar 7) (eCons (eVar 8) (eCons (eVar 9) eNil)))) m__law_caught ρ S3 = .ok (.tup [.str "name", .str "salt"]) S4 := c1
    have c2' : eCaught errs (eN m_spot (eCons (eC (.str "ann")) (eCons (eVar 8) (eCons (eVar 9) eNil)))) m__law_caught ρ S4 = .ok (.tup [.str "name", .str "name"]) S5 := c2
    have c4' : eCaught errs (eN m_spot (eCons (eC (.str "ann")) (eCons (eC (.str "bob")) (eCons (eVar 9) eNil)))) m__law_caught ρ S5 = .ok (.tup [.str "number", .str "spots"]) S6 := c4
    exact disp3 c1' c2' c4'
  have ew : ∀ ρ' : Rho, EW ρ' S7 = .ok (.ptr S7.length) S8 := fun ρ' => by
    simp only [EW, eNew, lDisp, eCons, eNil, eTup, eC, R.bind_ok, List.length_cons, List.length_nil, Nat.zero_add, Nat.reduceAdd, c3.1, c3.2, if_true]
    rfl
  have ne : oNe (.ptr S6.length) (.ptr S7.length) S8 = .ok (.bl false) S8 := by
    have g1 : S8[S6.length]? = some (.lst HL) := by simp [S8, S7]
    have g2 : S8[S7.length]? = some (.lst HL) := by simp [S8]
    unfold oNe
    rw [rd_lst g1, rd_lst g2, rd_HL]
    simp only [Option.map_some, eq_HP, Bool.not_true]
  have k8 : Keep p S3 S8 := ((((Keep.app p S3 T1).trans (Keep.app p S4 T2)).trans (Keep.app p S5 T3)).trans (Keep.app p S6 _)).trans (Keep.app p S7 _)
  refine ⟨some d1, some d2, some d3, some (.ptr S6.length), S8, ?_, ((((p3.app T1).app T2).app T3).app _).app _, (((k1.trans k2).trans k3).trans k8).at_ hf fp⟩
  have asg : sAsg (gUnp [(gSlot 7), (gSlot 8), (gSlot 9)]) (eTup (eCons E1 (eCons E2 (eCons E3 eNil)))) [x0, some (.ptr p), a2, a3, a4, a5, some (.ptr f), a7, a8, a9, a10] S = .ok (.next ρ) S3 := by
    simp only [sAsg, eTup, eCons, eNil, e1', e2', e3', R.bind_ok, List.length_cons, List.length_nil, Nat.zero_add, Nat.reduceAdd, c3.1, if_true, gUnp, gAll, gSlot, List.set_cons_zero, List.set_cons_succ]
    rfl
  simp only [body2, sSeq, asg, R.bind_ok, sSet, eNew, eh, ρ, List.set_cons_zero, List.set_cons_succ]
  rw [show S6 ++ [O.lst HL] = S7 from rfl]
  simp only [sIf, tVal, e2, eVar, List.getElem?_cons_zero, List.getElem?_cons_succ, R.bind_ok, ew, ne, Bool.false_eq_true, if_false, sNext]
theorem law_ok {x : D} {S : Store} {ns : List Int} (h : x = .frl (ns.map .int) ∨ ∃ n, x = .ptr n ∧ S[n]? = some (.lst (ns.map .int))) : ∃ S', m_law [x] S = .ok (.bl true) S' := by
  obtain ⟨p, S1, e1', p1⟩ := pen_ok h
  -- the first loop
  obtain ⟨ρ2, S2, l1, ⟨a2, a3, a4, a5, r2, p2⟩⟩ := forGo_inv (ok := fun _ => True) (g := gSlot 2) (bd := body1) (fun ρ S => ∃ a2 a3 a4 a5, ρ = [some x, some (.ptr p), a2, a3, a4, a5, none, none, none, none, none] ∧ Pen p S) (fun _ _ _ => trivial) (rangeD 0 40) [some x, some (.ptr p), none, none, none, none, none, none, none, none, none] S1 ⟨_, _, _, _, rfl, p1⟩ (by
    intro d _ ρ S hJ
    obtain ⟨a2, a3, a4, a5, rfl, hp⟩ := hJ
    obtain ⟨z1, z2, n, S', e, hp'⟩ := body1_ok (x0 := some x) (a2 := some d) (a3 := a3) (a4 := a4) (a5 := a5) (a6 := none) (a7 := none) (a8 := none) (a9 := none) (a10 := none) hp
    exact ⟨_, rfl, _, S', e, _, _, _, _, rfl, hp'⟩)
  subst r2
  let f := S2.length
  let S3 := S2 ++ [O.fn]
  have fp : f ≠ p := by
    have := p2.lt
    show S2.length ≠ p
    omega
  have g3 : S3[f]? = some .fn := by simp [S3, f]
  obtain ⟨ρ4, S4, l2, ⟨b2, b3, b4, b5, b7, b8, b9, b10, r4, p4, g4⟩⟩ := forGo_inv (ok := fun _ => True) (g := gSlot 2) (bd := body2) (fun ρ S => ∃ a2 a3 a4 a5 a7 a8 a9 a10, ρ = [some x, some (.ptr p), a2, a3, a4, a5, some (.ptr f), a7, a8, a9, a10] ∧ Pen p S ∧ S[f]? = some .fn) (fun _ _ _ => trivial) (rangeD 0 6) [some x, some (.ptr p), a2, a3, a4, a5, some (.ptr f), none, none, none, none] S3 ⟨_, _, _, _, _, _, _, _, rfl, p2.app _, g3⟩ (by
    intro d _ ρ S hJ
    obtain ⟨a2, a3, a4, a5, a7, a8, a9, a10, rfl, hp, hf⟩ := hJ
    obtain ⟨d7, d8, d9, d10, S', e, hp', hf'⟩ := body2_ok (x0 := some x) (a2 := some d) (a3 := a3) (a4 := a4) (a5 := a5) (a7 := a7) (a8 := a8) (a9 := a9) (a10 := a10) hp hf fp
    exact ⟨_, rfl, _, S', e, _, _, _, _, _, _, _, _, rfl, hp', hf'⟩)
  subst r4
  have nA : NameS "a" := ⟨by decide +kernel⟩
  have nB : NameS "abcdefg9" := ⟨by decide +kernel⟩
  have nC : NameS "z9999999" := ⟨by decide +kernel⟩
  have s1 := spot_ok (n := 1) (S := S4) nA nA (by decide) (by decide)
  have s2 := spot_ok (n := 64) (S := S4) nB nC (by decide) (by decide)
  obtain ⟨S5, ls, _⟩ := law_spot_ok (n := 64) (S := S4) nB nC (by decide)
  have z : SpotV "a" "a" 1 = 0 := by simp [SpotV]
  rw [z] at s1
  have q1 := (ne_int 0 S4).2
  have q2 := (ne_int (SpotV "abcdefg9" "z9999999" 64) S5).2
  refine ⟨S5, ?_⟩
  have r40 : -(2 ^ 62) ≤ (40 : Int) ∧ (40 : Int) < 2 ^ 62 := by decide
  have r6 : -(2 ^ 62) ≤ (6 : Int) ∧ (6 : Int) < 2 ^ 62 := by decide
  have e0 : m_law = body 1 11 (sSeq (sSet 1 (eN m__law_pen (eCons (eVar 0) eNil)))
    (sSeq (sFor (iRange1 (eCons (eC (.int 40)) eNil)) (gSlot 2) body1)
    (sSeq (sSet 6 eLam)
    (sSeq (sFor (iRange1 (eCons (eC (.int 6)) eNil)) (gSlot 2) body2)
    (sRet (vAnd (e2 oEq (eN m_spot (eCons (eC (.str "a")) (eCons (eC (.str "a")) (eCons (eC (.int 1)) eNil)))) (eC (.int 0))) (e2 oEq (eN m_spot (eCons (eC (.str "abcdefg9")) (eCons (eC (.str "z9999999")) (eCons (eC (.int 64)) eNil)))) (eN m__law_spot (eCons (eC (.str "abcdefg9")) (eCons (eC (.str "z9999999")) (eCons (eC (.int 64)) eNil)))))))))) ) := rfl
  have t40 : (40 : Int).toNat = 40 := rfl
  have t6 : (6 : Int).toNat = 6 := rfl
  rw [e0]
  simp only [body, List.length_cons, List.length_nil, Nat.zero_add, ne_eq, not_true, if_false, List.map_cons, List.map_nil, Nat.reduceSub, List.replicate, List.cons_append, List.nil_append, sSeq, sSet, eN, eCons, eNil, eVar, List.getElem?_cons_zero, R.bind_ok, e1', List.set_cons_zero, List.set_cons_succ, sFor, iRange1, eC, r40, and_self, if_true, t40, l1, eLam]
  rw [show S2 ++ [O.fn] = S3 from rfl]
  rw [show S2.length = f from rfl]
  simp only [R.bind_ok, r6, and_self, if_true, t6, l2, sRet, vAnd, e2, eN, eCons, eNil, eC, s1, q1, s2, ls, q2]
end NM

set_option linter.all false
set_option maxRecDepth 100000
set_option maxHeartbeats 0
namespace NM
open PySem PySem.Spec PyProof.Rows L2 He LamX
abbrev PG : Program := PySem.Challenge.pw_nomatterwho_k01_spots_by_own_arithmetic
abbrev Says (h : Heap) (K : PySem.W.Frag) : Prop := SaysN faL fnL tfL exB isL h K
section
variable {w : World} {K : PySem.W.Frag} {mg : Str → Option Value} {base h : Heap}
theorem ex1 (c : Says h K) : kiB (cfK K) = true := (ba c.more).1
theorem ex2 (c : Says h K) {d : IniD} (hd : d ∈ isL) : iniB K mainF d = true ∧ clsB K d.x = true ∧ oexB K (ga K d.x) = true ∧ ∀ f ∈ d.ps, PySem.W.findIn K (.ref (ga K d.x)) f = some none := by
  obtain ⟨h1, h2⟩ := ba (List.all_eq_true.mp (ba (ba c.more).2).1 d hd)
  obtain ⟨h3, h4⟩ := ba h2
  obtain ⟨h5, h6⟩ := ba h4
  exact ⟨h1, h3, h5, fun f hf => eqO_ok (List.all_eq_true.mp h6 f hf)⟩
theorem ex3 (c : Says h K) {x : Str} (hx : x ∈ vL) : XfC K (ga K x) ∧ ∀ f ∈ xL, PySem.W.findIn K (.ref (ga K x)) f = some none := by
  obtain ⟨h1, h2⟩ := ba (List.all_eq_true.mp (ba (ba c.more).2).2 x hx)
  exact ⟨xfB_ok h1, fun f hf => eqO_ok (List.all_eq_true.mp h2 f hf)⟩
theorem it_BadName : ∃ p0 p1 p2 p3 p4 p5 p6 p7 p8 p9, IniT1 (("BadName" : Str) ++ (".__init__" : Str)) (defArgs si_BadName) (defBody si_BadName) (defScope si_BadName) "part" p0 p1 p2 p3 p4 p5 p6 p7 p8 p9 :=
  ⟨_, _, _, _, _, _, _, _, _, _, { bdy := rfl, hd := ⟨_, rfl, rfl⟩, bind := fun _ _ _ _ _ _ _ us hl => match us, hl with | [_, _], _ => rfl, k1 := rfl, k2 := rfl, k3 := rfl, k4 := rfl, kd := rfl, nc := by decide +kernel, co := rfl, gn := rfl, fs := by decide, fd := by decide, se := fun _ => rfl, hi := fun _ _ _ _ => rfl, hs := fun _ _ _ _ => rfl, hc := ⟨_, fun _ _ _ _ => rfl⟩, s2 := fun _ _ _ _ => rfl }⟩
theorem ci_BadName (c : Says h K) (X : K.In base) (G : base.Ns mainGlobals mg) : CI PG w K mg base "BadName" ["part"] := by
  have hm : ini_BadName ∈ isL := (by unfold isL; simp)
  obtain ⟨a1, a2, a3, a4⟩ := ex2 c hm
  obtain ⟨h1, h2, cda, cc, dV, kV, doc, pm, ct, an, dd0, Y⟩ := ini_of (P := PG) (main := mainF) (d := ini_BadName) rfl (c.ini _ hm) a1 a2 (by decide +kernel)
  obtain ⟨p0, p1, p2, p3, p4, p5, p6, p7, p8, p9, T⟩ := it_BadName
  exact ⟨⟨_, ini1 Y T (oexB_ok a3) dd0 (a4 "part" (by simp [ini_BadName])), h1, h2⟩, oexB_ok a3, glo_ok X G (c.d.facts (f := .glo "BadName") (by unfold faL; simp [fa0, fa1])), by decide⟩
theorem it_BadNumber : ∃ p0 p1 p2 p3 p4 p5 p6 p7 p8 p9, IniT1 (("BadNumber" : Str) ++ (".__init__" : Str)) (defArgs si_BadNumber) (defBody si_BadNumber) (defScope si_BadNumber) "part" p0 p1 p2 p3 p4 p5 p6 p7 p8 p9 :=
  ⟨_, _, _, _, _, _, _, _, _, _, { bdy := rfl, hd := ⟨_, rfl, rfl⟩, bind := fun _ _ _ _ _ _ _ us hl => match us, hl with | [_, _], _ => rfl, k1 := rfl, k2 := rfl, k3 := rfl, k4 := rfl, kd := rfl, nc := by decide +kernel, co := rfl, gn := rfl, fs := by decide, fd := by decide, se := fun _ => rfl, hi := fun _ _ _ _ => rfl, hs := fun _ _ _ _ => rfl, hc := ⟨_, fun _ _ _ _ => rfl⟩, s2 := fun _ _ _ _ => rfl }⟩
theorem ci_BadNumber (c : Says h K) (X : K.In base) (G : base.Ns mainGlobals mg) : CI PG w K mg base "BadNumber" ["part"] := by
  have hm : ini_BadNumber ∈ isL := (by unfold isL; simp)
  obtain ⟨a1, a2, a3, a4⟩ := ex2 c hm
  obtain ⟨h1, h2, cda, cc, dV, kV, doc, pm, ct, an, dd0, Y⟩ := ini_of (P := PG) (main := mainF) (d := ini_BadNumber) rfl (c.ini _ hm) a1 a2 (by decide +kernel)
  obtain ⟨p0, p1, p2, p3, p4, p5, p6, p7, p8, p9, T⟩ := it_BadNumber
  exact ⟨⟨_, ini1 Y T (oexB_ok a3) dd0 (a4 "part" (by simp [ini_BadNumber])), h1, h2⟩, oexB_ok a3, glo_ok X G (c.d.facts (f := .glo "BadNumber") (by unfold faL; simp [fa0, fa1])), by decide⟩
theorem txt_of (c : Says h K) (X : K.In base) (G : base.Ns mainGlobals mg) (TB : ∀ p ∈ tfL, TabB base mg (cT K p).1 (cT K p).2) : Txt (cfK K) mg base PG w where
  ki := ⟨ex1 c⟩
  g_BEGIN := int_ok X G (c.d.facts (f := .int "BEGIN" 7) (by unfold faL; simp [fa0, fa1]))
  g_FACTOR := int_ok X G (c.d.facts (f := .int "FACTOR" 131) (by unfold faL; simp [fa0, fa1]))
  g_FIRST_SIGNS := str_ok X G (c.d.facts (f := .str "FIRST_SIGNS" "abcdefghijklmnopqrstuvwxyz") (by unfold faL; simp [fa0, fa1]))
  g_MODULUS := int_ok X G (c.d.facts (f := .int "MODULUS" 1000003) (by unfold faL; simp [fa0, fa1]))
  g_MOST_SIGNS := int_ok X G (c.d.facts (f := .int "MOST_SIGNS" 8) (by unfold faL; simp [fa0, fa1]))
  g_MOST_SPOTS := int_ok X G (c.d.facts (f := .int "MOST_SPOTS" 64) (by unfold faL; simp [fa0, fa1]))
  g_SHIFT := int_ok X G (c.d.facts (f := .int "SHIFT" 16) (by unfold faL; simp [fa0, fa1]))
  g_SIGNS := str_ok X G (c.d.facts (f := .str "SIGNS" "abcdefghijklmnopqrstuvwxyz0123456789") (by unfold faL; simp [fa0, fa1]))
  g_STROKE := str_ok X G (c.d.facts (f := .str "STROKE" "/") (by unfold faL; simp [fa0, fa1]))
  b_abs := free_ok X G (c.d.facts (f := .free "abs") (by unfold faL; simp [fa0, fa1]))
  b_all := free_ok X G (c.d.facts (f := .free "all") (by unfold faL; simp [fa0, fa1]))
  b_bool := free_ok X G (c.d.facts (f := .free "bool") (by unfold faL; simp [fa0, fa1]))
  b_enumerate := free_ok X G (c.d.facts (f := .free "enumerate") (by unfold faL; simp [fa0, fa1]))
  b_int := free_ok X G (c.d.facts (f := .free "int") (by unfold faL; simp [fa0, fa1]))
  b_isinstance := free_ok X G (c.d.facts (f := .free "isinstance") (by unfold faL; simp [fa0, fa1]))
  b_len := free_ok X G (c.d.facts (f := .free "len") (by unfold faL; simp [fa0, fa1]))
  b_list := free_ok X G (c.d.facts (f := .free "list") (by unfold faL; simp [fa0, fa1]))
  b_range := free_ok X G (c.d.facts (f := .free "range") (by unfold faL; simp [fa0, fa1]))
  b_str := free_ok X G (c.d.facts (f := .free "str") (by unfold faL; simp [fa0, fa1]))
  c_BadClaims := glo_ok X G (c.d.facts (f := .glo "BadClaims") (by unfold faL; simp [fa0, fa1]))
  c_BadCrowd := glo_ok X G (c.d.facts (f := .glo "BadCrowd") (by unfold faL; simp [fa0, fa1]))
  c_BadDeal := glo_ok X G (c.d.facts (f := .glo "BadDeal") (by unfold faL; simp [fa0, fa1]))
  c_BadKinds := glo_ok X G (c.d.facts (f := .glo "BadKinds") (by unfold faL; simp [fa0, fa1]))
  c_BadLayer := glo_ok X G (c.d.facts (f := .glo "BadLayer") (by unfold faL; simp [fa0, fa1]))
  c_BadLine := glo_ok X G (c.d.facts (f := .glo "BadLine") (by unfold faL; simp [fa0, fa1]))
  c_BadLog := glo_ok X G (c.d.facts (f := .glo "BadLog") (by unfold faL; simp [fa0, fa1]))
  c_BadName := glo_ok X G (c.d.facts (f := .glo "BadName") (by unfold faL; simp [fa0, fa1]))
  c_BadNumber := glo_ok X G (c.d.facts (f := .glo "BadNumber") (by unfold faL; simp [fa0, fa1]))
  c_BadPaper := glo_ok X G (c.d.facts (f := .glo "BadPaper") (by unfold faL; simp [fa0, fa1]))
  c_BadRatio := glo_ok X G (c.d.facts (f := .glo "BadRatio") (by unfold faL; simp [fa0, fa1]))
  c_BadRule := glo_ok X G (c.d.facts (f := .glo "BadRule") (by unfold faL; simp [fa0, fa1]))
  c_BadSight := glo_ok X G (c.d.facts (f := .glo "BadSight") (by unfold faL; simp [fa0, fa1]))
  c_BadText := glo_ok X G (c.d.facts (f := .glo "BadText") (by unfold faL; simp [fa0, fa1]))
  c_BadTrial := glo_ok X G (c.d.facts (f := .glo "BadTrial") (by unfold faL; simp [fa0, fa1]))
  c_BadValue := glo_ok X G (c.d.facts (f := .glo "BadValue") (by unfold faL; simp [fa0, fa1]))
  c_BadWorld := glo_ok X G (c.d.facts (f := .glo "BadWorld") (by unfold faL; simp [fa0, fa1]))
  c_Misfit := glo_ok X G (c.d.facts (f := .glo "Misfit") (by unfold faL; simp [fa0, fa1]))
  c_NoName := glo_ok X G (c.d.facts (f := .glo "NoName") (by unfold faL; simp [fa0, fa1]))
  c_Nothing := glo_ok X G (c.d.facts (f := .glo "Nothing") (by unfold faL; simp [fa0, fa1]))
  c_TooMany := glo_ok X G (c.d.facts (f := .glo "TooMany") (by unfold faL; simp [fa0, fa1]))
  c_TrialError := glo_ok X G (c.d.facts (f := .glo "TrialError") (by unfold faL; simp [fa0, fa1]))
  w_BadClaims := (by show ("BadClaims" : Str) ∈ wL; unfold wL; simp)
  w_BadCrowd := (by show ("BadCrowd" : Str) ∈ wL; unfold wL; simp)
  w_BadDeal := (by show ("BadDeal" : Str) ∈ wL; unfold wL; simp)
  w_BadKinds := (by show ("BadKinds" : Str) ∈ wL; unfold wL; simp)
  w_BadLayer := (by show ("BadLayer" : Str) ∈ wL; unfold wL; simp)
  w_BadLine := (by show ("BadLine" : Str) ∈ wL; unfold wL; simp)
  w_BadLog := (by show ("BadLog" : Str) ∈ wL; unfold wL; simp)
  w_BadName := (by show ("BadName" : Str) ∈ wL; unfold wL; simp)
  w_BadNumber := (by show ("BadNumber" : Str) ∈ wL; unfold wL; simp)
  w_BadPaper := (by show ("BadPaper" : Str) ∈ wL; unfold wL; simp)
  w_BadRatio := (by show ("BadRatio" : Str) ∈ wL; unfold wL; simp)
  w_BadRule := (by show ("BadRule" : Str) ∈ wL; unfold wL; simp)
  w_BadSight := (by show ("BadSight" : Str) ∈ wL; unfold wL; simp)
  w_BadText := (by show ("BadText" : Str) ∈ wL; unfold wL; simp)
  w_BadTrial := (by show ("BadTrial" : Str) ∈ wL; unfold wL; simp)
  w_BadValue := (by show ("BadValue" : Str) ∈ wL; unfold wL; simp)
  w_BadWorld := (by show ("BadWorld" : Str) ∈ wL; unfold wL; simp)
  w_Misfit := (by show ("Misfit" : Str) ∈ wL; unfold wL; simp)
  w_NoName := (by show ("NoName" : Str) ∈ wL; unfold wL; simp)
  w_Nothing := (by show ("Nothing" : Str) ∈ wL; unfold wL; simp)
  w_TooMany := (by show ("TooMany" : Str) ∈ wL; unfold wL; simp)
  i_BadName := ci_BadName c X G
  i_BadNumber := ci_BadNumber c X G
  x_index := ⟨fun y hy => ⟨(ex3 c hy).1, (ex3 c hy).2 "index" (by unfold xL; simp)⟩⟩
  x_line := ⟨fun y hy => ⟨(ex3 c hy).1, (ex3 c hy).2 "line" (by unfold xL; simp)⟩⟩
  x_most := ⟨fun y hy => ⟨(ex3 c hy).1, (ex3 c hy).2 "most" (by unfold xL; simp)⟩⟩
  x_part := ⟨fun y hy => ⟨(ex3 c hy).1, (ex3 c hy).2 "part" (by unfold xL; simp)⟩⟩
  x_value := ⟨fun y hy => ⟨(ex3 c hy).1, (ex3 c hy).2 "value" (by unfold xL; simp)⟩⟩
  x_what := ⟨fun y hy => ⟨(ex3 c hy).1, (ex3 c hy).2 "what" (by unfold xL; simp)⟩⟩
  x_word := ⟨fun y hy => ⟨(ex3 c hy).1, (ex3 c hy).2 "word" (by unfold xL; simp)⟩⟩
  ex := by
    intro y hy
    refine ⟨hy, ?_⟩
    have hy : y ∈ (["BadName", "BadNumber"] : List Str) := hy
    simp only [List.mem_cons, List.not_mem_nil, or_false] at hy
    rcases hy with rfl | rfl
    · exact of_decide_eq_true (show decide (PySem.W.exmOne K (.ref (ga K "BadName")) (.ref (ga K "TrialError")) = some true) = true from c.d.facts (f := .exm "BadName" "TrialError" true) (by unfold faL; simp [fa0, fa1]))
    · exact of_decide_eq_true (show decide (PySem.W.exmOne K (.ref (ga K "BadNumber")) (.ref (ga K "TrialError")) = some true) = true from c.d.facts (f := .exm "BadNumber" "TrialError" true) (by unfold faL; simp [fa0, fa1]))
  m_is_integer := glo_ok X G (c.d.facts (f := .glo "is_integer") (by unfold faL; simp [fa0, fa1]))
  m_is_between := glo_ok X G (c.d.facts (f := .glo "is_between") (by unfold faL; simp [fa0, fa1]))
  m_is_name := glo_ok X G (c.d.facts (f := .glo "is_name") (by unfold faL; simp [fa0, fa1]))
  m_value_of := glo_ok X G (c.d.facts (f := .glo "value_of") (by unfold faL; simp [fa0, fa1]))
  m_mixed := glo_ok X G (c.d.facts (f := .glo "mixed") (by unfold faL; simp [fa0, fa1]))
  m_spot_of := glo_ok X G (c.d.facts (f := .glo "spot_of") (by unfold faL; simp [fa0, fa1]))
  m_spot := glo_ok X G (c.d.facts (f := .glo "spot") (by unfold faL; simp [fa0, fa1]))
  m__law_pen := glo_ok X G (c.d.facts (f := .glo "_law_pen") (by unfold faL; simp [fa0, fa1]))
  m__law_draw := glo_ok X G (c.d.facts (f := .glo "_law_draw") (by unfold faL; simp [fa0, fa1]))
  m__law_pick := glo_ok X G (c.d.facts (f := .glo "_law_pick") (by unfold faL; simp [fa0, fa1]))
  m__law_word_of := glo_ok X G (c.d.facts (f := .glo "_law_word_of") (by unfold faL; simp [fa0, fa1]))
  m__law_caught := glo_ok X G (c.d.facts (f := .glo "_law_caught") (by unfold faL; simp [fa0, fa1]))
  m__law_spot := glo_ok X G (c.d.facts (f := .glo "_law_spot") (by unfold faL; simp [fa0, fa1]))
  m__law_name := glo_ok X G (c.d.facts (f := .glo "_law_name") (by unfold faL; simp [fa0, fa1]))
  m_law := glo_ok X G (c.d.facts (f := .glo "law") (by unfold faL; simp [fa0, fa1]))
  f_is_integer := c.d.defs (d := dd_is_integer) (by unfold fnL; simp)
  f_is_between := c.d.defs (d := dd_is_between) (by unfold fnL; simp)
  f_is_name := c.d.defs (d := dd_is_name) (by unfold fnL; simp)
  f_value_of := c.d.defs (d := dd_value_of) (by unfold fnL; simp)
  f_mixed := c.d.defs (d := dd_mixed) (by unfold fnL; simp)
  f_spot_of := c.d.defs (d := dd_spot_of) (by unfold fnL; simp)
  f_spot := c.d.defs (d := dd_spot) (by unfold fnL; simp)
  f__law_pen := c.d.defs (d := dd__law_pen) (by unfold fnL; simp)
  f__law_draw := c.d.defs (d := dd__law_draw) (by unfold fnL; simp)
  f__law_pick := c.d.defs (d := dd__law_pick) (by unfold fnL; simp)
  f__law_word_of := c.d.defs (d := dd__law_word_of) (by unfold fnL; simp)
  f__law_caught := c.d.defs (d := dd__law_caught) (by unfold fnL; simp)
  f__law_spot := c.d.defs (d := dd__law_spot) (by unfold fnL; simp)
  f__law_name := c.d.defs (d := dd__law_name) (by unfold fnL; simp)
  l_law := by
    obtain ⟨fd, F⟩ := c.d.defs (d := dd_law) (by unfold fnL; simp)
    obtain ⟨oc, od, dV, kV, doc, pm, an, cdv, ct, osl, e, lk, hcd, _, _⟩ := F.ex
    have hcd2 : PySem.W.codeIn K fd.code "law" = true := by rw [e]; exact hcd
    obtain ⟨cd, ec⟩ := codeIn_ref hcd2
    have e1 : (cT K ("law", none)).1 = cd := codeOf_eq lk ec
    exact ⟨fd, cd, (cT K ("law", none)).2, F, ec, by rw [← e1]; exact TB _ (by simp [tfL]), by simp [cfK], fun p hp hq => by have hp : p ∈ ([((cT K ("law", none)).2, lamOf "law")] : List (Addr × Str)) := hp; rw [List.mem_singleton.mp hp]⟩
end
end NM
namespace NM
open PySem PySem.Spec PyProof.Rows L2 He LamX
theorem law_at (w : World) (mg : Str → Option Value) (fa : Addr) (h : Heap) (K : PySem.W.Frag) (KX : K.In h) (c : Says h K) (G : h.Ns mainGlobals mg) (hmg : mg ("law" : Str) = some (.ref fa)) : LawAtS PySem.Challenge.rw_nomatterwho_k01_spots_by_own_arithmetic w K (L2.CX PG w) 7 63 "script" mg fa h := by
  obtain ⟨fd, F⟩ := c.d.defs (d := dd_law) (by unfold fnL; simp)
  have ef : fa = ga K "law" := by
    have e := glo_ok KX G (c.d.facts (f := .glo "law") (by unfold faL; simp [fa0, fa1]))
    rw [hmg] at e
    cases e
    rfl
  subst ef
  have one : ∀ p ∈ ([cT K ("law", none)] : List (Addr × Addr)), p = cT K ("law", none) := fun p hp => List.mem_singleton.mp hp
  have mt : (("law", none) : Defn) ∈ tfL := by simp [tfL]
  refine ⟨fd, [cT K ("law", none)], spM (cfK K) m_law, fun p hp => ?_, fun p hp => ?_, fun p hp => ?_, fun s u => ?_, fun H a ns hl hbits hH hS => ?_, fun base X G2 TB => ?_⟩
  · rw [one p hp]; exact c.empty _ mt
  · rw [one p hp]; exact c.out _ mt
  · rw [one p hp]; exact PySem.W.codeHd_of_K KX (c.hd _ mt)
  · have b := FunD.bindsA (ps := ["script"]) F fun _ _ _ _ _ _ us hl => match us, hl with | [_], _ => rfl
    exact b s [u] rfl
  · have tabs : Tabs (cfK K).T H := fun p hp => by
      have hp : p ∈ ([((cT K ("law", none)).2, lamOf "law")] : List (Addr × Str)) := hp
      rw [List.mem_singleton.mp hp]
      exact TabS.nil (hH _ List.mem_cons_self)
    have dint : ∀ (φ : List Addr) (l : List Int), Dens K H φ (l.map NM.D.int) (l.map V.int) := by
      intro φ l
      induction l with
      | nil => exact .nil
      | cons x l ih => exact .cons (.int x) ih
    have fin : ∀ {φ : List Addr} {x : NM.D} {S : Store}, (∃ S', m_law [x] S = .ok (.bl true) S') → Po (cfK K) (fun _ _ _ => False) φ H (m_law [x] S) (ZE (cfK K) fun v _ => v = .bl true) := by
      intro φ x S ⟨S', e⟩
      rw [e]
      intro φ' H' _ _ v dv
      cases dv
      rfl
    by_cases hlst : H a = some (.lst (ns.map V.int))
    · refine ⟨[a], [.ptr 0], [.lst (ns.map .int)], ⟨rfl, by simp, fun n b o h1 h2 => ?_, tabs⟩, .cons (.ptr rfl) .nil, fin (law_ok (.inr ⟨0, rfl, rfl⟩))⟩
      match n, h1, h2 with
      | 0, h1, h2 =>
        cases h1
        cases h2
        exact ⟨_, hlst, dint _ _⟩
    · refine ⟨[], [.frl (ns.map .int)], [], ⟨rfl, List.nodup_nil, fun n b o h1 h2 => by simp at h1, tabs⟩, .cons (.frl ?_ (dint _ _)) .nil, fin (law_ok (.inl rfl))⟩
      rcases hS with (z | ⟨o, z⟩) | z
      · exact absurd z hlst
      · exact .inl ⟨o, z⟩
      · exact .inr fun H' => .inr z
  · have T := txt_of (w := w) c X G2 (fun p hp => by
      have hp : p ∈ ([("law", none)] : List Defn) := hp
      rw [List.mem_singleton.mp hp]
      exact TB _ List.mem_cons_self)
    obtain ⟨oc, od, dV, kV, doc, pm, an, cdv, ct, osl, e, lk, hcd, _, _⟩ := F.ex
    have hcd2 : PySem.W.codeIn K fd.code "law" = true := by rw [e]; exact hcd
    obtain ⟨cd, ec⟩ := codeIn_ref hcd2
    have e1 : (cT K ("law", none)).1 = cd := codeOf_eq lk ec
    exact o_law T F (cd := cd) (tP := (cT K ("law", none)).2) ⟨ec, by rw [← e1]; exact TB _ List.mem_cons_self, by simp [cfK], fun p hp hq => by have hp : p ∈ ([((cT K ("law", none)).2, lamOf "law")] : List (Addr × Str)) := hp; rw [List.mem_singleton.mp hp]⟩
end NM
open PySem PySem.W PySem.Calls PyProof.Rows
theorem PySem.Challenge.cw_nomatterwho_k01_spots_by_own_arithmetic_holds : PySem.Challenge.rw_nomatterwho_k01_spots_by_own_arithmetic.Holds := by
  w_on; o_law
  refine HandSHeadRun.head_any (r := OpenLaw.row PySem.Challenge.rw_nomatterwho_k01_spots_by_own_arithmetic) (q := view (OpenLaw.row PySem.Challenge.rw_nomatterwho_k01_spots_by_own_arithmetic).prog [49]) (H := NM.hk) (ob := NM.ob) (M := 7000) (loose := NM.looseL) (d := HandSHeadRun.topDef (OpenLaw.row PySem.Challenge.rw_nomatterwho_k01_spots_by_own_arithmetic).prog 49) (kwd := []) NM.ob_eq
    (by kernel_rfl) (fun s => by kernel_rfl) NM.run (by kernel_rfl) (by kernel_rfl) (by kernel_rfl) (by rfl) (by first | assumption | decide +kernel) (by decide +kernel) ⟨rfl, rfl, rfl, rfl, rfl, by decide +kernel⟩ ?hw ?hc
  case hw => w_witness2
  case hc =>
    refine LamX.walk_ofTsE (l := PySem.Challenge.rw_nomatterwho_k01_spots_by_own_arithmetic) (n := 63) (k := 7) (x := "script") (CX := fun w => L2.CX NM.PG w) rfl (by decide) (by kernel_rfl) ⟨rfl, by decide, by decide⟩ ?F (fun _ _ _ _ _ z => by obtain ⟨_, _, _, _, _, _, _, _, _, _, _, z⟩ := z; exact z.2)
    intro w mg fa h Y G hmg0
    obtain ⟨K, KX, c⟩ := Y
    refine ⟨K, KX, ?_⟩
    have hmg : mg ("law" : PySem.Str) = some (.ref fa) := by
      have e : (HandSHeadRun.topDef (OpenLaw.row PySem.Challenge.rw_nomatterwho_k01_spots_by_own_arithmetic).prog 49).name = ("law" : PySem.Str) := by kernel_rfl
      rw [← e]
      exact hmg0
    exact NM.law_at w mg fa h K KX c G hmg

