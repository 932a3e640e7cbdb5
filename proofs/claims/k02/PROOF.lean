import PyProof.Rows.All
import Wide.All
import OpenK.AllK
import Wide.FinOn
import HandS.Base
import HandS.Words
import HandS.ExcField
import KE.KSuper
import HandS.Head0
import HandS.Head1
import HandS.Head2
import HandS.HeadEnd
import HandS.HeadHook1
import HandS.HeadHook2
import HandS.Call
import HandS.List
import HandS.Comp
import HandS.Ends
import HandS.Dict
import HandS.Iter
import HandS.More
import HandS.Exc
import HandS.ExcOwn
import HandS.WordsExc
import HandS.TupAny
import HandS.SortInts
import HandS.IsInst
import HandS.RaiseMore
import HandS.Conv
import HandS.CallSlots
import HandS.Style
import HandS.Defaults
import OpenK.KMake
import HandS.Star
import HandS.SetFor
import HandS.Strs
import KE.KExcSuper
import HandS.Nested
import KE.KRevSl
import HandS.TryMany
import PySem.Challenge.RW_shelfofruns_k02_bare_rows_alike
set_option Elab.async false
set_option linter.all false
section
/-! DLP: plain data, and what the constructs of the programs do to it. Core Lean alone. -/
namespace DL

/-- a datum; scr: a list of whole numbers that is only read; objects by class name, field names and fields -/
inductive D where
  | non | bl (b : Bool) | int (i : Int) | str (s : String)
  | tup (l : List D) | lst (l : List D) | scr (l : List Int)
  | obj (c : String) (ns : List String) (l : List D)

namespace D
mutual
def eqv : D → D → Bool
  | .non, b => match b with | .non => true | _ => false
  | .bl a, b => match b with | .bl c => a == c | .int j => (if a then 1 else 0) == j | _ => false
  | .int i, b => match b with | .bl c => i == (if c then 1 else 0) | .int j => i == j | _ => false
  | .str x, b => match b with | .str y => x == y | _ => false
  | .tup xs, b => match b with | .tup ys => eqvs xs ys | _ => false
  | .lst xs, b => match b with | .lst ys => eqvs xs ys | _ => false
  | .scr _, _ => false
  | .obj _ _ _, _ => false
def eqvs : List D → List D → Bool
  | [], ys => match ys with | [] => true | _ :: _ => false
  | x :: xs, ys => match ys with | [] => false | y :: zs => eqv x y && eqvs xs zs
end
mutual
/-- no objects, at most n deep -/
def dat : D → Nat → Bool
  | .non, _ => true
  | .bl _, _ => true
  | .int _, _ => true
  | .str _, _ => true
  | .tup l, n => match n with | 0 => false | m + 1 => dats l m
  | .lst l, n => match n with | 0 => false | m + 1 => dats l m
  | .scr _, _ => false
  | .obj _ _ _, _ => false
def dats : List D → Nat → Bool
  | [], _ => true
  | d :: ds, n => dat d n && dats ds n
end
/-- a number, a text, True, None -/
def flat : D → Bool
  | .non => true | .bl _ => true | .int _ => true | .str _ => true | _ => false
end D

/-- what one name alone holds: a list, a dict with whole numbers as keys, an object in the making -/
inductive Own where
  | lst (l : List D) | dct (l : List (Int × D)) | ins (c : String) (ns : List String) (l : List D)
inductive Sl where
  | no | frz (d : D) | own (o : Own) | ref (o : Own)
abbrev Env := List Sl
/-- a value: a datum; a new object; what the slot i holds -/
inductive R where
  | val (d : D) | fre (o : Own) | al (i : Nat)
inductive Rv where
  | val (d : D) | fre (o : Own)
def Rv.r : Rv → R
  | .val d => .val d
  | .fre o => .fre o
/-- an error: its class, its fields -/
structure Exc where
  cls : String
  ns : List String
  l : List D
inductive Er where
  | ok (r : R) (ρ : Env) | ex (x : Exc) (ρ : Env)
inductive Ar where
  | ok (rs : List R) (ρ : Env) | ex (x : Exc) (ρ : Env)
inductive Tr where
  | ok (b : Bool) (ρ : Env) | ex (x : Exc) (ρ : Env)
inductive Po where
  | ok (o : Option Int) (ρ : Env) | ex (x : Exc) (ρ : Env)
inductive Ir where
  | ok (ds : List D) (ρ : Env) | ex (x : Exc) (ρ : Env)
inductive Fl where
  | nx (ρ : Env) | rt (r : Rv) (ρ : Env) | bk (ρ : Env) | ct (ρ : Env) | ex (x : Exc) (ρ : Env)
inductive Fo where
  | ret (r : Rv) | ex (x : Exc)
abbrev DE := Env → Option Er
abbrev DA := Env → Option Ar
abbrev DT := Env → Option Tr
abbrev DO := Env → Option Po
abbrev DI := Env → Option Ir
abbrev DS := Env → Option Fl
/-- a target of an assignment -/
abbrev DG := D → Env → Option Env
/-- a def: all its arguments are kept as they are; its first one is changed -/
abbrev DF := List D → Option Fo
abbrev DM := Own → List D → Option (Fo × Own)

def Own.d : Own → Option D
  | .lst l => some (.lst l)
  | .dct _ => none
  | .ins c ns l => some (.obj c ns l)
/-- the datum, looked at -/
def R.peek (ρ : Env) : R → Option D
  | .val d => some d
  | .fre o => o.d
  | .al i => match ρ[i]? with
    | some (.own o) => o.d
    | some (.ref o) => o.d
    | some (.frz d) => some d
    | _ => none
/-- the datum, kept from now on -/
def R.frz (ρ : Env) : R → Option (D × Env)
  | .val d => some (d, ρ)
  | .fre o => match o.d with
    | some d => some (d, ρ)
    | none => none
  | .al i => match ρ[i]? with
    | some (.own o) => match o.d with
      | some d => some (d, ρ.set i (.frz d))
      | none => none
    | some (.frz d) => some (d, ρ)
    | _ => none
def peeks (ρ : Env) : List R → Option (List D)
  | [] => some []
  | r :: rs => match r.peek ρ with
    | some d => match peeks ρ rs with
      | some ds => some (d :: ds)
      | none => none
    | none => none
def frzs (ρ : Env) : List R → Option (List D × Env)
  | [] => some ([], ρ)
  | r :: rs => match r.frz ρ with
    | some (d, ρ1) => match frzs ρ1 rs with
      | some (ds, ρ2) => some (d :: ds, ρ2)
      | none => none
    | none => none
/-- a slot is stored: what came in to be changed stays where it is -/
def put (ρ : Env) (i : Nat) (s : Sl) : Option Env := match ρ[i]? with
  | some (.ref _) => none
  | some _ => some (ρ.set i s)
  | none => none

/-! ### expressions -/
def eVar (i : Nat) : DE := fun ρ => match ρ[i]? with
  | some (.frz d) => some (.ok (.val d) ρ)
  | some (.own _) => some (.ok (.al i) ρ)
  | some (.ref _) => some (.ok (.al i) ρ)
  | _ => none
def eC (d : D) : DE := fun ρ => some (.ok (.val d) ρ)
def bE (a : DE) (k : R → Env → Option Er) : DE := fun ρ => match a ρ with
  | some (.ok r ρ1) => k r ρ1
  | some (.ex x ρ1) => some (.ex x ρ1)
  | none => none
def op2 (op : D → D → Option Rv) (x y : R) (ρ : Env) : Option Er := match x.peek ρ with
  | some dx => match y.peek ρ with
    | some dy => match op dx dy with
      | some r => some (.ok r.r ρ)
      | none => none
    | none => none
  | none => none
def eOp (op : D → D → Option Rv) (a b : DE) : DE := bE a fun x => bE b fun y => op2 op x y
def op1 (op : D → Option Rv) (x : R) (ρ : Env) : Option Er := match x.peek ρ with
  | some dx => match op dx with
    | some r => some (.ok r.r ρ)
    | none => none
  | none => none
def eUn (op : D → Option Rv) (a : DE) : DE := bE a fun x => op1 op x
def eAnd (a b : DE) : DE := bE a fun x ρ => match x with
  | .val (.bl true) => b ρ
  | .val (.bl false) => some (.ok (.val (.bl false)) ρ)
  | _ => none
def eOr (a b : DE) : DE := bE a fun x ρ => match x with
  | .val (.bl true) => some (.ok (.val (.bl true)) ρ)
  | .val (.bl false) => b ρ
  | _ => none
def eNot (a : DE) : DE := bE a fun x ρ => match x with
  | .val (.bl c) => some (.ok (.val (.bl (!c))) ρ)
  | _ => none
/-- a op b op' c: b no object of one's own -/
def eChain (p q : D → D → Option Rv) (a b c : DE) : DE := bE a fun x => bE b fun y ρ => match x.peek ρ with
  | some dx => match y with
    | .val dy => match p dx dy with
      | some (.val (.bl true)) => bE c (fun z ρ2 => match z.peek ρ2 with
          | some dz => match q dy dz with
            | some (.val (.bl k)) => some (.ok (.val (.bl k)) ρ2)
            | _ => none
          | none => none) ρ
      | some (.val (.bl false)) => some (.ok (.val (.bl false)) ρ)
      | _ => none
    | _ => none
  | none => none
def aNil : DA := fun ρ => some (.ok [] ρ)
def aCons (a : DE) (t : DA) : DA := fun ρ => match a ρ with
  | some (.ok r ρ1) => match t ρ1 with
    | some (.ok rs ρ2) => some (.ok (r :: rs) ρ2)
    | some (.ex x ρ2) => some (.ex x ρ2)
    | none => none
  | some (.ex x ρ1) => some (.ex x ρ1)
  | none => none
/-- *a, a tuple or a list -/
def aStar (a : DE) (t : DA) : DA := fun ρ => match a ρ with
  | some (.ok r ρ1) => match r.frz ρ1 with
    | some (.tup ds, ρ2) => match t ρ2 with
      | some (.ok rs ρ3) => some (.ok (ds.map .val ++ rs) ρ3)
      | some (.ex x ρ3) => some (.ex x ρ3)
      | none => none
    | some (.lst ds, ρ2) => match t ρ2 with
      | some (.ok rs ρ3) => some (.ok (ds.map .val ++ rs) ρ3)
      | some (.ex x ρ3) => some (.ex x ρ3)
      | none => none
    | _ => none
  | some (.ex x ρ1) => some (.ex x ρ1)
  | none => none
def bA (a : DA) (k : List R → Env → Option Er) : DE := fun ρ => match a ρ with
  | some (.ok r ρ1) => k r ρ1
  | some (.ex x ρ1) => some (.ex x ρ1)
  | none => none
def eTup (a : DA) : DE := bA a fun rs ρ => match frzs ρ rs with
  | some (ds, ρ1) => if ds.length ≤ 1000000 then some (.ok (.val (.tup ds)) ρ1) else none
  | none => none
def eLst (a : DA) : DE := bA a fun rs ρ => match frzs ρ rs with
  | some (ds, ρ1) => if ds.length ≤ 1000000 then some (.ok (.fre (.lst ds)) ρ1) else none
  | none => none
/-- a built-in function, by its values -/
def eCB (f : List D → Option Rv) (a : DA) : DE := bA a fun rs ρ => match peeks ρ rs with
  | some ds => match f ds with
    | some r => some (.ok r.r ρ)
    | none => none
  | none => none
def eCall (F : DF) (a : DA) : DE := bA a fun rs ρ => match frzs ρ rs with
  | some (ds, ρ1) => match F ds with
    | some (.ret r) => some (.ok r.r ρ1)
    | some (.ex x) => some (.ex x ρ1)
    | none => none
  | none => none
/-- what a changing call leaves of the slot i -/
def left (mk : Own → Sl) (i : Nat) (ρ : Env) : Option (Fo × Own) → Option Er
  | some (.ret r, o) => some (.ok r.r (ρ.set i (mk o)))
  | some (.ex x, o) => some (.ex x (ρ.set i (mk o)))
  | none => none
/-- the first argument is a name's own object, and the call may change it -/
def eCallM (F : DM) (a : DA) : DE := bA a fun rs ρ => match rs with
  | .al i :: rs' => match ρ[i]? with
    | some (.own o) => match frzs (ρ.set i .no) rs' with
      | some (ds, ρ1) => left .own i ρ1 (F o ds)
      | none => none
    | some (.ref o) => match frzs (ρ.set i .no) rs' with
      | some (ds, ρ1) => left .ref i ρ1 (F o ds)
      | none => none
    | _ => none
  | _ => none
/-- o.m(..), by the object's class -/
def eMeth (F : String → Option DF) (o : DE) (a : DA) : DE := bE o fun x ρ => match x with
  | .val (.obj c ns l) => match F c with
    | some F => eCall (fun ds => F (.obj c ns l :: ds)) a ρ
    | none => none
  | _ => none
/-- o.f: a field, or a constant of the class -/
def look (f : String) : List String → List D → Option D
  | n :: ns, d :: ds => if n = f then some d else look f ns ds
  | _, _ => none
def eFld (cs : List String) (f : String) (o : DE) : DE := bE o fun x ρ => match x.peek ρ with
  | some (.obj c ns l) => if c ∈ cs then match look f ns l with
      | some d => some (.ok (.val d) ρ)
      | none => none
    else none
  | _ => none
def eCon (F : String → Option D) (o : DE) : DE := bE o fun x ρ => match x with
  | .val (.obj c [] []) => match F c with
    | some d => some (.ok (.val d) ρ)
    | none => none
  | _ => none
/-- a slice's part -/
def oNone : DO := fun ρ => some (.ok none ρ)
def oSome (a : DE) : DO := fun ρ => match a ρ with
  | some (.ok (.val (.int i)) ρ1) => some (.ok (some i) ρ1)
  | some (.ok _ _) => none
  | some (.ex x ρ1) => some (.ex x ρ1)
  | none => none
def bO (a : DO) (k : Option Int → Env → Option Er) : DE := fun ρ => match a ρ with
  | some (.ok r ρ1) => k r ρ1
  | some (.ex x ρ1) => some (.ex x ρ1)
  | none => none
def eSl (op : D → Option Int → Option Int → Option Rv) (a : DE) (lo hi : DO) : DE := bE a fun x => bO lo fun l => bO hi fun u ρ => match x.peek ρ with
  | some d => match op d l u with
    | some r => some (.ok r.r ρ)
    | none => none
  | none => none
/-! ### tests -/
def tE (a : DE) : DT := fun ρ => match a ρ with
  | some (.ok (.val (.bl b)) ρ1) => some (.ok b ρ1)
  | some (.ok _ _) => none
  | some (.ex x ρ1) => some (.ex x ρ1)
  | none => none
def tAnd (a b : DT) : DT := fun ρ => match a ρ with
  | some (.ok true ρ1) => b ρ1
  | r => r
def tOr (a b : DT) : DT := fun ρ => match a ρ with
  | some (.ok false ρ1) => b ρ1
  | r => r
def tNot (a : DT) : DT := fun ρ => match a ρ with
  | some (.ok b ρ1) => some (.ok (!b) ρ1)
  | r => r
def eIf (t : DT) (a b : DE) : DE := fun ρ => match t ρ with
  | some (.ok true ρ1) => a ρ1
  | some (.ok false ρ1) => b ρ1
  | some (.ex x ρ1) => some (.ex x ρ1)
  | none => none
/-! ### targets, what is walked -/
def gName (i : Nat) : DG := fun d ρ => put ρ i (.frz d)
def gsGo : List DG → List D → Env → Option Env
  | [], [], ρ => some ρ
  | g :: gs, d :: ds, ρ => match g d ρ with
    | some ρ1 => gsGo gs ds ρ1
    | none => none
  | _, _, _ => none
def gTup (gs : List DG) : DG := fun d ρ => match d with
  | .tup ds => gsGo gs ds ρ
  | _ => none
def iSeq (a : DE) : DI := fun ρ => match a ρ with
  | some (.ok r ρ1) => match r.frz ρ1 with
    | some (.lst ds, ρ2) => some (.ok ds ρ2)
    | some (.tup ds, ρ2) => some (.ok ds ρ2)
    | _ => none
  | some (.ex x ρ1) => some (.ex x ρ1)
  | none => none
def rangeD (lo : Int) (n : Nat) : List D := (List.range n).map fun k => .int (lo + (k : Nat))
/-- range(a), range(a, b) -/
def iRange (a : DA) : DI := fun ρ => match a ρ with
  | some (.ok [.val (.int n)] ρ1) => if -1000000000 ≤ n ∧ n ≤ 1000000000 then some (.ok (rangeD 0 n.toNat) ρ1) else none
  | some (.ok [.val (.int m), .val (.int n)] ρ1) => if (-1000000000 ≤ m ∧ m ≤ 1000000000) ∧ (-1000000000 ≤ n ∧ n ≤ 1000000000) then some (.ok (rangeD m (n - m).toNat) ρ1) else none
  | some (.ok _ _) => none
  | some (.ex x ρ1) => some (.ex x ρ1)
  | none => none
def enumD (k : Nat) : List D → List D
  | [] => []
  | d :: ds => .tup [.int (k : Nat), d] :: enumD (k + 1) ds
def seqOf : D → Option (List D)
  | .lst ds => some ds
  | _ => none
def iEnum (a : DE) : DI := fun ρ => match a ρ with
  | some (.ok r ρ1) => match r.frz ρ1 with
    | some (.lst ds, ρ2) => some (.ok (enumD 0 ds) ρ2)
    | _ => none
  | some (.ex x ρ1) => some (.ex x ρ1)
  | none => none
def zipD : List D → List D → List D
  | a :: as, b :: bs => .tup [a, b] :: zipD as bs
  | _, _ => []
def iZip (a : DA) : DI := fun ρ => match a ρ with
  | some (.ok rs ρ1) => match frzs ρ1 rs with
    | some ([.lst xs, .lst ys], ρ2) => some (.ok (zipD xs ys) ρ2)
    | _ => none
  | some (.ex x ρ1) => some (.ex x ρ1)
  | none => none
/-! ### comprehensions -/
def wipeE (ρ : Env) : List Nat → Env
  | [] => ρ
  | v :: vs => (wipeE ρ vs).set v .no
def backE (ρ0 ρ : Env) : List Nat → Env
  | [] => ρ
  | v :: vs => (backE ρ0 ρ vs).set v (match ρ0[v]? with | some (.frz d) => .frz d | _ => .no)
def lcGo (g : DG) (tt : DT) (el : DE) (vs : List Nat) : List D → Env → Option (List D × Env)
  | [], ρ => some ([], ρ)
  | d :: ds, ρ => match g d (wipeE ρ vs) with
    | some ρ1 => match tt ρ1 with
      | some (.ok true ρ2) => match el ρ2 with
        | some (.ok r ρ3) => match r.frz ρ3 with
          | some (x, ρ4) => match lcGo g tt el vs ds ρ4 with
            | some (xs, ρ5) => some (x :: xs, ρ5)
            | none => none
          | none => none
        | _ => none
      | some (.ok false ρ2) => lcGo g tt el vs ds ρ2
      | _ => none
    | none => none
def tYes : DT := fun ρ => some (.ok true ρ)
def eLc (it : DI) (g : DG) (tt : DT) (el : DE) (vs : List Nat) : DE := fun ρ => match it ρ with
  | some (.ok ds ρ1) => if ds.length ≤ 1000000 then match lcGo g tt el vs ds ρ1 with
      | some (xs, ρ2) => some (.ok (.fre (.lst xs)) (backE ρ1 ρ2 vs))
      | none => none
    else none
  | some (.ex x ρ1) => some (.ex x ρ1)
  | none => none
/-! ### statements -/
def sNil : DS := fun ρ => some (.nx ρ)
def sSeq (a b : DS) : DS := fun ρ => match a ρ with
  | some (.nx ρ1) => b ρ1
  | r => r
def bS (a : DE) (k : R → Env → Option Fl) : DS := fun ρ => match a ρ with
  | some (.ok r ρ1) => k r ρ1
  | some (.ex x ρ1) => some (.ex x ρ1)
  | none => none
def sExpr (a : DE) : DS := bS a fun _ ρ => some (.nx ρ)
def sRetN : DS := fun ρ => some (.rt (.val .non) ρ)
/-- a name's own object is handed on -/
def retR : R → Env → Option Fl
  | .val d, ρ => some (.rt (.val d) ρ)
  | .fre o, ρ => some (.rt (.fre o) ρ)
  | .al i, ρ => match ρ[i]? with
    | some (.own o) => some (.rt (.fre o) (ρ.set i .no))
    | some (.frz d) => some (.rt (.val d) ρ)
    | _ => none
def sRet (a : DE) : DS := bS a retR
def sSet (i : Nat) (a : DE) : DS := bS a fun r ρ => match r with
  | .fre o => match put ρ i (.own o) with
    | some ρ1 => some (.nx ρ1)
    | none => none
  | r => match r.frz ρ with
    | some (d, ρ1) => match put ρ1 i (.frz d) with
      | some ρ2 => some (.nx ρ2)
      | none => none
    | none => none
/-- a, b = e -/
def sAsg (g : DG) (a : DE) : DS := bS a fun r ρ => match r.frz ρ with
  | some (d, ρ1) => match g d ρ1 with
    | some ρ2 => some (.nx ρ2)
    | none => none
  | none => none
/-- a, b = x, y -/
def sPar (i j : Nat) (a : DA) : DS := fun ρ => match a ρ with
  | some (.ok rs ρ1) => match frzs ρ1 rs with
    | some ([x, y], ρ2) => match put ρ2 i (.frz x) with
      | some ρ3 => match put ρ3 j (.frz y) with
        | some ρ4 => some (.nx ρ4)
        | none => none
      | none => none
    | _ => none
  | some (.ex x ρ1) => some (.ex x ρ1)
  | none => none
def bT (t : DT) (k : Bool → Env → Option Fl) : DS := fun ρ => match t ρ with
  | some (.ok b ρ1) => k b ρ1
  | some (.ex x ρ1) => some (.ex x ρ1)
  | none => none
def sIf (t : DT) (a b : DS) : DS := bT t fun c ρ => if c = true then a ρ else b ρ
def sBreak : DS := fun ρ => some (.bk ρ)
def sCont : DS := fun ρ => some (.ct ρ)
def forGo (g : DG) (bd : DS) : List D → Env → Option Fl
  | [], ρ => some (.nx ρ)
  | d :: ds, ρ => match g d ρ with
    | some ρ1 => match bd ρ1 with
      | some (.nx ρ2) => forGo g bd ds ρ2
      | some (.ct ρ2) => forGo g bd ds ρ2
      | some (.bk ρ2) => some (.nx ρ2)
      | r => r
    | none => none
def sFor (it : DI) (g : DG) (bd : DS) : DS := fun ρ => match it ρ with
  | some (.ok ds ρ1) => forGo g bd ds ρ1
  | some (.ex x ρ1) => some (.ex x ρ1)
  | none => none
def whileGo (t : DT) (bd : DS) : Nat → Env → Option Fl
  | 0, _ => none
  | n + 1, ρ => match t ρ with
    | some (.ok true ρ1) => match bd ρ1 with
      | some (.nx ρ2) => whileGo t bd n ρ2
      | some (.ct ρ2) => whileGo t bd n ρ2
      | some (.bk ρ2) => some (.nx ρ2)
      | r => r
    | some (.ok false ρ1) => some (.nx ρ1)
    | some (.ex x ρ1) => some (.ex x ρ1)
    | none => none
def sWhile (m : Env → Nat) (t : DT) (bd : DS) : DS := fun ρ => whileGo t bd (m ρ) ρ
/-- x += e -/
def sAug (i : Nat) (op : D → D → Option Rv) (a : DE) : DS := bS a fun r ρ => match ρ[i]? with
  | some (.frz d) => match r.peek ρ with
    | some e => match op d e with
      | some (.val z) => some (.nx (ρ.set i (.frz z)))
      | _ => none
    | none => none
  | _ => none
/-- the own object of the slot i -/
def own? (ρ : Env) (i : Nat) : Option (Own × (Own → Sl)) := match ρ[i]? with
  | some (.own o) => some (o, .own)
  | some (.ref o) => some (o, .ref)
  | _ => none
/-- x.append(e) -/
def sApp (i : Nat) (a : DE) : DS := fun ρ => match own? ρ i with
  | some (.lst _, _) => bS a (fun r ρ => match r.frz ρ with
    | some (d, ρ1) => match own? ρ1 i with
      | some (.lst l, mk) => if l.length < 1000000 then some (.nx (ρ1.set i (mk (.lst (l ++ [d]))))) else none
      | _ => none
    | none => none) ρ
  | _ => none
def ixD (n : Nat) (i : Int) : Option Nat := if 0 ≤ i then (if i < n then some i.toNat else none) else if -(n : Int) ≤ i then some (i + n).toNat else none
/-- x[j] = e: e ahead of j -/
def sPut (i : Nat) (j a : DE) : DS := bS a fun r ρ0 => match own? ρ0 i with
  | some _ => bS j (fun s ρ => match s with
    | .val (.int k) => match r.frz ρ with
      | some (d, ρ1) => match own? ρ1 i with
        | some (.lst l, mk) => match ixD l.length k with
          | some m => some (.nx (ρ1.set i (mk (.lst (l.set m d)))))
          | none => none
        | _ => none
      | none => none
    | _ => none) ρ0
  | none => none
def putD (kvs : List (Int × D)) (k : Int) (d : D) : List (Int × D) :=
  if (kvs.any fun kv => decide (kv.1 = k)) = true then kvs.map (fun kv => if kv.1 = k then (kv.1, d) else kv) else kvs ++ [(k, d)]
/-- x[k] = e, x a dict; e ahead of k -/
def sDput (i : Nat) (j a : DE) : DS := bS a fun r ρ0 => match own? ρ0 i with
  | some _ => bS j (fun s ρ => match s with
    | .val (.int k) => match r.frz ρ with
      | some (d, ρ1) => match own? ρ1 i with
        | some (.dct l, mk) => if l.length < 1000000 then some (.nx (ρ1.set i (mk (.dct (putD l k d))))) else none
        | _ => none
      | none => none
    | _ => none) ρ0
  | none => none
/-- {} -/
def eDct : DE := fun ρ => some (.ok (.fre (.dct [])) ρ)
/-- raise X(..) -/
def sRaise (mk : List D → Option Exc) (a : DA) : DS := fun ρ => match a ρ with
  | some (.ok rs ρ1) => match frzs ρ1 rs with
    | some (ds, ρ2) => match mk ds with
      | some x => some (.ex x ρ2)
      | none => none
    | none => none
  | some (.ex x ρ1) => some (.ex x ρ1)
  | none => none
/-- match x: case 's': .. case _: .. -/
def msGo (df : DS) (s : String) (ρ : Env) : List (String × DS) → Option Fl
  | [] => df ρ
  | (c, b) :: r => if s = c then b ρ else msGo df s ρ r
def sMatch (a : DE) (cs : List (String × DS)) (df : DS) : DS := bS a fun r ρ => match r with
  | .val (.str s) => msGo df s ρ cs
  | _ => none
/-! ### operators by data -/
def opAdd (a b : D) : Option Rv := match a, b with
  | .int i, .int j => some (.val (.int (i + j)))
  | .tup xs, .tup ys => if xs.length + ys.length ≤ 1000000 then some (.val (.tup (xs ++ ys))) else none
  | .lst xs, .lst ys => if xs.length + ys.length ≤ 1000000 then some (.fre (.lst (xs ++ ys))) else none
  | _, _ => none
def opSub (a b : D) : Option Rv := match a, b with
  | .int i, .int j => some (.val (.int (i - j)))
  | _, _ => none
def opMul (a b : D) : Option Rv := match a, b with
  | .int i, .int j => if -(2 ^ 64) < i ∧ i < 2 ^ 64 then some (.val (.int (i * j))) else none
  | _, _ => none
def opMod (a b : D) : Option Rv := match a, b with
  | .int i, .int j => if 0 < j then some (.val (.int (i % j))) else none
  | _, _ => none
def opFdiv (a b : D) : Option Rv := match a, b with
  | .int i, .int j => if 0 < j ∧ j < 1073741824 then some (.val (.int (i / j))) else none
  | _, _ => none
def opPow (a b : D) : Option Rv := match a, b with
  | .int i, .int j => if 0 ≤ j ∧ j ≤ 1000000 ∧ i.natAbs < 2 ^ 64 then some (.val (.int (i ^ j.toNat))) else none
  | _, _ => none
def opNeg (a : D) : Option Rv := match a with
  | .int i => some (.val (.int (-i)))
  | _ => none
def cI (p : Int → Int → Bool) (a b : D) : Option Rv := match a, b with
  | .int i, .int j => some (.val (.bl (p i j)))
  | _, _ => none
def cLt := cI fun i j => decide (i < j)
def cLe := cI fun i j => decide (i ≤ j)
def cGt := cI fun i j => decide (j < i)
def cGe := cI fun i j => decide (j ≤ i)
def cEq (a b : D) : Option Rv := if (a.dat 60 && b.dat 60) = true then some (.val (.bl (a.eqv b))) else none
def cNe (a b : D) : Option Rv := if (a.dat 60 && b.dat 60) = true then some (.val (.bl (!a.eqv b))) else none
/-- x in y, flat items -/
def isIn (x : D) (l : List D) : Option Bool := if (x.flat && l.all D.flat) = true then some (l.any fun y => y.eqv x) else none
def cIn (a b : D) : Option Rv := match b with
  | .tup l => match isIn a l with | some c => some (.val (.bl c)) | none => none
  | .lst l => match isIn a l with | some c => some (.val (.bl c)) | none => none
  | _ => none
def cNotIn (a b : D) : Option Rv := match b with
  | .tup l => match isIn a l with | some c => some (.val (.bl (!c))) | none => none
  | .lst l => match isIn a l with | some c => some (.val (.bl (!c))) | none => none
  | _ => none
def isNon : D → Bool
  | .non => true
  | _ => false
def cIsN (a b : D) : Option Rv := match b with
  | .non => some (.val (.bl (isNon a)))
  | _ => none
def cNotN (a b : D) : Option Rv := match b with
  | .non => some (.val (.bl (!isNon a)))
  | _ => none
/-- a[i] -/
def ixOp (a b : D) : Option Rv := match b with
  | .int i => match a with
    | .tup l => match ixD l.length i with
      | some j => match l[j]? with | some d => some (.val d) | none => none
      | none => none
    | .lst l => match ixD l.length i with
      | some j => match l[j]? with | some d => some (.val d) | none => none
      | none => none
    | _ => none
  | _ => none
def sIxD (n d : Nat) : Option Int → Nat
  | none => d
  | some v => if v < 0 then (v + (n : Int)).toNat else min v.toNat n
def cutD (l : List D) (lo hi : Option Int) : List D := (l.drop (sIxD l.length 0 lo)).take (sIxD l.length l.length hi - sIxD l.length 0 lo)
def cutI (l : List Int) (lo hi : Option Int) : List Int := (l.drop (sIxD l.length 0 lo)).take (sIxD l.length l.length hi - sIxD l.length 0 lo)
def slOp (a : D) (lo hi : Option Int) : Option Rv := match a with
  | .tup l => some (.val (.tup (cutD l lo hi)))
  | .lst l => some (.fre (.lst (cutD l lo hi)))
  | .scr l => some (.fre (.lst ((cutI l lo hi).map .int)))
  | _ => none
/-! ### built-in functions by data -/
def fLen : List D → Option Rv
  | [.tup l] => some (.val (.int (l.length : Nat)))
  | [.lst l] => some (.val (.int (l.length : Nat)))
  | _ => none
def fTuple : List D → Option Rv
  | [.tup l] => some (.val (.tup l))
  | [.lst l] => some (.val (.tup l))
  | _ => none
def fList : List D → Option Rv
  | [.tup l] => some (.fre (.lst l))
  | [.lst l] => some (.fre (.lst l))
  | _ => none
def fInt : List D → Option Rv
  | [.int i] => some (.val (.int i))
  | [.bl b] => some (.val (.int (if b then 1 else 0)))
  | _ => none
def fAbs : List D → Option Rv
  | [.int i] => some (.val (.int (if i < 0 then -i else i)))
  | _ => none
def fMax2 : List D → Option Rv
  | [.int i, .int j] => some (.val (.int (if j > i then j else i)))
  | _ => none
def fMin2 : List D → Option Rv
  | [.int i, .int j] => some (.val (.int (if j < i then j else i)))
  | _ => none
def bools : List D → Option (List Bool)
  | [] => some []
  | .bl b :: r => match bools r with | some bs => some (b :: bs) | none => none
  | _ :: _ => none
def intsD : List D → Option (List Int)
  | [] => some []
  | .int i :: r => match intsD r with | some is => some (i :: is) | none => none
  | _ :: _ => none
def fAll : List D → Option Rv
  | [.lst l] => match bools l with | some bs => some (.val (.bl (bs.all id))) | none => none
  | _ => none
def fAny : List D → Option Rv
  | [.lst l] => match bools l with | some bs => some (.val (.bl (bs.any id))) | none => none
  | _ => none
def fSum : List D → Option Rv
  | [.lst l] => match intsD l with | some is => some (.val (.int is.sum)) | none => none
  | _ => none
/-- the one ascending list of these -/
def insI (x : Int) : List Int → List Int
  | [] => [x]
  | y :: r => if x ≤ y then x :: y :: r else y :: insI x r
def sortI : List Int → List Int
  | [] => []
  | x :: r => insI x (sortI r)
def fSorted : List D → Option Rv
  | [.lst l] => match intsD l with | some is => some (.fre (.lst ((sortI is).map .int))) | none => none
  | _ => none
def fRepr : List D → Option Rv
  | [.int i] => if i.natAbs < 2 ^ 1900 then some (.val (.str (toString i))) else none
  | _ => none
def tyN : D → Option String
  | .non => some "NoneType" | .bl _ => some "bool" | .int _ => some "int" | .str _ => some "str" | .tup _ => some "tuple" | .lst _ => some "list" | _ => none
def isB (t n : String) : Bool := t == n || (t == "bool" && n == "int")
/-- isinstance(x, (n, ..)) -/
def isiD (ns : List String) (d : D) : Option Rv := match tyN d with
  | some t => some (.val (.bl (ns.any fun n => isB t n)))
  | none => none
/-! ### defs -/
def start (n : Nat) (ds : List D) : Env := ds.map .frz ++ List.replicate (n - ds.length) .no
/-- n slots, p parameters -/
def fn (n p : Nat) (g : DS) : DF := fun ds => if ds.length = p then match g (start n ds) with
    | some (.rt r _) => some (.ret r)
    | some (.nx _) => some (.ret (.val .non))
    | some (.ex x _) => some (.ex x)
    | _ => none
  else none
def fin (fo : Fo) (ρ : Env) : Option (Fo × Own) := match ρ[(0 : Nat)]? with
  | some (.ref o) => some (fo, o)
  | _ => none
def fnM (n p : Nat) (g : DS) : DM := fun o ds => if ds.length + 1 = p then match g (.ref o :: start (n - 1) ds) with
    | some (.rt r ρ) => fin (.ret r) ρ
    | some (.nx ρ) => fin (.ret (.val .non)) ρ
    | some (.ex x ρ) => fin (.ex x) ρ
    | _ => none
  else none
end DL
end

section
/-! DLP2: more of what the constructs do, in plain data -/
namespace DL
/-- a[i], a row of whole numbers too -/
def ixS (a b : D) : Option Rv := match b with
  | .int i => match a with
    | .tup l => match ixD l.length i with
      | some j => match l[j]? with | some d => some (.val d) | none => none
      | none => none
    | .lst l => match ixD l.length i with
      | some j => match l[j]? with | some d => some (.val d) | none => none
      | none => none
    | .scr l => match ixD l.length i with
      | some j => match l[j]? with | some d => some (.val (.int d)) | none => none
      | none => none
    | _ => none
  | _ => none
/-- t[::-1], a tuple -/
def opRevT (a : D) : Option Rv := match a with
  | .tup l => some (.val (.tup l.reverse))
  | _ => none
/-- a[::-1] -/
def opRev (a : D) : Option Rv := match a with
  | .tup l => some (.val (.tup l.reverse))
  | .lst l => some (.fre (.lst l.reverse))
  | _ => none
def opRevL (a : D) : Option Rv := match a with
  | .lst l => some (.fre (.lst l.reverse))
  | _ => none
def fLenS : List D → Option Rv
  | [.tup l] => some (.val (.int (l.length : Nat)))
  | [.lst l] => some (.val (.int (l.length : Nat)))
  | [.scr l] => some (.val (.int (l.length : Nat)))
  | _ => none
/-- list(d), d a dict: its keys -/
def eKeys (a : DE) : DE := bE a fun x ρ => match x with
  | .al i => match own? ρ i with
    | some (.dct kvs, _) => some (.ok (.fre (.lst (kvs.map fun p => .int p.1))) ρ)
    | _ => none
  | _ => none
/-- sorted(x), whole numbers -/
def fSortedA : List D → Option Rv
  | [.lst l] => match intsD l with | some is => some (.fre (.lst ((sortI is).map .int))) | none => none
  | [.tup l] => match intsD l with | some is => some (.fre (.lst ((sortI is).map .int))) | none => none
  | _ => none
/-- the different ones, ascending -/
def dedI : List Int → List Int
  | [] => []
  | x :: r => match r with
    | [] => [x]
    | y :: _ => if x = y then dedI r else x :: dedI r
/-- sorted(set(x)) -/
def fSetSorted : List D → Option Rv
  | [.lst l] => match intsD l with | some is => if l.length ≤ 4000 ∧ (dedI (sortI is)).length < 64 then some (.fre (.lst ((dedI (sortI is)).map .int))) else none | none => none
  | _ => none
/-- x += e -/
def sAugS (i : Nat) (op : D → D → Option Rv) (a : DE) : DS := fun ρ => match ρ[i]? with
  | some (.frz d) => bS a (fun r ρ1 => match r.peek ρ1 with
    | some e => match op d e with
      | some (.val z) => match put ρ1 i (.frz z) with
        | some ρ2 => some (.nx ρ2)
        | none => none
      | _ => none
    | none => none) ρ
  | _ => none
/-- o.m(..) by the object's class -/
def eMet (m : String) (F : String → Option DF) (o : DE) (a : DA) : DE := bE o fun x ρ => match x with
  | .val (.obj c ns l) => match F c with
    | some F => if ns.contains m = false then eCall (fun ds => F (.obj c ns l :: ds)) a ρ else none
    | none => none
  | _ => none
def mkExc (c : String) (ns : List String) (ds : List D) : Option Exc := if ds.length = ns.length then some ⟨c, ns, ds⟩ else none
/-- [el for g in it if tt for g1 in it1 if tt1] -/
def lcGo2 (g : DG) (tt : DT) (it1 : DI) (g1 : DG) (tt1 : DT) (el : DE) (vs vs1 : List Nat) : List D → Env → Option (List D × Env)
  | [], ρ => some ([], ρ)
  | d :: ds, ρ => match g d (wipeE ρ vs) with
    | some ρ1 => match tt ρ1 with
      | some (.ok true ρ2) => match it1 ρ2 with
        | some (.ok ds1 ρ3) => match lcGo g1 tt1 el vs1 ds1 ρ3 with
          | some (xs, ρ4) => match lcGo2 g tt it1 g1 tt1 el vs vs1 ds ρ4 with
            | some (ys, ρ5) => some (xs ++ ys, ρ5)
            | none => none
          | none => none
        | _ => none
      | some (.ok false ρ2) => lcGo2 g tt it1 g1 tt1 el vs vs1 ds ρ2
      | _ => none
    | none => none
def eLc2 (it : DI) (g : DG) (tt : DT) (it1 : DI) (g1 : DG) (tt1 : DT) (el : DE) (vs vs1 : List Nat) : DE := fun ρ => match it ρ with
  | some (.ok ds ρ1) => match lcGo2 g tt it1 g1 tt1 el vs vs1 ds ρ1 with
    | some (xs, ρ2) => if xs.length ≤ 1000000 then some (.ok (.fre (.lst xs)) (backE ρ1 ρ2 vs)) else none
    | none => none
  | some (.ex x ρ1) => some (.ex x ρ1)
  | none => none
/-- the clauses of a try: except C as n (slot i): x = (s, repr(n.f)) | except C: a suite; mt tells which classes C takes -/
inductive TCl where
  | rep (mt : String → Option Bool) (i told : Nat) (s f : String)
  | suite (mt : String → Option Bool) (g : DS)
def tryGo : List TCl → Exc → DS
  | [], x, ρ => some (.ex x ρ)
  | .rep mt i told s f :: r, x, ρ => match mt x.cls with
    | some true => match look f x.ns x.l with
      | some (.int n) => if n.natAbs < 2 ^ 1900 ∧ x.ns ≠ [] ∧ i ≠ told then match put ρ i .no with
          | some ρ1 => match put ρ1 told (.frz (.tup [.str s, .str (toString n)])) with
            | some ρ2 => some (.nx ρ2)
            | none => none
          | none => none
        else none
      | _ => none
    | some false => tryGo r x ρ
    | none => none
  | .suite mt g :: r, x, ρ => match mt x.cls with
    | some true => match g ρ with
      | some (.ex _ _) => none
      | fl => fl
    | some false => tryGo r x ρ
    | none => none
def sTry (b : DS) (cs : List TCl) : DS := fun ρ => match b ρ with
  | some (.ex x ρ1) => tryGo cs x ρ1
  | r => r
/-- super().m(..) in a method of instances of the classes cs: the next one above computes g -/
def eSup (cs : List String) (g : DF) (a : DA) : DE := fun ρ => match ρ[(0 : Nat)]? with
  | some (.frz (.obj c ns l)) => if c ∈ cs ∧ ns = [] then eCall (fun ds => g (.obj c ns l :: ds)) a ρ else none
  | _ => none
/-- a def with a star: n slots, p parameters ahead of it -/
def fnS (n p : Nat) (g : DS) : DF := fun ds => if p ≤ ds.length ∧ ds.length - p ≤ 1000000 then fn n (p + 1) g (ds.take p ++ [.tup (ds.drop p)]) else none
def opAddI (a b : D) : Option Rv := match a, b with
  | .int i, .int j => some (.val (.int (i + j)))
  | _, _ => none
end DL
end

section
set_option maxRecDepth 100000
set_option maxHeartbeats 4000000
/-! the head's facts as Bools, the Hook: definitions alone, so that the head's run may stand first -/
namespace DL
open PySem PySem.Spec PyProof.Rows L2
open PySem.W (ksFn ks_superIn)
/-- a statement of a class's body -/
def clsStmt (st : Stmt) (j : Nat) : Stmt := match st with
  | .ClassDef _ _ _ b .. => b.getD j (.Pass ⟨0, 0, 0, 0⟩)
  | _ => .Pass ⟨0, 0, 0, 0⟩
abbrev SupW : Type := Option (Str × Str × Arguments × FuncBody × Scope × Addr × List Str × Addr)
def supW (K : PySem.W.Frag) (f : Addr) : SupW := match K.lookup f with
  | some ⟨_, _, .func fd, _⟩ => some (fd.name, fd.qualname, fd.params, fd.body, fd.scope, fd.globals, fd.closure.map (·.1), fd.builtins)
  | _ => none
def ccOf (K : PySem.W.Frag) (f : Addr) : Addr := match K.lookup f with
  | some ⟨_, _, .func fd, _⟩ => (match fd.closure with
    | [(_, c)] => c
    | _ => 0)
  | _ => 0
def cdaOf (K : PySem.W.Frag) (f : Addr) : Addr := match K.lookup f with
  | some ⟨_, _, .func fd, _⟩ => (match fd.code with
    | .ref a => a
    | _ => 0)
  | _ => 0
def bareB (K : PySem.W.Frag) (f : Addr) : Bool := match K.lookup f with
  | some ⟨_, _, .func fd, _⟩ => (match fd.defaults, fd.code with
    | .none, .ref _ => true
    | _, _ => false)
  | _ => false
def bareKB (K : PySem.W.Frag) (f : Addr) : Bool := match K.lookup f with
  | some ⟨_, _, .func fd, _⟩ => (match fd.kwdefaults with
    | .none => true
    | _ => false)
  | _ => false
def supV (m q : Str) (st : Stmt) : SupW := some (m, q, defArgs st, .stmts (defBody st), defScope st, mainGlobals, ["__class__"], builtinsNs)
def codeB (P : Program) (K : PySem.W.Frag) (cda : Addr) : Bool := match K.lookup cda with
  | some ⟨_, _, .fields vs, _⟩ => (match (vs[2]? : Option Value) with
    | some (Value.str file _) => ((P.main.file : Str) == file)
    | _ => false)
  | _ => false
def cellB (K : PySem.W.Frag) (cc D : Addr) : Bool := match K.lookup cc with
  | some ⟨_, _, .cell (some (.ref x)), _⟩ => x == D
  | _ => false
open He (eqO eqO_ok)
def clsB (K : PySem.W.Frag) (C : Addr) : Bool := PySem.W.plainGet K C Str.empty && (PySem.W.hasDictIn K C && (PySem.W.plainOver K C && eqO (PySem.W.findIn K (.ref C) "__setattr__") (some (some (.builtin "object.__setattr__")))))
def methB (K : PySem.W.Frag) (C : Addr) (m : Str) (f : Addr) : Bool := eqO (PySem.W.findIn K (.ref C) m) (some (some (.ref f))) && (PySem.W.isFn K (.ref f) && PySem.W.keepIn K (.ref f))
def mkB (K : PySem.W.Frag) (C : Addr) : Bool := PySem.W.makesIn K C && (eqO (PySem.W.findIn K (.ref C) "__init__") (some (some (.builtin "object.__init__"))) && PySem.W.keepIn K (.ref C))
/-- a constant of a class, a str -/
def conB (K : PySem.W.Frag) (cn : String → Addr) (f : String) (c : String) (d : D) : Bool := match d with
  | .str s => clsB K (cn c) && (!(PySem.W.copiedNames.contains (Str.ofString f)) && match PySem.W.findIn K (.ref (cn c)) (Str.ofString f) with
    | some (some (.str y t)) => decide (y = Str.ofString s) && eqO (PySem.W.specialIn K (.str y t) "__get__") (some none)
    | _ => false)
  | _ => false
mutual
def repB (K : PySem.W.Frag) : D → Value → Bool
  | .non, u => (match u with | .none => true | _ => false)
  | .bl b, u => (match u with | .bool c => b == c | _ => false)
  | .int i, u => (match u with | .int j _ => decide (j = i) | _ => false)
  | .str s, u => (match u with | .str y _ => decide (y = Str.ofString s) | _ => false)
  | .tup ds, u => (match u with
    | .ref a => (match K.lookup a with
      | some ⟨.type c, _, .seq its _, _⟩ => decide (c = "tuple") && (decide (its.size ≤ sizeLine) && repsB K ds its.toList)
      | _ => false)
    | _ => false)
  | _, _ => false
def repsB (K : PySem.W.Frag) : List D → List Value → Bool
  | [], us => us.isEmpty
  | d :: ds, us => (match us with
    | [] => false
    | u :: us => repB K d u && repsB K ds us)
end
def gB (K : PySem.W.Frag) (x : Str) (d : D) : Bool := match PySem.W.nsIn K mainGlobals x with
  | some (some u) => repB K d u
  | _ => false
/-- a global name that is a class (a function) -/
def atB (K : PySem.W.Frag) (x : Str) (a : Addr) : Bool := eqO (PySem.W.nsIn K mainGlobals x) (some (some (.ref a)))
def offB (K : PySem.W.Frag) (x : Str) : Bool := eqO (PySem.W.nsIn K mainGlobals x) (some none)
def opqB (K : PySem.W.Frag) : Bool := eqO (PySem.W.nsIn K cStatics "thirdparty.any") (some none)
def supB (P : Program) (K : PySem.W.Frag) (cn : String → Addr) (D : Addr) (cs : List String) (m q : Str) (f f2 cc cda : Addr) : Bool :=
  bareB K f && (decide (cc = ccOf K f) && (decide (cda = cdaOf K f) && (PySem.W.codeIn K (.ref cda) q && (codeB P K cda && (cellB K cc D && ((PySem.W.clsIn K D).isSome &&
    ((cs.all fun c => decide (PySem.W.mroIn K (cn c) (.ref D) = some true) && eqO (ks_superIn K (cn c) D m) (some (some (.ref f2)))) && (decide (PySem.W.typeIn K (.ref f2) = some (.type "function")) && (PySem.W.fnIn K f2 && (offB K "super" && (opqB K && !(P.main.scope.names.lookup ("super" : Str)).isSome)))))))))))
def excVE (K : PySem.W.Frag) (C : Addr) : Bool := match K.lookup C with
  | some ⟨.type "type", _, .cls cd, sl⟩ => (match cd.mro, sl.toList with
    | .ref C' :: bm, [_, _, _, _, some (.builtin n), _] => C' == C && n == "ValueError.__new__" && !cd.hasDel && cd.hasDict && PySem.HandSPX.refsVE bm
    | _, _ => false)
  | _ => false
def exiB (P : Program) (K : PySem.W.Frag) (C D fI cc cda : Addr) (cl f q : Str) : Bool :=
  atB K cl C && (excVE K C && (eqO (PySem.W.findIn K (.ref C) "__setattr__") (some (some (.builtin "object.__setattr__"))) && (eqO (PySem.W.findIn K (.ref C) f) (some none) && (eqO (PySem.W.findIn K (.ref C) "__init__") (some (some (.ref fI))) &&
  (decide (PySem.W.typeIn K (.ref fI) = some (.type "function")) && (PySem.W.keepIn K (.ref C) && (decide (PySem.W.subIn K (.ref C) (.type "BaseException") = some true) && (decide (PySem.W.typeIn K (.ref C) = some (.type "type")) &&
  (bareB K fI && (bareKB K fI && (decide (cc = ccOf K fI) && (decide (cda = cdaOf K fI) && (PySem.W.codeIn K (.ref cda) q && (codeB P K cda && (cellB K cc D && ((PySem.W.clsIn K D).isSome && (decide (PySem.W.mroIn K C (.ref D) = some true) &&
  (eqO (ks_superIn K C D "__init__") (some (some (.builtin "ValueError.__init__"))) && (decide (PySem.W.subIn K (.ref C) (.type "ValueError") = some true) && (offB K "super" && (opqB K && !(P.main.scope.names.lookup ("super" : Str)).isSome)))))))))))))))))))))
def asS (g : Addr → Option Obj) : Nat → List Addr
  | 0 => [mainGlobals, cStatics]
  | n + 1 => He.growD g (asS g n)
abbrev AlS : Type := Bool × List He.FnW × List SupW
def obsS (B : PySem.W.Frag → Bool) (fn : List He.DefD) (sf : List (PySem.W.Frag → Addr)) (K : PySem.W.Frag) : AlS := (B K && fn.all fun d => d.ok K, fn.map fun d => He.fnW K d.at_, sf.map fun p => supW K (p K))
def valS (fn : List He.DefD) (sv : List SupW) : AlS := (true, fn.map He.DefD.val, sv)
def SaysS (B : PySem.W.Frag → Bool) (fn : List He.DefD) (sf : List (PySem.W.Frag → Addr)) (sv : List SupW) (K : PySem.W.Frag) : Prop := obsS B fn sf K = valS fn sv
def obsSG (n : Nat) (B : PySem.W.Frag → Bool) (fn : List He.DefD) (sf : List (PySem.W.Frag → Addr)) (g : Addr → Option Obj) : AlS := obsS B fn sf (He.frG g (asS g n))
def hookS (n : Nat) (B : PySem.W.Frag → Bool) (fn : List He.DefD) (sf : List (PySem.W.Frag → Addr)) (sv : List SupW) : PySem.W.Hook where
  α := AlS
  obs := fun s => obsSG n B fn sf s.heap.get?
  val := fun _ => valS fn sv
  says := fun _ h => ∃ K : PySem.W.Frag, K.In h ∧ SaysS B fn sf sv K
  of := fun _ _ e => ⟨_, He.frG_in, e⟩
  keeps := fun _ _ _ ⟨K, hK, c⟩ k => ⟨K, PySem.W.Frag.In.keeps hK k, c⟩
theorem obsSG_eq {n : Nat} {B : PySem.W.Frag → Bool} {fn : List He.DefD} {sf : List (PySem.W.Frag → Addr)} {sv : List SupW} {g : Addr → Option Obj} {s : Shared} (h : ∀ a, g a = s.heap.get? a) : obsSG n B fn sf g = (hookS n B fn sf sv).obs s := by
  have e : g = s.heap.get? := funext h
  rw [e] <;> rfl
end DL
end

section
/-! printed by gen.py from the law's text: what each def computes, in plain data -/
set_option maxRecDepth 100000
namespace SoR
open DL
def d_LETTERS : D := (.int 1000000000)
def d_IDLE : D := (.tup [(.bl false), (.tup [])])
def d_STONE : D := (.tup [(.bl true), (.tup [])])
/-- a kind's NAME -/
def nameOf : String → Option D
  | "Kind" => some (.str "list") | "BagKind" => some (.str "bag") | "SetKind" => some (.str "set") | "HeadsKind" => some (.str "heads")
  | "FirstKind" => some (.str "first") | "TailsKind" => some (.str "tails") | "LastKind" => some (.str "last") | "EndsKind" => some (.str "ends")
  | _ => none
def excCls : List String := ["BadKind", "BadEffect"]
def fuel_fresh_word (ρ : DL.Env) : Nat := match ρ[(1 : Nat)]? with
  | some (.frz (.tup ws)) => (ws.map fun d => match d with | .tup l => l.length | _ => 0).sum + 2
  | _ => 0
def ks : List String := ["Kind", "BagKind", "SetKind", "HeadsKind", "FirstKind", "TailsKind", "LastKind", "EndsKind"]

/-- what except BadEffect takes -/
def mt_BadEffect : String → Option Bool
  | "BadKind" => some false
  | "BadEffect" => some true
  | _ => none
/-- what except StoreError takes -/
def mt_StoreError : String → Option Bool
  | "BadKind" => some true
  | "BadEffect" => some true
  | _ => none
/- Kind.plain(self, word): 0 self 1 word -/
def body_Kind_plain : DS := (sRet (eCB fTuple (aCons (eVar 1) aNil)))
def den_Kind_plain : DF := fn 2 2 body_Kind_plain
/- BagKind.plain(self, word): 0 self 1 word 2 __class__ -/
def body_BagKind_plain : DS := (sRet (eCB fTuple (aCons (eCB fSortedA (aCons (eSup ["BagKind", "SetKind"] den_Kind_plain (aCons (eVar 1) aNil)) aNil)) aNil)))
def den_BagKind_plain : DF := fn 3 2 body_BagKind_plain
/- SetKind.plain(self, word): 0 self 1 word 2 __class__ 3 different 4 letter -/
def lb_SetKind_plain_1 : DS := (sIf (tE (eOp cNe (eSl slOp (eVar 3) (oSome (eUn opNeg (eC (.int 1)))) oNone) (eLst (aCons (eVar 4) aNil)))) (sApp 3 (eVar 4)) sNil)
def lp_SetKind_plain_1 : DS := sFor (iSeq (eSup ["SetKind"] den_BagKind_plain (aCons (eVar 1) aNil))) (gName 4) lb_SetKind_plain_1
def body_SetKind_plain : DS := (sSeq (sSet 3 (eLst aNil)) (sSeq lp_SetKind_plain_1 (sRet (eCB fTuple (aCons (eVar 3) aNil)))))
def den_SetKind_plain : DF := fn 5 2 body_SetKind_plain
/- HeadsKind.plain(self, word): 0 self 1 word 2 __class__ 3 seen 4 letter -/
def lb_HeadsKind_plain_1 : DS := (sDput 3 (eVar 4) (eC (.bl true)))
def lp_HeadsKind_plain_1 : DS := sFor (iSeq (eSup ["HeadsKind", "FirstKind"] den_Kind_plain (aCons (eVar 1) aNil))) (gName 4) lb_HeadsKind_plain_1
def body_HeadsKind_plain : DS := (sSeq (sSet 3 eDct) (sSeq lp_HeadsKind_plain_1 (sRet (eCB fTuple (aCons (eKeys (eVar 3)) aNil)))))
def den_HeadsKind_plain : DF := fn 5 2 body_HeadsKind_plain
/- FirstKind.plain(self, word): 0 self 1 word 2 __class__ -/
def body_FirstKind_plain : DS := (sRet (eSl slOp (eSup ["FirstKind"] den_HeadsKind_plain (aCons (eVar 1) aNil)) oNone (oSome (eC (.int 1)))))
def den_FirstKind_plain : DF := fn 3 2 body_FirstKind_plain
/- TailsKind.plain(self, word): 0 self 1 word 2 __class__ 3 seen 4 letter -/
def lb_TailsKind_plain_1 : DS := (sDput 3 (eVar 4) (eC (.bl true)))
def lp_TailsKind_plain_1 : DS := sFor (iSeq (eUn opRevT (eSup ["TailsKind", "LastKind"] den_Kind_plain (aCons (eVar 1) aNil)))) (gName 4) lb_TailsKind_plain_1
def body_TailsKind_plain : DS := (sSeq (sSet 3 eDct) (sSeq lp_TailsKind_plain_1 (sRet (eCB fTuple (aCons (eUn opRevL (eKeys (eVar 3))) aNil)))))
def den_TailsKind_plain : DF := fn 5 2 body_TailsKind_plain
/- LastKind.plain(self, word): 0 self 1 word 2 __class__ -/
def body_LastKind_plain : DS := (sRet (eSl slOp (eSup ["LastKind"] den_TailsKind_plain (aCons (eVar 1) aNil)) (oSome (eUn opNeg (eC (.int 1)))) oNone))
def den_LastKind_plain : DF := fn 3 2 body_LastKind_plain
/- EndsKind.plain(self, word): 0 self 1 word 2 __class__ 3 whole -/
def body_EndsKind_plain : DS := (sSeq (sSet 3 (eSup ["EndsKind"] den_Kind_plain (aCons (eVar 1) aNil))) (sRet (eOp opAdd (eSl slOp (eVar 3) oNone (oSome (eC (.int 1)))) (eSl slOp (eVar 3) (oSome (eUn opNeg (eC (.int 1)))) oNone))))
def den_EndsKind_plain : DF := fn 4 2 body_EndsKind_plain
/-- plain, by the class -/
def plainOf : String → Option DF
  | "Kind" => some den_Kind_plain
  | "BagKind" => some den_BagKind_plain
  | "SetKind" => some den_SetKind_plain
  | "HeadsKind" => some den_HeadsKind_plain
  | "FirstKind" => some den_FirstKind_plain
  | "TailsKind" => some den_TailsKind_plain
  | "LastKind" => some den_LastKind_plain
  | "EndsKind" => some den_EndsKind_plain
  | _ => none
/- kind_named(name): 0 name -/
def body_kind_named : DS := (sMatch (eVar 0) [("list", (sRet (eC (.obj "Kind" [] [])))), ("bag", (sRet (eC (.obj "BagKind" [] [])))), ("set", (sRet (eC (.obj "SetKind" [] [])))), ("first", (sRet (eC (.obj "FirstKind" [] [])))), ("last", (sRet (eC (.obj "LastKind" [] [])))), ("ends", (sRet (eC (.obj "EndsKind" [] [])))), ("heads", (sRet (eC (.obj "HeadsKind" [] [])))), ("tails", (sRet (eC (.obj "TailsKind" [] []))))] (sRaise (mkExc "BadKind" ["name"]) (aCons (eVar 0) aNil)))
def den_kind_named : DF := fn 1 1 body_kind_named
/- is_letter(thing): 0 thing -/
def body_is_letter : DS := (sRet (eAnd (eUn (isiD ["int"]) (eVar 0)) (eAnd (eNot (eUn (isiD ["bool"]) (eVar 0))) (eChain cLe cLt (eC (.int 0)) (eVar 0) (eC d_LETTERS)))))
def den_is_letter : DF := fn 1 1 body_is_letter
/- is_word(thing): 0 thing 1 letter -/
def lc_is_word_1 : DE := eLc (iSeq (eVar 0)) (gName 1) tYes (eCall den_is_letter (aCons (eVar 1) aNil)) [1]
def body_is_word : DS := (sRet (eAnd (eUn (isiD ["tuple"]) (eVar 0)) (eCB fAll (aCons lc_is_word_1 aNil))))
def den_is_word : DF := fn 2 1 body_is_word
/- is_plain(kind, thing): 0 kind 1 thing 2 merging -/
def body_is_plain : DS := (sSeq (sSet 2 (eCall den_kind_named (aCons (eVar 0) aNil))) (sRet (eAnd (eCall den_is_word (aCons (eVar 1) aNil)) (eOp cEq (eMet "plain" plainOf (eVar 2) (aCons (eVar 1) aNil)) (eVar 1)))))
def den_is_plain : DF := fn 3 2 body_is_plain
/- fresh_word(kind, words): 0 kind 1 words 2 merging 3 letter 4 word -/
def lc_fresh_word_1 : DE := eLc (iSeq (eVar 1)) (gName 4) tYes (eOp cIn (eVar 3) (eVar 4)) [4]
def lb_fresh_word_1 : DS := (sAugS 3 opAddI (eC (.int 1)))
def lp_fresh_word_1 : DS := sWhile fuel_fresh_word (tE (eCB fAny (aCons lc_fresh_word_1 aNil))) lb_fresh_word_1
def body_fresh_word : DS := (sSeq (sSet 2 (eCall den_kind_named (aCons (eVar 0) aNil))) (sSeq (sSet 3 (eC (.int 0))) (sSeq lp_fresh_word_1 (sRet (eMet "plain" plainOf (eVar 2) (aCons (eTup (aCons (eVar 3) aNil)) aNil))))))
def den_fresh_word : DF := fnS 5 1 body_fresh_word
/- formed(merging, clear, word): 0 merging 1 clear 2 word -/
def body_formed : DS := (sSeq (sIf (tAnd (tE (eOp cEq (eCon nameOf (eVar 0)) (eC (.str "last")))) (tE (eOp cGt (eCB fLenS (aCons (eVar 2) aNil)) (eC (.int 0))))) (sRet (eTup (aCons (eC (.bl true)) (aCons (eVar 2) aNil)))) sNil) (sRet (eTup (aCons (eVar 1) (aCons (eVar 2) aNil)))))
def den_formed : DF := fn 3 3 body_formed
/- followed(merging, first, second): 0 merging 1 first 2 second 3 clear 4 word 5 begun 6 base -/
def body_followed : DS := (sSeq (sAsg (gTup [(gName 3), (gName 4)]) (eVar 2)) (sSeq (sIf (tE (eVar 3)) (sRet (eVar 2)) sNil) (sSeq (sAsg (gTup [(gName 5), (gName 6)]) (eVar 1)) (sRet (eCall den_formed (aCons (eVar 0) (aCons (eVar 5) (aCons (eMet "plain" plainOf (eVar 0) (aCons (eOp opAdd (eVar 6) (eVar 4)) aNil)) aNil))))))))
def den_followed : DF := fn 7 3 body_followed
/- is_effect(kind, thing): 0 kind 1 thing 2 merging -/
def body_is_effect : DS := (sSeq (sSet 2 (eCall den_kind_named (aCons (eVar 0) aNil))) (sSeq (sIf (tOr (tNot (tE (eUn (isiD ["tuple"]) (eVar 1)))) (tE (eOp cNe (eCB fLenS (aCons (eVar 1) aNil)) (eC (.int 2))))) (sRet (eC (.bl false))) sNil) (sRet (eAnd (eUn (isiD ["bool"]) (eOp ixS (eVar 1) (eC (.int 0)))) (eCall den_is_plain (aCons (eCon nameOf (eVar 2)) (aCons (eOp ixS (eVar 1) (eC (.int 1))) aNil)))))))
def den_is_effect : DF := fn 3 2 body_is_effect
/- normal(kind, effect): 0 kind 1 effect 2 merging 3 clear 4 word -/
def body_normal : DS := (sSeq (sSet 2 (eCall den_kind_named (aCons (eVar 0) aNil))) (sSeq (sAsg (gTup [(gName 3), (gName 4)]) (eVar 1)) (sRet (eCall den_formed (aCons (eVar 2) (aCons (eVar 3) (aCons (eVar 4) aNil)))))))
def den_normal : DF := fn 5 2 body_normal
/- parting_state(kind, one, other): 0 kind 1 one 2 other -/
def body_parting_state : DS := (sSeq (sIf (tE (eOp cEq (eCall den_normal (aCons (eVar 0) (aCons (eVar 1) aNil))) (eCall den_normal (aCons (eVar 0) (aCons (eVar 2) aNil))))) (sRet (eC .non)) sNil) (sSeq (sIf (tE (eOp cNe (eOp ixS (eVar 1) (eC (.int 1))) (eOp ixS (eVar 2) (eC (.int 1))))) (sRet (eTup aNil)) sNil) (sRet (eCall den_fresh_word (aCons (eVar 0) (aCons (eOp ixS (eVar 1) (eC (.int 1))) aNil))))))
def den_parting_state : DF := fn 3 3 body_parting_state
/- checked_row(kind, row): 0 kind 1 row 2 merging 3 effects 4 place 5 clear 6 word -/
def lb_checked_row_1 : DS := (sSeq (sIf (tNot (tE (eCall den_is_effect (aCons (eVar 0) (aCons (eOp ixS (eVar 1) (eVar 4)) aNil))))) (sRaise (mkExc "BadEffect" ["place"]) (aCons (eVar 4) aNil)) sNil) (sSeq (sAsg (gTup [(gName 5), (gName 6)]) (eOp ixS (eVar 1) (eVar 4))) (sApp 3 (eCall den_formed (aCons (eVar 2) (aCons (eVar 5) (aCons (eVar 6) aNil)))))))
def lp_checked_row_1 : DS := sFor (iRange (aCons (eCB fLenS (aCons (eVar 1) aNil)) aNil)) (gName 4) lb_checked_row_1
def body_checked_row : DS := (sSeq (sSet 2 (eCall den_kind_named (aCons (eVar 0) aNil))) (sSeq (sSet 3 (eLst aNil)) (sSeq lp_checked_row_1 (sRet (eVar 3)))))
def den_checked_row : DF := fn 7 2 body_checked_row
/- bare_word(name, word, behind): 0 name 1 word 2 behind 3 letter 4 other -/
def lc_bare_word_1 : DE := eLc (iSeq (eVar 2)) (gName 4) tYes (eOp cGt (eCB fLenS (aCons (eVar 4) aNil)) (eC (.int 0))) [4]
def lc_bare_word_2 : DE := eLc (iSeq (eVar 2)) (gName 4) tYes (eOp cIn (eVar 3) (eVar 4)) [4]
def lc_bare_word_3 : DE := eLc (iSeq (eVar 1)) (gName 3) (tNot (tE (eCB fAny (aCons lc_bare_word_2 aNil)))) (eVar 3) [3]
def body_bare_word : DS := (sSeq (sIf (tE (eOp cIn (eVar 0) (eTup (aCons (eC (.str "set")) (aCons (eC (.str "tails")) aNil))))) (sRet (eCB fTuple (aCons lc_bare_word_3 aNil))) sNil) (sSeq (sIf (tAnd (tE (eOp cEq (eVar 0) (eC (.str "ends")))) (tE (eCB fAny (aCons lc_bare_word_1 aNil)))) (sRet (eOp opAdd (eSl slOp (eVar 1) oNone (oSome (eC (.int 1)))) (eSl slOp (eVar 1) oNone (oSome (eC (.int 1)))))) sNil) (sRet (eVar 1))))
def den_bare_word : DF := fn 5 3 body_bare_word
/- bare_effect(name, block, behind): 0 name 1 block 2 behind 3 clear 4 word 5 _ 6 other -/
def lc_bare_effect_1 : DE := eLc (iSeq (eVar 2)) (gTup [(gName 5), (gName 6)]) tYes (eVar 6) [5, 6]
def lc_bare_effect_2 : DE := eLc (iSeq (eVar 2)) (gTup [(gName 3), (gName 5)]) tYes (eVar 3) [3, 5]
def body_bare_effect : DS := (sSeq (sIf (tE (eCB fAny (aCons lc_bare_effect_2 aNil))) (sRet (eC d_IDLE)) sNil) (sSeq (sAsg (gTup [(gName 3), (gName 4)]) (eVar 1)) (sRet (eTup (aCons (eVar 3) (aCons (eCall den_bare_word (aCons (eVar 0) (aCons (eVar 4) (aCons lc_bare_effect_1 aNil)))) aNil))))))
def den_bare_effect : DF := fn 7 3 body_bare_effect
/- bare_blocks(kind, blocks): 0 kind 1 blocks 2 name 3 place 4 block -/
def lc_bare_blocks_1 : DE := eLc (iEnum (eVar 1)) (gTup [(gName 3), (gName 4)]) tYes (eCall den_bare_effect (aCons (eVar 2) (aCons (eVar 4) (aCons (eSl slOp (eVar 1) (oSome (eOp opAdd (eVar 3) (eC (.int 1)))) oNone) aNil)))) [3, 4]
def body_bare_blocks : DS := (sSeq (sSet 2 (eCon nameOf (eCall den_kind_named (aCons (eVar 0) aNil)))) (sRet lc_bare_blocks_1))
def den_bare_blocks : DF := fn 5 2 body_bare_blocks
/- bare_row(kind, blocks): 0 kind 1 blocks -/
def body_bare_row : DS := (sRet (eCall den_bare_blocks (aCons (eVar 0) (aCons (eCall den_checked_row (aCons (eVar 0) (aCons (eVar 1) aNil))) aNil))))
def den_bare_row : DF := fn 2 2 body_bare_row
/- last_unlike(kind, one, other): 0 kind 1 one 2 other 3 found 4 bare 5 rival 6 place -/
def lb_last_unlike_1 : DS := (sIf (tE (eOp cNe (eOp ixS (eVar 4) (eVar 6)) (eOp ixS (eVar 5) (eVar 6)))) (sSet 3 (eVar 6)) sNil)
def lp_last_unlike_1 : DS := sFor (iRange (aCons (eCB fLenS (aCons (eVar 4) aNil)) aNil)) (gName 6) lb_last_unlike_1
def body_last_unlike : DS := (sSeq (sSet 3 (eC .non)) (sSeq (sSet 4 (eCall den_bare_blocks (aCons (eVar 0) (aCons (eVar 1) aNil)))) (sSeq (sSet 5 (eCall den_bare_blocks (aCons (eVar 0) (aCons (eVar 2) aNil)))) (sSeq lp_last_unlike_1 (sRet (eVar 3))))))
def den_last_unlike : DF := fn 7 3 body_last_unlike
/- filled_row(kind, blocks, late): 0 kind 1 blocks 2 late 3 merging 4 whole 5 effect 6 block -/
def lb_filled_row_1 : DS := (sSet 4 (eCall den_followed (aCons (eVar 3) (aCons (eCall den_followed (aCons (eVar 3) (aCons (eVar 4) (aCons (eVar 5) aNil)))) (aCons (eVar 6) aNil)))))
def lp_filled_row_1 : DS := sFor (iZip (aCons (eVar 2) (aCons (eSl slOp (eVar 1) (oSome (eC (.int 1))) oNone) aNil))) (gTup [(gName 5), (gName 6)]) lb_filled_row_1
def body_filled_row : DS := (sSeq (sSet 3 (eCall den_kind_named (aCons (eVar 0) aNil))) (sSeq (sSet 4 (eOp ixS (eVar 1) (eC (.int 0)))) (sSeq lp_filled_row_1 (sRet (eVar 4)))))
def den_filled_row : DF := fn 7 3 body_filled_row
/- filled_effect(kind, blocks, late): 0 kind 1 blocks 2 late 3 checked -/
def body_filled_effect : DS := (sSeq (sSet 3 (eCall den_checked_row (aCons (eVar 0) (aCons (eVar 1) aNil)))) (sRet (eCall den_filled_row (aCons (eVar 0) (aCons (eVar 3) (aCons (eCall den_checked_row (aCons (eVar 0) (aCons (eVar 2) aNil))) aNil))))))
def den_filled_effect : DF := fn 4 3 body_filled_effect
/- idle_row(blocks): 0 blocks 1 _ -/
def lc_idle_row_1 : DE := eLc (iSeq (eSl slOp (eVar 0) (oSome (eC (.int 1))) oNone)) (gName 1) tYes (eC d_IDLE) [1]
def body_idle_row : DS := (sRet lc_idle_row_1)
def den_idle_row : DF := fn 2 1 body_idle_row
/- joined_blocks(kind, blocks): 0 kind 1 blocks -/
def body_joined_blocks : DS := (sRet (eCall den_filled_row (aCons (eVar 0) (aCons (eVar 1) (aCons (eCall den_idle_row (aCons (eVar 1) aNil)) aNil)))))
def den_joined_blocks : DF := fn 2 2 body_joined_blocks
/- fresh_part(kind, rows): 0 kind 1 rows 2 words 3 fresh 4 row 5 _ 6 word -/
def lc_fresh_part_1 : DE := eLc2 (iSeq (eVar 1)) (gName 4) tYes (iSeq (eVar 4)) (gTup [(gName 5), (gName 6)]) tYes (eVar 6) [4, 5, 6] [5, 6]
def body_fresh_part : DS := (sSeq (sSet 2 lc_fresh_part_1) (sSeq (sSet 3 (eCall den_fresh_word (aCons (eVar 0) (aStar (eVar 2) aNil)))) (sRet (eTup (aCons (eOp cEq (eCon nameOf (eCall den_kind_named (aCons (eVar 0) aNil))) (eC (.str "last"))) (aCons (eVar 3) aNil))))))
def den_fresh_part : DF := fnS 7 1 body_fresh_part
/- none_filled(kind, one, other): 0 kind 1 one 2 other 3 state -/
def body_none_filled : DS := (sSeq (sSet 3 (eCall den_parting_state (aCons (eVar 0) (aCons (eCall den_joined_blocks (aCons (eVar 0) (aCons (eVar 1) aNil))) (aCons (eCall den_joined_blocks (aCons (eVar 0) (aCons (eVar 2) aNil))) aNil))))) (sSeq (sIf (tE (eOp cIsN (eVar 3) (eC .non))) (sRet (eC .non)) sNil) (sRet (eTup (aCons (eVar 3) (aCons (eCall den_idle_row (aCons (eVar 1) aNil)) aNil))))))
def den_none_filled : DF := fn 4 3 body_none_filled
/- one_filled(kind, one, other): 0 kind 1 one 2 other 3 place 4 pair 5 rival 6 found 7 fresh 8 effect 9 late -/
def lb_one_filled_1 : DS := (sSeq (sSet 4 (eLst (aCons (eCall den_joined_blocks (aCons (eVar 0) (aCons (eSl slOp (eVar 1) oNone (oSome (eVar 3))) aNil))) (aCons (eCall den_joined_blocks (aCons (eVar 0) (aCons (eSl slOp (eVar 1) (oSome (eVar 3)) oNone) aNil))) aNil)))) (sSeq (sSet 5 (eLst (aCons (eCall den_joined_blocks (aCons (eVar 0) (aCons (eSl slOp (eVar 2) oNone (oSome (eVar 3))) aNil))) (aCons (eCall den_joined_blocks (aCons (eVar 0) (aCons (eSl slOp (eVar 2) (oSome (eVar 3)) oNone) aNil))) aNil)))) (sSeq (sSet 6 (eCall den_last_unlike (aCons (eVar 0) (aCons (eVar 4) (aCons (eVar 5) aNil))))) (sSeq (sIf (tE (eOp cIsN (eVar 6) (eC .non))) sCont sNil) (sSeq (sSet 7 (eCall den_fresh_part (aCons (eVar 0) (aCons (eVar 1) (aCons (eVar 2) aNil))))) (sSeq (sSet 8 (eC d_STONE)) (sSeq (sIf (tE (eOp cEq (eVar 6) (eC (.int 0)))) (sSet 8 (eVar 7)) (sIf (tE (eOp cNe (eOp ixS (eOp ixS (eVar 4) (eC (.int 1))) (eC (.int 0))) (eOp ixS (eOp ixS (eVar 5) (eC (.int 1))) (eC (.int 0))))) (sSet 8 (eTup (aCons (eC (.bl true)) (aCons (eOp ixS (eVar 7) (eC (.int 1))) aNil)))) sNil)) (sSeq (sSet 9 (eCall den_idle_row (aCons (eVar 1) aNil))) (sSeq (sPut 9 (eOp opSub (eVar 3) (eC (.int 1))) (eVar 8)) (sRet (eTup (aCons (eTup aNil) (aCons (eVar 9) aNil)))))))))))))
def lp_one_filled_1 : DS := sFor (iRange (aCons (eC (.int 1)) (aCons (eCB fLenS (aCons (eVar 1) aNil)) aNil))) (gName 3) lb_one_filled_1
def body_one_filled : DS := (sSeq lp_one_filled_1 (sRet (eC .non)))
def den_one_filled : DF := fn 10 3 body_one_filled
/- two_filled(kind, one, other): 0 kind 1 one 2 other 3 place 4 late -/
def body_two_filled : DS := (sSeq (sSet 3 (eCall den_last_unlike (aCons (eVar 0) (aCons (eVar 1) (aCons (eVar 2) aNil))))) (sSeq (sSet 4 (eCall den_idle_row (aCons (eVar 1) aNil))) (sSeq (sPut 4 (eOp opSub (eVar 3) (eC (.int 1))) (eC d_STONE)) (sSeq (sPut 4 (eVar 3) (eCall den_fresh_part (aCons (eVar 0) (aCons (eVar 1) (aCons (eVar 2) aNil))))) (sRet (eTup (aCons (eTup aNil) (aCons (eVar 4) aNil))))))))
def den_two_filled : DF := fn 5 3 body_two_filled
/- parting_row_of(kind, one, other): 0 kind 1 one 2 other 3 found -/
def body_parting_row_of : DS := (sSeq (sIf (tE (eOp cIsN (eCall den_last_unlike (aCons (eVar 0) (aCons (eVar 1) (aCons (eVar 2) aNil)))) (eC .non))) (sRet (eC .non)) sNil) (sSeq (sSet 3 (eCall den_none_filled (aCons (eVar 0) (aCons (eVar 1) (aCons (eVar 2) aNil))))) (sSeq (sIf (tE (eOp cIsN (eVar 3) (eC .non))) (sSet 3 (eCall den_one_filled (aCons (eVar 0) (aCons (eVar 1) (aCons (eVar 2) aNil))))) sNil) (sSeq (sIf (tE (eOp cIsN (eVar 3) (eC .non))) (sSet 3 (eCall den_two_filled (aCons (eVar 0) (aCons (eVar 1) (aCons (eVar 2) aNil))))) sNil) (sRet (eVar 3))))))
def den_parting_row_of : DF := fn 4 3 body_parting_row_of
/- parting_blocks(kind, one, other): 0 kind 1 one 2 other -/
def body_parting_blocks : DS := (sRet (eCall den_parting_row_of (aCons (eVar 0) (aCons (eCall den_checked_row (aCons (eVar 0) (aCons (eVar 1) aNil))) (aCons (eCall den_checked_row (aCons (eVar 0) (aCons (eVar 2) aNil))) aNil)))))
def den_parting_blocks : DF := fn 3 3 body_parting_blocks
/- _law_stream(script): 0 script 1 cell -/
def lc__law_stream_1 : DE := eLc (iSeq (eSl slOp (eVar 0) oNone (oSome (eC (.int 63))))) (gName 1) tYes (eCB fInt (aCons (eVar 1) aNil)) [1]
def body__law_stream : DS := (sRet (eLst (aCons lc__law_stream_1 (aCons (eC (.int 0)) (aCons (eC (.int 0)) aNil)))))
def den__law_stream : DF := fn 2 1 body__law_stream
/- _law_mixed(cell, place): 0 cell 1 place 2 one -/
def body__law_mixed : DS := (sSeq (sSet 2 (eOp opMod (eCB fInt (aCons (eOp opMul (eVar 0) (eOp opAdd (eC (.int 314159265358979323)) (eOp opMul (eC (.int 271828182845)) (eVar 1)))) aNil)) (eC (.int 1000000000000000003)))) (sRet (eOp opMod (eCB fInt (aCons (eOp opMul (eVar 2) (eOp opAdd (eVar 2) (eOp opMul (eC (.int 57721566490153)) (eVar 1)))) aNil)) (eC (.int 1000000000000000009)))))
def den__law_mixed : DF := fn 3 2 body__law_mixed
/- _law_draw(stream, many): 0 stream 1 many 2 cell 3 value -/
def body__law_draw : DS := (sSeq (sIf (tAnd (tE (eOp cEq (eOp ixS (eVar 0) (eC (.int 2))) (eC (.int 0)))) (tE (eOp cLt (eOp ixS (eVar 0) (eC (.int 1))) (eCB fLenS (aCons (eOp ixS (eVar 0) (eC (.int 0))) aNil))))) (sSeq (sSet 2 (eOp ixS (eOp ixS (eVar 0) (eC (.int 0))) (eOp ixS (eVar 0) (eC (.int 1))))) (sSeq (sPut 0 (eC (.int 1)) (eOp opAdd (eOp ixS (eVar 0) (eC (.int 1))) (eC (.int 1)))) (sSeq (sPut 0 (eC (.int 2)) (eCB fAbs (aCons (eVar 2) aNil))) (sIf (tE (eOp cLt (eOp ixS (eVar 0) (eC (.int 2))) (eOp opPow (eC (.int 10)) (eC (.int 18))))) (sPut 0 (eC (.int 2)) (eCall den__law_mixed (aCons (eVar 2) (aCons (eOp ixS (eVar 0) (eC (.int 1))) aNil)))) sNil)))) sNil) (sSeq (sSet 3 (eOp opMod (eCB fInt (aCons (eOp ixS (eVar 0) (eC (.int 2))) aNil)) (eVar 1))) (sSeq (sPut 0 (eC (.int 2)) (eOp opFdiv (eCB fInt (aCons (eOp ixS (eVar 0) (eC (.int 2))) aNil)) (eVar 1))) (sRet (eVar 3)))))
def den__law_draw : DM := fnM 4 2 body__law_draw
/- _law_pick(stream, many): 0 stream 1 many -/
def body__law_pick : DS := (sRet (eOp opMod (eCB fInt (aCons (eCallM den__law_draw (aCons (eVar 0) (aCons (eC (.int 10)) aNil))) aNil)) (eVar 1)))
def den__law_pick : DM := fnM 2 2 body__law_pick
/- _law_kind(stream): 0 stream -/
def body__law_kind : DS := (sRet (eOp ixS (eTup (aCons (eC (.str "list")) (aCons (eC (.str "bag")) (aCons (eC (.str "set")) (aCons (eC (.str "first")) (aCons (eC (.str "last")) (aCons (eC (.str "ends")) (aCons (eC (.str "heads")) (aCons (eC (.str "tails")) aNil))))))))) (eCallM den__law_pick (aCons (eVar 0) (aCons (eC (.int 8)) aNil)))))
def den__law_kind : DM := fnM 1 1 body__law_kind
/- _law_letters(stream): 0 stream 1 many 2 wide 3 letters 4 k 5 letter -/
def lb__law_letters_1 : DS := (sSeq (sSet 5 (eVar 4)) (sSeq (sIf (tE (eVar 2)) (sSet 5 (eOp opSub (eC (.int 9)) (eVar 4))) sNil) (sSeq (sIf (tAnd (tE (eVar 2)) (tE (eOp cLt (eVar 4) (eC (.int 3))))) (sSet 5 (eOp opAdd (eVar 5) (eOp opMul (eC (.int 10)) (eCallM den__law_draw (aCons (eVar 0) (aCons (eOp opPow (eC (.int 10)) (eC (.int 8))) aNil)))))) sNil) (sApp 3 (eVar 5)))))
def lp__law_letters_1 : DS := sFor (iRange (aCons (eVar 1) aNil)) (gName 4) lb__law_letters_1
def body__law_letters : DS := (sSeq (sSet 1 (eOp opAdd (eC (.int 1)) (eCallM den__law_pick (aCons (eVar 0) (aCons (eC (.int 10)) aNil))))) (sSeq (sSet 2 (eOp cGt (eCallM den__law_pick (aCons (eVar 0) (aCons (eC (.int 10)) aNil))) (eC (.int 7)))) (sSeq (sSet 3 (eLst aNil)) (sSeq lp__law_letters_1 (sRet (eVar 3))))))
def den__law_letters : DM := fnM 6 1 body__law_letters
/- _law_raw(stream, letters): 0 stream 1 letters 2 size 3 k -/
def lc__law_raw_1 : DE := eLc (iRange (aCons (eVar 2) aNil)) (gName 3) tYes (eOp ixS (eVar 1) (eCallM den__law_pick (aCons (eVar 0) (aCons (eCB fLenS (aCons (eVar 1) aNil)) aNil)))) [3]
def body__law_raw : DS := (sSeq (sSet 2 (eOp ixS (eTup (aCons (eC (.int 0)) (aCons (eC (.int 1)) (aCons (eC (.int 2)) (aCons (eC (.int 3)) (aCons (eC (.int 4)) (aCons (eC (.int 5)) (aCons (eC (.int 0)) (aCons (eC (.int 1)) (aCons (eC (.int 2)) (aCons (eC (.int 7)) aNil))))))))))) (eCallM den__law_pick (aCons (eVar 0) (aCons (eC (.int 10)) aNil))))) (sRet (eCB fTuple (aCons lc__law_raw_1 aNil))))
def den__law_raw : DM := fnM 4 2 body__law_raw
/- _law_plain(kind, word): 0 kind 1 word 2 row 3 k -/
def lc__law_plain_1 : DE := eLc (iRange (aCons (eCB fLenS (aCons (eVar 2) aNil)) aNil)) (gName 3) (tE (eOp cNotIn (eOp ixS (eVar 2) (eVar 3)) (eSl slOp (eVar 2) (oSome (eOp opAdd (eVar 3) (eC (.int 1)))) oNone))) (eOp ixS (eVar 2) (eVar 3)) [3]
def lc__law_plain_2 : DE := eLc (iRange (aCons (eCB fLenS (aCons (eVar 2) aNil)) aNil)) (gName 3) (tE (eOp cNotIn (eOp ixS (eVar 2) (eVar 3)) (eSl slOp (eVar 2) oNone (oSome (eVar 3))))) (eOp ixS (eVar 2) (eVar 3)) [3]
def body__law_plain : DS := (sSeq (sSet 2 (eCB fList (aCons (eVar 1) aNil))) (sSeq (sIf (tE (eOp cEq (eVar 0) (eC (.str "bag")))) (sSet 2 (eCB fSorted (aCons (eVar 2) aNil))) sNil) (sSeq (sIf (tE (eOp cEq (eVar 0) (eC (.str "set")))) (sSet 2 (eCB fSetSorted (aCons (eVar 2) aNil))) sNil) (sSeq (sIf (tE (eOp cEq (eVar 0) (eC (.str "first")))) (sSet 2 (eSl slOp (eVar 2) oNone (oSome (eC (.int 1))))) sNil) (sSeq (sIf (tAnd (tE (eOp cEq (eVar 0) (eC (.str "last")))) (tE (eOp cGt (eCB fLenS (aCons (eVar 2) aNil)) (eC (.int 0))))) (sSet 2 (eLst (aCons (eOp ixS (eVar 2) (eOp opSub (eCB fLenS (aCons (eVar 2) aNil)) (eC (.int 1)))) aNil))) sNil) (sSeq (sIf (tAnd (tE (eOp cEq (eVar 0) (eC (.str "ends")))) (tE (eOp cGt (eCB fLenS (aCons (eVar 2) aNil)) (eC (.int 0))))) (sSet 2 (eLst (aCons (eOp ixS (eVar 2) (eC (.int 0))) (aCons (eOp ixS (eVar 2) (eOp opSub (eCB fLenS (aCons (eVar 2) aNil)) (eC (.int 1)))) aNil)))) sNil) (sSeq (sIf (tE (eOp cEq (eVar 0) (eC (.str "heads")))) (sSet 2 lc__law_plain_2) sNil) (sSeq (sIf (tE (eOp cEq (eVar 0) (eC (.str "tails")))) (sSet 2 lc__law_plain_1) sNil) (sRet (eCB fTuple (aCons (eVar 2) aNil)))))))))))
def den__law_plain : DF := fn 4 2 body__law_plain
/- _law_joined(kind, left, right): 0 kind 1 left 2 right -/
def body__law_joined : DS := (sRet (eCall den__law_plain (aCons (eVar 0) (aCons (eOp opAdd (eVar 1) (eVar 2)) aNil))))
def den__law_joined : DF := fn 3 3 body__law_joined
/- _law_normal(kind, effect): 0 kind 1 effect -/
def body__law_normal : DS := (sSeq (sIf (tAnd (tE (eOp cEq (eVar 0) (eC (.str "last")))) (tE (eOp cNe (eOp ixS (eVar 1) (eC (.int 1))) (eTup aNil)))) (sRet (eTup (aCons (eC (.bl true)) (aCons (eOp ixS (eVar 1) (eC (.int 1))) aNil)))) sNil) (sRet (eTup (aCons (eOp ixS (eVar 1) (eC (.int 0))) (aCons (eOp ixS (eVar 1) (eC (.int 1))) aNil)))))
def den__law_normal : DF := fn 2 2 body__law_normal
/- _law_on(kind, effect, state): 0 kind 1 effect 2 state -/
def body__law_on : DS := (sSeq (sIf (tE (eOp ixS (eVar 1) (eC (.int 0)))) (sRet (eOp ixS (eVar 1) (eC (.int 1)))) sNil) (sRet (eCall den__law_joined (aCons (eVar 0) (aCons (eVar 2) (aCons (eOp ixS (eVar 1) (eC (.int 1))) aNil))))))
def den__law_on : DF := fn 3 3 body__law_on
/- _law_is_number(thing): 0 thing -/
def body__law_is_number : DS := (sRet (eAnd (eUn (isiD ["int"]) (eVar 0)) (eNot (eUn (isiD ["bool"]) (eVar 0)))))
def den__law_is_number : DF := fn 1 1 body__law_is_number
/- _law_is_word(thing): 0 thing 1 letter -/
def lc__law_is_word_1 : DE := eLc (iSeq (eVar 0)) (gName 1) tYes (eCall den__law_is_number (aCons (eVar 1) aNil)) [1]
def body__law_is_word : DS := (sRet (eAnd (eUn (isiD ["tuple"]) (eVar 0)) (eCB fAll (aCons lc__law_is_word_1 aNil))))
def den__law_is_word : DF := fn 2 1 body__law_is_word
/- _law_is_effect(thing): 0 thing -/
def body__law_is_effect : DS := (sSeq (sIf (tOr (tNot (tE (eUn (isiD ["tuple"]) (eVar 0)))) (tE (eOp cNe (eCB fLenS (aCons (eVar 0) aNil)) (eC (.int 2))))) (sRet (eC (.bl false))) sNil) (sRet (eAnd (eUn (isiD ["bool"]) (eOp ixS (eVar 0) (eC (.int 0)))) (eCall den__law_is_word (aCons (eOp ixS (eVar 0) (eC (.int 1))) aNil)))))
def den__law_is_effect : DF := fn 1 1 body__law_is_effect
/- _law_some_word(stream, kind, letters): 0 stream 1 kind 2 letters 3 word -/
def body__law_some_word : DS := (sSeq (sSet 3 (eSl slOp (eCallM den__law_raw (aCons (eVar 0) (aCons (eVar 2) aNil))) oNone (oSome (eC (.int 4))))) (sSeq (sIf (tE (eOp cEq (eVar 3) (eTup aNil))) (sSet 3 (eTup (aCons (eOp ixS (eVar 2) (eC (.int 0))) aNil))) sNil) (sRet (eCall den__law_plain (aCons (eVar 1) (aCons (eVar 3) aNil))))))
def den__law_some_word : DM := fnM 4 3 body__law_some_word
/- _law_late_effect(stream, kind, letters): 0 stream 1 kind 2 letters 3 way 4 word -/
def body__law_late_effect : DS := (sSeq (sSet 3 (eCallM den__law_pick (aCons (eVar 0) (aCons (eC (.int 10)) aNil)))) (sSeq (sSet 4 (eTup aNil)) (sSeq (sIf (tOr (tE (eOp cEq (eVar 3) (eC (.int 0)))) (tE (eOp cGt (eVar 3) (eC (.int 3))))) (sSet 4 (eCallM den__law_some_word (aCons (eVar 0) (aCons (eVar 1) (aCons (eVar 2) aNil))))) sNil) (sRet (eCall den__law_normal (aCons (eVar 1) (aCons (eTup (aCons (eOr (eOp cEq (eVar 3) (eC (.int 3))) (eOp cGt (eVar 3) (eC (.int 7)))) (aCons (eVar 4) aNil))) aNil)))))))
def den__law_late_effect : DM := fnM 5 3 body__law_late_effect
/- _law_bare(kind, blocks): 0 kind 1 blocks 2 bare 3 place 4 clear 5 word 6 later 7 hidden 8 block 9 letter -/
def lc__law_bare_1 : DE := eLc (iSeq (eVar 6)) (gName 8) tYes (eOp ixS (eVar 8) (eC (.int 0))) [8]
def lc__law_bare_2 : DE := eLc (iSeq (eVar 5)) (gName 9) (tE (eOp cNotIn (eVar 9) (eVar 7))) (eVar 9) [9]
def lb__law_bare_1 : DS := (sSet 7 (eOp opAdd (eVar 7) (eCB fList (aCons (eOp ixS (eVar 8) (eC (.int 1))) aNil))))
def lp__law_bare_1 : DS := sFor (iSeq (eVar 6)) (gName 8) lb__law_bare_1
def lb__law_bare_2 : DS := (sSeq (sAsg (gTup [(gName 4), (gName 5)]) (eOp ixS (eVar 1) (eVar 3))) (sSeq (sSet 6 (eSl slOp (eVar 1) (oSome (eOp opAdd (eVar 3) (eC (.int 1)))) oNone)) (sSeq (sSet 7 (eLst aNil)) (sSeq lp__law_bare_1 (sSeq (sIf (tE (eCB fAny (aCons lc__law_bare_1 aNil))) (sAsg (gTup [(gName 4), (gName 5)]) (eTup (aCons (eC (.bl false)) (aCons (eTup aNil) aNil)))) (sIf (tOr (tE (eOp cEq (eVar 0) (eC (.str "set")))) (tE (eOp cEq (eVar 0) (eC (.str "tails"))))) (sSet 5 (eCB fTuple (aCons lc__law_bare_2 aNil))) (sIf (tAnd (tE (eOp cEq (eVar 0) (eC (.str "ends")))) (tE (eOp cGt (eCB fLenS (aCons (eVar 7) aNil)) (eC (.int 0))))) (sSet 5 (eOp opAdd (eSl slOp (eVar 5) oNone (oSome (eC (.int 1)))) (eSl slOp (eVar 5) oNone (oSome (eC (.int 1)))))) sNil))) (sApp 2 (eTup (aCons (eVar 4) (aCons (eVar 5) aNil)))))))))
def lp__law_bare_2 : DS := sFor (iRange (aCons (eCB fLenS (aCons (eVar 1) aNil)) aNil)) (gName 3) lb__law_bare_2
def body__law_bare : DS := (sSeq (sSet 2 (eLst aNil)) (sSeq lp__law_bare_2 (sRet (eVar 2))))
def den__law_bare : DF := fn 10 2 body__law_bare
/- _law_filled(kind, blocks, late, state): 0 kind 1 blocks 2 late 3 state 4 word 5 place -/
def lb__law_filled_1 : DS := (sSeq (sSet 4 (eCall den__law_on (aCons (eVar 0) (aCons (eOp ixS (eVar 2) (eVar 5)) (aCons (eVar 4) aNil))))) (sSet 4 (eCall den__law_on (aCons (eVar 0) (aCons (eOp ixS (eVar 1) (eOp opAdd (eVar 5) (eC (.int 1)))) (aCons (eVar 4) aNil))))))
def lp__law_filled_1 : DS := sFor (iRange (aCons (eCB fLenS (aCons (eVar 2) aNil)) aNil)) (gName 5) lb__law_filled_1
def body__law_filled : DS := (sSeq (sSet 4 (eCall den__law_on (aCons (eVar 0) (aCons (eOp ixS (eVar 1) (eC (.int 0))) (aCons (eVar 3) aNil))))) (sSeq lp__law_filled_1 (sRet (eVar 4))))
def den__law_filled : DF := fn 6 4 body__law_filled
/- _law_block_row(stream, kind, letters, many): 0 stream 1 kind 2 letters 3 many 4 blocks 5 k 6 way 7 word -/
def lb__law_block_row_1 : DS := (sSeq (sSet 6 (eCallM den__law_pick (aCons (eVar 0) (aCons (eC (.int 10)) aNil)))) (sSeq (sSet 7 (eTup aNil)) (sSeq (sIf (tOr (tE (eOp cEq (eVar 6) (eC (.int 0)))) (tE (eOp cGt (eVar 6) (eC (.int 3))))) (sSet 7 (eCallM den__law_some_word (aCons (eVar 0) (aCons (eVar 1) (aCons (eVar 2) aNil))))) sNil) (sApp 4 (eCall den__law_normal (aCons (eVar 1) (aCons (eTup (aCons (eOr (eOp cEq (eVar 6) (eC (.int 2))) (eOp cEq (eVar 6) (eC (.int 9)))) (aCons (eVar 7) aNil))) aNil)))))))
def lp__law_block_row_1 : DS := sFor (iRange (aCons (eVar 3) aNil)) (gName 5) lb__law_block_row_1
def body__law_block_row : DS := (sSeq (sSet 4 (eLst aNil)) (sSeq lp__law_block_row_1 (sRet (eVar 4))))
def den__law_block_row : DM := fnM 8 4 body__law_block_row
/- _law_hidden_in(kind, blocks): 0 kind 1 blocks 2 changed 3 k 4 clear 5 word 6 later 7 extra 8 block 9 effect -/
def lc__law_hidden_in_1 : DE := eLc (iSeq (eVar 2)) (gName 9) tYes (eCall den__law_normal (aCons (eVar 0) (aCons (eVar 9) aNil))) [9]
def lc__law_hidden_in_2 : DE := eLc (iSeq (eVar 6)) (gName 8) tYes (eOp ixS (eVar 8) (eC (.int 0))) [8]
def lb__law_hidden_in_1 : DS := (sSet 7 (eOp opAdd (eVar 7) (eOp ixS (eVar 8) (eC (.int 1)))))
def lp__law_hidden_in_1 : DS := sFor (iSeq (eVar 6)) (gName 8) lb__law_hidden_in_1
def lb__law_hidden_in_2 : DS := (sSeq (sAsg (gTup [(gName 4), (gName 5)]) (eOp ixS (eVar 1) (eVar 3))) (sSeq (sSet 6 (eSl slOp (eVar 1) (oSome (eOp opAdd (eVar 3) (eC (.int 1)))) oNone)) (sSeq (sSet 7 (eTup aNil)) (sSeq lp__law_hidden_in_1 (sIf (tE (eCB fAny (aCons lc__law_hidden_in_2 aNil))) (sApp 2 (eTup (aCons (eNot (eVar 4)) (aCons (eVar 5) aNil)))) (sIf (tOr (tE (eOp cEq (eVar 0) (eC (.str "set")))) (tE (eOp cEq (eVar 0) (eC (.str "tails"))))) (sApp 2 (eTup (aCons (eVar 4) (aCons (eCall den__law_plain (aCons (eVar 0) (aCons (eOp opAdd (eVar 7) (eVar 5)) aNil))) aNil)))) (sIf (tAnd (tE (eOp cEq (eVar 0) (eC (.str "ends")))) (tAnd (tE (eOp cNe (eVar 5) (eTup aNil))) (tE (eOp cNe (eVar 7) (eTup aNil))))) (sApp 2 (eTup (aCons (eVar 4) (aCons (eTup (aCons (eOp ixS (eVar 5) (eC (.int 0))) (aCons (eOp ixS (eVar 7) (eC (.int 0))) aNil))) aNil)))) (sApp 2 (eTup (aCons (eVar 4) (aCons (eVar 5) aNil)))))))))))
def lp__law_hidden_in_2 : DS := sFor (iRange (aCons (eCB fLenS (aCons (eVar 1) aNil)) aNil)) (gName 3) lb__law_hidden_in_2
def body__law_hidden_in : DS := (sSeq (sSet 2 (eLst aNil)) (sSeq lp__law_hidden_in_2 (sRet lc__law_hidden_in_1)))
def den__law_hidden_in : DF := fn 10 2 body__law_hidden_in
/- _law_second_row(stream, kind, letters, one): 0 stream 1 kind 2 letters 3 one 4 way 5 other 6 at -/
def body__law_second_row : DS := (sSeq (sSet 4 (eCallM den__law_pick (aCons (eVar 0) (aCons (eC (.int 6)) aNil)))) (sSeq (sSet 5 (eCB fList (aCons (eVar 3) aNil))) (sSeq (sIf (tE (eOp cLt (eVar 4) (eC (.int 3)))) (sSet 5 (eCall den__law_hidden_in (aCons (eVar 1) (aCons (eVar 3) aNil)))) sNil) (sSeq (sIf (tOr (tE (eOp cEq (eVar 4) (eC (.int 2)))) (tE (eOp cEq (eVar 4) (eC (.int 3))))) (sSeq (sSet 6 (eCallM den__law_pick (aCons (eVar 0) (aCons (eCB fLenS (aCons (eVar 3) aNil)) aNil)))) (sPut 5 (eVar 6) (eCallM den__law_late_effect (aCons (eVar 0) (aCons (eVar 1) (aCons (eVar 2) aNil)))))) sNil) (sSeq (sIf (tE (eOp cEq (eVar 4) (eC (.int 4)))) (sSet 5 (eCallM den__law_block_row (aCons (eVar 0) (aCons (eVar 1) (aCons (eVar 2) (aCons (eCB fLenS (aCons (eVar 3) aNil)) aNil)))))) sNil) (sSeq (sIf (tE (eOp cEq (eVar 4) (eC (.int 5)))) (sSeq (sSet 6 (eCallM den__law_pick (aCons (eVar 0) (aCons (eCB fLenS (aCons (eVar 3) aNil)) aNil)))) (sPut 5 (eVar 6) (eCall den__law_normal (aCons (eVar 1) (aCons (eTup (aCons (eOp ixS (eOp ixS (eVar 5) (eVar 6)) (eC (.int 0))) (aCons (eCall den__law_plain (aCons (eVar 1) (aCons (eOp opAdd (eOp ixS (eOp ixS (eVar 5) (eVar 6)) (eC (.int 1))) (eTup (aCons (eOp ixS (eVar 2) (eC (.int 0))) aNil))) aNil))) aNil))) aNil))))) sNil) (sRet (eVar 5))))))))
def den__law_second_row : DM := fnM 7 4 body__law_second_row
/- _law_asked_effect(kind, blocks, door): 0 kind 1 blocks 2 door 3 told 4 a 5 block -/
def lc__law_asked_effect_1 : DE := eLc (iSeq (eVar 1)) (gName 5) tYes (eC .non) [5]
def lc__law_asked_effect_2 : DE := eLc (iSeq (eVar 1)) (gName 5) tYes (eTup (aCons (eC (.bl false)) (aCons (eTup aNil) aNil))) [5]
def body__law_asked_effect : DS := (sSeq (sSet 3 (eTup (aCons (eC (.str "let")) (aCons (eC (.str "")) aNil)))) (sSeq (sTry (sIf (tE (eOp cEq (eVar 2) (eC (.int 0)))) (sExpr (eCall den_bare_row (aCons (eVar 0) (aCons (eVar 1) aNil)))) (sIf (tE (eOp cEq (eVar 2) (eC (.int 1)))) (sExpr (eCall den_parting_blocks (aCons (eVar 0) (aCons (eVar 1) (aCons lc__law_asked_effect_1 aNil))))) (sExpr (eCall den_parting_blocks (aCons (eVar 0) (aCons lc__law_asked_effect_2 (aCons (eVar 1) aNil))))))) [.rep mt_BadEffect 4 3 "effect" "place", .suite mt_StoreError (sSet 3 (eTup (aCons (eC (.str "other")) (aCons (eC (.str "")) aNil))))]) (sRet (eVar 3))))
def den__law_asked_effect : DF := fn 6 3 body__law_asked_effect
/- _law_parted(kind, one, other, found): 0 kind 1 one 2 other 3 found 4 state 5 late 6 effect -/
def lb__law_parted_1 : DS := (sSeq (sIf (tOr (tNot (tE (eCall den__law_is_effect (aCons (eVar 6) aNil)))) (tE (eOp cNe (eCall den__law_plain (aCons (eVar 0) (aCons (eOp ixS (eVar 6) (eC (.int 1))) aNil))) (eOp ixS (eVar 6) (eC (.int 1)))))) (sRet (eC (.bl false))) sNil) (sIf (tE (eOp cNe (eCall den__law_normal (aCons (eVar 0) (aCons (eVar 6) aNil))) (eVar 6))) (sRet (eC (.bl false))) sNil))
def lp__law_parted_1 : DS := sFor (iSeq (eVar 5)) (gName 6) lb__law_parted_1
def body__law_parted : DS := (sSeq (sIf (tOr (tNot (tE (eUn (isiD ["tuple"]) (eVar 3)))) (tOr (tE (eOp cNe (eCB fLenS (aCons (eVar 3) aNil)) (eC (.int 2)))) (tNot (tE (eUn (isiD ["list"]) (eOp ixS (eVar 3) (eC (.int 1)))))))) (sRet (eC (.bl false))) sNil) (sSeq (sAsg (gTup [(gName 4), (gName 5)]) (eVar 3)) (sSeq (sIf (tOr (tNot (tE (eCall den__law_is_word (aCons (eVar 4) aNil)))) (tOr (tE (eOp cNe (eCall den__law_plain (aCons (eVar 0) (aCons (eVar 4) aNil))) (eVar 4))) (tE (eOp cNe (eCB fLenS (aCons (eVar 5) aNil)) (eOp opSub (eCB fLenS (aCons (eVar 1) aNil)) (eC (.int 1))))))) (sRet (eC (.bl false))) sNil) (sSeq (sIf (tAnd (tE (eOp ixS (eOp ixS (eVar 1) (eC (.int 0))) (eC (.int 0)))) (tAnd (tE (eOp ixS (eOp ixS (eVar 2) (eC (.int 0))) (eC (.int 0)))) (tE (eOp cNe (eVar 4) (eTup aNil))))) (sRet (eC (.bl false))) sNil) (sSeq lp__law_parted_1 (sRet (eOp cNe (eCall den__law_filled (aCons (eVar 0) (aCons (eVar 1) (aCons (eVar 5) (aCons (eVar 4) aNil))))) (eCall den__law_filled (aCons (eVar 0) (aCons (eVar 2) (aCons (eVar 5) (aCons (eVar 4) aNil))))))))))))
def den__law_parted : DF := fn 7 4 body__law_parted
/- _law_all_alike(stream, kind, letters, one, other): 0 stream 1 kind 2 letters 3 one 4 other 5 turn 6 late 7 state 8 told 9 word 10 block -/
def lb__law_all_alike_1 : DS := (sIf (tE (eOp cNe (eCall den__law_filled (aCons (eVar 1) (aCons (eVar 3) (aCons (eVar 6) (aCons (eVar 7) aNil))))) (eVar 9))) (sRet (eC (.bl false))) sNil)
def lp__law_all_alike_1 : DS := sFor (iSeq (eTup (aCons (eCall den__law_filled (aCons (eVar 1) (aCons (eVar 4) (aCons (eVar 6) (aCons (eVar 7) aNil))))) (aCons (eCall den__law_on (aCons (eVar 1) (aCons (eOp ixS (eVar 8) (eC (.int 0))) (aCons (eVar 7) aNil)))) (aCons (eCall den__law_on (aCons (eVar 1) (aCons (eOp ixS (eVar 8) (eC (.int 1))) (aCons (eVar 7) aNil)))) aNil))))) (gName 9) lb__law_all_alike_1
def lc__law_all_alike_1 : DE := eLc (iSeq (eSl slOp (eVar 3) (oSome (eC (.int 1))) oNone)) (gName 10) tYes (eTup (aCons (eC (.bl false)) (aCons (eTup aNil) aNil))) [10]
def lc__law_all_alike_2 : DE := eLc (iSeq (eSl slOp (eVar 3) (oSome (eC (.int 1))) oNone)) (gName 10) tYes (eCallM den__law_late_effect (aCons (eVar 0) (aCons (eVar 1) (aCons (eVar 2) aNil)))) [10]
def lb__law_all_alike_2 : DS := (sSeq (sSet 6 lc__law_all_alike_2) (sSeq (sIf (tE (eOp cEq (eVar 5) (eC (.int 1)))) (sSet 6 lc__law_all_alike_1) sNil) (sSeq (sSet 7 (eCall den__law_plain (aCons (eVar 1) (aCons (eTup (aCons (eOp ixS (eVar 2) (eC (.int 0))) (aCons (eC (.int 999999999)) aNil))) aNil)))) (sSeq (sIf (tE (eOp cEq (eVar 5) (eC (.int 3)))) (sSet 7 (eTup aNil)) sNil) (sSeq (sSet 8 (eLst (aCons (eCall den_filled_effect (aCons (eVar 1) (aCons (eVar 3) (aCons (eCB fList (aCons (eVar 6) aNil)) aNil)))) (aCons (eCall den_filled_effect (aCons (eVar 1) (aCons (eVar 4) (aCons (eCB fTuple (aCons (eVar 6) aNil)) aNil)))) aNil)))) lp__law_all_alike_1)))))
def lp__law_all_alike_2 : DS := sFor (iRange (aCons (eC (.int 4)) aNil)) (gName 5) lb__law_all_alike_2
def body__law_all_alike : DS := (sSeq lp__law_all_alike_2 (sRet (eC (.bl true))))
def den__law_all_alike : DM := fnM 11 5 body__law_all_alike
/- law(script): 0 script 1 stream 2 kind 3 letters 4 many 5 size 6 one 7 other 8 row 9 told 10 alike 11 found 12 changed 13 at 14 bad 15 door 16 effect -/
def lb_law_1 : DS := (sIf (tE (eOp cNe (eCall den__law_asked_effect (aCons (eVar 2) (aCons (eOp opAdd (eOp opAdd (eSl slOp (eVar 6) oNone (oSome (eVar 13))) (eLst (aCons (eVar 14) aNil))) (eSl slOp (eVar 6) (oSome (eOp opAdd (eVar 13) (eC (.int 1)))) oNone)) (aCons (eVar 15) aNil)))) (eTup (aCons (eC (.str "effect")) (aCons (eCB fRepr (aCons (eVar 13) aNil)) aNil))))) (sRet (eC (.bl false))) sNil)
def lp_law_1 : DS := sFor (iRange (aCons (eC (.int 3)) aNil)) (gName 15) lb_law_1
def lb_law_2 : DS := lp_law_1
def lp_law_2 : DS := sFor (iSeq (eTup (aCons (eTup (aCons (eC (.int 1)) (aCons (eTup aNil) aNil))) (aCons (eTup (aCons (eC (.bl false)) (aCons (eLst (aCons (eC (.int 2)) aNil)) aNil))) (aCons (eC .non) (aCons (eTup (aCons (eC (.bl false)) (aCons (eTup (aCons (eUn opNeg (eC (.int 1))) aNil)) aNil))) (aCons (eTup (aCons (eC (.int 0)) (aCons (eC (.int 0)) (aCons (eC (.int 0)) aNil)))) aNil))))))) (gName 14) lb_law_2
def lc_law_1 : DE := eLc (iSeq (eVar 9)) (gName 16) tYes (eCall den__law_is_effect (aCons (eVar 16) aNil)) [16]
def lb_law_3 : DS := (sSeq (sSet 9 (eCall den_bare_row (aCons (eVar 2) (aCons (eCB fList (aCons (eVar 8) aNil)) aNil)))) (sSeq (sIf (tOr (tNot (tE (eUn (isiD ["list"]) (eVar 9)))) (tE (eOp cNe (eVar 9) (eCall den__law_bare (aCons (eVar 2) (aCons (eVar 8) aNil)))))) (sRet (eC (.bl false))) sNil) (sIf (tOr (tNot (tE (eCB fAll (aCons lc_law_1 aNil)))) (tE (eOp cNe (eCall den_bare_row (aCons (eVar 2) (aCons (eCB fTuple (aCons (eVar 9) aNil)) aNil))) (eVar 9)))) (sRet (eC (.bl false))) sNil)))
def lp_law_3 : DS := sFor (iSeq (eTup (aCons (eVar 6) (aCons (eVar 7) aNil)))) (gName 8) lb_law_3
def body_law : DS := (sSeq (sSet 1 (eCall den__law_stream (aCons (eVar 0) aNil))) (sSeq (sSet 2 (eCallM den__law_kind (aCons (eVar 1) aNil))) (sSeq (sSet 3 (eCallM den__law_letters (aCons (eVar 1) aNil))) (sSeq (sSet 4 (eOp opAdd (eC (.int 3)) (eCallM den__law_pick (aCons (eVar 1) (aCons (eC (.int 4)) aNil))))) (sSeq (sSet 5 (eCallM den__law_pick (aCons (eVar 1) (aCons (eC (.int 10)) aNil)))) (sSeq (sIf (tE (eOp cGt (eVar 5) (eC (.int 6)))) (sSet 4 (eOp opSub (eVar 5) (eC (.int 6)))) sNil) (sSeq (sIf (tE (eOp cEq (eVar 5) (eC (.int 5)))) (sSet 4 (eC (.int 24))) sNil) (sSeq (sSet 6 (eCallM den__law_block_row (aCons (eVar 1) (aCons (eVar 2) (aCons (eVar 3) (aCons (eVar 4) aNil)))))) (sSeq (sSet 7 (eCallM den__law_second_row (aCons (eVar 1) (aCons (eVar 2) (aCons (eVar 3) (aCons (eVar 6) aNil)))))) (sSeq lp_law_3 (sSeq (sSet 10 (eOp cEq (eCall den__law_bare (aCons (eVar 2) (aCons (eVar 6) aNil))) (eCall den__law_bare (aCons (eVar 2) (aCons (eVar 7) aNil))))) (sSeq (sSet 11 (eCall den_parting_blocks (aCons (eVar 2) (aCons (eCB fTuple (aCons (eVar 6) aNil)) (aCons (eCB fList (aCons (eVar 7) aNil)) aNil))))) (sSeq (sIf (tOr (tE (eOp cNe (eVar 10) (eOp cIsN (eVar 11) (eC .non)))) (tE (eOp cNotN (eCall den_parting_blocks (aCons (eVar 2) (aCons (eVar 6) (aCons (eCB fList (aCons (eVar 6) aNil)) aNil)))) (eC .non)))) (sRet (eC (.bl false))) sNil) (sSeq (sSet 12 (eCB fList (aCons (eVar 6) aNil))) (sSeq (sPut 12 (eOp opSub (eVar 4) (eC (.int 1))) (eTup (aCons (eNot (eOp ixS (eOp ixS (eVar 6) (eOp opSub (eVar 4) (eC (.int 1)))) (eC (.int 0)))) (aCons (eCall den__law_plain (aCons (eVar 2) (aCons (eTup (aCons (eC (.int 999999998)) aNil)) aNil))) aNil)))) (sSeq (sIf (tE (eOp cEq (eVar 2) (eC (.str "last")))) (sSeq (sPut 12 (eOp opSub (eVar 4) (eC (.int 1))) (eTup (aCons (eC (.bl true)) (aCons (eTup aNil) aNil)))) (sIf (tE (eOp cEq (eOp ixS (eVar 6) (eOp opSub (eVar 4) (eC (.int 1)))) (eTup (aCons (eC (.bl true)) (aCons (eTup aNil) aNil))))) (sPut 12 (eOp opSub (eVar 4) (eC (.int 1))) (eTup (aCons (eC (.bl true)) (aCons (eTup (aCons (eC (.int 5)) aNil)) aNil)))) sNil)) sNil) (sSeq (sIf (tNot (tE (eCall den__law_parted (aCons (eVar 2) (aCons (eVar 6) (aCons (eVar 12) (aCons (eCall den_parting_blocks (aCons (eVar 2) (aCons (eVar 6) (aCons (eVar 12) aNil)))) aNil))))))) (sRet (eC (.bl false))) sNil) (sSeq (sSet 13 (eCallM den__law_pick (aCons (eVar 1) (aCons (eVar 4) aNil)))) (sSeq lp_law_2 (sSeq (sIf (tE (eVar 10)) (sRet (eCallM den__law_all_alike (aCons (eVar 1) (aCons (eVar 2) (aCons (eVar 3) (aCons (eVar 6) (aCons (eVar 7) aNil))))))) sNil) (sRet (eCall den__law_parted (aCons (eVar 2) (aCons (eVar 6) (aCons (eVar 7) (aCons (eVar 11) aNil))))))))))))))))))))))))))
def den_law : DF := fn 17 1 body_law
end SoR
end

section
set_option maxRecDepth 100000
set_option maxHeartbeats 0
namespace SoR
open PySem PySem.Spec PyProof.Rows L2 DL
open He (eqO eqO_ok)
def top (i : Nat) : Stmt := PySem.Challenge.pw_shelfofruns_k02_bare_rows_alike.main.body.getD i (.Pass ⟨0, 0, 0, 0⟩)
abbrev RW0 := PySem.Challenge.rw_shelfofruns_k02_bare_rows_alike
abbrev PP : Program := PySem.Challenge.pw_shelfofruns_k02_bare_rows_alike
def cnT (K : PySem.W.Frag) : List (String × Addr) := [("StoreError", He.ga K "StoreError"), ("NameFault", He.ga K "NameFault"), ("PlaceFault", He.ga K "PlaceFault"), ("BadKind", He.ga K "BadKind"), ("BadEffect", He.ga K "BadEffect"), ("Kind", He.ga K "Kind"), ("BagKind", He.ga K "BagKind"), ("SetKind", He.ga K "SetKind"), ("HeadsKind", He.ga K "HeadsKind"), ("FirstKind", He.ga K "FirstKind"), ("TailsKind", He.ga K "TailsKind"), ("LastKind", He.ga K "LastKind"), ("EndsKind", He.ga K "EndsKind"), ("Kind.plain", He.ma K (He.ga K "Kind") "plain"), ("BagKind.plain", He.ma K (He.ga K "BagKind") "plain"), ("BagKind.plain.cc", ccOf K (He.ma K (He.ga K "BagKind") "plain")), ("BagKind.plain.cda", cdaOf K (He.ma K (He.ga K "BagKind") "plain")), ("SetKind.plain", He.ma K (He.ga K "SetKind") "plain"), ("SetKind.plain.cc", ccOf K (He.ma K (He.ga K "SetKind") "plain")), ("SetKind.plain.cda", cdaOf K (He.ma K (He.ga K "SetKind") "plain")), ("HeadsKind.plain", He.ma K (He.ga K "HeadsKind") "plain"), ("HeadsKind.plain.cc", ccOf K (He.ma K (He.ga K "HeadsKind") "plain")), ("HeadsKind.plain.cda", cdaOf K (He.ma K (He.ga K "HeadsKind") "plain")), ("FirstKind.plain", He.ma K (He.ga K "FirstKind") "plain"), ("FirstKind.plain.cc", ccOf K (He.ma K (He.ga K "FirstKind") "plain")), ("FirstKind.plain.cda", cdaOf K (He.ma K (He.ga K "FirstKind") "plain")), ("TailsKind.plain", He.ma K (He.ga K "TailsKind") "plain"), ("TailsKind.plain.cc", ccOf K (He.ma K (He.ga K "TailsKind") "plain")), ("TailsKind.plain.cda", cdaOf K (He.ma K (He.ga K "TailsKind") "plain")), ("LastKind.plain", He.ma K (He.ga K "LastKind") "plain"), ("LastKind.plain.cc", ccOf K (He.ma K (He.ga K "LastKind") "plain")), ("LastKind.plain.cda", cdaOf K (He.ma K (He.ga K "LastKind") "plain")), ("EndsKind.plain", He.ma K (He.ga K "EndsKind") "plain"), ("EndsKind.plain.cc", ccOf K (He.ma K (He.ga K "EndsKind") "plain")), ("EndsKind.plain.cda", cdaOf K (He.ma K (He.ga K "EndsKind") "plain")), ("NameFault.__init__", He.ma K (He.ga K "NameFault") "__init__"), ("NameFault.__init__.cc", ccOf K (He.ma K (He.ga K "NameFault") "__init__")), ("NameFault.__init__.cda", cdaOf K (He.ma K (He.ga K "NameFault") "__init__")), ("PlaceFault.__init__", He.ma K (He.ga K "PlaceFault") "__init__"), ("PlaceFault.__init__.cc", ccOf K (He.ma K (He.ga K "PlaceFault") "__init__")), ("PlaceFault.__init__.cda", cdaOf K (He.ma K (He.ga K "PlaceFault") "__init__"))]
def cnK (K : PySem.W.Frag) (s : String) : Addr := ((cnT K).lookup s).getD 0
def bl (K : PySem.W.Frag) : List Bool := [
  atB K "kind_named" (He.ga K "kind_named"),
  atB K "is_letter" (He.ga K "is_letter"),
  atB K "is_word" (He.ga K "is_word"),
  atB K "is_plain" (He.ga K "is_plain"),
  atB K "fresh_word" (He.ga K "fresh_word"),
  atB K "formed" (He.ga K "formed"),
  atB K "followed" (He.ga K "followed"),
  atB K "is_effect" (He.ga K "is_effect"),
  atB K "normal" (He.ga K "normal"),
  atB K "parting_state" (He.ga K "parting_state"),
  atB K "checked_row" (He.ga K "checked_row"),
  atB K "bare_word" (He.ga K "bare_word"),
  atB K "bare_effect" (He.ga K "bare_effect"),
  atB K "bare_blocks" (He.ga K "bare_blocks"),
  atB K "bare_row" (He.ga K "bare_row"),
  atB K "last_unlike" (He.ga K "last_unlike"),
  atB K "filled_row" (He.ga K "filled_row"),
  atB K "filled_effect" (He.ga K "filled_effect"),
  atB K "idle_row" (He.ga K "idle_row"),
  atB K "joined_blocks" (He.ga K "joined_blocks"),
  atB K "fresh_part" (He.ga K "fresh_part"),
  atB K "none_filled" (He.ga K "none_filled"),
  atB K "one_filled" (He.ga K "one_filled"),
  atB K "two_filled" (He.ga K "two_filled"),
  atB K "parting_row_of" (He.ga K "parting_row_of"),
  atB K "parting_blocks" (He.ga K "parting_blocks"),
  atB K "_law_stream" (He.ga K "_law_stream"),
  atB K "_law_mixed" (He.ga K "_law_mixed"),
  atB K "_law_draw" (He.ga K "_law_draw"),
  atB K "_law_pick" (He.ga K "_law_pick"),
  atB K "_law_kind" (He.ga K "_law_kind"),
  atB K "_law_letters" (He.ga K "_law_letters"),
  atB K "_law_raw" (He.ga K "_law_raw"),
  atB K "_law_plain" (He.ga K "_law_plain"),
  atB K "_law_joined" (He.ga K "_law_joined"),
  atB K "_law_normal" (He.ga K "_law_normal"),
  atB K "_law_on" (He.ga K "_law_on"),
  atB K "_law_is_number" (He.ga K "_law_is_number"),
  atB K "_law_is_word" (He.ga K "_law_is_word"),
  atB K "_law_is_effect" (He.ga K "_law_is_effect"),
  atB K "_law_some_word" (He.ga K "_law_some_word"),
  atB K "_law_late_effect" (He.ga K "_law_late_effect"),
  atB K "_law_bare" (He.ga K "_law_bare"),
  atB K "_law_filled" (He.ga K "_law_filled"),
  atB K "_law_block_row" (He.ga K "_law_block_row"),
  atB K "_law_hidden_in" (He.ga K "_law_hidden_in"),
  atB K "_law_second_row" (He.ga K "_law_second_row"),
  atB K "_law_asked_effect" (He.ga K "_law_asked_effect"),
  atB K "_law_parted" (He.ga K "_law_parted"),
  atB K "_law_all_alike" (He.ga K "_law_all_alike"),
  atB K "law" (He.ga K "law"),
  decide (cnK K "Kind.plain" = He.fAd K ("Kind", some "plain")),
  supB PP K (cnK K) (cnK K "BagKind") ["BagKind", "SetKind"] "plain" "BagKind.plain" (cnK K "BagKind.plain") (cnK K "Kind.plain") (cnK K "BagKind.plain.cc") (cnK K "BagKind.plain.cda"),
  supB PP K (cnK K) (cnK K "SetKind") ["SetKind"] "plain" "SetKind.plain" (cnK K "SetKind.plain") (cnK K "BagKind.plain") (cnK K "SetKind.plain.cc") (cnK K "SetKind.plain.cda"),
  supB PP K (cnK K) (cnK K "HeadsKind") ["HeadsKind", "FirstKind"] "plain" "HeadsKind.plain" (cnK K "HeadsKind.plain") (cnK K "Kind.plain") (cnK K "HeadsKind.plain.cc") (cnK K "HeadsKind.plain.cda"),
  supB PP K (cnK K) (cnK K "FirstKind") ["FirstKind"] "plain" "FirstKind.plain" (cnK K "FirstKind.plain") (cnK K "HeadsKind.plain") (cnK K "FirstKind.plain.cc") (cnK K "FirstKind.plain.cda"),
  supB PP K (cnK K) (cnK K "TailsKind") ["TailsKind", "LastKind"] "plain" "TailsKind.plain" (cnK K "TailsKind.plain") (cnK K "Kind.plain") (cnK K "TailsKind.plain.cc") (cnK K "TailsKind.plain.cda"),
  supB PP K (cnK K) (cnK K "LastKind") ["LastKind"] "plain" "LastKind.plain" (cnK K "LastKind.plain") (cnK K "TailsKind.plain") (cnK K "LastKind.plain.cc") (cnK K "LastKind.plain.cda"),
  supB PP K (cnK K) (cnK K "EndsKind") ["EndsKind"] "plain" "EndsKind.plain" (cnK K "EndsKind.plain") (cnK K "Kind.plain") (cnK K "EndsKind.plain.cc") (cnK K "EndsKind.plain.cda"),
  (clsB K (cnK K "Kind") && methB K (cnK K "Kind") "plain" (cnK K "Kind.plain")),
  (clsB K (cnK K "BagKind") && methB K (cnK K "BagKind") "plain" (cnK K "BagKind.plain")),
  (clsB K (cnK K "SetKind") && methB K (cnK K "SetKind") "plain" (cnK K "SetKind.plain")),
  (clsB K (cnK K "HeadsKind") && methB K (cnK K "HeadsKind") "plain" (cnK K "HeadsKind.plain")),
  (clsB K (cnK K "FirstKind") && methB K (cnK K "FirstKind") "plain" (cnK K "FirstKind.plain")),
  (clsB K (cnK K "TailsKind") && methB K (cnK K "TailsKind") "plain" (cnK K "TailsKind.plain")),
  (clsB K (cnK K "LastKind") && methB K (cnK K "LastKind") "plain" (cnK K "LastKind.plain")),
  (clsB K (cnK K "EndsKind") && methB K (cnK K "EndsKind") "plain" (cnK K "EndsKind.plain")),
  exiB PP K (cnK K "BadKind") (cnK K "NameFault") (cnK K "NameFault.__init__") (cnK K "NameFault.__init__.cc") (cnK K "NameFault.__init__.cda") "BadKind" "name" "NameFault.__init__",
  exiB PP K (cnK K "BadEffect") (cnK K "PlaceFault") (cnK K "PlaceFault.__init__") (cnK K "PlaceFault.__init__.cc") (cnK K "PlaceFault.__init__.cda") "BadEffect" "place" "PlaceFault.__init__",
  offB K "len",
  offB K "all",
  offB K "any",
  offB K "tuple",
  offB K "list",
  offB K "set",
  offB K "sorted",
  offB K "int",
  offB K "bool",
  offB K "range",
  offB K "zip",
  offB K "enumerate",
  offB K "abs",
  offB K "repr",
  offB K "isinstance",
  conB K (cnK K) "NAME" "Kind" (.str "list"),
  conB K (cnK K) "NAME" "BagKind" (.str "bag"),
  conB K (cnK K) "NAME" "SetKind" (.str "set"),
  conB K (cnK K) "NAME" "HeadsKind" (.str "heads"),
  conB K (cnK K) "NAME" "FirstKind" (.str "first"),
  conB K (cnK K) "NAME" "TailsKind" (.str "tails"),
  conB K (cnK K) "NAME" "LastKind" (.str "last"),
  conB K (cnK K) "NAME" "EndsKind" (.str "ends"),
  decide (PySem.W.exmOne K (.ref (cnK K "BadKind")) (.ref (cnK K "BadEffect")) = some false),
  decide (PySem.W.exmOne K (.ref (cnK K "BadEffect")) (.ref (cnK K "BadEffect")) = some true),
  decide (PySem.W.exmOne K (.ref (cnK K "BadKind")) (.ref (cnK K "StoreError")) = some true),
  decide (PySem.W.exmOne K (.ref (cnK K "BadEffect")) (.ref (cnK K "StoreError")) = some true),
  (xfB K (cnK K "BadEffect") && eqO (PySem.W.findIn K (.ref (cnK K "BadEffect")) "place") (some none)),
  atB K "BadEffect" (cnK K "BadEffect"),
  atB K "StoreError" (cnK K "StoreError"),
  atB K "Kind" (cnK K "Kind"),
  mkB K (cnK K "Kind"),
  atB K "BagKind" (cnK K "BagKind"),
  mkB K (cnK K "BagKind"),
  atB K "SetKind" (cnK K "SetKind"),
  mkB K (cnK K "SetKind"),
  atB K "HeadsKind" (cnK K "HeadsKind"),
  mkB K (cnK K "HeadsKind"),
  atB K "FirstKind" (cnK K "FirstKind"),
  mkB K (cnK K "FirstKind"),
  atB K "TailsKind" (cnK K "TailsKind"),
  mkB K (cnK K "TailsKind"),
  atB K "LastKind" (cnK K "LastKind"),
  mkB K (cnK K "LastKind"),
  atB K "EndsKind" (cnK K "EndsKind"),
  mkB K (cnK K "EndsKind"),
  gB K "LETTERS" d_LETTERS,
  gB K "IDLE" d_IDLE,
  gB K "STONE" d_STONE,
  atB K "law" (He.ga K "law")]
def BB (K : PySem.W.Frag) : Bool := (bl K).all fun b => b
def fnD : List He.DefD := [
  ⟨("kind_named", none), "kind_named", "kind_named", defArgs (top 17), defBody (top 17), defScope (top 17), [], []⟩,
  ⟨("is_letter", none), "is_letter", "is_letter", defArgs (top 18), defBody (top 18), defScope (top 18), [], []⟩,
  ⟨("is_word", none), "is_word", "is_word", defArgs (top 19), defBody (top 19), defScope (top 19), [], []⟩,
  ⟨("is_plain", none), "is_plain", "is_plain", defArgs (top 20), defBody (top 20), defScope (top 20), [], []⟩,
  ⟨("fresh_word", none), "fresh_word", "fresh_word", defArgs (top 21), defBody (top 21), defScope (top 21), [], []⟩,
  ⟨("formed", none), "formed", "formed", defArgs (top 25), defBody (top 25), defScope (top 25), [], []⟩,
  ⟨("followed", none), "followed", "followed", defArgs (top 26), defBody (top 26), defScope (top 26), [], []⟩,
  ⟨("is_effect", none), "is_effect", "is_effect", defArgs (top 27), defBody (top 27), defScope (top 27), [], []⟩,
  ⟨("normal", none), "normal", "normal", defArgs (top 28), defBody (top 28), defScope (top 28), [], []⟩,
  ⟨("parting_state", none), "parting_state", "parting_state", defArgs (top 29), defBody (top 29), defScope (top 29), [], []⟩,
  ⟨("checked_row", none), "checked_row", "checked_row", defArgs (top 31), defBody (top 31), defScope (top 31), [], []⟩,
  ⟨("bare_word", none), "bare_word", "bare_word", defArgs (top 33), defBody (top 33), defScope (top 33), [], []⟩,
  ⟨("bare_effect", none), "bare_effect", "bare_effect", defArgs (top 34), defBody (top 34), defScope (top 34), [], []⟩,
  ⟨("bare_blocks", none), "bare_blocks", "bare_blocks", defArgs (top 35), defBody (top 35), defScope (top 35), [], []⟩,
  ⟨("bare_row", none), "bare_row", "bare_row", defArgs (top 36), defBody (top 36), defScope (top 36), [], []⟩,
  ⟨("last_unlike", none), "last_unlike", "last_unlike", defArgs (top 37), defBody (top 37), defScope (top 37), [], []⟩,
  ⟨("filled_row", none), "filled_row", "filled_row", defArgs (top 39), defBody (top 39), defScope (top 39), [], []⟩,
  ⟨("filled_effect", none), "filled_effect", "filled_effect", defArgs (top 40), defBody (top 40), defScope (top 40), [], []⟩,
  ⟨("idle_row", none), "idle_row", "idle_row", defArgs (top 41), defBody (top 41), defScope (top 41), [], []⟩,
  ⟨("joined_blocks", none), "joined_blocks", "joined_blocks", defArgs (top 42), defBody (top 42), defScope (top 42), [], []⟩,
  ⟨("fresh_part", none), "fresh_part", "fresh_part", defArgs (top 44), defBody (top 44), defScope (top 44), [], []⟩,
  ⟨("none_filled", none), "none_filled", "none_filled", defArgs (top 45), defBody (top 45), defScope (top 45), [], []⟩,
  ⟨("one_filled", none), "one_filled", "one_filled", defArgs (top 46), defBody (top 46), defScope (top 46), [], []⟩,
  ⟨("two_filled", none), "two_filled", "two_filled", defArgs (top 47), defBody (top 47), defScope (top 47), [], []⟩,
  ⟨("parting_row_of", none), "parting_row_of", "parting_row_of", defArgs (top 48), defBody (top 48), defScope (top 48), [], []⟩,
  ⟨("parting_blocks", none), "parting_blocks", "parting_blocks", defArgs (top 49), defBody (top 49), defScope (top 49), [], []⟩,
  ⟨("_law_stream", none), "_law_stream", "_law_stream", defArgs (top 51), defBody (top 51), defScope (top 51), [], []⟩,
  ⟨("_law_mixed", none), "_law_mixed", "_law_mixed", defArgs (top 52), defBody (top 52), defScope (top 52), [], []⟩,
  ⟨("_law_draw", none), "_law_draw", "_law_draw", defArgs (top 53), defBody (top 53), defScope (top 53), [], []⟩,
  ⟨("_law_pick", none), "_law_pick", "_law_pick", defArgs (top 54), defBody (top 54), defScope (top 54), [], []⟩,
  ⟨("_law_kind", none), "_law_kind", "_law_kind", defArgs (top 55), defBody (top 55), defScope (top 55), [], []⟩,
  ⟨("_law_letters", none), "_law_letters", "_law_letters", defArgs (top 56), defBody (top 56), defScope (top 56), [], []⟩,
  ⟨("_law_raw", none), "_law_raw", "_law_raw", defArgs (top 57), defBody (top 57), defScope (top 57), [], []⟩,
  ⟨("_law_plain", none), "_law_plain", "_law_plain", defArgs (top 58), defBody (top 58), defScope (top 58), [], []⟩,
  ⟨("_law_joined", none), "_law_joined", "_law_joined", defArgs (top 59), defBody (top 59), defScope (top 59), [], []⟩,
  ⟨("_law_normal", none), "_law_normal", "_law_normal", defArgs (top 60), defBody (top 60), defScope (top 60), [], []⟩,
  ⟨("_law_on", none), "_law_on", "_law_on", defArgs (top 61), defBody (top 61), defScope (top 61), [], []⟩,
  ⟨("_law_is_number", none), "_law_is_number", "_law_is_number", defArgs (top 62), defBody (top 62), defScope (top 62), [], []⟩,
  ⟨("_law_is_word", none), "_law_is_word", "_law_is_word", defArgs (top 63), defBody (top 63), defScope (top 63), [], []⟩,
  ⟨("_law_is_effect", none), "_law_is_effect", "_law_is_effect", defArgs (top 64), defBody (top 64), defScope (top 64), [], []⟩,
  ⟨("_law_some_word", none), "_law_some_word", "_law_some_word", defArgs (top 65), defBody (top 65), defScope (top 65), [], []⟩,
  ⟨("_law_late_effect", none), "_law_late_effect", "_law_late_effect", defArgs (top 66), defBody (top 66), defScope (top 66), [], []⟩,
  ⟨("_law_bare", none), "_law_bare", "_law_bare", defArgs (top 67), defBody (top 67), defScope (top 67), [], []⟩,
  ⟨("_law_filled", none), "_law_filled", "_law_filled", defArgs (top 68), defBody (top 68), defScope (top 68), [], []⟩,
  ⟨("_law_block_row", none), "_law_block_row", "_law_block_row", defArgs (top 69), defBody (top 69), defScope (top 69), [], []⟩,
  ⟨("_law_hidden_in", none), "_law_hidden_in", "_law_hidden_in", defArgs (top 70), defBody (top 70), defScope (top 70), [], []⟩,
  ⟨("_law_second_row", none), "_law_second_row", "_law_second_row", defArgs (top 71), defBody (top 71), defScope (top 71), [], []⟩,
  ⟨("_law_asked_effect", none), "_law_asked_effect", "_law_asked_effect", defArgs (top 72), defBody (top 72), defScope (top 72), [], []⟩,
  ⟨("_law_parted", none), "_law_parted", "_law_parted", defArgs (top 73), defBody (top 73), defScope (top 73), [], []⟩,
  ⟨("_law_all_alike", none), "_law_all_alike", "_law_all_alike", defArgs (top 74), defBody (top 74), defScope (top 74), [], []⟩,
  ⟨("law", none), "law", "law", defArgs (top 75), defBody (top 75), defScope (top 75), [], []⟩,
  ⟨("Kind", some "plain"), "plain", "Kind.plain", defArgs (clsStmt (top 9) 1), defBody (clsStmt (top 9) 1), defScope (clsStmt (top 9) 1), [], []⟩]
def sfD : List (PySem.W.Frag → Addr) := [fun K => cnK K "BagKind.plain", fun K => cnK K "SetKind.plain", fun K => cnK K "HeadsKind.plain", fun K => cnK K "FirstKind.plain", fun K => cnK K "TailsKind.plain", fun K => cnK K "LastKind.plain", fun K => cnK K "EndsKind.plain", fun K => cnK K "NameFault.__init__", fun K => cnK K "PlaceFault.__init__"]
def svD : List SupW := [supV "plain" "BagKind.plain" (clsStmt (top 10) 1), supV "plain" "SetKind.plain" (clsStmt (top 11) 1), supV "plain" "HeadsKind.plain" (clsStmt (top 12) 1), supV "plain" "FirstKind.plain" (clsStmt (top 13) 1), supV "plain" "TailsKind.plain" (clsStmt (top 14) 1), supV "plain" "LastKind.plain" (clsStmt (top 15) 1), supV "plain" "EndsKind.plain" (clsStmt (top 16) 1), supV "__init__" "NameFault.__init__" (clsStmt (top 3) 0), supV "__init__" "PlaceFault.__init__" (clsStmt (top 4) 0)]
abbrev R0 : PySem.W.OpenRow := PySem.W.OpenLaw.row RW0
abbrev hk0 : PySem.W.Hook := hookS 5 BB fnD sfD svD
def ob0 (s : PySem.W.SharedT) : AlS := obsSG 5 BB fnD sfD (HandSHeadRun.getT s)
theorem ob0_eq (s : PySem.W.SharedT) : ob0 s = hk0.obs s.abs := obsSG_eq (HandSHeadRun.getT_eq s)
def nm0 : List Str := ["_wall", "StoreError", "NameFault", "PlaceFault", "BadKind", "BadEffect", "Kind", "BagKind", "SetKind", "HeadsKind", "FirstKind", "TailsKind", "LastKind", "EndsKind", "kind_named", "is_letter", "is_word", "is_plain", "fresh_word", "formed"]
def nm1 : List Str := ["followed", "is_effect", "normal", "parting_state", "checked_row", "bare_word", "bare_effect", "bare_blocks", "bare_row", "last_unlike", "filled_row", "filled_effect", "idle_row", "joined_blocks", "fresh_part", "none_filled", "one_filled", "two_filled", "parting_row_of", "parting_blocks"]
def nm2 : List Str := ["_law_stream", "_law_mixed", "_law_draw", "_law_pick", "_law_kind", "_law_letters", "_law_raw", "_law_plain", "_law_joined", "_law_normal", "_law_on", "_law_is_number", "_law_is_word", "_law_is_effect", "_law_some_word", "_law_late_effect", "_law_bare", "_law_filled", "_law_block_row", "_law_hidden_in"]
def nm3 : List Str := ["_law_second_row", "_law_asked_effect", "_law_parted", "_law_all_alike", "LETTERS", "IDLE", "STONE"]
def loose0 : List Str := nm0 ++ nm1 ++ nm2 ++ nm3
end SoR
end

section
set_option maxRecDepth 100000
set_option maxHeartbeats 0
namespace SoR
open PySem PySem.Spec PyProof.Rows L2 DL
theorem run0 (w : World) : HandSHeadRun.RunEq R0 (PySem.W.view R0.prog [75]) hk0 ob0 16000 loose0 w := by
  intro os
  kernel_rfl
end SoR
end

section
set_option maxRecDepth 100000
set_option maxHeartbeats 2000000
namespace DL
open PySem PySem.Spec PyProof.Rows L2
/-- what is known stays known -/
def Le (G H : Hp) : Prop := ∀ a o, G a = some o → H a = some o
theorem Le.refl (G : Hp) : Le G G := fun _ _ h => h
theorem Le.trans {G H J : Hp} (a : Le G H) (b : Le H J) : Le G J := fun x o h => b x o (a x o h)
theorem Le.rd {G H : Hp} (l : Le G H) {a : Addr} {u : HO} (r : Rd G a u) : Rd H a u := r.elim (fun h => .inl (l a _ h)) fun ⟨o, h⟩ => .inr ⟨o, l a _ h⟩
theorem Le.sqL {K : PySem.W.Frag} {G H : Hp} (l : Le G H) {a : Addr} {xs : List V} (r : SqL K G a xs) : SqL K H a xs := r.elim (fun h => .inl (l.rd h)) .inr
theorem Le.sqT {K : PySem.W.Frag} {G H : Hp} (l : Le G H) {a : Addr} {xs : List V} (r : SqT K G a xs) : SqT K H a xs := r.elim (fun h => .inl (l.rd h)) .inr
theorem Le.upd {H : Hp} {a : Addr} {o : HO} (h : H a = none) : Le H (upd H a o) := fun b u e => by rw [upd_ne (ne_of_none e h)]; exact e
theorem Le.upd2 {G H : Hp} (l : Le G H) {a : Addr} {o : HO} : Le (L2.upd G a o) (L2.upd H a o) := fun b u e => by
  by_cases hb : b = a
  · subst hb; rw [upd_same] at e ⊢; exact e
  · rw [upd_ne hb] at e ⊢; exact l b u e
theorem Le.updN {G H : Hp} (l : Le G H) {a : Addr} {o : HO} (h : G a = none) : Le G (L2.upd H a o) := fun b u e => by
  rw [upd_ne (ne_of_none e h)]; exact l b u e
/-! ### a datum stands there -/
section
variable (K : PySem.W.Frag) (cn : String → Addr) (G : Hp)
mutual
def Rep : D → V → Prop
  | .non, v => v = .non
  | .bl b, v => v = .bl b
  | .int i, v => v = .int i
  | .str s, v => v = .str (Str.ofString s)
  | .tup ds, v => ∃ a vs, v = .ref a ∧ SqT K G a vs ∧ Reps ds vs
  | .lst ds, v => ∃ a vs, v = .ref a ∧ G a = some (.lst vs) ∧ Reps ds vs
  | .scr ns, v => ∃ a, v = .ref a ∧ SqL K G a (ns.map V.int)
  | .obj c ns ds, v => ∃ a dx vs, v = .ref a ∧ G a = some (.ins (cn c) dx ((ns.map Str.ofString).zip vs)) ∧ ns.length = ds.length ∧ Reps ds vs
def Reps : List D → List V → Prop
  | [], vs => vs = []
  | d :: ds, vs => ∃ v us, vs = v :: us ∧ Rep d v ∧ Reps ds us
end
end
section
variable {K : PySem.W.Frag} {cn : String → Addr} {G H : Hp}
mutual
theorem Rep.mono (l : Le G H) : ∀ (d : D) (v : V), Rep K cn G d v → Rep K cn H d v
  | .non, v, h => by unfold Rep at h ⊢; exact h
  | .bl b, v, h => by unfold Rep at h ⊢; exact h
  | .int i, v, h => by unfold Rep at h ⊢; exact h
  | .str s, v, h => by unfold Rep at h ⊢; exact h
  | .tup ds, v, h => by
    unfold Rep at h ⊢
    obtain ⟨a, vs, e, q, r⟩ := h
    exact ⟨a, vs, e, l.sqT q, Reps.mono l ds vs r⟩
  | .lst ds, v, h => by
    unfold Rep at h ⊢
    obtain ⟨a, vs, e, q, r⟩ := h
    exact ⟨a, vs, e, l _ _ q, Reps.mono l ds vs r⟩
  | .scr ns, v, h => by
    unfold Rep at h ⊢
    obtain ⟨a, e, q⟩ := h
    exact ⟨a, e, l.sqL q⟩
  | .obj c ns ds, v, h => by
    unfold Rep at h ⊢
    obtain ⟨a, dx, vs, e, q, n, r⟩ := h
    exact ⟨a, dx, vs, e, l _ _ q, n, Reps.mono l ds vs r⟩
theorem Reps.mono (l : Le G H) : ∀ (ds : List D) (vs : List V), Reps K cn G ds vs → Reps K cn H ds vs
  | [], vs, h => by unfold Reps at h ⊢; exact h
  | d :: ds, vs, h => by
    unfold Reps at h ⊢
    obtain ⟨v, us, e, r, q⟩ := h
    exact ⟨v, us, e, Rep.mono l d v r, Reps.mono l ds us q⟩
end
end
end DL
end

section
set_option maxRecDepth 100000
set_option maxHeartbeats 2000000
namespace DL
open PySem PySem.Spec L2
section
variable (K : PySem.W.Frag) (cn : String → Addr)
def kvS : List (Int × D) → List (Key × V) → List D × List V
  | kvs, ws => (kvs.map (·.2), ws.map (·.2))
/-- an object that one name alone holds -/
def OwnAt (G H : Hp) (a : Addr) : Own → Prop
  | .lst ds => G a = none ∧ ∃ vs, H a = some (.lst vs) ∧ Reps K cn G ds vs
  | .dct kvs => G a = none ∧ ∃ ws : List (Key × V), H a = some (.dK ws) ∧ ws.map (·.1) = kvs.map (fun p => (Sum.inl p.1 : Key)) ∧ Reps K cn G (kvs.map (·.2)) (ws.map (·.2))
  | .ins c ns l => G a = none ∧ ∃ dx vs, H a = some (.ins (cn c) dx ((ns.map Str.ofString).zip vs)) ∧ ns.length = l.length ∧ Reps K cn G l vs
/-- looked at: kept, or a name's own -/
def Pk (G H : Hp) (d : D) (v : V) : Prop := Rep K cn G d v ∨ ∃ a o, v = .ref a ∧ Own.d o = some d ∧ OwnAt K cn G H a o
def Sl.hold : Sl → Option Own
  | .own o => some o
  | .ref o => some o
  | _ => none
def OwnA (σ : St) (ρ : Env) (a : Addr) : Prop := ∃ (i : Nat) (s : Sl) (o : Own), ρ[i]? = some s ∧ s.hold = some o ∧ σ[i]? = some (some (.ref a))
structure Rl (G H : Hp) (σ : St) (ρ : Env) : Prop where
  gh : Le G H
  len : ρ.length = σ.length
  frz : ∀ (i : Nat) d, ρ[i]? = some (.frz d) → ∃ v, σ[i]? = some (some v) ∧ Rep K cn G d v
  own : ∀ (i : Nat) s o, ρ[i]? = some s → s.hold = some o → ∃ a, σ[i]? = some (some (.ref a)) ∧ OwnAt K cn G H a o
  sep : ∀ (i j : Nat) s t o u a, ρ[i]? = some s → ρ[j]? = some t → s.hold = some o → t.hold = some u → σ[i]? = some (some (.ref a)) → σ[j]? = some (some (.ref a)) → i = j
/-- a step: what is kept stays, what is new was nowhere ahead (or in a slot of one's own), all but the slots' own objects stay -/
structure Ext (σ : St) (G H : Hp) (ρ : Env) (G' H' : Hp) (ρ' : Env) : Prop where
  g : Le G G'
  n : ∀ a o, G' a = some o → G a = some o ∨ H a = none ∨ ∃ (i : Nat) (w : Own), ρ[i]? = some (.own w) ∧ σ[i]? = some (some (.ref a))
  h : ∀ a o, H a = some o → ¬ OwnA σ ρ a → H' a = some o
  d : ∀ a, H a ≠ none → H' a ≠ none
  so : ∀ (i : Nat) o', ρ'[i]? = some (.own o') → ∃ o, ρ[i]? = some (.own o)
  sr : ∀ (i : Nat) o', ρ'[i]? = some (.ref o') → ∃ o, ρ[i]? = some (.ref o)
def RepR (Hs G H : Hp) (σ : St) (ρ : Env) (v : V) : R → Prop
  | .val d => Rep K cn G d v
  | .fre o => ∃ a, v = .ref a ∧ Hs a = none ∧ OwnAt K cn G H a o ∧ ¬ OwnA σ ρ a
  | .al i => σ[i]? = some (some v)
/-- an error's own dict -/
def ExR (G H : Hp) (x : Exc) (d : Option Addr) : Prop := x.ns = [] ∨ ∃ a vs, d = some a ∧ H a = some (.xd ((x.ns.map Str.ofString).zip vs)) ∧ x.ns.length = x.l.length ∧ Reps K cn G x.l vs
def PostE (W : WX) (σ : St) (G H : Hp) (ρ : Env) (Q : VK) : Er → Prop
  | .ok r ρ' => ∀ G' H' v, Ext σ G H ρ G' H' ρ' → Rl K cn G' H' σ ρ' → RepR K cn H G' H' σ ρ' v r → Q v H'
  | .ex x ρ' => ∀ G' H' d, Ext σ G H ρ G' H' ρ' → Rl K cn G' H' σ ρ' → ExR K cn G' H' x d → W (.ref (cn x.cls)) d σ H'
def Den (W : WX) (t : TE) (f : DE) : Prop := ∀ (G H : Hp) (σ : St) (ρ : Env) (Q : VK), Rl K cn G H σ ρ → ∀ e, f ρ = some e → PostE K cn W σ G H ρ Q e → t σ H Q
/-- no new object of these stands at v -/
def Apart (v : V) (vs : List V) (rs : List R) : Prop := ∀ v' r' o', (v', r') ∈ vs.zip rs → r' = R.fre o' → v' ≠ v
/-- several, from the left: new objects stand apart -/
def RepRs (Hs G H : Hp) (σ : St) (ρ : Env) : List V → List R → Prop
  | [], rs => rs = []
  | v :: vs, rs => ∃ r rs', rs = r :: rs' ∧ RepR K cn Hs G H σ ρ v r ∧ (∀ o, r = .fre o → Apart v vs rs') ∧ RepRs Hs G H σ ρ vs rs'
def PostA (W : WX) (σ : St) (G H : Hp) (ρ : Env) (Q : List V → Hp → Prop) : Ar → Prop
  | .ok rs ρ' => ∀ G' H' vs, Ext σ G H ρ G' H' ρ' → Rl K cn G' H' σ ρ' → RepRs K cn H G' H' σ ρ' vs rs → Q vs H'
  | .ex x ρ' => ∀ G' H' d, Ext σ G H ρ G' H' ρ' → Rl K cn G' H' σ ρ' → ExR K cn G' H' x d → W (.ref (cn x.cls)) d σ H'
def DenA (W : WX) (t : TA) (f : DA) : Prop := ∀ (G H : Hp) (σ : St) (ρ : Env) (Q : List V → Hp → Prop), Rl K cn G H σ ρ → ∀ e, f ρ = some e → PostA K cn W σ G H ρ Q e → t σ H Q
end
section
variable {K : PySem.W.Frag} {cn : String → Addr} {G H G1 H1 G2 H2 Hs : Hp} {σ : St} {ρ ρ1 ρ2 : Env}
theorem Sl.hold_own {s : Sl} {o : Own} (h : s.hold = some o) : s = .own o ∨ s = .ref o := by
  cases s <;> simp [Sl.hold] at h <;> simp [h]
theorem OwnAt.some {a : Addr} {o : Own} (h : OwnAt K cn G H a o) : G a = none ∧ ∃ u, H a = some u ∧ Mut (some u) := by
  cases o with
  | lst ds => obtain ⟨n, vs, e, _⟩ := h; exact ⟨n, _, e, trivial⟩
  | dct kvs => obtain ⟨n, ws, e, _⟩ := h; exact ⟨n, _, e, trivial⟩
  | ins c ns l => obtain ⟨n, dx, vs, e, _⟩ := h; exact ⟨n, _, e, trivial⟩
theorem OwnAt.mono {a : Addr} {o : Own} (h : OwnAt K cn G H a o) (l : Le G G1) (n : G1 a = none) (e : ∀ u, H a = Option.some u → H1 a = Option.some u) : OwnAt K cn G1 H1 a o := by
  cases o with
  | lst ds => obtain ⟨_, vs, q, r⟩ := h; exact ⟨n, vs, e _ q, Reps.mono l _ _ r⟩
  | dct kvs => obtain ⟨_, ws, q, k, r⟩ := h; exact ⟨n, ws, e _ q, k, Reps.mono l _ _ r⟩
  | ins c ns ds => obtain ⟨_, dx, vs, q, k, r⟩ := h; exact ⟨n, dx, vs, e _ q, k, Reps.mono l _ _ r⟩
theorem Ext.refl : Ext σ G H ρ G H ρ := ⟨Le.refl _, fun _ _ h => .inl h, fun _ _ h _ => h, fun _ h => h, fun _ o h => ⟨o, h⟩, fun _ o h => ⟨o, h⟩⟩
theorem Ext.ownA (e : Ext σ G H ρ G1 H1 ρ1) {a : Addr} (h : OwnA σ ρ1 a) : OwnA σ ρ a := by
  obtain ⟨i, s, o, h1, h2, h3⟩ := h
  rcases Sl.hold_own h2 with rfl | rfl
  · obtain ⟨o', q⟩ := e.so i o h1; exact ⟨i, _, o', q, rfl, h3⟩
  · obtain ⟨o', q⟩ := e.sr i o h1; exact ⟨i, _, o', q, rfl, h3⟩
theorem Ext.trans (e : Ext σ G H ρ G1 H1 ρ1) (f : Ext σ G1 H1 ρ1 G2 H2 ρ2) : Ext σ G H ρ G2 H2 ρ2 where
  g := e.g.trans f.g
  n := fun a o h => by
    rcases f.n a o h with h | h | ⟨i, w, h1, h2⟩
    · exact e.n a o h
    · cases q : H a with
      | none => exact .inr (.inl rfl)
      | some u => exact absurd h (e.d a (by rw [q]; intro z; cases z))
    · obtain ⟨o', q⟩ := e.so i w h1
      exact .inr (.inr ⟨i, o', q, h2⟩)
  h := fun a o h n => f.h a o (e.h a o h n) fun z => n (e.ownA z)
  d := fun a h => f.d a (e.d a h)
  so := fun i o h => by obtain ⟨o', q⟩ := f.so i o h; exact e.so i o' q
  sr := fun i o h => by obtain ⟨o', q⟩ := f.sr i o h; exact e.sr i o' q
theorem RepR.back {r : R} {v : V} (h : RepR K cn H1 G H σ ρ v r) (d : ∀ a, Hs a ≠ none → H1 a ≠ none) : RepR K cn Hs G H σ ρ v r := by
  cases r with
  | val d => exact h
  | fre o =>
    obtain ⟨a, e, n, k⟩ := h
    refine ⟨a, e, ?_, k⟩
    cases q : Hs a with
    | none => rfl
    | some u => exact absurd n (d a (by rw [q]; intro z; cases z))
  | al i => exact h
theorem RepR.ext {r : R} {v : V} (h : RepR K cn Hs G H σ ρ v r) (e : Ext σ G H ρ G1 H1 ρ1) : RepR K cn Hs G1 H1 σ ρ1 v r := by
  cases r with
  | val d => exact Rep.mono e.g _ _ h
  | fre o =>
    obtain ⟨a, ev, n, k, no⟩ := h
    refine ⟨a, ev, n, k.mono e.g ?_ (fun u q => e.h a u q no), fun z => no (e.ownA z)⟩
    obtain ⟨gn, u, hu, _⟩ := k.some
    cases q : G1 a with
    | none => rfl
    | some w =>
      rcases e.n a w q with z | z | ⟨i, w', h1, h2⟩
      · rw [gn] at z; cases z
      · rw [hu] at z; cases z
      · exact absurd ⟨i, _, w', h1, rfl, h2⟩ no
  | al i => exact h
theorem RepRs.back : ∀ {vs : List V} {rs : List R}, RepRs K cn H1 G H σ ρ vs rs → (∀ a, Hs a ≠ none → H1 a ≠ none) → RepRs K cn Hs G H σ ρ vs rs
  | [], rs, h, d => by unfold RepRs at h ⊢; exact h
  | v :: vs, rs, h, d => by
    unfold RepRs at h ⊢
    obtain ⟨r, rs', e, h1, h2, h3⟩ := h
    exact ⟨r, rs', e, h1.back d, h2, RepRs.back h3 d⟩
theorem RepRs.ext : ∀ {vs : List V} {rs : List R}, RepRs K cn Hs G H σ ρ vs rs → Ext σ G H ρ G1 H1 ρ1 → RepRs K cn Hs G1 H1 σ ρ1 vs rs
  | [], rs, h, d => by unfold RepRs at h ⊢; exact h
  | v :: vs, rs, h, d => by
    unfold RepRs at h ⊢
    obtain ⟨r, rs', e, h1, h2, h3⟩ := h
    exact ⟨r, rs', e, h1.ext d, h2, RepRs.ext h3 d⟩
theorem PostE.back {W : WX} {Q : VK} {e : Er} (x : Ext σ G H ρ G1 H1 ρ1) (h : PostE K cn W σ G H ρ Q e) : PostE K cn W σ G1 H1 ρ1 Q e := by
  cases e with
  | ok r ρ' => exact fun G' H' v y l q => h G' H' v (x.trans y) l (q.back x.d)
  | ex z ρ' => exact fun G' H' d y l q => h G' H' d (x.trans y) l q
theorem PostA.back {W : WX} {Q : List V → Hp → Prop} {e : Ar} (x : Ext σ G H ρ G1 H1 ρ1) (h : PostA K cn W σ G H ρ Q e) : PostA K cn W σ G1 H1 ρ1 Q e := by
  cases e with
  | ok r ρ' => exact fun G' H' v y l q => h G' H' v (x.trans y) l (q.back x.d)
  | ex z ρ' => exact fun G' H' d y l q => h G' H' d (x.trans y) l q
/-- looked at -/
theorem RepR.peek {r : R} {v : V} {d : D} (l : Rl K cn G H σ ρ) (h : RepR K cn Hs G H σ ρ v r) (p : r.peek ρ = some d) : Pk K cn G H d v := by
  cases r with
  | val d' => cases p; exact .inl h
  | fre o =>
    obtain ⟨a, ev, _, k, _⟩ := h
    exact .inr ⟨a, o, ev, p, k⟩
  | al i =>
    have hv : σ[i]? = some (some v) := h
    simp only [R.peek] at p
    cases q : ρ[i]? with
    | none => rw [q] at p; cases p
    | some s =>
      rw [q] at p
      cases s with
      | no => cases p
      | frz d' =>
        cases p
        obtain ⟨v', e, r⟩ := l.frz i d q
        rw [hv] at e; cases e
        exact .inl r
      | own o =>
        obtain ⟨a, e, k⟩ := l.own i _ o q rfl
        rw [hv] at e; cases e
        exact .inr ⟨a, o, rfl, p, k⟩
      | ref o =>
        obtain ⟨a, e, k⟩ := l.own i _ o q rfl
        rw [hv] at e; cases e
        exact .inr ⟨a, o, rfl, p, k⟩
theorem Pk.lst {ds : List D} {v : V} (l : Le G H) (h : Pk K cn G H (.lst ds) v) : ∃ a vs, v = .ref a ∧ H a = some (.lst vs) ∧ Reps K cn G ds vs := by
  rcases h with h | ⟨a, o, e, d, k⟩
  · unfold Rep at h
    obtain ⟨a, vs, e, q, r⟩ := h
    exact ⟨a, vs, e, l _ _ q, r⟩
  · cases o with
    | lst l' => cases d; obtain ⟨_, vs, q, r⟩ := k; exact ⟨a, vs, e, q, r⟩
    | dct l' => cases d
    | ins c ns l' => cases d
theorem Pk.rep {d : D} {v : V} (h : Pk K cn G H d v) (n1 : ∀ l, d ≠ .lst l) (n2 : ∀ c ns l, d ≠ .obj c ns l) : Rep K cn G d v := by
  rcases h with h | ⟨a, o, e, q, k⟩
  · exact h
  · cases o with
    | lst l' => cases q; exact absurd rfl (n1 _)
    | dct l' => cases q
    | ins c ns l' => cases q; exact absurd rfl (n2 _ _ _)
end
end DL
end

section
set_option maxRecDepth 100000
set_option maxHeartbeats 2000000
namespace DL
open PySem PySem.Spec L2
section
variable {K : PySem.W.Frag} {cn : String → Addr} {G H G1 H1 G2 H2 Hs Gs : Hp} {σ : St} {ρ ρ1 ρ2 ρs : Env}
/-- what freezing does: the heap stays -/
structure Fz (Hs : Hp) (σ : St) (G H : Hp) (ρ : Env) (G' : Hp) (ρ' : Env) : Prop where
  g : Le G G'
  n : ∀ a o, G' a = some o → G a = some o ∨ (H a = some o ∧ (Hs a = none ∨ ∃ (i : Nat) (w : Own), ρ[i]? = some (.own w) ∧ σ[i]? = some (some (.ref a))))
  so : ∀ (i : Nat) o', ρ'[i]? = some (.own o') → ρ[i]? = some (.own o')
  sr : ∀ (i : Nat) o', ρ'[i]? = some (.ref o') → ρ[i]? = some (.ref o')
theorem Fz.refl : Fz Hs σ G H ρ G ρ := ⟨Le.refl _, fun _ _ h => .inl h, fun _ _ h => h, fun _ _ h => h⟩
theorem Fz.trans (e : Fz Hs σ G H ρ G1 ρ1) (f : Fz Hs σ G1 H ρ1 G2 ρ2) : Fz Hs σ G H ρ G2 ρ2 where
  g := e.g.trans f.g
  n := fun a o h => by
    rcases f.n a o h with h | ⟨h, h2 | ⟨i, w, h1, h2⟩⟩
    · exact e.n a o h
    · exact .inr ⟨h, .inl h2⟩
    · exact .inr ⟨h, .inr ⟨i, w, e.so i w h1, h2⟩⟩
  so := fun i o h => e.so i o (f.so i o h)
  sr := fun i o h => e.sr i o (f.sr i o h)
theorem Ext.fz (e : Ext σ Gs Hs ρs G H ρ) (f : Fz Hs σ G H ρ G1 ρ1) : Ext σ Gs Hs ρs G1 H ρ1 where
  g := e.g.trans f.g
  n := fun a o h => by
    rcases f.n a o h with h | ⟨h, h2 | ⟨i, w, h1, h2⟩⟩
    · exact e.n a o h
    · exact .inr (.inl h2)
    · obtain ⟨o', q⟩ := e.so i w h1
      exact .inr (.inr ⟨i, o', q, h2⟩)
  h := e.h
  d := e.d
  so := fun i o h => e.so i o (f.so i o h)
  sr := fun i o h => e.sr i o (f.sr i o h)
theorem Fz.ownA (f : Fz Hs σ G H ρ G1 ρ1) {a : Addr} (h : OwnA σ ρ1 a) : OwnA σ ρ a := by
  obtain ⟨i, s, o, h1, h2, h3⟩ := h
  rcases Sl.hold_own h2 with rfl | rfl
  · exact ⟨i, _, o, f.so i o h1, rfl, h3⟩
  · exact ⟨i, _, o, f.sr i o h1, rfl, h3⟩
theorem set_get {ρ : Env} {i j : Nat} {s t : Sl} (h : (ρ.set i s)[j]? = some t) : (j = i ∧ t = s) ∨ (j ≠ i ∧ ρ[j]? = some t) := by
  by_cases e : j = i
  · subst e
    rw [List.getElem?_set] at h
    simp only [if_true] at h
    split at h
    · exact .inl ⟨rfl, by cases h; rfl⟩
    · cases h
  · rw [List.getElem?_set_ne (Ne.symm e)] at h
    exact .inr ⟨e, h⟩
/-- one value is kept from now on -/
theorem RepR.frz {r : R} {v : V} {d : D} (l : Rl K cn G H σ ρ) (h : RepR K cn Hs G H σ ρ v r) (p : r.frz ρ = some (d, ρ1)) :
    ∃ G1, Fz Hs σ G H ρ G1 ρ1 ∧ Rl K cn G1 H σ ρ1 ∧ Rep K cn G1 d v ∧ (∀ a u, G1 a = some u → G a = some u ∨ OwnA σ ρ a ∨ (v = .ref a ∧ ∃ o, r = .fre o)) := by
  have mk : ∀ {a : Addr} {o : Own} {d : D}, o.d = some d → OwnAt K cn G H a o → ∃ u, H a = some u ∧ G a = none ∧ Le G (upd G a u) ∧ Le (upd G a u) H ∧ Rep K cn (upd G a u) d (.ref a) := fun {a o d} od k => by
    have up : ∀ u, H a = some u → Le (upd G a u) H := fun u q b o e => by
      by_cases hb : b = a
      · subst hb; rw [upd_same] at e; cases e; exact q
      · rw [upd_ne hb] at e; exact l.gh b o e
    cases o with
    | lst ds =>
      cases od
      obtain ⟨n, vs, q, r⟩ := k
      refine ⟨_, q, n, Le.upd n, up _ q, ?_⟩
      unfold Rep
      exact ⟨a, vs, rfl, upd_same, Reps.mono (Le.upd n) _ _ r⟩
    | dct kvs => cases od
    | ins c ns ds =>
      cases od
      obtain ⟨n, dx, vs, q, z, r⟩ := k
      refine ⟨_, q, n, Le.upd n, up _ q, ?_⟩
      unfold Rep
      exact ⟨a, dx, vs, rfl, upd_same, z, Reps.mono (Le.upd n) _ _ r⟩
  cases r with
  | val d' => cases p; exact ⟨G, Fz.refl, l, h, fun a o q => .inl q⟩
  | fre o =>
    obtain ⟨a, ev, hn, k, no⟩ := h
    simp only [R.frz] at p
    cases od : o.d with
    | none => rw [od] at p; cases p
    | some d' =>
      rw [od] at p; cases p
      obtain ⟨u, hu, gn, l1, l2, r⟩ := mk od k
      have ne : ∀ b o w, OwnAt K cn G H b w → OwnA σ ρ b → (upd G a u) b = some o → False := fun b o w kb ob e => by
        by_cases hb : b = a
        · subst hb; exact no ob
        · rw [upd_ne hb, kb.some.1] at e; cases e
      refine ⟨upd G a u, ⟨l1, fun b o e => ?_, fun _ _ q => q, fun _ _ q => q⟩, ⟨l2, l.len, fun i d q => ?_, fun i s o q1 q2 => ?_, l.sep⟩, ev ▸ r, fun b o e => ?_⟩
      · by_cases hb : b = a
        · subst hb; rw [upd_same] at e; cases e; exact .inr ⟨hu, .inl hn⟩
        · rw [upd_ne hb] at e; exact .inl e
      · obtain ⟨v', e, r'⟩ := l.frz i d q
        exact ⟨v', e, Rep.mono l1 _ _ r'⟩
      · obtain ⟨b, e, kb⟩ := l.own i s o q1 q2
        refine ⟨b, e, kb.mono l1 ?_ fun _ z => z⟩
        cases z : (upd G a u) b with
        | none => rfl
        | some w => exact (ne b w o kb ⟨i, s, o, q1, q2, e⟩ z).elim
      · by_cases hb : b = a
        · subst hb; exact .inr (.inr ⟨ev, _, rfl⟩)
        · rw [upd_ne hb] at e; exact .inl e
  | al i =>
    have hv : σ[i]? = some (some v) := h
    simp only [R.frz] at p
    cases q : ρ[i]? with
    | none => rw [q] at p; cases p
    | some s =>
      rw [q] at p
      cases s with
      | no => cases p
      | ref o => cases p
      | frz d' =>
        cases p
        obtain ⟨v', e, r⟩ := l.frz i d q
        rw [hv] at e; cases e
        exact ⟨G, Fz.refl, l, r, fun a o q => .inl q⟩
      | own o =>
        cases od : o.d with
        | none => dsimp only at p; rw [od] at p; cases p
        | some d' =>
          dsimp only at p; rw [od] at p; cases p
          obtain ⟨a, e, k⟩ := l.own i _ _ q rfl
          rw [hv] at e; cases e
          obtain ⟨u, hu, gn, l1, l2, r⟩ := mk od k
          refine ⟨upd G a u, ⟨l1, fun b o e => ?_, fun j o' z => ?_, fun j o' z => ?_⟩, ⟨l2, by rw [List.length_set]; exact l.len, fun j d z => ?_, fun j s o z1 z2 => ?_, fun j j' s t o w b z1 z2 z3 z4 z5 z6 => ?_⟩, r, fun b o e => ?_⟩
          · by_cases hb : b = a
            · subst hb; rw [upd_same] at e; cases e; exact .inr ⟨hu, .inr ⟨i, _, q, hv⟩⟩
            · rw [upd_ne hb] at e; exact .inl e
          · rcases set_get z with ⟨_, z⟩ | ⟨_, z⟩
            · cases z
            · exact z
          · rcases set_get z with ⟨_, z⟩ | ⟨_, z⟩
            · cases z
            · exact z
          · rcases set_get z with ⟨ej, ez⟩ | ⟨_, z⟩
            · cases ez; subst ej; exact ⟨_, hv, r⟩
            · obtain ⟨v', e, r'⟩ := l.frz j d z
              exact ⟨v', e, Rep.mono l1 _ _ r'⟩
          · rcases set_get z1 with ⟨_, z⟩ | ⟨ne, z⟩
            · subst z; cases z2
            · obtain ⟨b, e, kb⟩ := l.own j s o z z2
              have hb : b ≠ a := fun y => ne (l.sep j i s _ o _ a z q z2 rfl (by rw [e, y]) hv)
              exact ⟨b, e, kb.mono l1 (by rw [upd_ne hb]; exact kb.some.1) fun _ z => z⟩
          · rcases set_get z1 with ⟨_, z⟩ | ⟨_, z1⟩
            · subst z; cases z3
            · rcases set_get z2 with ⟨_, z⟩ | ⟨_, z2⟩
              · subst z; cases z4
              · exact l.sep j j' s t o w b z1 z2 z3 z4 z5 z6
          · by_cases hb : b = a
            · subst hb; exact .inr (.inl ⟨i, _, _, q, rfl, hv⟩)
            · rw [upd_ne hb] at e; exact .inl e
/-- across a freezing -/
theorem RepR.fz {r : R} {v : V} (h : RepR K cn Hs G H σ ρ v r) (f : Fz Hs σ G H ρ G1 ρ1) (sep : ∀ a o, r = .fre o → v = .ref a → ∀ u, G1 a = some u → G a = some u) : RepR K cn Hs G1 H σ ρ1 v r := by
  cases r with
  | val d => exact Rep.mono f.g _ _ h
  | fre o =>
    obtain ⟨a, ev, n, k, no⟩ := h
    refine ⟨a, ev, n, k.mono f.g ?_ (fun u q => q), fun z => no (f.ownA z)⟩
    cases z : G1 a with
    | none => rfl
    | some w =>
      have := sep a o rfl ev w z
      rw [k.some.1] at this; cases this
  | al i => exact h
theorem RepRs.fz : ∀ {vs : List V} {rs : List R}, RepRs K cn Hs G H σ ρ vs rs → Fz Hs σ G H ρ G1 ρ1 → (∀ a u, G1 a = some u → G a = some u ∨ OwnA σ ρ a ∨ Apart (.ref a) vs rs) → RepRs K cn Hs G1 H σ ρ1 vs rs
  | [], rs, h, f, _ => by unfold RepRs at h ⊢; exact h
  | v :: vs, rs, h, f, sep => by
    unfold RepRs at h ⊢
    obtain ⟨r, rs', e, h1, h2, h3⟩ := h
    subst e
    refine ⟨r, rs', rfl, h1.fz f fun a o er ev u z => ?_, h2, RepRs.fz h3 f fun a u z => ?_⟩
    · rcases sep a u z with q | q | q
      · exact q
      · subst er
        obtain ⟨b, eb, _, _, no⟩ := h1
        rw [ev] at eb; cases eb
        exact absurd q no
      · exact absurd ev (q v r o (by rw [List.zip_cons_cons]; exact List.mem_cons_self) er)
    · rcases sep a u z with q | q | q
      · exact .inl q
      · exact .inr (.inl q)
      · exact .inr (.inr fun v' r' o' m => q v' r' o' (by rw [List.zip_cons_cons]; exact List.mem_cons_of_mem _ m))
theorem RepRs.len : ∀ {vs : List V} {rs : List R}, RepRs K cn Hs G H σ ρ vs rs → vs.length = rs.length
  | [], rs, h => by unfold RepRs at h; subst h; rfl
  | v :: vs, rs, h => by
    unfold RepRs at h
    obtain ⟨r, rs', e, _, _, h3⟩ := h
    rw [e, List.length_cons, List.length_cons, RepRs.len h3]
/-- all are kept from now on -/
theorem RepRs.frzs : ∀ {vs : List V} {rs : List R} {ds : List D} {G : Hp} {ρ ρ1 : Env}, Rl K cn G H σ ρ → RepRs K cn Hs G H σ ρ vs rs → frzs ρ rs = some (ds, ρ1) →
    ∃ G1, Fz Hs σ G H ρ G1 ρ1 ∧ Rl K cn G1 H σ ρ1 ∧ Reps K cn G1 ds vs
  | [], rs, ds, G, ρ, ρ1, l, h, p => by
    unfold RepRs at h
    subst h
    cases p
    exact ⟨G, Fz.refl, l, by unfold Reps; rfl⟩
  | v :: vs, rs, ds, G, ρ, ρ1, l, h, p => by
    unfold RepRs at h
    obtain ⟨r, rs', e, h1, h2, h3⟩ := h
    subst e
    simp only [DL.frzs] at p
    cases q : r.frz ρ with
    | none => rw [q] at p; cases p
    | some x =>
      obtain ⟨d, ρ2⟩ := x
      rw [q] at p
      dsimp only at p
      cases q2 : DL.frzs ρ2 rs' with
      | none => rw [q2] at p; cases p
      | some y =>
        obtain ⟨ds', ρ3⟩ := y
        rw [q2] at p; cases p
        obtain ⟨G2, f, l2, rd, nw⟩ := h1.frz l q
        have h3' : RepRs K cn Hs G2 H σ ρ2 vs rs' := h3.fz f fun a u z => by
          rcases nw a u z with z | z | ⟨z, o, er⟩
          · exact .inl z
          · exact .inr (.inl z)
          · exact .inr (.inr (by rw [← z]; exact h2 o er))
        obtain ⟨G3, f3, l3, rds⟩ := RepRs.frzs l2 h3' q2
        exact ⟨G3, f.trans f3, l3, by unfold Reps; exact ⟨v, vs, rfl, Rep.mono f3.g _ _ rd, rds⟩⟩
end
end DL
end

section
set_option maxRecDepth 100000
set_option maxHeartbeats 2000000
namespace DL
open PySem PySem.Spec L2
section
variable {K : PySem.W.Frag} {cn : String → Addr} {G H G1 H1 G2 H2 Hs Gs : Hp} {σ : L2.St} {ρ ρ1 ρ2 ρs : Env} {W : WX}
/-- a step that makes new things alone -/
structure New (G H G' H' : Hp) : Prop where
  g : Le G G'
  h : Le H H'
  gh : Le G' H'
  n : ∀ a o, G' a = some o → G a = some o ∨ H a = none
theorem New.refl (l : Le G H) : New G H G H := ⟨Le.refl _, Le.refl _, l, fun _ _ h => .inl h⟩
theorem New.ext (e : New G H G1 H1) : Ext σ G H ρ G1 H1 ρ := ⟨e.g, fun a o h => (e.n a o h).elim .inl fun z => .inr (.inl z), fun a o h _ => e.h a o h, (fun a h => by
  cases q : H a with
  | none => exact absurd q h
  | some u => rw [e.h a u q]; exact fun z => nomatch z), fun _ o h => ⟨o, h⟩, fun _ o h => ⟨o, h⟩⟩
theorem OwnAt.new {a : Addr} {o : Own} (h : OwnAt K cn G H a o) (e : New G H G1 H1) : OwnAt K cn G1 H1 a o := by
  obtain ⟨gn, u, hu, _⟩ := h.some
  refine h.mono e.g ?_ fun u q => e.h a u q
  cases q : G1 a with
  | none => rfl
  | some w => exact (e.n a w q).elim (fun z => by rw [gn] at z; cases z) fun z => by rw [hu] at z; cases z
theorem Rl.new (l : Rl K cn G H σ ρ) (e : New G H G1 H1) : Rl K cn G1 H1 σ ρ :=
  ⟨e.gh, l.len, fun i d q => let ⟨v, h, r⟩ := l.frz i d q; ⟨v, h, Rep.mono e.g _ _ r⟩, fun i s o q1 q2 => let ⟨a, h, k⟩ := l.own i s o q1 q2; ⟨a, h, k.new e⟩, l.sep⟩
/-- a new object, kept -/
theorem New.keep {a : Addr} {u : HO} (l : Le G H) (n : H a = none) : New G H (upd G a u) (upd H a u) := by
  have gn : G a = none := by
    cases q : G a with
    | none => rfl
    | some w => rw [l a w q] at n; cases n
  refine ⟨Le.upd gn, Le.upd n, l.upd2, fun b o h => ?_⟩
  by_cases hb : b = a
  · subst hb; exact .inr n
  · rw [upd_ne hb] at h; exact .inl h
/-- a new object, a name's own -/
theorem New.own {a : Addr} {u : HO} (l : Le G H) (n : H a = none) : New G H G (upd H a u) ∧ G a = none := by
  have gn : G a = none := by
    cases q : G a with
    | none => rfl
    | some w => rw [l a w q] at n; cases n
  exact ⟨⟨Le.refl _, Le.upd n, l.updN gn, fun _ _ h => .inl h⟩, gn⟩
/-- what a call hands back -/
def RvR (K : PySem.W.Frag) (cn : String → Addr) (H G' H' : Hp) (v : V) : Rv → Prop
  | .val d => Rep K cn G' d v
  | .fre o => ∃ a, v = .ref a ∧ H a = none ∧ OwnAt K cn G' H' a o
theorem RvR.r {r : Rv} {v : V} (l : Rl K cn G H σ ρ) (h : RvR K cn H G1 H1 v r) : RepR K cn H G1 H1 σ ρ v r.r := by
  cases r with
  | val d => exact h
  | fre o =>
    obtain ⟨a, e, n, k⟩ := h
    refine ⟨a, e, n, k, fun ⟨i, s, o', q1, q2, q3⟩ => ?_⟩
    obtain ⟨b, e2, k2⟩ := l.own i s o' q1 q2
    rw [q3] at e2; cases e2
    obtain ⟨_, u, hu, _⟩ := k2.some
    rw [n] at hu; cases hu
/-! ### sequences of readings -/
theorem den_bind {t : TE} {f : DE} {k : R → Env → Option Er} {R' : V → Hp → Prop} {Q : VK} (h : Den K cn W t f) (l : Rl K cn G H σ ρ) {e : Er} (q : bE f k ρ = some e) (p : PostE K cn W σ G H ρ Q e)
    (c : ∀ G1 H1 ρ1 v r, Ext σ G H ρ G1 H1 ρ1 → Rl K cn G1 H1 σ ρ1 → RepR K cn H G1 H1 σ ρ1 v r → k r ρ1 = some e → R' v H1) : t σ H R' := by
  unfold bE at q
  cases z : f ρ with
  | none => rw [z] at q; cases q
  | some x =>
    rw [z] at q
    refine h G H σ ρ R' l x z ?_
    cases x with
    | ok r ρ1 => exact fun G1 H1 v e1 l1 r1 => c G1 H1 ρ1 v r e1 l1 r1 q
    | ex x ρ1 => cases q; exact p
theorem den_bindA {t : TA} {f : DA} {k : List R → Env → Option Er} {R' : List V → Hp → Prop} {Q : VK} (h : DenA K cn W t f) (l : Rl K cn G H σ ρ) {e : Er} (q : bA f k ρ = some e) (p : PostE K cn W σ G H ρ Q e)
    (c : ∀ G1 H1 ρ1 vs rs, Ext σ G H ρ G1 H1 ρ1 → Rl K cn G1 H1 σ ρ1 → RepRs K cn H G1 H1 σ ρ1 vs rs → k rs ρ1 = some e → R' vs H1) : t σ H R' := by
  unfold bA at q
  cases z : f ρ with
  | none => rw [z] at q; cases q
  | some x =>
    rw [z] at q
    refine h G H σ ρ R' l x z ?_
    cases x with
    | ok r ρ1 => exact fun G1 H1 v e1 l1 r1 => c G1 H1 ρ1 v r e1 l1 r1 q
    | ex x ρ1 => cases q; exact p
/-! ### names, constants -/
theorem d_var {i : Nat} : Den K cn W (tVar i) (eVar i) := fun G H σ ρ Q l e q p => by
  unfold eVar at q
  cases z : ρ[i]? with
  | none => rw [z] at q; cases q
  | some s =>
    rw [z] at q
    have own : ∀ o, s.hold = some o → e = .ok (.al i) ρ → tVar i σ H Q := fun o ho he => by
      subst he
      obtain ⟨a, ha, _⟩ := l.own i s o z ho
      exact ⟨_, ha, p G H _ Ext.refl l ha⟩
    cases s with
    | no => cases q
    | frz d =>
      cases q
      obtain ⟨v, hv, r⟩ := l.frz i d z
      exact ⟨v, hv, p G H v Ext.refl l r⟩
    | own o => cases q; exact own o rfl rfl
    | ref o => cases q; exact own o rfl rfl
theorem d_c {v : V} {d : D} (h : ∀ G, Rep K cn G d v) : Den K cn W (tC v) (eC d) := fun G H σ ρ Q l e q p => by
  cases q
  exact p G H v Ext.refl l (h G)
theorem d_int {i : Int} : Den K cn W (tC (.int i)) (eC (.int i)) := d_c fun _ => by unfold Rep; rfl
theorem d_bl {b : Bool} : Den K cn W (tC (.bl b)) (eC (.bl b)) := d_c fun _ => by unfold Rep; rfl
theorem d_non : Den K cn W (tC .non) (eC .non) := d_c fun _ => by unfold Rep; rfl
theorem d_str {s : String} : Den K cn W (tC (.str (Str.ofString s))) (eC (.str s)) := d_c fun _ => by unfold Rep; rfl
/-! ### operators -/
def DOp (K : PySem.W.Frag) (cn : String → Addr) (r : R2) (op : D → D → Option Rv) : Prop := ∀ (G H : Hp) (x y : V) (dx dy : D) (z : Rv) (Q : VK), Le G H → Pk K cn G H dx x → Pk K cn G H dy y → op dx dy = some z →
  (∀ G' H' v, New G H G' H' → RvR K cn H G' H' v z → Q v H') → r x y H Q
def DUn (K : PySem.W.Frag) (cn : String → Addr) (r : V → Hp → VK → Prop) (op : D → Option Rv) : Prop := ∀ (G H : Hp) (x : V) (dx : D) (z : Rv) (Q : VK), Le G H → Pk K cn G H dx x → op dx = some z →
  (∀ G' H' v, New G H G' H' → RvR K cn H G' H' v z → Q v H') → r x H Q
inductive Pks (K : PySem.W.Frag) (cn : String → Addr) (G H : Hp) : List D → List V → Prop
  | nil : Pks K cn G H [] []
  | cons {d ds v vs} : Pk K cn G H d v → Pks K cn G H ds vs → Pks K cn G H (d :: ds) (v :: vs)
def DCl (K : PySem.W.Frag) (cn : String → Addr) (r : List V → Hp → VK → Prop) (f : List D → Option Rv) : Prop := ∀ (G H : Hp) (vs : List V) (ds : List D) (z : Rv) (Q : VK), Le G H → Pks K cn G H ds vs → f ds = some z →
  (∀ G' H' v, New G H G' H' → RvR K cn H G' H' v z → Q v H') → r vs H Q
theorem RepRs.peeks : ∀ {vs : List V} {rs : List R} {ds : List D}, Rl K cn G H σ ρ → RepRs K cn Hs G H σ ρ vs rs → peeks ρ rs = some ds → Pks K cn G H ds vs
  | [], rs, ds, l, h, p => by
    unfold RepRs at h
    subst h
    cases p
    exact .nil
  | v :: vs, rs, ds, l, h, p => by
    unfold RepRs at h
    obtain ⟨r, rs', e, h1, h2, h3⟩ := h
    subst e
    simp only [DL.peeks] at p
    cases q : r.peek ρ with
    | none => rw [q] at p; cases p
    | some d =>
      rw [q] at p
      dsimp only at p
      cases q2 : DL.peeks ρ rs' with
      | none => rw [q2] at p; cases p
      | some ds' =>
        rw [q2] at p
        cases p
        exact .cons (h1.peek l q) (RepRs.peeks l h3 q2)
/-- the end of an operator: new things alone -/
theorem post_new {z : Rv} {Q : VK} {Gs Hs : Hp} {ρs : Env} (e : Ext σ Gs Hs ρs G H ρ) (l : Rl K cn G H σ ρ) (p : PostE K cn W σ Gs Hs ρs Q (.ok z.r ρ)) :
    ∀ G' H' v, New G H G' H' → RvR K cn H G' H' v z → Q v H' := fun G' H' v n r => p G' H' v (e.trans n.ext) (l.new n) ((r.r l).back e.d)
theorem d_op {r : R2} {op : D → D → Option Rv} {ta tb : TE} {fa fb : DE} (o : DOp K cn r op) (ha : Den K cn W ta fa) (hb : Den K cn W tb fb) : Den K cn W (tOp r ta tb) (eOp op fa fb) := fun G H σ ρ Q l e q p => by
  refine den_bind (t := ta) ha l q p fun G1 H1 ρ1 x rx e1 l1 r1 q1 => ?_
  have p1 := PostE.back e1 p
  refine den_bind (t := tb) hb l1 q1 p1 fun G2 H2 ρ2 y ry e2 l2 r2 q2 => ?_
  have p2 := PostE.back e2 p1
  unfold op2 at q2
  cases z1 : rx.peek ρ2 with
  | none => rw [z1] at q2; cases q2
  | some dx =>
    rw [z1] at q2; dsimp only at q2
    cases z2 : ry.peek ρ2 with
    | none => rw [z2] at q2; cases q2
    | some dy =>
      rw [z2] at q2; dsimp only at q2
      cases z3 : op dx dy with
      | none => rw [z3] at q2; cases q2
      | some z =>
        rw [z3] at q2
        cases q2
        exact o G2 H2 x y dx dy z Q l2.gh ((r1.ext e2).peek l2 z1) (r2.peek l2 z2) z3 (post_new Ext.refl l2 p2)
theorem d_un {r : V → Hp → VK → Prop} {op : D → Option Rv} {ta : TE} {fa : DE} (o : DUn K cn r op) (ha : Den K cn W ta fa) : Den K cn W (tUn r ta) (eUn op fa) := fun G H σ ρ Q l e q p => by
  refine den_bind (t := ta) ha l q p fun G1 H1 ρ1 x rx e1 l1 r1 q1 => ?_
  have p1 := PostE.back e1 p
  unfold op1 at q1
  cases z1 : rx.peek ρ1 with
  | none => rw [z1] at q1; cases q1
  | some dx =>
    rw [z1] at q1; dsimp only at q1
    cases z3 : op dx with
    | none => rw [z3] at q1; cases q1
    | some z =>
      rw [z3] at q1
      cases q1
      exact o G1 H1 x dx z Q l1.gh (r1.peek l1 z1) z3 (post_new Ext.refl l1 p1)
theorem d_cb {r : List V → Hp → VK → Prop} {f : List D → Option Rv} {t : TA} {fa : DA} (o : DCl K cn r f) (ha : DenA K cn W t fa) : Den K cn W (tCB r t) (eCB f fa) := fun G H σ ρ Q l e q p => by
  refine den_bindA (t := t) ha l q p fun G1 H1 ρ1 vs rs e1 l1 r1 q1 => ?_
  have p1 := PostE.back e1 p
  cases z1 : peeks ρ1 rs with
  | none => rw [z1] at q1; cases q1
  | some ds =>
    rw [z1] at q1; dsimp only at q1
    cases z3 : f ds with
    | none => rw [z3] at q1; cases q1
    | some z =>
      rw [z3] at q1
      cases q1
      exact o G1 H1 vs ds z Q l1.gh (r1.peeks l1 z1) z3 (post_new Ext.refl l1 p1)
/-! ### and, or, not -/
theorem rep_bl {b : Bool} {v : V} (h : Rep K cn G (.bl b) v) : v = .bl b := by unfold Rep at h; exact h
theorem rep_int {i : Int} {v : V} (h : Rep K cn G (.int i) v) : v = .int i := by unfold Rep at h; exact h
theorem RepR.bl {b : Bool} {v : V} (h : RepR K cn Hs G H σ ρ v (.val (.bl b))) : v = .bl b := rep_bl (show Rep K cn G (.bl b) v from h)
theorem RepR.int {i : Int} {v : V} (h : RepR K cn Hs G H σ ρ v (.val (.int i))) : v = .int i := rep_int (show Rep K cn G (.int i) v from h)
theorem RvR.bl {b : Bool} {v : V} (h : RvR K cn Hs G H v (.val (.bl b))) : v = .bl b := rep_bl (show Rep K cn G (.bl b) v from h)
theorem rep_blI {b : Bool} : Rep K cn G (.bl b) (.bl b) := by unfold Rep; rfl
theorem RepR.blI {b : Bool} : RepR K cn Hs G H σ ρ (.bl b) (.val (.bl b)) := show Rep K cn G (.bl b) (.bl b) from rep_blI
theorem rep_intI {i : Int} : Rep K cn G (.int i) (.int i) := by unfold Rep; rfl
theorem d_and {ta tb : TE} {fa fb : DE} (ha : Den K cn W ta fa) (hb : Den K cn W tb fb) : Den K cn W (tAndV ta tb) (eAnd fa fb) := fun G H σ ρ Q l e q p => by
  refine den_bind (t := ta) ha l q p fun G1 H1 ρ1 x rx e1 l1 r1 q1 => ?_
  have p1 := PostE.back e1 p
  cases rx with
  | val d => cases d with
    | bl c =>
      refine ⟨c, r1.bl, ?_⟩
      cases c with
      | true => exact hb G1 H1 σ ρ1 Q l1 e q1 p1
      | false => cases q1; exact p1 G1 H1 _ Ext.refl l1 RepR.blI
    | _ => cases q1
  | fre o => cases q1
  | al i => cases q1
theorem d_or {ta tb : TE} {fa fb : DE} (ha : Den K cn W ta fa) (hb : Den K cn W tb fb) : Den K cn W (tOrV ta tb) (eOr fa fb) := fun G H σ ρ Q l e q p => by
  refine den_bind (t := ta) ha l q p fun G1 H1 ρ1 x rx e1 l1 r1 q1 => ?_
  have p1 := PostE.back e1 p
  cases rx with
  | val d => cases d with
    | bl c =>
      refine ⟨c, r1.bl, ?_⟩
      cases c with
      | false => exact hb G1 H1 σ ρ1 Q l1 e q1 p1
      | true => cases q1; exact p1 G1 H1 _ Ext.refl l1 RepR.blI
    | _ => cases q1
  | fre o => cases q1
  | al i => cases q1
theorem d_not {ta : TE} {fa : DE} (ha : Den K cn W ta fa) : Den K cn W (tNotV ta) (eNot fa) := fun G H σ ρ Q l e q p => by
  refine den_bind (t := ta) ha l q p fun G1 H1 ρ1 x rx e1 l1 r1 q1 => ?_
  have p1 := PostE.back e1 p
  cases rx with
  | val d => cases d with
    | bl c => cases q1; exact ⟨c, r1.bl, p1 G1 H1 _ Ext.refl l1 RepR.blI⟩
    | _ => cases q1
  | fre o => cases q1
  | al i => cases q1
theorem d_chain {r r' : R2} {op op' : D → D → Option Rv} {ta tb tc : TE} {fa fb fc : DE} (o : DOp K cn r op) (o' : DOp K cn r' op') (ha : Den K cn W ta fa) (hb : Den K cn W tb fb) (hc : Den K cn W tc fc) :
    Den K cn W (tChain r r' ta tb tc) (eChain op op' fa fb fc) := fun G H σ ρ Q l e q p => by
  refine den_bind (t := ta) ha l q p fun G1 H1 ρ1 x rx e1 l1 r1 q1 => ?_
  have p1 := PostE.back e1 p
  refine den_bind (t := tb) hb l1 q1 p1 fun G2 H2 ρ2 y ry e2 l2 r2 q2 => ?_
  have p2 := PostE.back e2 p1
  cases z1 : rx.peek ρ2 with
  | none => rw [z1] at q2; cases q2
  | some dx =>
    rw [z1] at q2; dsimp only at q2
    cases ry with
    | fre o => cases q2
    | al i => cases q2
    | val dy =>
      dsimp only at q2
      cases z3 : op dx dy with
      | none => rw [z3] at q2; cases q2
      | some z =>
        rw [z3] at q2
        refine o G2 H2 x y dx dy z _ l2.gh ((r1.ext e2).peek l2 z1) (.inl r2) z3 fun G3 H3 v n rv => ?_
        have l3 := l2.new n
        cases z with
        | fre o => cases q2
        | val d => cases d with
          | bl k =>
            refine ⟨k, rv.bl, ?_⟩
            have p3 := PostE.back (n.ext (σ := σ) (ρ := ρ2)) p2
            cases k with
            | false => cases q2; exact p3 G3 H3 _ Ext.refl l3 RepR.blI
            | true =>
              dsimp only at q2
              refine den_bind (t := tc) hc l3 q2 p3 fun G4 H4 ρ4 z rz e4 l4 r4 q4 => ?_
              have p4 := PostE.back e4 p3
              have r2' : Rep K cn G4 dy y := Rep.mono e4.g _ _ (Rep.mono n.g _ _ r2)
              cases z4 : rz.peek ρ4 with
              | none => rw [z4] at q4; cases q4
              | some dz =>
                rw [z4] at q4; dsimp only at q4
                cases z5 : op' dy dz with
                | none => rw [z5] at q4; cases q4
                | some z6 =>
                  rw [z5] at q4
                  refine o' G4 H4 y z dy dz z6 Q l4.gh (.inl r2') (r4.peek l4 z4) z5 ?_
                  cases z6 with
                  | fre o => cases q4
                  | val d => cases d with
                    | bl k => cases q4; exact post_new (z := .val (.bl k)) Ext.refl l4 p4
                    | _ => cases q4
          | _ => cases q2
end
end DL
end

section
set_option maxRecDepth 100000
set_option maxHeartbeats 2000000
namespace DL
open PySem PySem.Spec L2
section
variable {K : PySem.W.Frag} {cn : String → Addr} {G H G1 H1 G2 H2 Hs Gs : Hp} {σ : L2.St} {ρ ρ1 ρ2 ρs : Env} {W : WX}
/-! ### arguments -/
theorem d_nil : DenA K cn W tNil aNil := fun G H σ ρ Q l e q p => by
  cases q
  exact p G H [] Ext.refl l (by unfold RepRs; rfl)
theorem RepR.alive {r : R} {v : V} {a : Addr} {o : Own} (h : RepR K cn Hs G H σ ρ v r) (e : r = .fre o) (ev : v = .ref a) : H a ≠ none := by
  subst e
  obtain ⟨b, eb, _, k, _⟩ := h
  rw [ev] at eb; cases eb
  obtain ⟨_, u, hu, _⟩ := k.some
  rw [hu]; exact fun z => nomatch z
theorem RepR.young {r : R} {v : V} {a : Addr} {o : Own} (h : RepR K cn Hs G H σ ρ v r) (e : r = .fre o) (ev : v = .ref a) : Hs a = none := by
  subst e
  obtain ⟨b, eb, n, k, _⟩ := h
  rw [ev] at eb; cases eb
  exact n
theorem RepRs.young : ∀ {vs : List V} {rs : List R} {v : V} {r : R} {o : Own} {a : Addr}, RepRs K cn Hs G H σ ρ vs rs → (v, r) ∈ vs.zip rs → r = .fre o → v = .ref a → Hs a = none
  | [], rs, v, r, o, a, h, m, _, _ => by cases m
  | w :: ws, rs, v, r, o, a, h, m, e, ev => by
    unfold RepRs at h
    obtain ⟨r', rs', e', h1, h2, h3⟩ := h
    subst e'
    rw [List.zip_cons_cons] at m
    rcases List.mem_cons.mp m with z | z
    · cases z
      exact h1.young e ev
    · exact RepRs.young h3 z e ev
theorem d_cons {te : TE} {ta : TA} {f : DE} {fa : DA} (he : Den K cn W te f) (ha : DenA K cn W ta fa) : DenA K cn W (tCons te ta) (aCons f fa) := fun G H σ ρ Q l e q p => by
  unfold aCons at q
  cases z : f ρ with
  | none => rw [z] at q; cases q
  | some x =>
    rw [z] at q
    refine he G H σ ρ _ l x z ?_
    cases x with
    | ex x ρ1 => cases q; exact p
    | ok r ρ1 =>
      dsimp only at q
      refine fun G1 H1 v e1 l1 r1 => ?_
      cases z2 : fa ρ1 with
      | none => rw [z2] at q; cases q
      | some y =>
        rw [z2] at q
        refine ha G1 H1 σ ρ1 _ l1 y z2 ?_
        cases y with
        | ex x ρ2 => cases q; exact fun G2 H2 d e2 l2 r2 => p G2 H2 d (e1.trans e2) l2 r2
        | ok rs ρ2 =>
          cases q
          refine fun G2 H2 vs e2 l2 r2 => p G2 H2 (v :: vs) (e1.trans e2) l2 ?_
          unfold RepRs
          refine ⟨r, rs, rfl, r1.ext e2, fun o eo v' r' o' hm er ev => ?_, r2.back e1.d⟩
          -- a new object of the first is older than those of the rest
          subst eo
          obtain ⟨a, ea, n, k, no⟩ := r1
          have al : H1 a ≠ none := by
            obtain ⟨_, u, hu, _⟩ := k.some
            rw [hu]; exact fun z => nomatch z
          exact al (RepRs.young r2 hm er (ev.trans ea))
/-! ### tuples and lists written out -/
theorem Reps.length : ∀ {ds : List D} {vs : List V}, Reps K cn G ds vs → vs.length = ds.length
  | [], vs, h => by unfold Reps at h; subst h; rfl
  | d :: ds, vs, h => by
    unfold Reps at h
    obtain ⟨v, us, e, _, q⟩ := h
    rw [e, List.length_cons, List.length_cons, Reps.length q]
theorem line_of {n : Nat} (h : n ≤ 1000000) : n ≤ sizeLine := Nat.le_trans h (by rw [sizeLine_eq]; decide)
theorem line_lt {n : Nat} (h : n < 1000000) : n < sizeLine := Nat.lt_of_lt_of_le h (by rw [sizeLine_eq]; decide)
theorem d_tup {ta : TA} {fa : DA} (ha : DenA K cn W ta fa) : Den K cn W (tTup ta) (eTup fa) := fun G H σ ρ Q l e q p => by
  refine den_bindA (t := ta) ha l q p fun G1 H1 ρ1 vs rs e1 l1 r1 q1 => ?_
  have p1 := PostE.back e1 p
  cases z : frzs ρ1 rs with
  | none => rw [z] at q1; cases q1
  | some y =>
    obtain ⟨ds, ρ2⟩ := y
    rw [z] at q1; dsimp only at q1
    split at q1
    · rename_i hl
      cases q1
      obtain ⟨G2, f, l2, rd⟩ := r1.frzs l1 z
      have hz := rd.length
      refine ⟨by rw [hz]; exact line_of hl, fun a na => ?_⟩
      have nw := New.keep (u := .tup vs) l2.gh na
      refine p (upd G2 a (.tup vs)) (upd H1 a (.tup vs)) (.ref a) ((e1.fz f).trans nw.ext) (l2.new nw) ?_
      show Rep K cn _ (.tup ds) (.ref a)
      unfold Rep
      exact ⟨a, vs, rfl, .inl (.inl upd_same), Reps.mono nw.g _ _ rd⟩
    · cases q1
theorem d_lst {ta : TA} {fa : DA} (ha : DenA K cn W ta fa) : Den K cn W (tLst ta) (eLst fa) := fun G H σ ρ Q l e q p => by
  refine den_bindA (t := ta) ha l q p fun G1 H1 ρ1 vs rs e1 l1 r1 q1 => ?_
  have p1 := PostE.back e1 p
  cases z : frzs ρ1 rs with
  | none => rw [z] at q1; cases q1
  | some y =>
    obtain ⟨ds, ρ2⟩ := y
    rw [z] at q1; dsimp only at q1
    split at q1
    · rename_i hl
      cases q1
      obtain ⟨G2, f, l2, rd⟩ := r1.frzs l1 z
      have hz := rd.length
      refine ⟨by rw [hz]; exact line_of hl, fun a na => ?_⟩
      obtain ⟨nw, gn⟩ := New.own (u := .lst vs) l2.gh na
      have l3 := l2.new nw
      have rv : RvR K cn H1 G2 (upd H1 a (.lst vs)) (.ref a) (.fre (.lst ds)) := ⟨a, rfl, na, gn, vs, upd_same, rd⟩
      exact p G2 (upd H1 a (.lst vs)) (.ref a) ((e1.fz f).trans nw.ext) l3 ((rv.r l2).back e1.d)
    · cases q1
theorem d_dct : Den K cn W tDNewK eDct := fun G H σ ρ Q l e q p => by
  cases q
  intro a na
  obtain ⟨nw, gn⟩ := New.own (u := .dK []) l.gh na
  have rv : RvR K cn H G (upd H a (.dK [])) (.ref a) (.fre (.dct [])) := ⟨a, rfl, na, gn, [], upd_same, rfl, by unfold Reps; rfl⟩
  exact p G _ _ nw.ext (l.new nw) (rv.r l)
/-! ### calls -/
def PostF (K : PySem.W.Frag) (cn : String → Addr) (G H : Hp) (Q : VK) (E : XK) : Fo → Prop
  | .ret r => ∀ G' H' v, New G H G' H' → RvR K cn H G' H' v r → Q v H'
  | .ex x => ∀ G' H' d, New G H G' H' → ExR K cn G' H' x d → E (.ref (cn x.cls)) d H'
/-- the promise of a def that keeps what is handed in -/
def spD (K : PySem.W.Frag) (cn : String → Addr) (F : DF) : Sp := fun vs H Q E => ∃ G ds fo, Le G H ∧ Reps K cn G ds vs ∧ F ds = some fo ∧ PostF K cn G H Q E fo
/-- a step that changes the object at a besides -/
structure NewM (a : Addr) (G H G' H' : Hp) : Prop where
  g : Le G G'
  h : ∀ b o, b ≠ a → H b = some o → H' b = some o
  gh : Le G' H'
  n : ∀ b o, G' b = some o → G b = some o ∨ H b = none
def PostM (K : PySem.W.Frag) (cn : String → Addr) (a : Addr) (o' : Own) (G H : Hp) (Q : VK) (E : XK) : Fo → Prop
  | .ret r => ∀ G' H' v, NewM a G H G' H' → OwnAt K cn G' H' a o' → RvR K cn H G' H' v r → Q v H'
  | .ex x => ∀ G' H' d, NewM a G H G' H' → OwnAt K cn G' H' a o' → ExR K cn G' H' x d → E (.ref (cn x.cls)) d H'
def spM (K : PySem.W.Frag) (cn : String → Addr) (F : DM) : Sp := fun vs H Q E => ∃ G a o us ds fo o', vs = .ref a :: us ∧ Le G H ∧ OwnAt K cn G H a o ∧ Reps K cn G ds us ∧ F o ds = some (fo, o') ∧ PostM K cn a o' G H Q E fo
/-- a call, what it raises is wished for at the slots -/
def tCl (sp : Sp) (W : WX) (t : TA) : TE := fun σ H Q => t σ H fun vs H1 => sp vs H1 Q fun cls d H' => W cls d σ H'
theorem d_call {F : DF} {t : TA} {fa : DA} (ha : DenA K cn W t fa) : Den K cn W (tCl (spD K cn F) W t) (eCall F fa) := fun G H σ ρ Q l e q p => by
  refine den_bindA (t := t) ha l q p fun G1 H1 ρ1 vs rs e1 l1 r1 q1 => ?_
  cases z : frzs ρ1 rs with
  | none => rw [z] at q1; cases q1
  | some y =>
    obtain ⟨ds, ρ2⟩ := y
    rw [z] at q1; dsimp only at q1
    obtain ⟨G2, f, l2, rd⟩ := r1.frzs l1 z
    have e2 := e1.fz f
    cases z2 : F ds with
    | none => rw [z2] at q1; cases q1
    | some fo =>
      rw [z2] at q1
      refine ⟨G2, ds, fo, l2.gh, rd, z2, ?_⟩
      cases fo with
      | ret r => cases q1; exact fun G3 H3 v n rv => p G3 H3 v (e2.trans n.ext) (l2.new n) ((rv.r l2).back e1.d)
      | ex x => cases q1; exact fun G3 H3 d n xr => p G3 H3 d (e2.trans n.ext) (l2.new n) xr
/-- behind a changing call -/
theorem Rl.newM {a : Addr} {i : Nat} {o' : Own} {mk : Own → Sl} (l : Rl K cn G H σ ρ) (hi : ρ[i]? = some .no) (hs : σ[i]? = some (some (.ref a))) (no : ¬ OwnA σ ρ a) (n : NewM a G H G1 H1) (k : OwnAt K cn G1 H1 a o') (hm : (mk o').hold = some o') (hf : ∀ d, mk o' ≠ .frz d) :
    Rl K cn G1 H1 σ (ρ.set i (mk o')) := by
  refine ⟨n.gh, by rw [List.length_set]; exact l.len, fun j d z => ?_, fun j s o z1 z2 => ?_, fun j j' s t o u b z1 z2 z3 z4 z5 z6 => ?_⟩
  · rcases set_get z with ⟨_, z⟩ | ⟨_, z⟩
    · exact absurd z.symm (hf d)
    · obtain ⟨v, e, r⟩ := l.frz j d z
      exact ⟨v, e, Rep.mono n.g _ _ r⟩
  · rcases set_get z1 with ⟨ej, z⟩ | ⟨ne, z⟩
    · subst ej; subst z
      rw [hm] at z2; cases z2
      exact ⟨a, hs, k⟩
    · obtain ⟨b, e, kb⟩ := l.own j s o z z2
      have hb : b ≠ a := fun y => no ⟨j, s, o, z, z2, by rw [e, y]⟩
      refine ⟨b, e, kb.mono n.g ?_ fun u q => n.h b u hb q⟩
      obtain ⟨gn, u, hu, _⟩ := kb.some
      cases q : G1 b with
      | none => rfl
      | some w => exact (n.n b w q).elim (fun z => by rw [gn] at z; cases z) fun z => by rw [hu] at z; cases z
  · rcases set_get z1 with ⟨e1, y1⟩ | ⟨n1, y1⟩
    · rcases set_get z2 with ⟨e2, y2⟩ | ⟨n2, y2⟩
      · rw [e1, e2]
      · subst e1
        rw [hs] at z5; cases z5
        exact absurd ⟨j', t, u, y2, z4, z6⟩ no
    · rcases set_get z2 with ⟨e2, y2⟩ | ⟨n2, y2⟩
      · subst e2
        rw [hs] at z6; cases z6
        exact absurd ⟨j, s, o, y1, z3, z5⟩ no
      · exact l.sep j j' s t o u b y1 y2 z3 z4 z5 z6
/-- the slot is given away for a while -/
theorem Rl.lend {i : Nat} {s : Sl} (l : Rl K cn G H σ ρ) : Rl K cn G H σ (ρ.set i .no) := by
  refine ⟨l.gh, by rw [List.length_set]; exact l.len, fun j d z => ?_, fun j s o z1 z2 => ?_, fun j j' s t o u b z1 z2 z3 z4 z5 z6 => ?_⟩
  · rcases set_get z with ⟨_, z⟩ | ⟨_, z⟩
    · cases z
    · exact l.frz j d z
  · rcases set_get z1 with ⟨_, z⟩ | ⟨_, z⟩
    · subst z; cases z2
    · exact l.own j s o z z2
  · rcases set_get z1 with ⟨_, z⟩ | ⟨_, y1⟩
    · subst z; cases z3
    · rcases set_get z2 with ⟨_, z⟩ | ⟨_, y2⟩
      · subst z; cases z4
      · exact l.sep j j' s t o u b y1 y2 z3 z4 z5 z6
end
end DL
end

section
set_option maxRecDepth 100000
set_option maxHeartbeats 2000000
namespace DL
open PySem PySem.Spec L2
section
variable {K : PySem.W.Frag} {cn : String → Addr} {G H G1 H1 G2 H2 Hs Gs : Hp} {σ : L2.St} {ρ ρ1 ρ2 ρs : Env} {W : WX}
theorem OwnA.lend {i : Nat} {a : Addr} (h : OwnA σ (ρ.set i .no) a) : OwnA σ ρ a ∧ ∃ j s o, j ≠ i ∧ ρ[j]? = some s ∧ Sl.hold s = some o ∧ σ[j]? = some (some (.ref a)) := by
  obtain ⟨j, s, o, h1, h2, h3⟩ := h
  rcases set_get h1 with ⟨_, z⟩ | ⟨ne, z⟩
  · subst z; cases h2
  · exact ⟨⟨j, s, o, z, h2, h3⟩, j, s, o, ne, z, h2, h3⟩
theorem RepR.lend {i : Nat} {r : R} {v : V} (h : RepR K cn Hs G H σ ρ v r) : RepR K cn Hs G H σ (ρ.set i .no) v r := by
  cases r with
  | val d => exact h
  | fre o => obtain ⟨a, e, n, k, no⟩ := h; exact ⟨a, e, n, k, fun z => no z.lend.1⟩
  | al j => exact h
theorem RepRs.lend {i : Nat} : ∀ {vs : List V} {rs : List R}, RepRs K cn Hs G H σ ρ vs rs → RepRs K cn Hs G H σ (ρ.set i .no) vs rs
  | [], rs, h => by unfold RepRs at h ⊢; exact h
  | v :: vs, rs, h => by
    unfold RepRs at h ⊢
    obtain ⟨r, rs', e, h1, h2, h3⟩ := h
    exact ⟨r, rs', e, h1.lend, h2, RepRs.lend h3⟩
theorem frz_no {i : Nat} {r : R} {d : D} (p : r.frz ρ = some (d, ρ1)) (h : ρ[i]? = some .no) : ρ1[i]? = some .no := by
  cases r with
  | val d' => cases p; exact h
  | fre o =>
    simp only [R.frz] at p
    split at p
    · cases p; exact h
    · cases p
  | al j =>
    simp only [R.frz] at p
    split at p
    · rename_i o ho
      split at p
      · cases p
        have hj : j ≠ i := fun z => by rw [z, h] at ho; cases ho
        rw [List.getElem?_set_ne hj]
        exact h
      · cases p
    · cases p; exact h
    · cases p
theorem frzs_no {i : Nat} : ∀ {rs : List R} {ds : List D} {ρ ρ1 : Env}, frzs ρ rs = some (ds, ρ1) → ρ[i]? = some .no → ρ1[i]? = some .no
  | [], ds, ρ, ρ1, p, h => by cases p; exact h
  | r :: rs, ds, ρ, ρ1, p, h => by
    simp only [DL.frzs] at p
    split at p
    · rename_i d ρ2 q
      split at p
      · rename_i ds' ρ3 q2
        cases p
        exact frzs_no q2 (frz_no q h)
      · cases p
    · cases p
theorem set_no {i : Nat} {s : Sl} (h : ρ[i]? = some s) : (ρ.set i .no)[i]? = some .no := by
  have hi : i < ρ.length := (List.getElem?_eq_some_iff.mp h).1
  rw [List.getElem?_set_self hi]
/-- the first argument is changed -/
theorem callM_go {F : DM} {mk : Own → Sl} {i : Nat} {o : Own} {vs : List V} {rs' : List R} {ds : List D} {v : V} {Q : VK} {e : Er} (l : Rl K cn G H σ ρ) (e1 : Ext σ G H ρ G1 H1 ρ1) (l1 : Rl K cn G1 H1 σ ρ1) (hi : ρ1[i]? = some (mk o))
    (hm : ∀ o', (mk o').hold = some o') (hf : ∀ o' d, mk o' ≠ .frz d) (ho : ∀ o' w, mk o' = .own w → mk o = .own o) (hr : ∀ o' w, mk o' = .ref w → mk o = .ref o)
    (hv : σ[i]? = some (some v)) (r1 : RepRs K cn H G1 H1 σ ρ1 vs rs') (z : frzs (ρ1.set i .no) rs' = some (ds, ρ2)) (q : left mk i ρ2 (F o ds) = some e) (p : PostE K cn W σ G H ρ Q e) :
    spM K cn F (v :: vs) H1 Q (fun cls d H' => W cls d σ H') := by
  obtain ⟨a, ha, ka⟩ := l1.own i _ o hi (hm o)
  rw [hv] at ha; cases ha
  -- a stood there at the start
  have hH : H a ≠ none := by
    have w : ∃ s o', ρ[i]? = some s ∧ Sl.hold s = some o' := by
      cases h : mk o with
      | own w => rw [h] at hi; obtain ⟨o', q⟩ := e1.so i w hi; exact ⟨_, o', q, rfl⟩
      | ref w => rw [h] at hi; obtain ⟨o', q⟩ := e1.sr i w hi; exact ⟨_, o', q, rfl⟩
      | no => have := hm o; rw [h] at this; cases this
      | frz d => exact absurd h (hf o d)
    obtain ⟨s, o', h1, h2⟩ := w
    obtain ⟨b, hb, kb⟩ := l.own i s o' h1 h2
    rw [hv] at hb; cases hb
    obtain ⟨_, u, hu, _⟩ := kb.some
    rw [hu]; exact fun z => nomatch z
  have notA : ¬ OwnA σ (ρ1.set i .no) a := fun z => by
    obtain ⟨_, j, s, w, ne, h1, h2, h3⟩ := z.lend
    exact ne (l1.sep j i s _ w o a h1 hi h2 (hm o) h3 hv)
  obtain ⟨G2, f, l2, rd⟩ := (RepRs.lend (i := i) r1).frzs (l1.lend (s := .no)) z
  have g2 : G2 a = none := by
    obtain ⟨gn, u, hu, _⟩ := ka.some
    cases y : G2 a with
    | none => rfl
    | some w =>
      rcases f.n a w y with y | ⟨_, y | ⟨j, w', y1, y2⟩⟩
      · rw [gn] at y; cases y
      · exact absurd y hH
      · exact absurd ⟨j, _, w', y1, rfl, y2⟩ notA
  have k2 : OwnAt K cn G2 H1 a o := ka.mono f.g g2 fun _ y => y
  have no2 : ¬ OwnA σ ρ2 a := fun z => notA (f.ownA z)
  have i2 : ρ2[i]? = some .no := frzs_no z (set_no hi)
  -- behind the call
  have step : ∀ {G3 H3 : Hp} {o' : Own}, NewM a G2 H1 G3 H3 → OwnAt K cn G3 H3 a o' → Ext σ G H ρ G3 H3 (ρ2.set i (mk o')) ∧ Rl K cn G3 H3 σ (ρ2.set i (mk o')) := fun {G3 H3 o'} n k => by
    refine ⟨⟨e1.g.trans (f.g.trans n.g), fun b u y => ?_, fun b u y nb => ?_, fun b y => ?_, fun j w y => ?_, fun j w y => ?_⟩, l2.newM i2 hv no2 n k (hm o') (hf o')⟩
    · rcases n.n b u y with y | y
      · rcases f.n b u y with y | ⟨_, y | ⟨j, w', y1, y2⟩⟩
        · exact e1.n b u y
        · exact .inr (.inl y)
        · rcases set_get y1 with ⟨_, y3⟩ | ⟨_, y3⟩
          · cases y3
          · obtain ⟨w2, y4⟩ := e1.so j w' y3
            exact .inr (.inr ⟨j, w2, y4, y2⟩)
      · cases y5 : H b with
        | none => exact .inr (.inl rfl)
        | some u5 => exact absurd y (e1.d b (by rw [y5]; exact fun z => nomatch z))
    · refine n.h b u (fun hb => nb ?_) (e1.h b u y nb)
      subst hb
      refine e1.ownA ⟨i, _, o, hi, hm o, hv⟩
    · by_cases hb : b = a
      · subst hb
        obtain ⟨_, u, hu, _⟩ := k.some
        rw [hu]; exact fun z => nomatch z
      · have y2 := e1.d b y
        cases y3 : H1 b with
        | none => exact absurd y3 y2
        | some u => rw [n.h b u hb y3]; exact fun z => nomatch z
    · rcases set_get y with ⟨ej, yy⟩ | ⟨ne, yy⟩
      · subst ej
        exact e1.so j o (by rw [hi, ho o' w yy.symm])
      · have y2 := f.so j w yy
        rcases set_get y2 with ⟨_, y3⟩ | ⟨_, y3⟩
        · cases y3
        · exact e1.so j w y3
    · rcases set_get y with ⟨ej, yy⟩ | ⟨ne, yy⟩
      · subst ej
        exact e1.sr j o (by rw [hi, hr o' w yy.symm])
      · have y2 := f.sr j w yy
        rcases set_get y2 with ⟨_, y3⟩ | ⟨_, y3⟩
        · cases y3
        · exact e1.sr j w y3
  cases y : F o ds with
  | none => rw [y] at q; cases q
  | some x =>
    obtain ⟨fo, o'⟩ := x
    rw [y] at q
    refine ⟨G2, a, o, vs, ds, fo, o', rfl, l2.gh, k2, rd, y, ?_⟩
    cases fo with
    | ret r =>
      cases q
      refine fun G3 H3 w n k rv => ?_
      obtain ⟨e3, l3⟩ := step n k
      refine p G3 H3 w e3 l3 ?_
      -- the answer
      cases r with
      | val d => exact rv
      | fre ow =>
        obtain ⟨b, eb, nb, kb⟩ := rv
        refine ⟨b, eb, ?_, kb, fun ⟨j, s, o2, q1, q2, q3⟩ => ?_⟩
        · cases y5 : H b with
          | none => rfl
          | some u5 => exact absurd nb (e1.d b (by rw [y5]; exact fun z => nomatch z))
        · have own : OwnA σ ρ1 b := by
            rcases set_get q1 with ⟨ej, _⟩ | ⟨_, q1⟩
            · subst ej
              exact ⟨j, _, o, hi, hm o, q3⟩
            · exact (f.ownA ⟨j, s, o2, q1, q2, q3⟩ : OwnA σ (ρ1.set i .no) b).lend.1
          obtain ⟨j', s', o3, y1, y2, y3⟩ := own
          obtain ⟨c, hc, kc⟩ := l1.own j' s' o3 y1 y2
          rw [y3] at hc; cases hc
          obtain ⟨_, u, hu, _⟩ := kc.some
          rw [nb] at hu; cases hu
    | ex x =>
      cases q
      refine fun G3 H3 d n k xr => ?_
      obtain ⟨e3, l3⟩ := step n k
      exact p G3 H3 d e3 l3 xr
theorem d_callM {F : DM} {t : TA} {fa : DA} (ha : DenA K cn W t fa) : Den K cn W (tCl (spM K cn F) W t) (eCallM F fa) := fun G H σ ρ Q l e q p => by
  refine den_bindA (t := t) ha l q p fun G1 H1 ρ1 vs rs e1 l1 r1 q1 => ?_
  cases rs with
  | nil => cases q1
  | cons r rs' =>
    cases vs with
    | nil => unfold RepRs at r1; cases r1
    | cons v vs' =>
      unfold RepRs at r1
      obtain ⟨r', rs'', er, h1, h2, h3⟩ := r1
      cases er
      cases r with
      | val d => cases q1
      | fre o => cases q1
      | al i =>
        have hv : σ[i]? = some (some v) := h1
        dsimp only at q1
        cases z : ρ1[i]? with
        | none => rw [z] at q1; cases q1
        | some s =>
          rw [z] at q1
          cases s with
          | no => cases q1
          | frz d => cases q1
          | own o =>
            dsimp only at q1
            cases z2 : frzs (ρ1.set i .no) rs' with
            | none => rw [z2] at q1; cases q1
            | some y =>
              obtain ⟨ds, ρ2⟩ := y
              rw [z2] at q1
              exact callM_go l e1 l1 z (fun _ => rfl) (fun _ _ z => nomatch z) (fun _ _ _ => rfl) (fun _ _ z => nomatch z) hv h3 z2 q1 p
          | ref o =>
            dsimp only at q1
            cases z2 : frzs (ρ1.set i .no) rs' with
            | none => rw [z2] at q1; cases q1
            | some y =>
              obtain ⟨ds, ρ2⟩ := y
              rw [z2] at q1
              exact callM_go l e1 l1 z (fun _ => rfl) (fun _ _ z => nomatch z) (fun _ _ z => nomatch z) (fun _ _ _ => rfl) hv h3 z2 q1 p
end
end DL
end

section
set_option maxRecDepth 100000
set_option maxHeartbeats 2000000
namespace DL
open PySem PySem.Spec L2
section
variable {K : PySem.W.Frag} {cn : String → Addr} {G H G1 H1 G2 H2 Hs Gs : Hp} {σ : L2.St} {ρ ρ1 ρ2 ρs : Env} {W : WX}
/-! ### slices -/
def PostO (K : PySem.W.Frag) (cn : String → Addr) (W : WX) (σ : L2.St) (G H : Hp) (ρ : Env) (Q : Option Int → Hp → Prop) : Po → Prop
  | .ok o ρ' => ∀ G' H', Ext σ G H ρ G' H' ρ' → Rl K cn G' H' σ ρ' → Q o H'
  | .ex x ρ' => ∀ G' H' d, Ext σ G H ρ G' H' ρ' → Rl K cn G' H' σ ρ' → ExR K cn G' H' x d → W (.ref (cn x.cls)) d σ H'
def DenO (K : PySem.W.Frag) (cn : String → Addr) (W : WX) (t : TO) (f : DO) : Prop := ∀ (G H : Hp) (σ : L2.St) (ρ : Env) (Q : Option Int → Hp → Prop), Rl K cn G H σ ρ → ∀ e, f ρ = some e → PostO K cn W σ G H ρ Q e → t σ H Q
theorem d_onone : DenO K cn W tNoPart oNone := fun G H σ ρ Q l e q p => by cases q; exact p G H Ext.refl l
theorem d_osome {t : TE} {f : DE} (h : Den K cn W t f) : DenO K cn W (tPart t) (oSome f) := fun G H σ ρ Q l e q p => by
  unfold oSome at q
  cases z : f ρ with
  | none => rw [z] at q; cases q
  | some x =>
    rw [z] at q
    refine h G H σ ρ _ l x z ?_
    cases x with
    | ex x ρ1 => cases q; exact p
    | ok r ρ1 => cases r with
      | val d => cases d with
        | int i => cases q; exact fun G1 H1 v e1 l1 r1 => ⟨i, r1.int, p G1 H1 e1 l1⟩
        | _ => cases q
      | fre o => cases q
      | al i => cases q
theorem den_bindO {t : TO} {f : DO} {k : Option Int → Env → Option Er} {R' : Option Int → Hp → Prop} {Q : VK} (h : DenO K cn W t f) (l : Rl K cn G H σ ρ) {e : Er} (q : bO f k ρ = some e) (p : PostE K cn W σ G H ρ Q e)
    (c : ∀ G1 H1 ρ1 o, Ext σ G H ρ G1 H1 ρ1 → Rl K cn G1 H1 σ ρ1 → k o ρ1 = some e → R' o H1) : t σ H R' := by
  unfold bO at q
  cases z : f ρ with
  | none => rw [z] at q; cases q
  | some x =>
    rw [z] at q
    refine h G H σ ρ R' l x z ?_
    cases x with
    | ok r ρ1 => exact fun G1 H1 e1 l1 => c G1 H1 ρ1 r e1 l1 q
    | ex x ρ1 => cases q; exact p
def DSl (K : PySem.W.Frag) (cn : String → Addr) (r : V → Option Int → Option Int → Hp → VK → Prop) (op : D → Option Int → Option Int → Option Rv) : Prop := ∀ (G H : Hp) (x : V) (dx : D) (lo hi : Option Int) (z : Rv) (Q : VK), Le G H → Pk K cn G H dx x → op dx lo hi = some z →
  (∀ G' H' v, New G H G' H' → RvR K cn H G' H' v z → Q v H') → r x lo hi H Q
theorem d_sl {r : V → Option Int → Option Int → Hp → VK → Prop} {op : D → Option Int → Option Int → Option Rv} {te : TE} {tl th : TO} {f : DE} {fl fh : DO} (o : DSl K cn r op) (he : Den K cn W te f) (hl : DenO K cn W tl fl) (hh : DenO K cn W th fh) :
    Den K cn W (tSl r te tl th) (eSl op f fl fh) := fun G H σ ρ Q l e q p => by
  refine den_bind (t := te) he l q p fun G1 H1 ρ1 x rx e1 l1 r1 q1 => ?_
  have p1 := PostE.back e1 p
  refine den_bindO (t := tl) hl l1 q1 p1 fun G2 H2 ρ2 lo e2 l2 q2 => ?_
  have p2 := PostE.back e2 p1
  refine den_bindO (t := th) hh l2 q2 p2 fun G3 H3 ρ3 hi e3 l3 q3 => ?_
  have p3 := PostE.back e3 p2
  cases z1 : rx.peek ρ3 with
  | none => rw [z1] at q3; cases q3
  | some dx =>
    rw [z1] at q3; dsimp only at q3
    cases z3 : op dx lo hi with
    | none => rw [z3] at q3; cases q3
    | some z =>
      rw [z3] at q3
      cases q3
      exact o G3 H3 x dx lo hi z Q l3.gh (((r1.ext e2).ext e3).peek l3 z1) z3 (post_new Ext.refl l3 p3)
/-! ### star -/
theorem RepRs.vals : ∀ {ds : List D} {vs : List V} {us : List V} {rs : List R}, Reps K cn G ds vs → RepRs K cn Hs G H σ ρ us rs → RepRs K cn Hs G H σ ρ (vs ++ us) (ds.map .val ++ rs)
  | [], vs, us, rs, h, q => by unfold Reps at h; subst h; exact q
  | d :: ds, vs, us, rs, h, q => by
    unfold Reps at h
    obtain ⟨v, ws, e, r, z⟩ := h
    subst e
    show RepRs K cn Hs G H σ ρ (v :: (ws ++ us)) (.val d :: (ds.map .val ++ rs))
    unfold RepRs
    exact ⟨_, _, rfl, r, (fun o e => nomatch e), RepRs.vals z q⟩
theorem d_star {te : TE} {ta : TA} {f : DE} {fa : DA} (he : Den K cn W te f) (ha : DenA K cn W ta fa) : DenA K cn W (fun σ H Q => te σ H fun x H1 => ∃ p xs, x = V.ref p ∧ (SqT K H1 p xs ∨ SqL K H1 p xs) ∧ ta σ H1 fun ys H2 => Q (xs ++ ys) H2) (aStar f fa) := fun G H σ ρ Q l e q p => by
  unfold aStar at q
  cases z : f ρ with
  | none => rw [z] at q; cases q
  | some x =>
    rw [z] at q
    refine he G H σ ρ _ l x z ?_
    cases x with
    | ex x ρ1 => cases q; exact p
    | ok r ρ1 =>
      dsimp only at q
      refine fun G1 H1 v e1 l1 r1 => ?_
      cases z2 : r.frz ρ1 with
      | none => rw [z2] at q; cases q
      | some y =>
        obtain ⟨d, ρ2⟩ := y
        rw [z2] at q
        obtain ⟨G2, fz, l2, rd, _⟩ := r1.frz l1 z2
        have e2 := e1.fz fz
        have fin : ∀ {a : Addr} {ds : List D} {vs : List V}, v = .ref a → (SqT K H1 a vs ∨ SqL K H1 a vs) → Reps K cn G2 ds vs → (match fa ρ2 with
            | some (.ok rs ρ3) => some (.ok (ds.map .val ++ rs) ρ3)
            | some (.ex x ρ3) => some (.ex x ρ3)
            | none => none) = some e → ∃ p xs, v = V.ref p ∧ (SqT K H1 p xs ∨ SqL K H1 p xs) ∧ ta σ H1 fun ys H2 => Q (xs ++ ys) H2 := fun {a ds vs} ev hs rs q => by
          refine ⟨a, vs, ev, hs, ?_⟩
          cases z3 : fa ρ2 with
          | none => rw [z3] at q; cases q
          | some y =>
            rw [z3] at q
            refine ha G2 H1 σ ρ2 _ l2 y z3 ?_
            cases y with
            | ex x ρ3 => cases q; exact fun G3 H3 d e3 l3 r3 => p G3 H3 d (e2.trans e3) l3 r3
            | ok rs' ρ3 =>
              cases q
              refine fun G3 H3 us e3 l3 r3 => p G3 H3 (vs ++ us) (e2.trans e3) l3 ?_
              exact RepRs.vals (Reps.mono e3.g _ _ rs) (r3.back e2.d)
        cases d with
        | tup ds =>
          unfold Rep at rd
          obtain ⟨a, vs, ev, hs, rs⟩ := rd
          exact fin ev (.inl (l2.gh.sqT hs)) rs q
        | lst ds =>
          unfold Rep at rd
          obtain ⟨a, vs, ev, hs, rs⟩ := rd
          exact fin ev (.inr (.inl (.inl (l2.gh _ _ hs)))) rs q
        | _ => cases q
/-! ### tests -/
def PostT (K : PySem.W.Frag) (cn : String → Addr) (W : WX) (σ : L2.St) (G H : Hp) (ρ : Env) (Q : Bool → Hp → Prop) : Tr → Prop
  | .ok b ρ' => ∀ G' H', Ext σ G H ρ G' H' ρ' → Rl K cn G' H' σ ρ' → Q b H'
  | .ex x ρ' => ∀ G' H' d, Ext σ G H ρ G' H' ρ' → Rl K cn G' H' σ ρ' → ExR K cn G' H' x d → W (.ref (cn x.cls)) d σ H'
def DenT (K : PySem.W.Frag) (cn : String → Addr) (W : WX) (t : TT) (f : DT) : Prop := ∀ (G H : Hp) (σ : L2.St) (ρ : Env) (Q : Bool → Hp → Prop), Rl K cn G H σ ρ → ∀ e, f ρ = some e → PostT K cn W σ G H ρ Q e → t σ H Q
theorem PostT.back {Q : Bool → Hp → Prop} {e : Tr} (x : Ext σ G H ρ G1 H1 ρ1) (h : PostT K cn W σ G H ρ Q e) : PostT K cn W σ G1 H1 ρ1 Q e := by
  cases e with
  | ok r ρ' => exact fun G' H' y l => h G' H' (x.trans y) l
  | ex z ρ' => exact fun G' H' d y l q => h G' H' d (x.trans y) l q
theorem d_tB {t : TE} {f : DE} (h : Den K cn W t f) : DenT K cn W (tB t) (tE f) := fun G H σ ρ Q l e q p => by
  unfold tE at q
  cases z : f ρ with
  | none => rw [z] at q; cases q
  | some x =>
    rw [z] at q
    refine h G H σ ρ _ l x z ?_
    cases x with
    | ex x ρ1 => cases q; exact p
    | ok r ρ1 => cases r with
      | val d => cases d with
        | bl b => cases q; exact fun G1 H1 v e1 l1 r1 => ⟨b, r1.bl, p G1 H1 e1 l1⟩
        | _ => cases q
      | fre o => cases q
      | al i => cases q
theorem d_tTest {t : TE} {f : DE} (h : Den K cn W t f) : DenT K cn W (tTest t) (tE f) := d_tB h
theorem d_tand {t u : TT} {f g : DT} (h : DenT K cn W t f) (k : DenT K cn W u g) : DenT K cn W (L2.tAnd t u) (DL.tAnd f g) := fun G H σ ρ Q l e q p => by
  unfold DL.tAnd at q
  cases z : f ρ with
  | none => rw [z] at q; cases q
  | some x =>
    rw [z] at q
    refine h G H σ ρ _ l x z ?_
    cases x with
    | ex x ρ1 => cases q; exact p
    | ok b ρ1 => cases b with
      | true => exact fun G1 H1 e1 l1 => k G1 H1 σ ρ1 Q l1 e q (PostT.back e1 p)
      | false => cases q; exact p
theorem d_tor {t u : TT} {f g : DT} (h : DenT K cn W t f) (k : DenT K cn W u g) : DenT K cn W (L2.tOr t u) (DL.tOr f g) := fun G H σ ρ Q l e q p => by
  unfold DL.tOr at q
  cases z : f ρ with
  | none => rw [z] at q; cases q
  | some x =>
    rw [z] at q
    refine h G H σ ρ _ l x z ?_
    cases x with
    | ex x ρ1 => cases q; exact p
    | ok b ρ1 => cases b with
      | false => exact fun G1 H1 e1 l1 => k G1 H1 σ ρ1 Q l1 e q (PostT.back e1 p)
      | true => cases q; exact p
theorem d_tnot {t : TT} {f : DT} (h : DenT K cn W t f) : DenT K cn W (L2.tNot t) (DL.tNot f) := fun G H σ ρ Q l e q p => by
  unfold DL.tNot at q
  cases z : f ρ with
  | none => rw [z] at q; cases q
  | some x =>
    rw [z] at q
    refine h G H σ ρ _ l x z ?_
    cases x with
    | ex x ρ1 => cases q; exact p
    | ok b ρ1 => cases q; exact fun G1 H1 e1 l1 => p G1 H1 e1 l1
theorem d_tyes : DenT K cn W L2.tYes DL.tYes := fun G H σ ρ Q l e q p => by cases q; exact p G H Ext.refl l
theorem d_ifx {t : TT} {ta tb : TE} {f : DT} {fa fb : DE} (h : DenT K cn W t f) (ha : Den K cn W ta fa) (hb : Den K cn W tb fb) : Den K cn W (tIf t ta tb) (eIf f fa fb) := fun G H σ ρ Q l e q p => by
  unfold eIf at q
  cases z : f ρ with
  | none => rw [z] at q; cases q
  | some x =>
    rw [z] at q
    refine h G H σ ρ _ l x z ?_
    cases x with
    | ex x ρ1 => cases q; exact p
    | ok b ρ1 => cases b with
      | true => exact fun G1 H1 e1 l1 => ha G1 H1 σ ρ1 Q l1 e q (PostE.back e1 p)
      | false => exact fun G1 H1 e1 l1 => hb G1 H1 σ ρ1 Q l1 e q (PostE.back e1 p)
/-! ### objects -/
theorem Pk.obj {c : String} {ns : List String} {l : List D} {v : V} (le : Le G H) (h : Pk K cn G H (.obj c ns l) v) : ∃ a dx vs, v = .ref a ∧ H a = some (.ins (cn c) dx ((ns.map Str.ofString).zip vs)) ∧ ns.length = l.length ∧ Reps K cn G l vs := by
  rcases h with h | ⟨a, o, e, d, k⟩
  · unfold Rep at h
    obtain ⟨a, dx, vs, e, q, z, r⟩ := h
    exact ⟨a, dx, vs, e, le _ _ q, z, r⟩
  · cases o with
    | lst l' => cases d
    | dct l' => cases d
    | ins c' ns' l' => cases d; obtain ⟨_, dx, vs, q, z, r⟩ := k; exact ⟨a, dx, vs, e, q, z, r⟩
theorem ofString_inj {a b : String} (h : Str.ofString a = Str.ofString b) : a = b := by
  rw [Str.ofString_eq_toList, Str.ofString_eq_toList] at h
  have h1 : (a.toList.map Char.toNat).toArray = (b.toList.map Char.toNat).toArray := congrArg Str.cps h
  have h2 : a.toList.map Char.toNat = b.toList.map Char.toNat := by simpa using h1
  have h3 : a.toList = b.toList := by
    have inj : ∀ x y : Char, x.toNat = y.toNat → x = y := fun x y h => Char.toNat_inj.mp h
    exact (List.map_inj_right inj).mp h2
  exact String.toList_inj.mp h3
theorem look_ok {f : String} : ∀ {ns : List String} {l : List D} {vs : List V} {d : D}, ns.length = l.length → Reps K cn G l vs → look f ns l = some d → ∃ v, ((ns.map Str.ofString).zip vs).lookup (Str.ofString f) = some v ∧ Rep K cn G d v
  | [], _, _, _, _, _, h => by cases h
  | n :: ns, [], _, _, h, _, _ => by cases h
  | n :: ns, e :: l, vs, d, h, r, q => by
    unfold Reps at r
    obtain ⟨v, us, ev, r1, r2⟩ := r
    subst ev
    simp only [look] at q
    rw [List.map_cons, List.zip_cons_cons, List.lookup_cons]
    split at q
    · rename_i e1
      cases q
      subst e1
      exact ⟨v, by simp, r1⟩
    · rename_i e1
      have hn : (Str.ofString f == Str.ofString n) = false := by
        rw [beq_eq_false_iff_ne]
        exact fun z => e1 (ofString_inj z).symm
      rw [hn]
      exact look_ok (by simpa using h) r2 q
theorem d_fld {cs : List String} {f : String} {t : TE} {fe : DE} (hc : ∀ c ∈ cs, Cls K (cn c) ∧ NoAttr K (cn c) (Str.ofString f)) (h : Den K cn W t fe) : Den K cn W (tFld K t (Str.ofString f)) (eFld cs f fe) := fun G H σ ρ Q l e q p => by
  refine den_bind (t := t) h l q p fun G1 H1 ρ1 x rx e1 l1 r1 q1 => ?_
  have p1 := PostE.back e1 p
  cases z : rx.peek ρ1 with
  | none => rw [z] at q1; cases q1
  | some d =>
    rw [z] at q1
    have pk := r1.peek l1 z
    cases d with
    | obj c ns ds =>
      dsimp only at q1
      split at q1
      · rename_i hm
        obtain ⟨a, dx, vs, ev, ha, hl, rs⟩ := pk.obj l1.gh
        cases z2 : look f ns ds with
        | none => rw [z2] at q1; cases q1
        | some d =>
          rw [z2] at q1
          cases q1
          obtain ⟨v, hv, rv⟩ := look_ok hl rs z2
          exact ⟨a, cn c, dx, _, v, ev, ha, (hc c hm).1, (hc c hm).2, hv, p1 G1 H1 v Ext.refl l1 rv⟩
      · cases q1
    | _ => cases q1
theorem d_con {F : String → Option D} {f : String} {t : TE} {fe : DE} (hc : ∀ c d, F c = some d → Cls K (cn c) ∧ ∃ v u, Con K (cn c) (Str.ofString f) v u ∧ ∀ G, Rep K cn G d v) (h : Den K cn W t fe) : Den K cn W (tCon K t (Str.ofString f)) (eCon F fe) := fun G H σ ρ Q l e q p => by
  refine den_bind (t := t) h l q p fun G1 H1 ρ1 x rx e1 l1 r1 q1 => ?_
  have p1 := PostE.back e1 p
  cases rx with
  | fre o => cases q1
  | al i => cases q1
  | val d => cases d with
    | obj c ns ds =>
      cases ns with
      | cons _ _ => cases q1
      | nil => cases ds with
        | cons _ _ => cases q1
        | nil =>
          dsimp only at q1
          cases z2 : F c with
          | none => rw [z2] at q1; cases q1
          | some d =>
            rw [z2] at q1
            cases q1
            obtain ⟨c1, v, u, c2, c3⟩ := hc c d z2
            have r1' : Rep K cn G1 (.obj c [] []) x := r1
            unfold Rep at r1'
            obtain ⟨a, dx, vs, ev, ha, _, _⟩ := r1'
            exact ⟨a, cn c, dx, _, v, u, ev, l1.gh _ _ ha, c1, c2, by simp, p1 G1 H1 v Ext.refl l1 (c3 G1)⟩
    | _ => cases q1
end
end DL
end

section
set_option maxRecDepth 100000
set_option maxHeartbeats 2000000
namespace DL
open PySem PySem.Spec L2
section
variable {K : PySem.W.Frag} {cn : String → Addr} {G H G1 H1 G2 H2 Hs Gs : Hp} {σ : L2.St} {ρ ρ1 ρ2 ρs : Env} {W : WX}
/-! ### what a for walks -/
/-- J yields these, as long as what is kept stays -/
def Walks (K : PySem.W.Frag) (cn : String → Addr) (G0 : Hp) (J : It) (ds : List D) : Prop := ∀ (i : Nat) (G H : Hp), Le G0 G → Le G H →
  (∀ d, ds[i]? = some d → J.go i H ∧ ∀ x H2, J.yld i H x H2 → ∃ G2, New G H G2 H2 ∧ Rep K cn G2 d x) ∧ (ds.length = i → J.stop i H)
def PostI (K : PySem.W.Frag) (cn : String → Addr) (W : WX) (σ : L2.St) (G H : Hp) (ρ : Env) (R : It → Hp → Prop) : Ir → Prop
  | .ok ds ρ' => ∀ G' H' J, Ext σ G H ρ G' H' ρ' → Rl K cn G' H' σ ρ' → Walks K cn G' J ds → R J H'
  | .ex x ρ' => ∀ G' H' d, Ext σ G H ρ G' H' ρ' → Rl K cn G' H' σ ρ' → ExR K cn G' H' x d → W (.ref (cn x.cls)) d σ H'
def DenI (K : PySem.W.Frag) (cn : String → Addr) (W : WX) (t : TI) (f : DI) : Prop := ∀ (G H : Hp) (σ : L2.St) (ρ : Env) (R : It → Hp → Prop), Rl K cn G H σ ρ → ∀ e, f ρ = some e → PostI K cn W σ G H ρ R e → t σ H R
theorem reps_at : ∀ {ds : List D} {vs : List V} {i : Nat} {d : D}, Reps K cn G ds vs → ds[i]? = some d → ∃ v, vs[i]? = some v ∧ Rep K cn G d v
  | [], _, _, _, _, h => by simp at h
  | e :: ds, vs, i, d, r, h => by
    unfold Reps at r
    obtain ⟨v, us, ev, r1, r2⟩ := r
    subst ev
    cases i with
    | zero => simp at h; subst h; exact ⟨v, by simp, r1⟩
    | succ j =>
      obtain ⟨w, q, r⟩ := reps_at (i := j) r2 (by simpa using h)
      exact ⟨w, by simpa using q, r⟩
theorem walks_l {a : Addr} {vs : List V} {ds : List D} (h : SqL K G a vs) (r : Reps K cn G ds vs) : Walks K cn G (Itl K a) ds := fun i G1 H1 l l1 =>
  ⟨fun d hd => by
    obtain ⟨v, hv, rv⟩ := reps_at r hd
    refine ⟨⟨vs, v, l1.sqL (l.sqL h), hv⟩, fun x H2 y => ?_⟩
    obtain ⟨e, y⟩ := y
    subst e
    have q := y vs (l1.sqL (l.sqL h))
    rw [hv] at q; cases q
    exact ⟨G1, New.refl l1, Rep.mono l _ _ rv⟩, fun e => ⟨vs, l1.sqL (l.sqL h), by rw [r.length, e]; exact Nat.le_refl _⟩⟩
theorem walks_t {a : Addr} {vs : List V} {ds : List D} (h : SqT K G a vs) (r : Reps K cn G ds vs) : Walks K cn G (Itt K a) ds := fun i G1 H1 l l1 =>
  ⟨fun d hd => by
    obtain ⟨v, hv, rv⟩ := reps_at r hd
    refine ⟨⟨vs, v, l1.sqT (l.sqT h), hv⟩, fun x H2 y => ?_⟩
    obtain ⟨e, y⟩ := y
    subst e
    have q := y vs (l1.sqT (l.sqT h))
    rw [hv] at q; cases q
    exact ⟨G1, New.refl l1, Rep.mono l _ _ rv⟩, fun e => ⟨vs, l1.sqT (l.sqT h), by rw [r.length, e]; exact Nat.le_refl _⟩⟩
theorem rangeD_at {lo : Int} {n i : Nat} {d : D} (h : (rangeD lo n)[i]? = some d) : i < n ∧ d = .int (lo + (i : Nat)) := by
  unfold rangeD at h
  rw [List.getElem?_map] at h
  cases q : (List.range n)[i]? with
  | none => rw [q] at h; cases h
  | some k =>
    rw [q] at h
    obtain ⟨hi, e⟩ := List.getElem?_eq_some_iff.mp q
    rw [List.length_range] at hi
    rw [List.getElem_range] at e
    subst e
    cases h
    exact ⟨hi, rfl⟩
theorem walks_r {lo : Int} {n : Nat} : Walks K cn G (Itr lo n) (rangeD lo n) := fun i G1 H1 l l1 =>
  ⟨fun d hd => by
    obtain ⟨hi, e⟩ := rangeD_at hd
    subst e
    refine ⟨hi, fun x H2 y => ?_⟩
    obtain ⟨e, y⟩ := y
    subst e; subst y
    exact ⟨G1, New.refl l1, rep_intI⟩, fun e => by
    have : n = i := by rw [← e]; unfold rangeD; simp
    show n ≤ i
    omega⟩
theorem enumD_at : ∀ {ds : List D} {k i : Nat} {d : D}, (enumD k ds)[i]? = some d → ∃ e, ds[i]? = some e ∧ d = .tup [.int ((k + i : Nat) : Int), e]
  | [], k, i, d, h => by simp [enumD] at h
  | e :: ds, k, i, d, h => by
    cases i with
    | zero => simp [enumD] at h; subst h; exact ⟨e, by simp, rfl⟩
    | succ j =>
      simp only [enumD, List.getElem?_cons_succ] at h
      obtain ⟨w, q, r⟩ := enumD_at h
      exact ⟨w, by simpa using q, by rw [r, show k + 1 + j = k + (j + 1) by omega]⟩
theorem enumD_len : ∀ {ds : List D} {k : Nat}, (enumD k ds).length = ds.length
  | [], k => rfl
  | d :: ds, k => by simp [enumD, enumD_len (ds := ds)]
theorem rep_tup {a : Addr} {vs : List V} {ds : List D} (h : G a = some (.tup vs)) (r : Reps K cn G ds vs) : Rep K cn G (.tup ds) (.ref a) := by
  unfold Rep
  exact ⟨a, vs, rfl, .inl (.inl h), r⟩
theorem reps2 {d e : D} {x y : V} (h : Rep K cn G d x) (k : Rep K cn G e y) : Reps K cn G [d, e] [x, y] := by
  unfold Reps
  refine ⟨x, [y], rfl, h, ?_⟩
  unfold Reps
  refine ⟨y, [], rfl, k, ?_⟩
  unfold Reps
  rfl
theorem walks_e {a : Addr} {vs : List V} {ds : List D} (h : SqL K G a vs) (r : Reps K cn G ds vs) : Walks K cn G (Ite K a) (enumD 0 ds) := fun i G1 H1 l l1 =>
  ⟨fun d hd => by
    obtain ⟨e, he, ed⟩ := enumD_at hd
    subst ed
    obtain ⟨v, hv, rv⟩ := reps_at r he
    refine ⟨⟨vs, v, l1.sqL (l.sqL h), hv⟩, fun x H2 y => ?_⟩
    obtain ⟨T, w, ex, nT, eH, y⟩ := y
    subst ex; subst eH
    have q := y vs (l1.sqL (l.sqL h))
    rw [hv] at q; cases q
    have nw := New.keep (u := .tup [.int (i : Nat), v]) l1 nT
    refine ⟨_, nw, rep_tup upd_same (reps2 ?_ (Rep.mono (l.trans nw.g) _ _ rv))⟩
    rw [Nat.zero_add]
    exact rep_intI, fun e => ⟨vs, l1.sqL (l.sqL h), by rw [enumD_len] at e; rw [r.length, e]; exact Nat.le_refl _⟩⟩
theorem zipD_at : ∀ {xs ys : List D} {i : Nat} {d : D}, (zipD xs ys)[i]? = some d → ∃ a b, xs[i]? = some a ∧ ys[i]? = some b ∧ d = .tup [a, b]
  | [], ys, i, d, h => by simp [zipD] at h
  | a :: xs, [], i, d, h => by simp [zipD] at h
  | a :: xs, b :: ys, i, d, h => by
    cases i with
    | zero => simp [zipD] at h; subst h; exact ⟨a, b, by simp, by simp, rfl⟩
    | succ j =>
      simp only [zipD, List.getElem?_cons_succ] at h
      obtain ⟨u, w, q1, q2, r⟩ := zipD_at h
      exact ⟨u, w, by simpa using q1, by simpa using q2, r⟩
theorem zipD_len : ∀ {xs ys : List D}, (zipD xs ys).length = min xs.length ys.length
  | [], ys => by simp [zipD]
  | a :: xs, [] => by simp [zipD]
  | a :: xs, b :: ys => by simp [zipD, zipD_len (xs := xs) (ys := ys)]
theorem walks_z {a b : Addr} {vs us : List V} {xs ys : List D} (h : SqL K G a vs) (r : Reps K cn G xs vs) (h' : SqL K G b us) (r' : Reps K cn G ys us) : Walks K cn G (Itz K a b) (zipD xs ys) := fun i G1 H1 l l1 =>
  ⟨fun d hd => by
    obtain ⟨e, e', he, he', ed⟩ := zipD_at hd
    subst ed
    obtain ⟨v, hv, rv⟩ := reps_at r he
    obtain ⟨v', hv', rv'⟩ := reps_at r' he'
    refine ⟨⟨vs, us, v, v', l1.sqL (l.sqL h), l1.sqL (l.sqL h'), hv, hv'⟩, fun x H2 y => ?_⟩
    obtain ⟨T, w, w', ex, nT, eH, y, y'⟩ := y
    subst ex; subst eH
    have q := y vs (l1.sqL (l.sqL h))
    rw [hv] at q; cases q
    have q' := y' us (l1.sqL (l.sqL h'))
    rw [hv'] at q'; cases q'
    have nw := New.keep (u := .tup [v, v']) l1 nT
    exact ⟨_, nw, rep_tup upd_same (reps2 (Rep.mono (l.trans nw.g) _ _ rv) (Rep.mono (l.trans nw.g) _ _ rv'))⟩, fun e => ⟨vs, us, l1.sqL (l.sqL h), l1.sqL (l.sqL h'), by rw [zipD_len] at e; rw [r.length, r'.length]; omega⟩⟩
/-! ### the iterables' readings -/
/-- a list or a tuple -/
def iSq (K : PySem.W.Frag) (te : TE) : TI := fun σ H R => te σ H fun x H1 => ∃ a, x = .ref a ∧ (((∃ xs, SqL K H1 a xs) ∧ R (Itl K a) H1) ∨ ((∃ xs, SqT K H1 a xs) ∧ R (Itt K a) H1))
theorem d_iseq {te : TE} {f : DE} (he : Den K cn W te f) : DenI K cn W (iSq K te) (DL.iSeq f) := fun G H σ ρ R l e q p => by
  unfold DL.iSeq at q
  cases z : f ρ with
  | none => rw [z] at q; cases q
  | some x =>
    rw [z] at q
    refine he G H σ ρ _ l x z ?_
    cases x with
    | ex x ρ1 => cases q; exact p
    | ok r ρ1 =>
      dsimp only at q
      refine fun G1 H1 v e1 l1 r1 => ?_
      cases z2 : r.frz ρ1 with
      | none => rw [z2] at q; cases q
      | some y =>
        obtain ⟨d, ρ2⟩ := y
        rw [z2] at q
        obtain ⟨G2, fz, l2, rd, _⟩ := r1.frz l1 z2
        cases d with
        | lst ds =>
          cases q
          unfold Rep at rd
          obtain ⟨a, vs, ev, ha, rs⟩ := rd
          exact ⟨a, ev, .inl ⟨⟨vs, .inl (.inl (l2.gh _ _ ha))⟩, p G2 H1 _ (e1.fz fz) l2 (walks_l (.inl (.inl ha)) rs)⟩⟩
        | tup ds =>
          cases q
          unfold Rep at rd
          obtain ⟨a, vs, ev, ha, rs⟩ := rd
          exact ⟨a, ev, .inr ⟨⟨vs, l2.gh.sqT ha⟩, p G2 H1 _ (e1.fz fz) l2 (walks_t ha rs)⟩⟩
        | _ => cases q
theorem RepRs.one {v : List V} {r : R} (h : RepRs K cn Hs G H σ ρ v [r]) : ∃ x, v = [x] ∧ RepR K cn Hs G H σ ρ x r := by
  cases v with
  | nil => unfold RepRs at h; cases h
  | cons x xs =>
    unfold RepRs at h
    obtain ⟨r', rs', e, h1, _, h3⟩ := h
    cases e
    cases xs with
    | nil => exact ⟨x, rfl, h1⟩
    | cons _ _ => unfold RepRs at h3; obtain ⟨_, _, e, _⟩ := h3; cases e
theorem RepRs.two {v : List V} {r s : R} (h : RepRs K cn Hs G H σ ρ v [r, s]) : ∃ x y, v = [x, y] ∧ RepR K cn Hs G H σ ρ x r ∧ RepR K cn Hs G H σ ρ y s := by
  cases v with
  | nil => unfold RepRs at h; cases h
  | cons x xs =>
    unfold RepRs at h
    obtain ⟨r', rs', e, h1, _, h3⟩ := h
    cases e
    obtain ⟨y, e, h4⟩ := h3.one
    subst e
    exact ⟨x, y, rfl, h1, h4⟩
theorem d_irange1 {ta : TA} {fa : DA} (ha : DenA K cn W ta fa) (one : ∀ ρ rs ρ', fa ρ = some (.ok rs ρ') → rs.length = 1) : DenI K cn W (iRng1 ta) (iRange fa) := fun G H σ ρ R l e q p => by
  unfold iRange at q
  cases z : fa ρ with
  | none => rw [z] at q; cases q
  | some x =>
    rw [z] at q
    refine ha G H σ ρ _ l x z ?_
    cases x with
    | ex x ρ1 => cases q; exact p
    | ok rs ρ1 =>
      refine fun G1 H1 vs e1 l1 r1 => ?_
      have hl := one _ _ _ z
      match rs, hl with
      | [r], _ =>
        obtain ⟨v, ev, rv⟩ := r1.one
        subst ev
        cases r with
        | fre o => cases q
        | al i => cases q
        | val d => cases d with
          | int n =>
            dsimp only at q
            split at q
            · rename_i hb
              cases q
              exact ⟨n, by rw [rv.int], by omega, by omega, p G1 H1 _ e1 l1 walks_r⟩
            · cases q
          | _ => cases q
theorem d_irange2 {ta : TA} {fa : DA} (ha : DenA K cn W ta fa) (two : ∀ ρ rs ρ', fa ρ = some (.ok rs ρ') → rs.length = 2) : DenI K cn W (iRng2 ta) (iRange fa) := fun G H σ ρ R l e q p => by
  unfold iRange at q
  cases z : fa ρ with
  | none => rw [z] at q; cases q
  | some x =>
    rw [z] at q
    refine ha G H σ ρ _ l x z ?_
    cases x with
    | ex x ρ1 => cases q; exact p
    | ok rs ρ1 =>
      refine fun G1 H1 vs e1 l1 r1 => ?_
      have hl := two _ _ _ z
      match rs, hl with
      | [r, s], _ =>
        obtain ⟨v, w, ev, rv, rw'⟩ := r1.two
        subst ev
        cases r with
        | fre o => cases q
        | al i => cases q
        | val d => cases d with
          | int m => cases s with
            | fre o => cases q
            | al i => cases q
            | val d => cases d with
              | int n =>
                dsimp only at q
                split at q
                · rename_i hb
                  cases q
                  exact ⟨m, n, by rw [rv.int, rw'.int], by omega, p G1 H1 _ e1 l1 walks_r⟩
                · cases q
              | _ => cases q
          | _ => cases q
theorem d_ienum {te : TE} {f : DE} (he : Den K cn W te f) : DenI K cn W (L2.iEnum K (tCons te tNil)) (DL.iEnum f) := fun G H σ ρ R l e q p => by
  unfold DL.iEnum at q
  cases z : f ρ with
  | none => rw [z] at q; cases q
  | some x =>
    rw [z] at q
    refine he G H σ ρ _ l x z ?_
    cases x with
    | ex x ρ1 => cases q; exact p
    | ok r ρ1 =>
      dsimp only at q
      refine fun G1 H1 v e1 l1 r1 => ?_
      cases z2 : r.frz ρ1 with
      | none => rw [z2] at q; cases q
      | some y =>
        obtain ⟨d, ρ2⟩ := y
        rw [z2] at q
        obtain ⟨G2, fz, l2, rd, _⟩ := r1.frz l1 z2
        cases d with
        | lst ds =>
          cases q
          unfold Rep at rd
          obtain ⟨a, vs, ev, ha, rs⟩ := rd
          exact ⟨a, vs, by rw [ev], .inl (.inl (l2.gh _ _ ha)), p G2 H1 _ (e1.fz fz) l2 (walks_e (.inl (.inl ha)) rs)⟩
        | _ => cases q
theorem reps_two {d e : D} {vs : List V} (h : Reps K cn G [d, e] vs) : ∃ x y, vs = [x, y] ∧ Rep K cn G d x ∧ Rep K cn G e y := by
  unfold Reps at h
  obtain ⟨x, us, ev, r1, h⟩ := h
  unfold Reps at h
  obtain ⟨y, ws, ew, r2, h⟩ := h
  unfold Reps at h
  subst h; subst ew; subst ev
  exact ⟨x, y, rfl, r1, r2⟩
theorem d_izip {ta : TA} {fa : DA} (ha : DenA K cn W ta fa) : DenI K cn W (L2.iZip K ta) (DL.iZip fa) := fun G H σ ρ R l e q p => by
  unfold DL.iZip at q
  cases z : fa ρ with
  | none => rw [z] at q; cases q
  | some x =>
    rw [z] at q
    refine ha G H σ ρ _ l x z ?_
    cases x with
    | ex x ρ1 => cases q; exact p
    | ok rs ρ1 =>
      dsimp only at q
      refine fun G1 H1 vs e1 l1 r1 => ?_
      cases z2 : frzs ρ1 rs with
      | none => rw [z2] at q; cases q
      | some y =>
        obtain ⟨ds, ρ2⟩ := y
        rw [z2] at q
        obtain ⟨G2, fz, l2, rd⟩ := r1.frzs l1 z2
        split at q
        · rename_i xs ys ρ3 heq
          cases heq
          cases q
          obtain ⟨x, y, ev, rx, ry⟩ := reps_two rd
          subst ev
          unfold Rep at rx ry
          obtain ⟨a, us, ea, ha, ra⟩ := rx
          obtain ⟨b, ws, eb, hb, rb⟩ := ry
          subst ea; subst eb
          exact ⟨a, b, us, ws, rfl, .inl (.inl (l2.gh _ _ ha)), .inl (.inl (l2.gh _ _ hb)), p G2 H1 _ (e1.fz fz) l2 (walks_z (.inl (.inl ha)) ra (.inl (.inl hb)) rb)⟩
        · cases q
/-! ### targets -/
/-- the slots vs alone are stored, what one holds stays -/
structure Tg (vs : List Nat) (σ : L2.St) (ρ : Env) (σ' : L2.St) (ρ' : Env) : Prop where
  len : σ'.length = σ.length
  st : ∀ j, j ∉ vs → σ'[j]? = σ[j]?
  ow : ∀ (i : Nat) o, ρ'[i]? = some (.own o) → ρ[i]? = some (.own o) ∧ σ'[i]? = σ[i]?
  rf : ∀ (i : Nat) o, ρ'[i]? = some (.ref o) → ρ[i]? = some (.ref o) ∧ σ'[i]? = σ[i]?
  fr : ∀ (i : Nat) o, ρ[i]? = some (.ref o) → ρ'[i]? = some (.ref o)
theorem Tg.refl {vs : List Nat} : Tg vs σ ρ σ ρ := ⟨rfl, fun _ _ => rfl, fun _ _ h => ⟨h, rfl⟩, fun _ _ h => ⟨h, rfl⟩, fun _ _ h => h⟩
theorem Tg.trans {vs : List Nat} {σ1 σ2 : L2.St} (a : Tg vs σ ρ σ1 ρ1) (b : Tg vs σ1 ρ1 σ2 ρ2) : Tg vs σ ρ σ2 ρ2 :=
  ⟨b.len.trans a.len, fun j h => (b.st j h).trans (a.st j h), fun i o h => let ⟨h1, e1⟩ := b.ow i o h; let ⟨h2, e2⟩ := a.ow i o h1; ⟨h2, e1.trans e2⟩, fun i o h => let ⟨h1, e1⟩ := b.rf i o h; let ⟨h2, e2⟩ := a.rf i o h1; ⟨h2, e1.trans e2⟩,
    fun i o h => b.fr i o (a.fr i o h)⟩
def DenG (K : PySem.W.Frag) (cn : String → Addr) (vs : List Nat) (g : TG) (f : DG) : Prop := ∀ (G H : Hp) (σ : L2.St) (ρ : Env) (v : V) (d : D) (Q : L2.St → Hp → Prop), Rl K cn G H σ ρ → Rep K cn G d v → ∀ ρ', f d ρ = some ρ' →
  (∀ σ', Rl K cn G H σ' ρ' → Tg vs σ ρ σ' ρ' → Q σ' H) → g v σ H Q
def DenGs (K : PySem.W.Frag) (cn : String → Addr) (vs : List Nat) (g : TGs) (fs : List DG) : Prop := ∀ (G H : Hp) (σ : L2.St) (ρ : Env) (us : List V) (ds : List D) (Q : L2.St → Hp → Prop), Rl K cn G H σ ρ → Reps K cn G ds us → ∀ ρ', gsGo fs ds ρ = some ρ' →
  (∀ σ', Rl K cn G H σ' ρ' → Tg vs σ ρ σ' ρ' → Q σ' H) → g us σ H Q
/-- a slot is stored -/
theorem Rl.put {i : Nat} {d : D} {v : V} (l : Rl K cn G H σ ρ) (h : put ρ i (.frz d) = some ρ1) (r : Rep K cn G d v) : Rl K cn G H (σ.set i (some v)) ρ1 ∧ Tg [i] σ ρ (σ.set i (some v)) ρ1 := by
  unfold DL.put at h
  have e : ρ1 = ρ.set i (.frz d) ∧ i < ρ.length ∧ ∀ o, ρ[i]? ≠ some (.ref o) := by
    cases z : ρ[i]? with
    | none => rw [z] at h; cases h
    | some s =>
      have hi : i < ρ.length := (List.getElem?_eq_some_iff.mp z).1
      rw [z] at h
      cases s with
      | ref o => cases h
      | no => cases h; exact ⟨rfl, hi, fun o z => nomatch z⟩
      | frz d => cases h; exact ⟨rfl, hi, fun o z => nomatch z⟩
      | own o => cases h; exact ⟨rfl, hi, fun o z => nomatch z⟩
  obtain ⟨e, hi, hr⟩ := e
  subst e
  have hs : i < σ.length := by rw [← l.len]; exact hi
  refine ⟨⟨l.gh, by rw [List.length_set, List.length_set]; exact l.len, fun j d' z => ?_, fun j s o z1 z2 => ?_, fun j j' s t o u b z1 z2 z3 z4 z5 z6 => ?_⟩, ⟨by rw [List.length_set], fun j hj => ?_, fun j o z => ?_, fun j o z => ?_, fun j o z => ?_⟩⟩
  · rcases set_get z with ⟨ej, z⟩ | ⟨ne, z⟩
    · cases z; subst ej
      exact ⟨v, by rw [List.getElem?_set_self hs], r⟩
    · obtain ⟨w, e, r'⟩ := l.frz j d' z
      exact ⟨w, by rw [List.getElem?_set_ne (Ne.symm ne)]; exact e, r'⟩
  · rcases set_get z1 with ⟨_, z⟩ | ⟨ne, z⟩
    · subst z; cases z2
    · obtain ⟨a, e, k⟩ := l.own j s o z z2
      exact ⟨a, by rw [List.getElem?_set_ne (Ne.symm ne)]; exact e, k⟩
  · rcases set_get z1 with ⟨_, z⟩ | ⟨n1, y1⟩
    · subst z; cases z3
    · rcases set_get z2 with ⟨_, z⟩ | ⟨n2, y2⟩
      · subst z; cases z4
      · rw [List.getElem?_set_ne (Ne.symm n1)] at z5
        rw [List.getElem?_set_ne (Ne.symm n2)] at z6
        exact l.sep j j' s t o u b y1 y2 z3 z4 z5 z6
  · rw [List.getElem?_set_ne]
    exact fun z => hj (by rw [z]; exact List.mem_cons_self)
  · rcases set_get z with ⟨_, z⟩ | ⟨ne, z⟩
    · cases z
    · exact ⟨z, List.getElem?_set_ne (Ne.symm ne)⟩
  · rcases set_get z with ⟨_, z⟩ | ⟨ne, z⟩
    · cases z
    · exact ⟨z, List.getElem?_set_ne (Ne.symm ne)⟩
  · have ne : i ≠ j := fun e => hr o (by rw [e]; exact z)
    rw [List.getElem?_set_ne ne]
    exact z
theorem d_gname {i : Nat} : DenG K cn [i] (L2.gName i) (DL.gName i) := fun G H σ ρ v d Q l r ρ' h p =>
  let ⟨l', t⟩ := l.put h r
  p _ l' t
theorem Tg.sub {vs ws : List Nat} {σ1 : L2.St} (h : Tg vs σ ρ σ1 ρ1) (s : ∀ j ∈ vs, j ∈ ws) : Tg ws σ ρ σ1 ρ1 := ⟨h.len, fun j hj => h.st j fun z => hj (s j z), h.ow, h.rf, h.fr⟩
theorem d_gnil : DenGs K cn [] L2.gNil [] := fun G H σ ρ us ds Q l r ρ' h p => by
  cases ds with
  | cons d ds => cases h
  | nil =>
    unfold Reps at r
    cases h
    exact ⟨r, p σ l Tg.refl⟩
theorem d_gcons {vs ws : List Nat} {g : TG} {gs : TGs} {f : DG} {fs : List DG} (a : DenG K cn vs g f) (b : DenGs K cn ws gs fs) : DenGs K cn (vs ++ ws) (L2.gCons g gs) (f :: fs) := fun G H σ ρ us ds Q l r ρ' h p => by
  cases ds with
  | nil => cases h
  | cons d ds =>
    unfold Reps at r
    obtain ⟨v, us', e, r1, r2⟩ := r
    subst e
    simp only [gsGo] at h
    cases z : f d ρ with
    | none => rw [z] at h; cases h
    | some ρ1 =>
      rw [z] at h
      refine ⟨v, us', rfl, a G H σ ρ v d _ l r1 ρ1 z fun σ1 l1 t1 => b G H σ1 ρ1 us' ds Q l1 r2 ρ' h fun σ2 l2 t2 => p σ2 l2 ((t1.sub fun j m => List.mem_append_left _ m).trans (t2.sub fun j m => List.mem_append_right _ m))⟩
theorem gsGo_len : ∀ {fs : List DG} {ds : List D} {ρ ρ1 : Env}, gsGo fs ds ρ = some ρ1 → ds.length = fs.length
  | [], [], _, _, _ => rfl
  | [], _ :: _, _, _, h => by cases h
  | _ :: _, [], _, _, h => by cases h
  | f :: fs, d :: ds, ρ, ρ1, h => by
    simp only [gsGo] at h
    cases z : f d ρ with
    | none => rw [z] at h; cases h
    | some ρ2 => rw [z] at h; simp [gsGo_len h]
theorem d_gtup {vs : List Nat} {n : Nat} {gs : TGs} {fs : List DG} (a : DenGs K cn vs gs fs) (hn : fs.length = n) : DenG K cn vs (L2.gTup K n gs) (DL.gTup fs) := fun G H σ ρ v d Q l r ρ' h p => by
  cases d with
  | tup ds =>
    have h' : gsGo fs ds ρ = some ρ' := h
    unfold Rep at r
    obtain ⟨b, us, e, hb, rs⟩ := r
    exact ⟨b, us, e, l.gh.sqT hb, by rw [rs.length, gsGo_len h', hn], a G H σ ρ us ds Q l rs ρ' h' p⟩
  | _ => cases h
end
end DL
end

section
set_option maxRecDepth 100000
set_option maxHeartbeats 2000000
namespace DL
open PySem PySem.Spec L2
section
variable {K : PySem.W.Frag} {cn : String → Addr} {G H G1 H1 G2 H2 Hs Gs : Hp} {σ : L2.St} {ρ ρ1 ρ2 ρs : Env} {W : WX}
/-! ### slots forgotten, slots taken back -/
theorem wipe_get {σ : L2.St} {j : Nat} : ∀ {vs : List Nat}, (wipe σ vs)[j]? = if j ∈ vs then σ[j]?.map (fun _ => none) else σ[j]?
  | [] => by simp [wipe]
  | v :: vs => by
    unfold wipe
    rw [List.getElem?_set]
    by_cases e : v = j
    · subst e
      simp only [if_true, wipe_length, List.mem_cons, true_or]
      split
      · rename_i h; rw [List.getElem?_eq_getElem h]; rfl
      · rename_i h; rw [List.getElem?_eq_none (by omega)]; rfl
    · rw [if_neg e, wipe_get (vs := vs)]
      have : (j ∈ v :: vs) ↔ j ∈ vs := by simp [Ne.symm e]
      by_cases hj : j ∈ vs
      · rw [if_pos hj, if_pos (this.mpr hj)]
      · rw [if_neg hj, if_neg (fun z => hj (this.mp z))]
theorem wipe_st {j : Nat} {vs : List Nat} (h : j ∉ vs) : (wipe σ vs)[j]? = σ[j]? := by rw [wipe_get, if_neg h]
theorem wipe_same {σ σ2 : L2.St} {vs : List Nat} (hl : σ2.length = σ.length) (h : ∀ j, j ∉ vs → σ2[j]? = (wipe σ vs)[j]?) : wipe σ2 vs = wipe σ vs := by
  refine List.ext_getElem? fun j => ?_
  by_cases hj : j ∈ vs
  · rw [wipe_get, wipe_get, if_pos hj, if_pos hj]
    by_cases z : j < σ.length
    · rw [List.getElem?_eq_getElem z, List.getElem?_eq_getElem (by omega)]; rfl
    · rw [List.getElem?_eq_none (by omega), List.getElem?_eq_none (by omega)]
  · rw [wipe_st hj, h j hj]
theorem wipeE_len : ∀ {vs : List Nat}, (wipeE ρ vs).length = ρ.length
  | [] => rfl
  | v :: vs => by unfold wipeE; rw [List.length_set, wipeE_len]
theorem wipeE_st {j : Nat} : ∀ {vs : List Nat}, j ∉ vs → (wipeE ρ vs)[j]? = ρ[j]?
  | [], _ => rfl
  | v :: vs, h => by
    unfold wipeE
    rw [List.getElem?_set_ne (fun e => h (by rw [e]; exact List.mem_cons_self)), wipeE_st fun z => h (List.mem_cons_of_mem _ z)]
theorem wipeE_in {j : Nat} {s : Sl} : ∀ {vs : List Nat}, j ∈ vs → (wipeE ρ vs)[j]? = some s → s = .no
  | [], h, _ => nomatch h
  | v :: vs, h, z => by
    unfold wipeE at z
    rcases set_get z with ⟨_, e⟩ | ⟨ne, z⟩
    · exact e
    · rcases List.mem_cons.mp h with e | h
      · exact absurd e ne
      · exact wipeE_in h z
theorem backE_len {ρ0 : Env} : ∀ {vs : List Nat}, (backE ρ0 ρ vs).length = ρ.length
  | [] => rfl
  | v :: vs => by unfold backE; rw [List.length_set, backE_len]
theorem backE_st {ρ0 : Env} {j : Nat} : ∀ {vs : List Nat}, j ∉ vs → (backE ρ0 ρ vs)[j]? = ρ[j]?
  | [], _ => rfl
  | v :: vs, h => by
    unfold backE
    rw [List.getElem?_set_ne (fun e => h (by rw [e]; exact List.mem_cons_self)), backE_st fun z => h (List.mem_cons_of_mem _ z)]
theorem backE_in {ρ0 : Env} {j : Nat} {s : Sl} : ∀ {vs : List Nat}, j ∈ vs → (backE ρ0 ρ vs)[j]? = some s → s = .no ∨ ∃ d, s = .frz d ∧ ρ0[j]? = some (.frz d)
  | [], h, _ => nomatch h
  | v :: vs, h, z => by
    unfold backE at z
    rcases set_get z with ⟨e1, e⟩ | ⟨ne, z⟩
    · subst e1
      split at e
      · rename_i d hd; exact .inr ⟨d, e, hd⟩
      · exact .inl e
    · rcases List.mem_cons.mp h with e | h
      · exact absurd e ne
      · exact backE_in h z
theorem Rl.wipe {vs : List Nat} (l : Rl K cn G H σ ρ) : Rl K cn G H (L2.wipe σ vs) (wipeE ρ vs) := by
  have st : ∀ {j : Nat} {s : Sl}, (wipeE ρ vs)[j]? = some s → s ≠ .no → j ∉ vs ∧ ρ[j]? = some s := fun {j s} h n => by
    by_cases hj : j ∈ vs
    · exact absurd (wipeE_in hj h) n
    · exact ⟨hj, by rw [wipeE_st hj] at h; exact h⟩
  refine ⟨l.gh, by rw [wipeE_len, wipe_length]; exact l.len, fun j d z => ?_, fun j s o z1 z2 => ?_, fun j j' s t o u b z1 z2 z3 z4 z5 z6 => ?_⟩
  · obtain ⟨hj, z⟩ := st z (fun e => nomatch e)
    rw [wipe_st hj]
    exact l.frz j d z
  · obtain ⟨hj, z⟩ := st z1 (fun e => by subst e; cases z2)
    rw [wipe_st hj]
    exact l.own j s o z z2
  · obtain ⟨hj, y1⟩ := st z1 (fun e => by subst e; cases z3)
    obtain ⟨hj', y2⟩ := st z2 (fun e => by subst e; cases z4)
    rw [wipe_st hj] at z5
    rw [wipe_st hj'] at z6
    exact l.sep j j' s t o u b y1 y2 z3 z4 z5 z6
/-- the outer slots, from the block's -/
theorem Rl.takeBack {vs : List Nat} {σ2 : L2.St} (l0 : Rl K cn Gs Hs σ ρs) (lg : Le Gs G) (l : Rl K cn G H σ2 ρ) (hl : σ2.length = σ.length) (hσ : ∀ j, j ∉ vs → σ2[j]? = σ[j]?) : Rl K cn G H σ (backE ρs ρ vs) := by
  have st : ∀ {j : Nat} {s : Sl} {o : Own}, (backE ρs ρ vs)[j]? = some s → Sl.hold s = some o → j ∉ vs ∧ ρ[j]? = some s := fun {j s o} h n => by
    by_cases hj : j ∈ vs
    · rcases backE_in hj h with e | ⟨d, e, _⟩
      · subst e; cases n
      · subst e; cases n
    · exact ⟨hj, by rw [backE_st hj] at h; exact h⟩
  refine ⟨l.gh, by rw [backE_len, l.len, hl], fun j d z => ?_, fun j s o z1 z2 => ?_, fun j j' s t o u b z1 z2 z3 z4 z5 z6 => ?_⟩
  · by_cases hj : j ∈ vs
    · rcases backE_in hj z with e | ⟨d', e, q⟩
      · cases e
      · cases e
        obtain ⟨v, hv, r⟩ := l0.frz j d q
        exact ⟨v, hv, Rep.mono lg _ _ r⟩
    · rw [backE_st hj] at z
      rw [← hσ j hj]
      exact l.frz j d z
  · obtain ⟨hj, z⟩ := st z1 z2
    rw [← hσ j hj]
    exact l.own j s o z z2
  · obtain ⟨hj, y1⟩ := st z1 z3
    obtain ⟨hj', y2⟩ := st z2 z4
    rw [← hσ j hj] at z5
    rw [← hσ j' hj'] at z6
    exact l.sep j j' s t o u b y1 y2 z3 z4 z5 z6
theorem wipeE_back {ρ0 : Env} {vs : List Nat} : wipeE (backE ρ0 ρ vs) vs = wipeE ρ vs := by
  refine List.ext_getElem? fun j => ?_
  by_cases hj : j ∈ vs
  · cases h1 : (wipeE (backE ρ0 ρ vs) vs)[j]? with
    | none =>
      have e1 := List.getElem?_eq_none_iff.mp h1
      rw [wipeE_len, backE_len] at e1
      rw [List.getElem?_eq_none (by rw [wipeE_len]; exact e1)]
    | some s =>
      have h1' := h1
      have e := wipeE_in hj h1
      subst e
      have hl := (List.getElem?_eq_some_iff.mp h1').1
      rw [wipeE_len, backE_len] at hl
      have h2 : (wipeE ρ vs)[j]? = some ((wipeE ρ vs)[j]'(by rw [wipeE_len]; exact hl)) := List.getElem?_eq_getElem _
      have h3 := wipeE_in hj h2
      rw [h2, h3]
  · rw [wipeE_st hj, backE_st hj, wipeE_st hj]
/-- a step within a block, seen from outside -/
theorem Ext.takeBack {vs : List Nat} {σ2 : L2.St} {ρ0 ρa ρd ρi : Env} {G' H' : Hp} (t : Tg vs (L2.wipe σ vs) (wipeE ρi vs) σ2 ρa) (n : New G H G' H') (e : Ext σ2 G' H' ρa G2 H2 ρd) : Ext σ G H (backE ρ0 ρi vs) G2 H2 (backE ρ0 ρd vs) := by
  -- an own slot of the block is one outside
  have ow : ∀ {j : Nat} {o : Own}, ρa[j]? = some (.own o) → j ∉ vs ∧ ρi[j]? = some (.own o) ∧ σ2[j]? = σ[j]? := fun {j o} h => by
    obtain ⟨h1, h2⟩ := t.ow j o h
    by_cases hj : j ∈ vs
    · cases wipeE_in hj h1
    · exact ⟨hj, by rw [wipeE_st hj] at h1; exact h1, by rw [h2, wipe_st hj]⟩
  have rf : ∀ {j : Nat} {o : Own}, ρa[j]? = some (.ref o) → j ∉ vs ∧ ρi[j]? = some (.ref o) ∧ σ2[j]? = σ[j]? := fun {j o} h => by
    obtain ⟨h1, h2⟩ := t.rf j o h
    by_cases hj : j ∈ vs
    · cases wipeE_in hj h1
    · exact ⟨hj, by rw [wipeE_st hj] at h1; exact h1, by rw [h2, wipe_st hj]⟩
  have own : ∀ {a : Addr}, OwnA σ2 ρa a → OwnA σ (backE ρ0 ρi vs) a := fun {a} ⟨j, s, o, h1, h2, h3⟩ => by
    rcases Sl.hold_own h2 with e | e
    · subst e
      obtain ⟨hj, q1, q2⟩ := ow h1
      exact ⟨j, _, o, by rw [backE_st hj]; exact q1, rfl, by rw [← q2]; exact h3⟩
    · subst e
      obtain ⟨hj, q1, q2⟩ := rf h1
      exact ⟨j, _, o, by rw [backE_st hj]; exact q1, rfl, by rw [← q2]; exact h3⟩
  refine ⟨n.g.trans e.g, fun a u h => ?_, fun a u h no => e.h a u (n.h a u h) fun z => no (own z), fun a h => e.d a ?_, fun j o h => ?_, fun j o h => ?_⟩
  · rcases e.n a u h with h | h | ⟨j, w, h1, h2⟩
    · rcases n.n a u h with h | h
      · exact .inl h
      · exact .inr (.inl h)
    · refine .inr (.inl ?_)
      cases q : H a with
      | none => rfl
      | some w => rw [n.h a w q] at h; cases h
    · obtain ⟨hj, q1, q2⟩ := ow h1
      exact .inr (.inr ⟨j, w, by rw [backE_st hj]; exact q1, by rw [← q2]; exact h2⟩)
  · cases q : H a with
    | none => exact absurd q h
    | some w => rw [n.h a w q]; exact fun z => nomatch z
  · by_cases hj : j ∈ vs
    · rcases backE_in hj h with e | ⟨d, e, _⟩ <;> cases e
    · rw [backE_st hj] at h
      obtain ⟨o', q⟩ := e.so j o h
      obtain ⟨_, q1, _⟩ := ow q
      exact ⟨o', by rw [backE_st hj]; exact q1⟩
  · by_cases hj : j ∈ vs
    · rcases backE_in hj h with e | ⟨d, e, _⟩ <;> cases e
    · rw [backE_st hj] at h
      obtain ⟨o', q⟩ := e.sr j o h
      obtain ⟨_, q1, _⟩ := rf q
      exact ⟨o', by rw [backE_st hj]; exact q1⟩
/-- an object of nobody's is changed -/
theorem Rl.bump {a : Addr} {u : HO} (l : Rl K cn G H σ ρ) (gn : G a = none) (no : ¬ OwnA σ ρ a) : Rl K cn G (upd H a u) σ ρ :=
  ⟨l.gh.updN gn, l.len, l.frz, fun i s o q1 q2 => by
    obtain ⟨b, h, k⟩ := l.own i s o q1 q2
    have hb : b ≠ a := fun z => no ⟨i, s, o, q1, q2, by rw [← z]; exact h⟩
    exact ⟨b, h, k.mono (Le.refl _) k.some.1 fun w q => by rw [upd_ne hb]; exact q⟩, l.sep⟩
theorem Ext.bump {a : Addr} {u : HO} (e : Ext σ G H ρ G1 H1 ρ1) (n : H a = none) : Ext σ G H ρ G1 (upd H1 a u) ρ1 :=
  ⟨e.g, e.n, fun b w h no => by rw [upd_ne (ne_of_none h n)]; exact e.h b w h no, fun b h => by
    by_cases hb : b = a
    · subst hb; exact absurd n h
    · rw [upd_ne hb]; exact e.d b h, e.so, e.sr⟩
theorem Reps.snoc {d : D} {v : V} : ∀ {ds : List D} {vs : List V}, Reps K cn G ds vs → Rep K cn G d v → Reps K cn G (ds ++ [d]) (vs ++ [v])
  | [], vs, h, r => by
    unfold Reps at h; subst h
    show Reps K cn G [d] [v]
    unfold Reps
    exact ⟨v, [], rfl, r, by unfold Reps; rfl⟩
  | e :: ds, vs, h, r => by
    unfold Reps at h
    obtain ⟨w, us, ev, r1, r2⟩ := h
    subst ev
    show Reps K cn G (e :: (ds ++ [d])) (w :: (us ++ [v]))
    unfold Reps
    exact ⟨w, us ++ [v], rfl, r1, Reps.snoc r2 r⟩
theorem OwnA.back {ρ0 ρi : Env} {vs : List Nat} {a : Addr} (h : OwnA σ (backE ρ0 ρi vs) a) : ∃ (j : Nat) (s : Sl) (o : Own), j ∉ vs ∧ ρi[j]? = some s ∧ Sl.hold s = some o ∧ σ[j]? = some (some (.ref a)) := by
  obtain ⟨j, s, o, h1, h2, h3⟩ := h
  by_cases hj : j ∈ vs
  · rcases backE_in hj h1 with e | ⟨d, e, _⟩ <;> (subst e; cases h2)
  · rw [backE_st hj] at h1
    exact ⟨j, s, o, hj, h1, h2, h3⟩
theorem lcGo_le {g : DG} {tt : DT} {el : DE} {vs : List Nat} : ∀ {ds xs : List D} {ρ ρ1 : Env}, lcGo g tt el vs ds ρ = some (xs, ρ1) → xs.length ≤ ds.length
  | [], xs, ρ, ρ1, h => by cases h; exact Nat.le_refl _
  | d :: ds, xs, ρ, ρ1, h => by
    simp only [lcGo] at h
    split at h
    · split at h
      · split at h
        · split at h
          · split at h
            · rename_i q; cases h
              have := lcGo_le q
              simp only [List.length_cons]; omega
            · cases h
          · cases h
        · cases h
      · have := lcGo_le h
        simp only [List.length_cons]; omega
      · cases h
    · cases h
theorem New.none {a : Addr} {u : HO} (n : New G H G1 H1) (gn : G a = Option.none) (hu : H a = some u) : G1 a = Option.none := by
  cases q : G1 a with
  | none => rfl
  | some w => exact (n.n a w q).elim (fun z => by rw [gn] at z; cases z) fun z => by rw [hu] at z; cases z
theorem Ext.none {a : Addr} {u : HO} (e : Ext σ G H ρ G1 H1 ρ1) (gn : G a = Option.none) (hu : H a = some u) (no : ¬ OwnA σ ρ a) : G1 a = Option.none := by
  cases q : G1 a with
  | none => rfl
  | some w =>
    rcases e.n a w q with z | z | ⟨j, w', z1, z2⟩
    · rw [gn] at z; cases z
    · rw [hu] at z; cases z
    · exact absurd ⟨j, _, w', z1, rfl, z2⟩ no
/-- [el for g in it if tt] -/
theorem d_lc {wi : TI} {g : TG} {tt : TT} {te : TE} {it : DI} {gf : DG} {tf : DT} {ef : DE} {vs : List Nat} {W' : WX} (hi : DenI K cn W wi it) (hg : DenG K cn vs g gf) (ht : DenT K cn W' tt tf) (he : Den K cn W' te ef) :
    Den K cn W (tLc wi g tt te vs) (eLc it gf tf ef vs) := fun G H σ ρ Q l e q p => by
  unfold eLc at q
  cases z : it ρ with
  | none => rw [z] at q; cases q
  | some x =>
    rw [z] at q
    refine hi G H σ ρ _ l x z ?_
    cases x with
    | ex x ρ1 => cases q; exact p
    | ok ds ρ1 =>
      dsimp only at q
      split at q
      · rename_i hlen
        cases z2 : lcGo gf tf ef vs ds ρ1 with
        | none => rw [z2] at q; cases q
        | some y =>
          obtain ⟨xs, ρ2⟩ := y
          rw [z2] at q
          cases q
          refine fun G1 H1 J e1 l1 wk D nD => ?_
          have HsD : H D = none := by
            cases y5 : H D with
            | none => rfl
            | some u5 => exact absurd nD (e1.d D (by rw [y5]; exact fun z => nomatch z))
          -- between two turns
          refine ⟨fun i m Hc => m = ds.length - i ∧ i ≤ ds.length ∧ ∃ (Gc : Hp) (ρi : Env) (ad rest : List DL.D) (av : List V), lcGo gf tf ef vs (ds.drop i) ρi = some (rest, ρ2) ∧ xs = ad ++ rest ∧ ad.length ≤ i ∧ Hc D = some (.lst av) ∧ Reps K cn Gc ad av ∧ Gc D = none ∧
            Le G1 Gc ∧ Ext σ G H ρ Gc Hc (backE ρ1 ρi vs) ∧ Rl K cn Gc Hc σ (backE ρ1 ρi vs) ∧ ¬ OwnA σ (backE ρ1 ρi vs) D, ⟨ds.length, by simp, Nat.zero_le _, G1, ρ1, [], xs, [], by simpa using z2, rfl, Nat.le_refl _, upd_same, by unfold Reps; rfl, ?_, Le.refl _, ?_, ?_, ?_⟩, ?_⟩
          · cases q : G1 D with
            | none => rfl
            | some w => rw [l1.gh D w q] at nD; cases nD
          · refine (Ext.bump (u := .lst []) ?_ HsD)
            refine ⟨e1.g, e1.n, e1.h, e1.d, fun j o h => ?_, fun j o h => ?_⟩
            · by_cases hj : j ∈ vs
              · rcases backE_in hj h with e | ⟨d, e, _⟩ <;> cases e
              · rw [backE_st hj] at h; exact e1.so j o h
            · by_cases hj : j ∈ vs
              · rcases backE_in hj h with e | ⟨d, e, _⟩ <;> cases e
              · rw [backE_st hj] at h; exact e1.sr j o h
          · have gn : G1 D = none := by
              cases q : G1 D with
              | none => rfl
              | some w => rw [l1.gh D w q] at nD; cases nD
            refine (Rl.takeBack (vs := vs) l1 (Le.refl _) l1 rfl fun _ _ => rfl).bump gn fun h => ?_
            obtain ⟨j, s, o, _, h1, h2, h3⟩ := h.back
            obtain ⟨b, hb, kb⟩ := l1.own j s o h1 h2
            rw [h3] at hb; cases hb
            obtain ⟨_, u, hu, _⟩ := kb.some
            rw [nD] at hu; cases hu
          · intro h
            obtain ⟨j, s, o, _, h1, h2, h3⟩ := h.back
            obtain ⟨b, hb, kb⟩ := l1.own j s o h1 h2
            rw [h3] at hb; cases hb
            obtain ⟨_, u, hu, _⟩ := kb.some
            rw [nD] at hu; cases hu
          · rintro i m Hc ⟨rfl, hi', Gc, ρi, ad, rest, av, hgo, hxs, had, hD, hav, hGD, lg, ec, lc, noD⟩
            have wkc := wk i Gc Hc lg lc.gh
            by_cases hlt : i < ds.length
            · refine .inr ⟨(wkc.1 ds[i] (List.getElem?_eq_getElem hlt)).1, ?_⟩
              rw [List.drop_eq_getElem_cons hlt] at hgo
              simp only [lcGo] at hgo
              refine ⟨fun Hn => i + 1 ≤ ds.length ∧ ∃ (Gn : Hp) (ρn : Env) (ad rest : List DL.D) (av : List V), lcGo gf tf ef vs (ds.drop (i + 1)) ρn = some (rest, ρ2) ∧ xs = ad ++ rest ∧ ad.length ≤ i + 1 ∧ Hn D = some (.lst av) ∧ Reps K cn Gn ad av ∧ Gn D = none ∧
                Le G1 Gn ∧ Ext σ G H ρ Gn Hn (backE ρ1 ρn vs) ∧ Rl K cn Gn Hn σ (backE ρ1 ρn vs) ∧ ¬ OwnA σ (backE ρ1 ρn vs) D, fun H' h => ⟨ds.length - (i + 1), by omega, rfl, h⟩, fun x H2 y => ?_⟩
              obtain ⟨Gy, ny, ry⟩ := (wkc.1 ds[i] (List.getElem?_eq_getElem hlt)).2 x H2 y
              -- the target
              have lw : Rl K cn Gc Hc (L2.wipe σ vs) (wipeE ρi vs) := by
                have := lc.wipe (vs := vs)
                rw [wipeE_back] at this
                exact this
              have lwy := lw.new ny
              have DGy : Gy D = none := ny.none hGD hD
              have DH2 : H2 D = some (.lst av) := ny.h D _ hD
              cases z3 : gf ds[i] (wipeE ρi vs) with
              | none => rw [z3] at hgo; cases hgo
              | some ρa =>
                rw [z3] at hgo
                refine hg Gy H2 (L2.wipe σ vs) (wipeE ρi vs) x ds[i] _ lwy ry ρa z3 fun σ2 la ta => ?_
                have hσ2 : ∀ j, j ∉ vs → σ2[j]? = σ[j]? := fun j hj => by rw [ta.st j hj, wipe_st hj]
                refine ⟨wipe_same (by rw [ta.len, wipe_length]) ta.st, ?_⟩
                have noDa : ¬ OwnA σ2 ρa D := fun h => by
                  obtain ⟨j, s, o, h1, h2, h3⟩ := h
                  obtain ⟨b, hb, kb⟩ := la.own j s o h1 h2
                  rw [h3] at hb; cases hb
                  -- own slots of the block are outer ones
                  have : OwnA σ (backE ρ1 ρi vs) D := by
                    rcases Sl.hold_own h2 with e | e
                    · subst e
                      obtain ⟨q1, q2⟩ := ta.ow j o h1
                      by_cases hj : j ∈ vs
                      · cases wipeE_in hj q1
                      · exact ⟨j, _, o, by rw [backE_st hj]; rw [wipeE_st hj] at q1; exact q1, rfl, by rw [← hσ2 j hj]; exact h3⟩
                    · subst e
                      obtain ⟨q1, q2⟩ := ta.rf j o h1
                      by_cases hj : j ∈ vs
                      · cases wipeE_in hj q1
                      · exact ⟨j, _, o, by rw [backE_st hj]; rw [wipeE_st hj] at q1; exact q1, rfl, by rw [← hσ2 j hj]; exact h3⟩
                  exact noD this
                dsimp only at hgo
                -- the test
                cases z4 : tf ρa with
                | none => rw [z4] at hgo; cases hgo
                | some r =>
                  rw [z4] at hgo
                  refine ht Gy H2 σ2 ρa _ la r z4 ?_
                  cases r with
                  | ex x ρb => cases hgo
                  | ok b ρb =>
                    refine fun G3 H3 e3 l3 => ?_
                    have D3 : H3 D = some (.lst av) := e3.h D _ DH2 noDa
                    have DG3 : G3 D = none := e3.none DGy DH2 noDa
                    cases b with
                    | false =>
                      dsimp only at hgo
                      have ex := Ext.takeBack (ρ0 := ρ1) ta ny e3
                      have lx := Rl.takeBack (vs := vs) l1 ((lg.trans ny.g).trans e3.g) l3 (by rw [ta.len, wipe_length]) hσ2
                      exact ⟨hlt, G3, ρb, ad, rest, av, hgo, hxs, by omega, D3, Reps.mono (ny.g.trans e3.g) _ _ hav, DG3, (lg.trans ny.g).trans e3.g, ec.trans ex, lx, fun h => noD (ex.ownA h)⟩
                    | true =>
                      dsimp only at hgo
                      have noDb : ¬ OwnA σ2 ρb D := fun h => noDa (e3.ownA h)
                      -- the element
                      cases z5 : ef ρb with
                      | none => rw [z5] at hgo; cases hgo
                      | some r =>
                        rw [z5] at hgo
                        refine he G3 H3 σ2 ρb _ l3 r z5 ?_
                        cases r with
                        | ex x ρc => cases hgo
                        | ok r ρc =>
                          refine fun G4 H4 v e4 l4 r4 => ?_
                          dsimp only at hgo
                          cases z6 : r.frz ρc with
                          | none => rw [z6] at hgo; cases hgo
                          | some y =>
                            obtain ⟨d, ρd⟩ := y
                            rw [z6] at hgo
                            dsimp only at hgo
                            obtain ⟨G5, f5, l5, r5, nw5⟩ := r4.frz l4 z6
                            have e34 := e4.fz f5
                            cases z7 : lcGo gf tf ef vs (ds.drop (i + 1)) ρd with
                            | none => rw [z7] at hgo; cases hgo
                            | some y =>
                              obtain ⟨xs', ρe⟩ := y
                              rw [z7] at hgo
                              cases hgo
                              have D4 : H4 D = some (.lst av) := e4.h D _ D3 noDb
                              have DG5 : G5 D = none := e34.none DG3 D3 noDb
                              have e25 := e3.trans e34
                              have ex := Ext.takeBack (ρ0 := ρ1) ta ny e25
                              have lg5 : Le G1 G5 := (lg.trans ny.g).trans e25.g
                              have lx := Rl.takeBack (vs := vs) l1 lg5 l5 (by rw [ta.len, wipe_length]) hσ2
                              have no5 : ¬ OwnA σ (backE ρ1 ρd vs) D := fun h => noD (ex.ownA h)
                              have hav5 := Reps.mono (ny.g.trans e25.g) _ _ hav
                              refine ⟨av, D4, line_lt (by rw [hav.length]; omega), hlt, G5, ρd, ad ++ [d], xs', av ++ [v], z7, by rw [hxs]; simp, by simp; omega, upd_same, hav5.snoc r5, DG5, lg5, (ec.trans ex).bump HsD, lx.bump DG5 no5, no5⟩
            · have ei : ds.length = i := by omega
              refine .inl ⟨wkc.2 ei, ?_⟩
              rw [List.drop_eq_nil_of_le (by omega)] at hgo
              cases hgo
              rw [List.append_nil] at hxs
              subst hxs
              exact p Gc Hc (.ref D) ec lc ⟨D, rfl, HsD, ⟨hGD, av, hD, hav⟩, noD⟩
      · cases q
end
end DL
end

section
set_option maxRecDepth 100000
set_option maxHeartbeats 2000000
namespace DL
open PySem PySem.Spec L2
section
variable {K : PySem.W.Frag} {cn : String → Addr} {G H G1 H1 G2 H2 Hs Gs : Hp} {σ σ' : L2.St} {ρ ρ' ρ1 ρ2 ρs : Env} {W : WX}
/-- the entry of a def: the heap then, what was kept then, what came in to be changed -/
structure Bs where
  H0 : Hp
  G0 : Hp
  refs : List Addr
structure Bl (b : Bs) (G H : Hp) (σ : L2.St) (ρ : Env) : Prop where
  g0 : Le b.G0 G
  gn : ∀ a o, G a = some o → b.G0 a = some o ∨ b.H0 a = none
  h0 : ∀ a o, b.H0 a = some o → a ∉ b.refs → H a = some o
  hd : ∀ a, b.H0 a ≠ none → H a ≠ none
  ow : ∀ (i : Nat) o a, ρ[i]? = some (.own o) → σ[i]? = some (some (.ref a)) → b.H0 a = none
  rf : ∀ (i : Nat) o, ρ[i]? = some (.ref o) → ∃ a, b.refs[i]? = some a ∧ σ[i]? = some (some (.ref a))
variable {b : Bs}
theorem Bl.notOwn (B : Bl b G H σ ρ) {a : Addr} {o : HO} (h : b.H0 a = some o) (n : a ∉ b.refs) : ¬ OwnA σ ρ a := fun ⟨i, s, w, h1, h2, h3⟩ => by
  rcases Sl.hold_own h2 with e | e
  · subst e
    have := B.ow i w a h1 h3
    rw [h] at this; cases this
  · subst e
    obtain ⟨c, q1, q2⟩ := B.rf i w h1
    rw [h3] at q2; cases q2
    exact n (List.mem_of_getElem? q1)
theorem Bl.ext (B : Bl b G H σ ρ) (e : Ext σ G H ρ G1 H1 ρ1) : Bl b G1 H1 σ ρ1 where
  g0 := B.g0.trans e.g
  gn := fun a o h => by
    rcases e.n a o h with h | h | ⟨i, w, h1, h2⟩
    · exact B.gn a o h
    · cases q : b.H0 a with
      | none => exact .inr rfl
      | some u => exact absurd h (B.hd a (by rw [q]; exact fun z => nomatch z))
    · exact .inr (B.ow i w a h1 h2)
  h0 := fun a o h n => e.h a o (B.h0 a o h n) (B.notOwn h n)
  hd := fun a h => e.d a (B.hd a h)
  ow := fun i o a h1 h2 => by obtain ⟨o', q⟩ := e.so i o h1; exact B.ow i o' a q h2
  rf := fun i o h => by obtain ⟨o', q⟩ := e.sr i o h; exact B.rf i o' q
theorem Bl.tg {vs : List Nat} (B : Bl b G H σ ρ) (t : Tg vs σ ρ σ' ρ') : Bl b G H σ' ρ' :=
  ⟨B.g0, B.gn, B.h0, B.hd, fun i o a h1 h2 => by obtain ⟨q1, q2⟩ := t.ow i o h1; exact B.ow i o a q1 (by rw [← q2]; exact h2), fun i o h => by obtain ⟨q1, q2⟩ := t.rf i o h; rw [q2]; exact B.rf i o q1⟩
theorem Bl.young (B : Bl b G H σ ρ) {a : Addr} (h : H a = none) : b.H0 a = none := by
  cases q : b.H0 a with
  | none => rfl
  | some u => exact absurd h (B.hd a (by rw [q]; exact fun z => nomatch z))
/-- what a def hands back -/
def RvE (K : PySem.W.Frag) (cn : String → Addr) (b : Bs) (G' H' : Hp) (v : V) : Rv → Prop
  | .val d => Rep K cn G' d v
  | .fre o => ∃ a, v = .ref a ∧ b.H0 a = none ∧ OwnAt K cn G' H' a o
def PostS (K : PySem.W.Frag) (cn : String → Addr) (W : WX) (b : Bs) (D : Ends) : Fl → Prop
  | .nx ρ' => ∀ G' H' σ', Rl K cn G' H' σ' ρ' → Bl b G' H' σ' ρ' → D.nx σ' H'
  | .rt r ρ' => ∀ G' H' σ' v, Rl K cn G' H' σ' ρ' → Bl b G' H' σ' ρ' → RvE K cn b G' H' v r → D.rt v H'
  | .bk ρ' => ∀ G' H' σ', Rl K cn G' H' σ' ρ' → Bl b G' H' σ' ρ' → D.bk σ' H'
  | .ct ρ' => ∀ G' H' σ', Rl K cn G' H' σ' ρ' → Bl b G' H' σ' ρ' → D.ct σ' H'
  | .ex x ρ' => ∀ G' H' σ' d, Rl K cn G' H' σ' ρ' → Bl b G' H' σ' ρ' → ExR K cn G' H' x d → W (.ref (cn x.cls)) d σ' H'
def DenS (K : PySem.W.Frag) (cn : String → Addr) (W : WX) (t : TS) (g : DS) : Prop := ∀ (b : Bs) (G H : Hp) (σ : L2.St) (ρ : Env) (D : Ends), Rl K cn G H σ ρ → Bl b G H σ ρ → ∀ fl, g ρ = some fl → PostS K cn W b D fl → t D σ H
theorem den_bS {t : TE} {f : DE} {k : R → Env → Option Fl} {R' : VK} {D : Ends} (h : Den K cn W t f) (l : Rl K cn G H σ ρ) (B : Bl b G H σ ρ) {fl : Fl} (q : bS f k ρ = some fl) (p : PostS K cn W b D fl)
    (c : ∀ G1 H1 ρ1 v r, Ext σ G H ρ G1 H1 ρ1 → Rl K cn G1 H1 σ ρ1 → Bl b G1 H1 σ ρ1 → RepR K cn H G1 H1 σ ρ1 v r → k r ρ1 = some fl → R' v H1) : t σ H R' := by
  unfold bS at q
  cases z : f ρ with
  | none => rw [z] at q; cases q
  | some x =>
    rw [z] at q
    refine h G H σ ρ R' l x z ?_
    cases x with
    | ok r ρ1 => exact fun G1 H1 v e1 l1 r1 => c G1 H1 ρ1 v r e1 l1 (B.ext e1) r1 q
    | ex x ρ1 => cases q; exact fun G1 H1 d e1 l1 x1 => p G1 H1 σ d l1 (B.ext e1) x1
theorem den_bT {t : TT} {f : DT} {k : Bool → Env → Option Fl} {R' : Bool → Hp → Prop} {D : Ends} (h : DenT K cn W t f) (l : Rl K cn G H σ ρ) (B : Bl b G H σ ρ) {fl : Fl} (q : bT f k ρ = some fl) (p : PostS K cn W b D fl)
    (c : ∀ G1 H1 ρ1 r, Ext σ G H ρ G1 H1 ρ1 → Rl K cn G1 H1 σ ρ1 → Bl b G1 H1 σ ρ1 → k r ρ1 = some fl → R' r H1) : t σ H R' := by
  unfold bT at q
  cases z : f ρ with
  | none => rw [z] at q; cases q
  | some x =>
    rw [z] at q
    refine h G H σ ρ R' l x z ?_
    cases x with
    | ok r ρ1 => exact fun G1 H1 e1 l1 => c G1 H1 ρ1 r e1 l1 (B.ext e1) q
    | ex x ρ1 => cases q; exact fun G1 H1 d e1 l1 x1 => p G1 H1 σ d l1 (B.ext e1) x1
theorem ds_nil : DenS K cn W tNext sNil := fun b G H σ ρ D l B fl q p => by cases q; exact p G H σ l B
theorem ds_break : DenS K cn W tBreak sBreak := fun b G H σ ρ D l B fl q p => by cases q; exact p G H σ l B
theorem ds_cont : DenS K cn W L2.tCont sCont := fun b G H σ ρ D l B fl q p => by cases q; exact p G H σ l B
theorem ds_seq {t u : TS} {f g : DS} (h : DenS K cn W t f) (k : DenS K cn W u g) : DenS K cn W (tSeq t u) (sSeq f g) := fun b G H σ ρ D l B fl q p => by
  unfold sSeq at q
  cases z : f ρ with
  | none => rw [z] at q; cases q
  | some x =>
    rw [z] at q
    refine h b G H σ ρ _ l B x z ?_
    cases x with
    | nx ρ1 => exact fun G1 H1 σ1 l1 B1 => k b G1 H1 σ1 ρ1 D l1 B1 fl q p
    | rt r ρ1 => cases q; exact p
    | bk ρ1 => cases q; exact p
    | ct ρ1 => cases q; exact p
    | ex x ρ1 => cases q; exact p
theorem ds_expr {t : TE} {f : DE} (h : Den K cn W t f) : DenS K cn W (tDrop t) (sExpr f) := fun b G H σ ρ D l B fl q p => by
  refine den_bS (t := t) h l B q p fun G1 H1 ρ1 v r e1 l1 B1 r1 q1 => ?_
  cases q1
  exact p G1 H1 σ l1 B1
theorem ds_retN : DenS K cn W tRetN sRetN := fun b G H σ ρ D l B fl q p => by
  cases q
  exact p G H σ .non l B (by show Rep K cn G .non .non; unfold Rep; rfl)
theorem Bl.lend {i : Nat} (B : Bl b G H σ ρ) : Bl b G H σ (ρ.set i .no) := ⟨B.g0, B.gn, B.h0, B.hd, fun j o a h1 h2 => by
    rcases set_get h1 with ⟨_, z⟩ | ⟨_, z⟩
    · cases z
    · exact B.ow j o a z h2, fun j o h => by
    rcases set_get h with ⟨_, z⟩ | ⟨_, z⟩
    · cases z
    · exact B.rf j o z⟩
theorem ds_ret {t : TE} {f : DE} (h : Den K cn W t f) : DenS K cn W (tRet t) (sRet f) := fun b G H σ ρ D l B fl q p => by
  refine den_bS (t := t) h l B q p fun G1 H1 ρ1 v r e1 l1 B1 r1 q1 => ?_
  cases r with
  | val d => cases q1; exact p G1 H1 σ v l1 B1 r1
  | fre o =>
    cases q1
    obtain ⟨a, ev, n, k, _⟩ := r1
    exact p G1 H1 σ v l1 B1 ⟨a, ev, B.young n, k⟩
  | al i =>
    have hv : σ[i]? = some (some v) := r1
    simp only [retR] at q1
    cases z : ρ1[i]? with
    | none => rw [z] at q1; cases q1
    | some s =>
      rw [z] at q1
      cases s with
      | no => cases q1
      | ref o => cases q1
      | frz d =>
        cases q1
        obtain ⟨w, hw, rw'⟩ := l1.frz i d z
        rw [hv] at hw; cases hw
        exact p G1 H1 σ v l1 B1 rw'
      | own o =>
        cases q1
        obtain ⟨a, ha, ka⟩ := l1.own i _ o z rfl
        rw [hv] at ha; cases ha
        exact p G1 H1 σ _ (l1.lend (s := .no)) B1.lend ⟨a, rfl, B1.ow i o a z hv, ka⟩
theorem put_set {i : Nat} {s : Sl} (h : put ρ i s = some ρ1) : ρ1 = ρ.set i s ∧ i < ρ.length ∧ ∀ o, ρ[i]? ≠ some (.ref o) := by
  unfold DL.put at h
  cases z : ρ[i]? with
  | none => rw [z] at h; cases h
  | some t =>
    have hi : i < ρ.length := (List.getElem?_eq_some_iff.mp z).1
    rw [z] at h
    cases t with
    | ref o => cases h
    | no => cases h; exact ⟨rfl, hi, fun o z => nomatch z⟩
    | frz d => cases h; exact ⟨rfl, hi, fun o z => nomatch z⟩
    | own o => cases h; exact ⟨rfl, hi, fun o z => nomatch z⟩
/-- a new object becomes a name's own -/
theorem Rl.putOwn {i : Nat} {a : Addr} {o : Own} (l : Rl K cn G H σ ρ) (h : DL.put ρ i (.own o) = some ρ1) (k : OwnAt K cn G H a o) (no : ¬ OwnA σ ρ a) : Rl K cn G H (σ.set i (some (.ref a))) ρ1 := by
  obtain ⟨e, hi, hr⟩ := put_set h
  subst e
  have hs : i < σ.length := by rw [← l.len]; exact hi
  refine ⟨l.gh, by rw [List.length_set, List.length_set]; exact l.len, fun j d' z => ?_, fun j s o z1 z2 => ?_, fun j j' s t o u c z1 z2 z3 z4 z5 z6 => ?_⟩
  · rcases set_get z with ⟨ej, z⟩ | ⟨ne, z⟩
    · cases z
    · obtain ⟨w, e, r'⟩ := l.frz j d' z
      exact ⟨w, by rw [List.getElem?_set_ne (Ne.symm ne)]; exact e, r'⟩
  · rcases set_get z1 with ⟨ej, z⟩ | ⟨ne, z⟩
    · subst z; subst ej; cases z2
      exact ⟨a, by rw [List.getElem?_set_self hs], k⟩
    · obtain ⟨c, e, k'⟩ := l.own j s o z z2
      exact ⟨c, by rw [List.getElem?_set_ne (Ne.symm ne)]; exact e, k'⟩
  · rcases set_get z1 with ⟨e1, y1⟩ | ⟨n1, y1⟩
    · rcases set_get z2 with ⟨e2, y2⟩ | ⟨n2, y2⟩
      · rw [e1, e2]
      · exfalso
        subst e1
        rw [List.getElem?_set_self hs] at z5; cases z5
        rw [List.getElem?_set_ne (Ne.symm n2)] at z6
        exact no ⟨j', t, u, y2, z4, z6⟩
    · rcases set_get z2 with ⟨e2, y2⟩ | ⟨n2, y2⟩
      · exfalso
        subst e2
        rw [List.getElem?_set_self hs] at z6; cases z6
        rw [List.getElem?_set_ne (Ne.symm n1)] at z5
        exact no ⟨j, s, o, y1, z3, z5⟩
      · rw [List.getElem?_set_ne (Ne.symm n1)] at z5
        rw [List.getElem?_set_ne (Ne.symm n2)] at z6
        exact l.sep j j' s t o u c y1 y2 z3 z4 z5 z6
theorem Bl.putOwn {i : Nat} {a : Addr} {o : Own} (B : Bl b G H σ ρ) (h : DL.put ρ i (.own o) = some ρ1) (n : b.H0 a = none) (len : ρ.length = σ.length) : Bl b G H (σ.set i (some (.ref a))) ρ1 := by
  obtain ⟨e, hi, hr⟩ := put_set h
  subst e
  have hs : i < σ.length := by rw [← len]; exact hi
  refine ⟨B.g0, B.gn, B.h0, B.hd, fun j o c h1 h2 => ?_, fun j o h => ?_⟩
  · rcases set_get h1 with ⟨ej, z⟩ | ⟨ne, z⟩
    · subst ej
      rw [List.getElem?_set_self hs] at h2; cases h2
      exact n
    · rw [List.getElem?_set_ne (Ne.symm ne)] at h2
      exact B.ow j o c z h2
  · rcases set_get h with ⟨ej, z⟩ | ⟨ne, z⟩
    · cases z
    · rw [List.getElem?_set_ne (Ne.symm ne)]
      exact B.rf j o z
theorem ds_set {i : Nat} {t : TE} {f : DE} (h : Den K cn W t f) : DenS K cn W (tAsg t (L2.gName i)) (sSet i f) := fun b G H σ ρ D l B fl q p => by
  refine den_bS (t := t) h l B q p fun G1 H1 ρ1 v r e1 l1 B1 r1 q1 => ?_
  have frz : ∀ {x : Option (DL.D × Env)}, x = r.frz ρ1 → (match x with
      | some (d, ρ2) => match put ρ2 i (.frz d) with
        | some ρ3 => some (Fl.nx ρ3)
        | none => none
      | none => none) = some fl → L2.gName i v σ H1 D.nx := fun {x} ex q1 => by
    cases x with
    | none => cases q1
    | some y =>
      obtain ⟨d, ρ2⟩ := y
      dsimp only at q1
      obtain ⟨G2, fz, l2, rd, _⟩ := r1.frz l1 ex.symm
      have B2 := B.ext (e1.fz fz)
      cases z2 : put ρ2 i (.frz d) with
      | none => rw [z2] at q1; cases q1
      | some ρ3 =>
        rw [z2] at q1
        cases q1
        obtain ⟨l3, t3⟩ := l2.put z2 rd
        exact p G2 H1 _ l3 (B2.tg t3)
  cases r with
  | val d => exact frz rfl q1
  | al j => exact frz rfl q1
  | fre o =>
    dsimp only at q1
    obtain ⟨a, ev, n, k, no⟩ := r1
    cases z : put ρ1 i (.own o) with
    | none => rw [z] at q1; cases q1
    | some ρ2 =>
      rw [z] at q1
      cases q1
      subst ev
      exact p G1 H1 _ (l1.putOwn z k no) (B1.putOwn z (B.young n) l1.len)
theorem ds_asg {vs : List Nat} {t : TE} {f : DE} {g : TG} {gf : DG} (h : Den K cn W t f) (hg : DenG K cn vs g gf) : DenS K cn W (tAsg t g) (sAsg gf f) := fun b G H σ ρ D l B fl q p => by
  refine den_bS (t := t) h l B q p fun G1 H1 ρ1 v r e1 l1 B1 r1 q1 => ?_
  cases z : r.frz ρ1 with
  | none => rw [z] at q1; cases q1
  | some y =>
    obtain ⟨d, ρ2⟩ := y
    rw [z] at q1; dsimp only at q1
    obtain ⟨G2, fz, l2, rd, _⟩ := r1.frz l1 z
    have B2 := B.ext (e1.fz fz)
    cases z2 : gf d ρ2 with
    | none => rw [z2] at q1; cases q1
    | some ρ3 =>
      rw [z2] at q1
      cases q1
      exact hg G2 H1 σ ρ2 v d D.nx l2 rd ρ3 z2 fun σ' l3 t3 => p G2 H1 σ' l3 (B2.tg t3)
theorem ds_par {i j : Nat} {t : TA} {fa : DA} (ha : DenA K cn W t fa) (hij : i ≠ j) : DenS K cn W (tPar i j t) (sPar i j fa) := fun b G H σ ρ D l B fl q p => by
  unfold sPar at q
  cases z : fa ρ with
  | none => rw [z] at q; cases q
  | some x =>
    rw [z] at q
    refine ha G H σ ρ _ l x z ?_
    cases x with
    | ex x ρ1 => cases q; exact fun G1 H1 d e1 l1 x1 => p G1 H1 σ d l1 (B.ext e1) x1
    | ok rs ρ1 =>
      dsimp only at q
      refine fun G1 H1 vs e1 l1 r1 => ?_
      cases z2 : frzs ρ1 rs with
      | none => rw [z2] at q; cases q
      | some y =>
        obtain ⟨ds, ρ2⟩ := y
        rw [z2] at q
        obtain ⟨G2, fz, l2, rd⟩ := r1.frzs l1 z2
        have B2 := B.ext (e1.fz fz)
        split at q
        · rename_i x y ρx heq
          cases heq
          obtain ⟨v, w, ev, rx, ry⟩ := reps_two rd
          cases z3 : put ρ2 i (.frz x) with
          | none => rw [z3] at q; cases q
          | some ρ4 =>
            rw [z3] at q; dsimp only at q
            obtain ⟨l3, t3⟩ := l2.put z3 rx
            cases z4 : put ρ4 j (.frz y) with
            | none => rw [z4] at q; cases q
            | some ρ5 =>
              rw [z4] at q
              cases q
              obtain ⟨l4, t4⟩ := l3.put z4 ry
              exact ⟨v, w, ev, p G2 H1 _ l4 ((B2.tg t3).tg t4)⟩
        · cases q
theorem ds_if {c : TT} {t u : TS} {cf : DT} {f g : DS} (hc : DenT K cn W c cf) (h : DenS K cn W t f) (k : DenS K cn W u g) : DenS K cn W (tIfS c t u) (sIf cf f g) := fun b G H σ ρ D l B fl q p => by
  refine den_bT (t := c) hc l B q p fun G1 H1 ρ1 r e1 l1 B1 q1 => ?_
  cases r with
  | true => exact h b G1 H1 σ ρ1 D l1 B1 fl q1 p
  | false => exact k b G1 H1 σ ρ1 D l1 B1 fl q1 p
/-! ### loops -/
theorem Bl.rebase (B : Bl b G H σ ρ) : Bl ⟨b.H0, G, b.refs⟩ G H σ ρ := ⟨Le.refl _, fun _ _ h => .inl h, B.h0, B.hd, B.ow, B.rf⟩
theorem Bl.unbase (B : Bl b G H σ ρ) (B' : Bl ⟨b.H0, G, b.refs⟩ G1 H1 σ' ρ') : Bl b G1 H1 σ' ρ' := ⟨B.g0.trans B'.g0, fun a o h => (B'.gn a o h).elim (B.gn a o) .inr, B'.h0, B'.hd, B'.ow, B'.rf⟩
theorem Bl.new (B : Bl b G H σ ρ) (n : New G H G1 H1) : Bl b G1 H1 σ ρ := B.ext n.ext
theorem ds_for {vs : List Nat} {wi : TI} {g : TG} {tb : TS} {it : DI} {gf : DG} {bf : DS} (hi : DenI K cn W wi it) (hg : DenG K cn vs g gf) (hb : DenS K cn W tb bf) : DenS K cn W (tFor wi g tb) (sFor it gf bf) := fun b G H σ ρ D l B fl q p => by
  unfold sFor at q
  cases z : it ρ with
  | none => rw [z] at q; cases q
  | some x =>
    rw [z] at q
    refine hi G H σ ρ _ l x z ?_
    cases x with
    | ex x ρ1 => cases q; exact fun G1 H1 d e1 l1 x1 => p G1 H1 σ d l1 (B.ext e1) x1
    | ok ds ρ1 =>
      dsimp only at q
      refine fun G1 H1 J e1 l1 wk => ?_
      refine ⟨fun i m σc Hc => m = ds.length - i ∧ i ≤ ds.length ∧ ∃ (Gc : Hp) (ρi : Env), forGo gf bf (ds.drop i) ρi = some fl ∧ Le G1 Gc ∧ Rl K cn Gc Hc σc ρi ∧ Bl b Gc Hc σc ρi,
        ⟨ds.length, by simp, Nat.zero_le _, G1, ρ1, by simpa using q, Le.refl _, l1, B.ext e1⟩, ?_⟩
      rintro i m σc Hc ⟨rfl, hi', Gc, ρi, hgo, lg, lc, Bc⟩
      have wkc := wk i Gc Hc lg lc.gh
      by_cases hlt : i < ds.length
      · refine .inr ⟨(wkc.1 ds[i] (List.getElem?_eq_getElem hlt)).1, ?_⟩
        rw [List.drop_eq_getElem_cons hlt] at hgo
        simp only [forGo] at hgo
        refine ⟨fun σn Hn => i + 1 ≤ ds.length ∧ ∃ (Gn : Hp) (ρn : Env), forGo gf bf (ds.drop (i + 1)) ρn = some fl ∧ Le G1 Gn ∧ Rl K cn Gn Hn σn ρn ∧ Bl b Gn Hn σn ρn, fun σ' H' h => ⟨ds.length - (i + 1), by omega, rfl, h⟩, fun x H2 y => ?_⟩
        obtain ⟨Gy, ny, ry⟩ := (wkc.1 ds[i] (List.getElem?_eq_getElem hlt)).2 x H2 y
        cases z3 : gf ds[i] ρi with
        | none => rw [z3] at hgo; cases hgo
        | some ρa =>
          rw [z3] at hgo
          dsimp only at hgo
          refine hg Gy H2 σc ρi x ds[i] _ (lc.new ny) ry ρa z3 fun σ2 la ta => ?_
          have Ba := (Bc.new ny).tg ta
          cases z4 : bf ρa with
          | none => rw [z4] at hgo; cases hgo
          | some r =>
            rw [z4] at hgo
            -- what is kept grows along the body: a base of its own
            refine hb ⟨b.H0, Gy, b.refs⟩ Gy H2 σ2 ρa _ la Ba.rebase r z4 ?_
            have lgy : Le G1 Gy := lg.trans ny.g
            cases r with
            | nx ρn => exact fun G3 H3 σ3 l3 B3 => ⟨hlt, G3, ρn, hgo, lgy.trans B3.g0, l3, Ba.unbase B3⟩
            | ct ρn => exact fun G3 H3 σ3 l3 B3 => ⟨hlt, G3, ρn, hgo, lgy.trans B3.g0, l3, Ba.unbase B3⟩
            | bk ρn => cases hgo; exact fun G3 H3 σ3 l3 B3 => p G3 H3 σ3 l3 (Ba.unbase B3)
            | rt r ρn => cases hgo; exact fun G3 H3 σ3 v l3 B3 rv => p G3 H3 σ3 v l3 (Ba.unbase B3) (by cases r <;> exact rv)
            | ex x ρn => cases hgo; exact fun G3 H3 σ3 d l3 B3 x3 => p G3 H3 σ3 d l3 (Ba.unbase B3) x3
      · have ei : ds.length = i := by omega
        refine .inl ⟨wkc.2 ei, ?_⟩
        rw [List.drop_eq_nil_of_le (by omega)] at hgo
        cases hgo
        exact p Gc Hc σc lc Bc
theorem ds_while {tc : TT} {tb : TS} {m : Env → Nat} {tf : DT} {bf : DS} (hc : DenT K cn W tc tf) (hb : DenS K cn W tb bf) : DenS K cn W (tWhile tc tb) (sWhile m tf bf) := fun b G H σ ρ D l B fl q p => by
  unfold sWhile at q
  refine ⟨fun n σc Hc => ∃ (Gc : Hp) (ρi : Env), whileGo tf bf n ρi = some fl ∧ Rl K cn Gc Hc σc ρi ∧ Bl b Gc Hc σc ρi, ⟨m ρ, G, ρ, q, l, B⟩, ?_⟩
  rintro n σc Hc ⟨Gc, ρi, hgo, lc, Bc⟩
  cases n with
  | zero => cases hgo
  | succ n =>
    simp only [whileGo] at hgo
    cases z : tf ρi with
    | none => rw [z] at hgo; cases hgo
    | some r =>
      rw [z] at hgo
      refine hc Gc Hc σc ρi _ lc r z ?_
      cases r with
      | ex x ρ1 => cases hgo; exact fun G1 H1 d e1 l1 x1 => p G1 H1 σc d l1 (Bc.ext e1) x1
      | ok c ρ1 =>
        refine fun G1 H1 e1 l1 => ?_
        have B1 := Bc.ext e1
        cases c with
        | false => cases hgo; exact p G1 H1 σc l1 B1
        | true =>
          dsimp only at hgo
          refine ⟨fun σn Hn => ∃ (Gn : Hp) (ρn : Env), whileGo tf bf n ρn = some fl ∧ Rl K cn Gn Hn σn ρn ∧ Bl b Gn Hn σn ρn, fun σ' H' h => ⟨n, Nat.lt_succ_self n, h⟩, ?_⟩
          cases z4 : bf ρ1 with
          | none => rw [z4] at hgo; cases hgo
          | some r =>
            rw [z4] at hgo
            refine hb b G1 H1 σc ρ1 _ l1 B1 r z4 ?_
            cases r with
            | nx ρn => exact fun G3 H3 σ3 l3 B3 => ⟨G3, ρn, hgo, l3, B3⟩
            | ct ρn => exact fun G3 H3 σ3 l3 B3 => ⟨G3, ρn, hgo, l3, B3⟩
            | bk ρn => cases hgo; exact p
            | rt r ρn => cases hgo; exact p
            | ex x ρn => cases hgo; exact p
/-! ### stores -/
/-- the own object of a slot is changed -/
theorem Rl.change {i : Nat} {o o' : Own} {mk : Own → Sl} {a : Addr} {u : HO} (l : Rl K cn G H σ ρ) (hi : ρ[i]? = some (mk o)) (hm : ∀ o, (mk o).hold = some o) (hf : ∀ o d, mk o ≠ .frz d) (hs : σ[i]? = some (some (.ref a))) (k : OwnAt K cn G (upd H a u) a o') :
    Rl K cn G (upd H a u) σ (ρ.set i (mk o')) := by
  have hl : i < ρ.length := (List.getElem?_eq_some_iff.mp hi).1
  obtain ⟨a', ha', ka⟩ := l.own i _ o hi (hm o)
  rw [hs] at ha'; cases ha'
  refine ⟨l.gh.updN ka.some.1, by rw [List.length_set]; exact l.len, fun j d z => ?_, fun j s w z1 z2 => ?_, fun j j' s t w u c z1 z2 z3 z4 z5 z6 => ?_⟩
  · rcases set_get z with ⟨_, z⟩ | ⟨_, z⟩
    · exact absurd z.symm (hf _ d)
    · exact l.frz j d z
  · rcases set_get z1 with ⟨ej, z⟩ | ⟨ne, z⟩
    · subst ej; subst z
      rw [hm] at z2; cases z2
      exact ⟨a, hs, k⟩
    · obtain ⟨c, hc, kc⟩ := l.own j s w z z2
      have hca : c ≠ a := fun y => ne (l.sep j i s _ w o a z hi z2 (hm o) (by rw [hc, y]) hs)
      exact ⟨c, hc, kc.mono (Le.refl _) kc.some.1 fun x q => by rw [upd_ne hca]; exact q⟩
  · have old : ∀ {j : Nat} {s : Sl} {w : Own}, (ρ.set i (mk o'))[j]? = some s → Sl.hold s = some w → ∃ s' w', ρ[j]? = some s' ∧ Sl.hold s' = some w' := fun {j s w} h1 h2 => by
      rcases set_get h1 with ⟨ej, _⟩ | ⟨_, z⟩
      · subst ej; exact ⟨_, o, hi, hm o⟩
      · exact ⟨s, w, z, h2⟩
    obtain ⟨s1, w1, q1, q2⟩ := old z1 z3
    obtain ⟨s2, w2, q3, q4⟩ := old z2 z4
    exact l.sep j j' s1 s2 w1 w2 c q1 q3 q2 q4 z5 z6
theorem Bl.change {i : Nat} {o o' : Own} {mk : Own → Sl} {a : Addr} {u : HO} (B : Bl b G H σ ρ) (hi : ρ[i]? = some (mk o)) (hmk : mk = .own ∨ mk = .ref) (hs : σ[i]? = some (some (.ref a))) : Bl b G (upd H a u) σ (ρ.set i (mk o')) := by
  have at0 : ∀ c w, b.H0 c = some w → c ∉ b.refs → c ≠ a := fun c w h n e => by
    subst e
    rcases hmk with e | e
    · subst e
      have := B.ow i o c hi hs
      rw [h] at this; cases this
    · subst e
      obtain ⟨c', q1, q2⟩ := B.rf i o hi
      rw [hs] at q2; cases q2
      exact n (List.mem_of_getElem? q1)
  refine ⟨B.g0, B.gn, fun c w h n => by rw [upd_ne (at0 c w h n)]; exact B.h0 c w h n, fun c h => ?_, fun j w c h1 h2 => ?_, fun j w h => ?_⟩
  · by_cases hc : c = a
    · subst hc; rw [upd_same]; exact fun z => nomatch z
    · rw [upd_ne hc]; exact B.hd c h
  · rcases set_get h1 with ⟨ej, z⟩ | ⟨ne, z⟩
    · subst ej
      rcases hmk with e | e
      · subst e; exact B.ow j o c hi h2
      · subst e; cases z
    · exact B.ow j w c z h2
  · rcases set_get h with ⟨ej, z⟩ | ⟨ne, z⟩
    · subst ej
      rcases hmk with e | e
      · subst e; cases z
      · subst e; exact B.rf j o hi
    · exact B.rf j w z
theorem own_q {i : Nat} {o : Own} {mk : Own → Sl} (h : own? ρ i = some (o, mk)) : ρ[i]? = some (mk o) ∧ (mk = .own ∨ mk = .ref) ∧ (∀ o, (mk o).hold = some o) ∧ ∀ o d, mk o ≠ .frz d := by
  unfold own? at h
  split at h
  · rename_i w hw; cases h; exact ⟨hw, .inl rfl, fun _ => rfl, fun _ _ z => nomatch z⟩
  · rename_i w hw; cases h; exact ⟨hw, .inr rfl, fun _ => rfl, fun _ _ z => nomatch z⟩
  · cases h
/-- x.append(e) -/
def tApp (K : PySem.W.Frag) (i : Nat) (te : TE) : TS := tDrop (tBM K "list" rAppend (tVar i) (tCons te tNil))
theorem slot_of {i : Nat} {o : Own} {mk : Own → Sl} (l : Rl K cn G H σ ρ) (h : own? ρ i = some (o, mk)) : ∃ a, σ[i]? = some (some (.ref a)) ∧ OwnAt K cn G H a o := by
  obtain ⟨h1, _, h3, _⟩ := own_q h
  exact l.own i _ o h1 (h3 o)
theorem frz_own {r : R} {d : DL.D} {i : Nat} {o : Own} {mk : Own → Sl} (h : r.frz ρ = some (d, ρ1)) (q : own? ρ1 i = some (o, mk)) : ρ[i]? = some (mk o) := by
  obtain ⟨q1, q2, _, q4⟩ := own_q q
  cases r with
  | val d' => cases h; exact q1
  | fre w =>
    simp only [R.frz] at h
    split at h
    · cases h; exact q1
    · cases h
  | al j =>
    simp only [R.frz] at h
    split at h
    · split at h
      · cases h
        rcases set_get q1 with ⟨_, z⟩ | ⟨_, z⟩
        · exact absurd z (q4 _ _)
        · exact z
      · cases h
    · cases h; exact q1
    · cases h
theorem ds_app {i : Nat} {te : TE} {f : DE} (h : Den K cn W te f) : DenS K cn W (tApp K i te) (sApp i f) := fun b G H σ ρ D l B fl q p => by
  unfold sApp at q
  split at q
  · rename_i l0 mk0 hs0
    obtain ⟨a, ha, _, vs0, hv0, _⟩ := slot_of l hs0
    refine ⟨.ref a, ha, .inl ⟨rfl, vs0, .inl (.inl hv0)⟩, ?_⟩
    refine den_bS (t := te) h l B q p fun G1 H1 ρ1 v r e1 l1 B1 r1 q1 => ?_
    cases z : r.frz ρ1 with
    | none => rw [z] at q1; cases q1
    | some y =>
      obtain ⟨d, ρ2⟩ := y
      rw [z] at q1; dsimp only at q1
      obtain ⟨G2, fz, l2, rd, _⟩ := r1.frz l1 z
      have B2 := B.ext (e1.fz fz)
      split at q1
      · rename_i l' mk hs
        split at q1
        · rename_i hl
          cases q1
          obtain ⟨a', ha', kn, vs, hv, rs⟩ := slot_of l2 hs
          rw [ha] at ha'; cases ha'
          obtain ⟨o1, o2, o3, o4⟩ := own_q hs
          refine ⟨a, vs, v, rfl, rfl, hv, line_lt (by rw [rs.length]; exact hl), ?_⟩
          have l3 := l2.change (o' := .lst (l' ++ [d])) (u := .lst (vs ++ [v])) o1 o3 o4 ha ⟨kn, _, upd_same, rs.snoc rd⟩
          exact p G2 _ σ l3 (B2.change o1 o2 ha)
        · cases q1
      · cases q1
  · cases q
theorem Reps.set {d : DL.D} {v : V} : ∀ {ds : List DL.D} {vs : List V} {j : Nat}, Reps K cn G ds vs → Rep K cn G d v → Reps K cn G (ds.set j d) (vs.set j v)
  | [], vs, j, h, r => by unfold Reps at h; subst h; simp; unfold Reps; rfl
  | e :: ds, vs, j, h, r => by
    unfold Reps at h
    obtain ⟨w, us, ev, r1, r2⟩ := h
    subst ev
    cases j with
    | zero => show Reps K cn G (d :: ds) (v :: us); unfold Reps; exact ⟨v, us, rfl, r, r2⟩
    | succ k => show Reps K cn G (e :: ds.set k d) (w :: us.set k v); unfold Reps; exact ⟨w, _, rfl, r1, Reps.set r2 r⟩
theorem ixD_eq (n : Nat) (i : Int) : ixN n i = ixD n i := rfl
/-- x[j] = e -/
def tPutL (i : Nat) (tj te : TE) : TS := tAsg te (gSub (tVar i) tj rSetL)
theorem ds_put {i : Nat} {tj te : TE} {f g : DE} (h : Den K cn W te f) (k : Den K cn W tj g) : DenS K cn W (tPutL i tj te) (sPut i g f) := fun b G H σ ρ D l B fl q p => by
  refine den_bS (t := te) h l B q p fun G1 H1 ρ1 v r e1 l1 B1 r1 q1 => ?_
  cases z0 : own? ρ1 i with
  | none => rw [z0] at q1; cases q1
  | some w0 =>
    rw [z0] at q1
    obtain ⟨a, ha, _⟩ := slot_of l1 z0
    refine ⟨.ref a, ha, ?_⟩
    refine den_bS (t := tj) k l1 B1 q1 p fun G2 H2 ρ2 y s e2 l2 B2 r2 q2 => ?_
    cases s with
    | fre o => cases q2
    | al j => cases q2
    | val ds => cases ds with
      | int kk =>
        dsimp only at q2
        cases z2 : r.frz ρ2 with
        | none => rw [z2] at q2; cases q2
        | some w =>
          obtain ⟨d, ρ3⟩ := w
          rw [z2] at q2; dsimp only at q2
          obtain ⟨G3, fz, l3, rd, _⟩ := (r1.ext e2).frz l2 z2
          have B3 := B.ext ((e1.trans e2).fz fz)
          split at q2
          · rename_i l' mk hs
            split at q2
            · rename_i m hm
              cases q2
              obtain ⟨a', ha', kn, vs, hv, rs⟩ := slot_of l3 hs
              rw [ha] at ha'; cases ha'
              obtain ⟨o1, o2, o3, o4⟩ := own_q hs
              refine ⟨a, vs, kk, m, rfl, r2.int, hv, by rw [rs.length, ixD_eq]; exact hm, ?_⟩
              have l4 := l3.change (o' := .lst (l'.set m d)) (u := .lst (vs.set m v)) o1 o3 o4 ha ⟨kn, _, upd_same, rs.set rd⟩
              exact p G3 _ σ l4 (B3.change o1 o2 ha)
            · cases q2
          · cases q2
      | _ => cases q2
/-! ### dicts -/
theorem keys_any {kvs : List (Int × DL.D)} {ws : List (Key × V)} {k : Int} (h : ws.map (·.1) = kvs.map (fun p => (Sum.inl p.1 : Key))) : (ws.any fun kv => decide (kv.1 = (Sum.inl k : Key))) = kvs.any fun kv => decide (kv.1 = k) := by
  have e1 : (ws.any fun kv => decide (kv.1 = (Sum.inl k : Key))) = (ws.map (·.1)).any fun x => decide (x = (Sum.inl k : Key)) := by rw [List.any_map]; rfl
  have e2 : (kvs.any fun kv => decide (kv.1 = k)) = (kvs.map (fun p => (Sum.inl p.1 : Key))).any fun x => decide (x = (Sum.inl k : Key)) := by
    rw [List.any_map]
    congr 1
    funext kv
    show _ = decide ((Sum.inl kv.1 : Key) = Sum.inl k)
    by_cases e : kv.1 = k
    · simp [e]
    · have : ¬ (Sum.inl kv.1 : Key) = Sum.inl k := fun z => e (Sum.inl.inj z)
      rw [decide_eq_false e, decide_eq_false this]
  rw [e1, e2, h]
theorem putD_ok {kvs : List (Int × DL.D)} {ws : List (Key × V)} {k : Int} {d : DL.D} {v : V} (h : ws.map (·.1) = kvs.map (fun p => (Sum.inl p.1 : Key))) (r : Reps K cn G (kvs.map (·.2)) (ws.map (·.2))) (rd : Rep K cn G d v) :
    (putK ws (Sum.inl k : Key) v).map (·.1) = (putD kvs k d).map (fun p => (Sum.inl p.1 : Key)) ∧ Reps K cn G ((putD kvs k d).map (·.2)) ((putK ws (Sum.inl k : Key) v).map (·.2)) := by
  unfold putK putD
  rw [keys_any h]
  split
  · -- the key is there
    have go : ∀ (kvs : List (Int × DL.D)) (ws : List (Key × V)), ws.map (·.1) = kvs.map (fun p => (Sum.inl p.1 : Key)) → Reps K cn G (kvs.map (·.2)) (ws.map (·.2)) →
        (ws.map fun kv => if kv.1 = (Sum.inl k : Key) then (kv.1, v) else kv).map (·.1) = (kvs.map fun kv => if kv.1 = k then (kv.1, d) else kv).map (fun p => (Sum.inl p.1 : Key)) ∧
        Reps K cn G ((kvs.map fun kv => if kv.1 = k then (kv.1, d) else kv).map (·.2)) ((ws.map fun kv => if kv.1 = (Sum.inl k : Key) then (kv.1, v) else kv).map (·.2)) := fun kvs => by
      induction kvs with
      | nil =>
        intro ws h1 h2
        cases ws with
        | nil => exact ⟨rfl, h2⟩
        | cons _ _ => cases h1
      | cons p kvs ih =>
        intro ws h1 h2
        cases ws with
        | nil => cases h1
        | cons q ws =>
          simp only [List.map_cons, List.cons.injEq] at h1
          simp only [List.map_cons] at h2
          unfold Reps at h2
          obtain ⟨w, us, e, r1, r2⟩ := h2
          simp only [List.cons.injEq] at e
          obtain ⟨e1, e2⟩ := e
          subst e1; subst e2
          obtain ⟨i1, i2⟩ := ih ws h1.2 r2
          simp only [List.map_cons]
          by_cases e : p.1 = k
          · have e' : q.1 = (Sum.inl k : Key) := by rw [h1.1, e]
            rw [if_pos e, if_pos e']
            refine ⟨by rw [i1, h1.1], ?_⟩
            unfold Reps
            exact ⟨v, _, rfl, rd, i2⟩
          · have e' : ¬ q.1 = (Sum.inl k : Key) := by rw [h1.1]; exact fun z => e (Sum.inl.inj z)
            rw [if_neg e, if_neg e']
            refine ⟨by rw [i1, h1.1], ?_⟩
            unfold Reps
            exact ⟨_, _, rfl, r1, i2⟩
    exact go kvs ws h r
  · refine ⟨by simp [h], ?_⟩
    rw [List.map_append, List.map_append]
    exact r.snoc rd
theorem ds_dput {i : Nat} {tj te : TE} {f g : DE} (h : Den K cn W te f) (k : Den K cn W tj g) : DenS K cn W (sDPut (tVar i) tj te) (sDput i g f) := fun b G H σ ρ D l B fl q p => by
  refine den_bS (t := te) h l B q p fun G1 H1 ρ1 v r e1 l1 B1 r1 q1 => ?_
  cases z0 : own? ρ1 i with
  | none => rw [z0] at q1; cases q1
  | some w0 =>
    rw [z0] at q1
    obtain ⟨a, ha, _⟩ := slot_of l1 z0
    refine ⟨.ref a, ha, ?_⟩
    refine den_bS (t := tj) k l1 B1 q1 p fun G2 H2 ρ2 y s e2 l2 B2 r2 q2 => ?_
    cases s with
    | fre o => cases q2
    | al j => cases q2
    | val ds => cases ds with
      | int kk =>
        dsimp only at q2
        cases z2 : r.frz ρ2 with
        | none => rw [z2] at q2; cases q2
        | some w =>
          obtain ⟨d, ρ3⟩ := w
          rw [z2] at q2; dsimp only at q2
          obtain ⟨G3, fz, l3, rd, _⟩ := (r1.ext e2).frz l2 z2
          have B3 := B.ext ((e1.trans e2).fz fz)
          split at q2
          · rename_i l' mk hs
            split at q2
            · rename_i hl
              cases q2
              obtain ⟨a', ha', kn, ws, hv, hk, rs⟩ := slot_of l3 hs
              rw [ha] at ha'; cases ha'
              obtain ⟨o1, o2, o3, o4⟩ := own_q hs
              have hy := r2.int
              subst hy
              have hlen : ws.length = l'.length := by
                have := congrArg List.length hk
                simpa using this
              obtain ⟨pk1, pk2⟩ := putD_ok (k := kk) hk rs rd
              refine ⟨a, _, rfl, DPut.k (k := (Sum.inl kk : Key)) hv (line_lt (by rw [hlen]; exact hl)), ?_⟩
              have l4 := l3.change (o' := .dct (putD l' kk d)) (u := .dK (putK ws (Sum.inl kk) v)) o1 o3 o4 ha ⟨kn, _, upd_same, pk1, pk2⟩
              exact p G3 _ σ l4 (B3.change o1 o2 ha)
            · cases q2
          · cases q2
      | _ => cases q2
end
end DL
end

section
set_option maxRecDepth 100000
set_option maxHeartbeats 2000000
namespace DL
open PySem PySem.Spec L2
/-! ### a def keeps the promise that its body's datum says -/
section
variable {P : Program} {w : World} {K : PySem.W.Frag} {mg : Str → Option Value} {base : Heap} {cn : String → Addr} {k : Nat} {f : Addr} {fd : FuncData} {G H : Hp}
theorem start_get {N : Nat} {ds : List D} {i : Nat} {d : D} (h : (start N ds)[i]? = some (.frz d)) : ds[i]? = some d := by
  unfold start at h
  by_cases hi : i < ds.length
  · rw [List.getElem?_append_left (by simpa using hi), List.getElem?_map, List.getElem?_eq_getElem hi] at h
    simp at h
    rw [List.getElem?_eq_getElem hi, h]
  · rw [List.getElem?_append_right (by simpa using Nat.le_of_not_lt hi)] at h
    have := List.mem_of_getElem? h
    rw [List.mem_replicate] at this
    cases this.2
theorem start_hold {N : Nat} {ds : List D} {i : Nat} {s : Sl} {o : Own} (h : (start N ds)[i]? = some s) (q : s.hold = some o) : False := by
  unfold start at h
  have := List.mem_of_getElem? h
  rw [List.mem_append] at this
  rcases this with h | h
  · obtain ⟨d, _, e⟩ := List.mem_map.mp h; subst e; cases q
  · rw [List.mem_replicate] at h; rw [h.2] at q; cases q
theorem reps_get {ds : List D} {vs : List V} {i : Nat} {d : D} (r : Reps K cn G ds vs) (h : ds[i]? = some d) : ∃ v, vs[i]? = some v ∧ Rep K cn G d v := reps_at r h
theorem startV_get {N : List Str} {vs : List V} {i : Nat} {v : V} (h : vs[i]? = some v) : (L2.start N vs)[i]? = some (some v) := by
  unfold L2.start
  have hi : i < vs.length := (List.getElem?_eq_some_iff.mp h).1
  rw [List.getElem?_append_left (by simpa using hi), List.getElem?_map, h]
  rfl
theorem Rl.start {N : List Str} {ds : List D} {vs : List V} (l : Le G H) (r : Reps K cn G ds vs) : Rl K cn G H (L2.start N vs) (DL.start N.length ds) :=
  ⟨l, by unfold DL.start L2.start; simp [r.length], fun i d h => by
    obtain ⟨v, hv, rv⟩ := reps_at r (start_get h)
    exact ⟨v, startV_get hv, rv⟩, fun i s o h q => (start_hold h q).elim, fun i j s t o u a h _ q _ _ _ => (start_hold h q).elim⟩
theorem fn_den {x qual : Str} {st : Stmt} {N ps : List Str} {g : DS} (F : Fun K x qual st f fd) (S : FnScope N ps (defScope st))
    (hb : ∀ (cdv : Value) (A : Around) (outer : List PySem.Env) (s : Shared) (H : Hp) (E : XK), Room k (A.deeper (PyProof.Rows.envOfC qual (defScope st) s.heap.objs.size f cdv)) →
      ∃ t, PSs (cxOf (L2.CX P w) P w K mg base N qual (defScope st) f cdv A outer s H E) (defBody st) t ∧ DenS K cn (fun cls d _ H' => E cls d H') t g) :
    FnOk P w K mg base (L2.CX P w) (k + 1) f fd ps (spD K cn (fn N.length ps.length g)) := by
  refine F.okX S (fun vs H Q E h => ?_) fun cdv A outer s H vs Q E hr h => ?_
  · obtain ⟨G, ds, fo, l, r, hF, _⟩ := h
    unfold fn at hF
    split at hF
    · rename_i hl; rw [r.length, hl]
    · cases hF
  · obtain ⟨G, ds, fo, l, r, hF, p⟩ := h
    obtain ⟨t, ht, hd⟩ := hb cdv A outer s H E hr
    refine ⟨t, ht, ?_⟩
    unfold fn at hF
    split at hF
    · rename_i hl
      have Bl0 : Bl ⟨H, G, []⟩ G H (L2.start N vs) (DL.start N.length ds) := ⟨Le.refl _, fun _ _ h => .inl h, fun _ _ h _ => h, fun _ h => h, fun i o a h _ => (start_hold h rfl).elim, fun i o h => (start_hold h rfl).elim⟩
      have nw : ∀ {G' H' : Hp} {σ' : L2.St} {ρ' : Env}, Rl K cn G' H' σ' ρ' → Bl ⟨H, G, []⟩ G' H' σ' ρ' → New G H G' H' := fun l' B => ⟨B.g0, fun a o h => B.h0 a o h (by simp), l'.gh, B.gn⟩
      cases z : g (DL.start N.length ds) with
      | none => rw [z] at hF; cases hF
      | some fl =>
        rw [z] at hF
        refine hd ⟨H, G, []⟩ G H _ _ _ (Rl.start l r) Bl0 fl z ?_
        cases fl with
        | nx ρ' => cases hF; exact fun G' H' σ' l' B => p G' H' .non (nw l' B) (by show Rep K cn G' .non .non; unfold Rep; rfl)
        | rt rv ρ' => cases hF; exact fun G' H' σ' v l' B rr => p G' H' v (nw l' B) (by cases rv <;> exact rr)
        | ex x ρ' => cases hF; exact fun G' H' σ' d l' B xr => p G' H' d (nw l' B) xr
        | bk ρ' => cases hF
        | ct ρ' => cases hF
    · cases hF
theorem startM_len {n : Nat} {o : Own} {ds : List D} : (Sl.ref o :: DL.start n ds).length = (DL.start n ds).length + 1 := rfl
theorem fnM_den {x qual : Str} {st : Stmt} {N ps : List Str} {g : DS} (F : Fun K x qual st f fd) (S : FnScope N ps (defScope st)) (hN : 0 < N.length)
    (hb : ∀ (cdv : Value) (A : Around) (outer : List PySem.Env) (s : Shared) (H : Hp) (E : XK), Room k (A.deeper (PyProof.Rows.envOfC qual (defScope st) s.heap.objs.size f cdv)) →
      ∃ t, PSs (cxOf (L2.CX P w) P w K mg base N qual (defScope st) f cdv A outer s H E) (defBody st) t ∧ DenS K cn (fun cls d _ H' => E cls d H') t g) :
    FnOk P w K mg base (L2.CX P w) (k + 1) f fd ps (spM K cn (fnM N.length ps.length g)) := by
  refine F.okX S (fun vs H Q E h => ?_) fun cdv A outer s H vs Q E hr h => ?_
  · obtain ⟨G, a, o, us, ds, fo, o', e, l, ka, r, hF, _⟩ := h
    subst e
    unfold fnM at hF
    split at hF
    · rename_i hl; rw [List.length_cons, r.length, hl]
    · cases hF
  · obtain ⟨G, a, o, us, ds, fo, o', e, l, ka, r, hF, p⟩ := h
    subst e
    obtain ⟨t, ht, hd⟩ := hb cdv A outer s H E hr
    refine ⟨t, ht, ?_⟩
    unfold fnM at hF
    split at hF
    · rename_i hl
      -- the slots
      have hσ : L2.start N (.ref a :: us) = some (.ref a) :: (us.map some ++ List.replicate (N.length - 1 - us.length) none) := by
        unfold L2.start
        simp only [List.map_cons, List.length_cons, List.cons_append]
        rw [show N.length - (us.length + 1) = N.length - 1 - us.length by omega]
      have tl : ∀ {i : Nat} {v : V}, us[i]? = some v → (L2.start N (.ref a :: us))[i + 1]? = some (some v) := fun {i v} h => startV_get (by simpa using h)
      have Rl0 : Rl K cn G H (L2.start N (.ref a :: us)) (.ref o :: DL.start (N.length - 1) ds) := by
        refine ⟨l, ?_, fun i d h => ?_, fun i s w h q => ?_, fun i j s t w u c h1 h2 q1 q2 _ _ => ?_⟩
        · rw [hσ]
          unfold DL.start
          simp [r.length]
        · cases i with
          | zero => cases h
          | succ i =>
            obtain ⟨v, hv, rv⟩ := reps_at r (start_get (show (DL.start (N.length - 1) ds)[i]? = some (.frz d) by simpa using h))
            exact ⟨v, tl hv, rv⟩
        · cases i with
          | zero => cases h; cases q; exact ⟨a, by rw [hσ]; rfl, ka⟩
          | succ i => exact (start_hold (show (DL.start (N.length - 1) ds)[i]? = some s by simpa using h) q).elim
        · cases i with
          | succ i => exact (start_hold (show (DL.start (N.length - 1) ds)[i]? = some s by simpa using h1) q1).elim
          | zero => cases j with
            | succ j => exact (start_hold (show (DL.start (N.length - 1) ds)[j]? = some t by simpa using h2) q2).elim
            | zero => rfl
      have Bl0 : Bl ⟨H, G, [a]⟩ G H (L2.start N (.ref a :: us)) (.ref o :: DL.start (N.length - 1) ds) := by
        refine ⟨Le.refl _, fun _ _ h => .inl h, fun _ _ h _ => h, fun _ h => h, fun i w c h _ => ?_, fun i w h => ?_⟩
        · cases i with
          | zero => cases h
          | succ i => exact (start_hold (show (DL.start (N.length - 1) ds)[i]? = some (.own w) by simpa using h) rfl).elim
        · cases i with
          | zero => exact ⟨a, rfl, by rw [hσ]; rfl⟩
          | succ i => exact (start_hold (show (DL.start (N.length - 1) ds)[i]? = some (.ref w) by simpa using h) rfl).elim
      have nw : ∀ {G' H' : Hp} {σ' : L2.St} {ρ' : Env}, Rl K cn G' H' σ' ρ' → Bl ⟨H, G, [a]⟩ G' H' σ' ρ' → NewM a G H G' H' := fun l' B => ⟨B.g0, fun c o hc h => B.h0 c o h (by simpa using hc), l'.gh, B.gn⟩
      have fin' : ∀ {G' H' : Hp} {σ' : L2.St} {ρ' : Env} {fx : Fo}, Rl K cn G' H' σ' ρ' → Bl ⟨H, G, [a]⟩ G' H' σ' ρ' → fin fx ρ' = some (fo, o') → fx = fo ∧ OwnAt K cn G' H' a o' := fun {G' H' σ' ρ' fx} l' B q => by
        unfold fin at q
        split at q
        · rename_i w hw
          cases q
          obtain ⟨c, q1, q2⟩ := B.rf 0 _ hw
          have e : a = c := by simpa using q1
          subst e
          obtain ⟨c, q3, q4⟩ := l'.own 0 _ _ hw rfl
          rw [q2] at q3; cases q3
          exact ⟨rfl, q4⟩
        · cases q
      cases z : g (.ref o :: DL.start (N.length - 1) ds) with
      | none => rw [z] at hF; cases hF
      | some fl =>
        rw [z] at hF
        refine hd ⟨H, G, [a]⟩ G H _ _ _ Rl0 Bl0 fl z ?_
        cases fl with
        | nx ρ' => exact fun G' H' σ' l' B => by obtain ⟨e, k⟩ := fin' l' B hF; subst e; exact p G' H' .non (nw l' B) k (by show Rep K cn G' .non .non; unfold Rep; rfl)
        | rt rv ρ' => exact fun G' H' σ' v l' B rr => by obtain ⟨e, k⟩ := fin' l' B hF; subst e; exact p G' H' v (nw l' B) k (by cases rv <;> exact rr)
        | ex x ρ' => exact fun G' H' σ' d l' B xr => by obtain ⟨e, k⟩ := fin' l' B hF; subst e; exact p G' H' d (nw l' B) k xr
        | bk ρ' => cases hF
        | ct ρ' => cases hF
    · cases hF
end
/-! ### a def of the module, as its callers know it -/
def Cg (P : Program) (w : World) (K : PySem.W.Frag) (mg : Str → Option Value) (base : Heap) (cn : String → Addr) (k : Nat) (x : String) (F : DF) : Prop :=
  ∃ f, mg (Str.ofString x) = some (.ref f) ∧ PySem.W.keepIn K (.ref f) = true ∧ FnR P w K mg base (L2.CX P w) k f (spD K cn F)
def CgM (P : Program) (w : World) (K : PySem.W.Frag) (mg : Str → Option Value) (base : Heap) (cn : String → Addr) (k : Nat) (x : String) (F : DM) : Prop :=
  ∃ f, mg (Str.ofString x) = some (.ref f) ∧ PySem.W.keepIn K (.ref f) = true ∧ FnR P w K mg base (L2.CX P w) k f (spM K cn F)
section
variable {P : Program} {w : World} {K : PySem.W.Frag} {mg : Str → Option Value} {base : Heap} {cn : String → Addr} {k : Nat} {f : Addr} {fd : FuncData} {x : String}
theorem Fun.fnR {qual x' : Str} {st : Stmt} {ps : List Str} {sp : Sp} (F : Fun K x' qual st f fd) (ok : FnOk P w K mg base (L2.CX P w) k f fd ps sp)
    (h : ∀ (kV doc pm : Value) (an : Option Addr) (cdv ct : Value) (us : List Value), us.length = ps.length → bindArgs (PySem.W.fnOf x' qual (defArgs st) (defBody st) (defScope st) .none kV doc pm an cdv ct) ⟨us, []⟩ = pure (ps.zip us)) : FnR P w K mg base (L2.CX P w) k f sp :=
  (ok.raw (F.binds h) .nil).imp fun vs H Q E q => by rw [List.append_nil]; exact q
end
/-! ### expressions with their data -/
/-! a reading that asks for just what the datum says -/
section
variable (K : PySem.W.Frag) (cn : String → Addr) (W : WX)
def toE (f : DE) : TE := fun σ H Q => ∃ G ρ e, Rl K cn G H σ ρ ∧ f ρ = some e ∧ PostE K cn W σ G H ρ Q e
def toA (f : DA) : TA := fun σ H Q => ∃ G ρ e, Rl K cn G H σ ρ ∧ f ρ = some e ∧ PostA K cn W σ G H ρ Q e
def toT (f : DT) : TT := fun σ H Q => ∃ G ρ e, Rl K cn G H σ ρ ∧ f ρ = some e ∧ PostT K cn W σ G H ρ Q e
def toO (f : DO) : TO := fun σ H Q => ∃ G ρ e, Rl K cn G H σ ρ ∧ f ρ = some e ∧ PostO K cn W σ G H ρ Q e
def toI (f : DI) : TI := fun σ H R => ∃ G ρ e, Rl K cn G H σ ρ ∧ f ρ = some e ∧ PostI K cn W σ G H ρ R e
def toG (vs : List Nat) (f : DG) : TG := fun v σ H Q => ∃ G ρ d ρ', Rl K cn G H σ ρ ∧ Rep K cn G d v ∧ f d ρ = some ρ' ∧ ∀ σ', Rl K cn G H σ' ρ' → Tg vs σ ρ σ' ρ' → Q σ' H
def toGs (vs : List Nat) (f : List DG) : TGs := fun us σ H Q => ∃ G ρ ds ρ', Rl K cn G H σ ρ ∧ Reps K cn G ds us ∧ gsGo f ds ρ = some ρ' ∧ ∀ σ', Rl K cn G H σ' ρ' → Tg vs σ ρ σ' ρ' → Q σ' H
def toS (f : DS) : TS := fun D σ H => ∃ b G ρ fl, Rl K cn G H σ ρ ∧ Bl b G H σ ρ ∧ f ρ = some fl ∧ PostS K cn W b D fl
end
section
variable {K : PySem.W.Frag} {cn : String → Addr} {W : WX}
theorem den_toE {f : DE} : Den K cn W (toE K cn W f) f := fun G H σ ρ Q l e q p => ⟨G, ρ, e, l, q, p⟩
theorem den_toA {f : DA} : DenA K cn W (toA K cn W f) f := fun G H σ ρ Q l e q p => ⟨G, ρ, e, l, q, p⟩
theorem den_toT {f : DT} : DenT K cn W (toT K cn W f) f := fun G H σ ρ Q l e q p => ⟨G, ρ, e, l, q, p⟩
theorem den_toO {f : DO} : DenO K cn W (toO K cn W f) f := fun G H σ ρ Q l e q p => ⟨G, ρ, e, l, q, p⟩
theorem den_toI {f : DI} : DenI K cn W (toI K cn W f) f := fun G H σ ρ Q l e q p => ⟨G, ρ, e, l, q, p⟩
theorem den_toG {vs : List Nat} {f : DG} : DenG K cn vs (toG K cn vs f) f := fun G H σ ρ v d Q l r ρ' h p => ⟨G, ρ, d, ρ', l, r, h, p⟩
theorem den_toGs {vs : List Nat} {f : List DG} : DenGs K cn vs (toGs K cn vs f) f := fun G H σ ρ v d Q l r ρ' h p => ⟨G, ρ, d, ρ', l, r, h, p⟩
theorem den_toS {f : DS} : DenS K cn W (toS K cn W f) f := fun b G H σ ρ D l B fl q p => ⟨b, G, ρ, fl, l, B, q, p⟩
end
structure EX (cn : String → Addr) (X : Cx) (W : WX) (e : Expr) (f : DE) : Prop where
  ex : ∃ t, PE X e t ∧ Den X.K cn W t f
structure AX (cn : String → Addr) (X : Cx) (W : WX) (e : List Expr) (f : DA) : Prop where
  ex : ∃ t, PA X e t ∧ DenA X.K cn W t f
structure TX (cn : String → Addr) (X : Cx) (W : WX) (e : Expr) (f : DT) : Prop where
  ex : ∃ t, PT X e t ∧ DenT X.K cn W t f
structure WTX (cn : String → Addr) (X : Cx) (W : WX) (e : Expr) (f : DT) : Prop where
  ex : ∃ t, PW X e t ∧ DenT X.K cn W t f
structure OX (cn : String → Addr) (X : Cx) (W : WX) (e : Option Expr) (f : DO) : Prop where
  ex : ∃ t, PO X e t ∧ DenO X.K cn W t f
structure IX (cn : String → Addr) (X : Cx) (W : WX) (tg e : Expr) (f : DI) : Prop where
  ex : ∃ t, PI X tg e t ∧ DenI X.K cn W t f
structure GX (cn : String → Addr) (X : Cx) (vs : List Nat) (e : Expr) (f : DG) : Prop where
  ex : ∃ t, PG X e t ∧ DenG X.K cn vs t f
structure GsX (cn : String → Addr) (X : Cx) (vs : List Nat) (e : List Expr) (f : List DG) : Prop where
  ex : ∃ t, PGs X e t ∧ DenGs X.K cn vs t f
structure SX (cn : String → Addr) (X : Cx) (W : WX) (e : Stmt) (f : DS) : Prop where
  ex : ∃ t, PS X e t ∧ DenS X.K cn W t f
structure BX (cn : String → Addr) (X : Cx) (W : WX) (e : List Stmt) (f : DS) : Prop where
  ex : ∃ t, PSs X e t ∧ DenS X.K cn W t f
theorem EX.pe {cn : String → Addr} {X : Cx} {W : WX} {e : Expr} {f : DE} (h : EX cn X W e f) : PE X e (toE X.K cn W f) := let ⟨_, a, b⟩ := h.ex; ⟨fun pins s σ H Q I ⟨G, ρ, e, l, q, p⟩ => a.run pins s σ H Q I (b G H σ ρ Q l e q p)⟩
theorem EX.den {cn : String → Addr} {X : Cx} {W : WX} {e : Expr} {f : DE} (_ : EX cn X W e f) : Den X.K cn W (toE X.K cn W f) f := den_toE
theorem AX.pa {cn : String → Addr} {X : Cx} {W : WX} {e : List Expr} {f : DA} (h : AX cn X W e f) : PA X e (toA X.K cn W f) := let ⟨_, a, b⟩ := h.ex; ⟨fun pos pins s σ H Q I ⟨G, ρ, e, l, q, p⟩ => a.run pos pins s σ H Q I (b G H σ ρ Q l e q p)⟩
theorem AX.den {cn : String → Addr} {X : Cx} {W : WX} {e : List Expr} {f : DA} (_ : AX cn X W e f) : DenA X.K cn W (toA X.K cn W f) f := den_toA
theorem TX.pt {cn : String → Addr} {X : Cx} {W : WX} {e : Expr} {f : DT} (h : TX cn X W e f) : PT X e (toT X.K cn W f) := let ⟨_, a, b⟩ := h.ex; ⟨fun pins s σ H Q I ⟨G, ρ, e, l, q, p⟩ => a.run pins s σ H Q I (b G H σ ρ Q l e q p)⟩
theorem TX.den {cn : String → Addr} {X : Cx} {W : WX} {e : Expr} {f : DT} (_ : TX cn X W e f) : DenT X.K cn W (toT X.K cn W f) f := den_toT
theorem WTX.pw {cn : String → Addr} {X : Cx} {W : WX} {e : Expr} {f : DT} (h : WTX cn X W e f) : PW X e (toT X.K cn W f) := let ⟨_, a, b⟩ := h.ex; ⟨fun wh pins s σ H Q I ⟨G, ρ, e, l, q, p⟩ => a.run wh pins s σ H Q I (b G H σ ρ Q l e q p)⟩
theorem WTX.den {cn : String → Addr} {X : Cx} {W : WX} {e : Expr} {f : DT} (_ : WTX cn X W e f) : DenT X.K cn W (toT X.K cn W f) f := den_toT
theorem OX.po {cn : String → Addr} {X : Cx} {W : WX} {e : Option Expr} {f : DO} (h : OX cn X W e f) : PO X e (toO X.K cn W f) := let ⟨_, a, b⟩ := h.ex; ⟨fun pins s σ H Q I ⟨G, ρ, e, l, q, p⟩ => a.run pins s σ H Q I (b G H σ ρ Q l e q p)⟩
theorem OX.den {cn : String → Addr} {X : Cx} {W : WX} {e : Option Expr} {f : DO} (_ : OX cn X W e f) : DenO X.K cn W (toO X.K cn W f) f := den_toO
theorem IX.pi {cn : String → Addr} {X : Cx} {W : WX} {tg e : Expr} {f : DI} (h : IX cn X W tg e f) : PI X tg e (toI X.K cn W f) := let ⟨_, a, b⟩ := h.ex; ⟨fun pins s σ H R I ⟨G, ρ, e, l, q, p⟩ => a.run pins s σ H R I (b G H σ ρ R l e q p)⟩
theorem IX.den {cn : String → Addr} {X : Cx} {W : WX} {tg e : Expr} {f : DI} (_ : IX cn X W tg e f) : DenI X.K cn W (toI X.K cn W f) f := den_toI
theorem GX.pg {cn : String → Addr} {X : Cx} {vs : List Nat} {e : Expr} {f : DG} (h : GX cn X vs e f) : PG X e (toG X.K cn vs f) := let ⟨_, a, b⟩ := h.ex; ⟨fun pins s σ H v u Q I r ⟨G, ρ, d, ρ', l, rd, h, p⟩ => a.run pins s σ H v u Q I r (b G H σ ρ v d Q l rd ρ' h p)⟩
theorem GX.den {cn : String → Addr} {X : Cx} {vs : List Nat} {e : Expr} {f : DG} (_ : GX cn X vs e f) : DenG X.K cn vs (toG X.K cn vs f) f := den_toG
theorem GsX.pg {cn : String → Addr} {X : Cx} {vs : List Nat} {e : List Expr} {f : List DG} (h : GsX cn X vs e f) : PGs X e (toGs X.K cn vs f) := let ⟨_, a, b⟩ := h.ex; ⟨fun pins s σ H v u Q I r ⟨G, ρ, d, ρ', l, rd, h, p⟩ => a.run pins s σ H v u Q I r (b G H σ ρ v d Q l rd ρ' h p)⟩
theorem GsX.den {cn : String → Addr} {X : Cx} {vs : List Nat} {e : List Expr} {f : List DG} (_ : GsX cn X vs e f) : DenGs X.K cn vs (toGs X.K cn vs f) f := den_toGs
theorem SX.ps {cn : String → Addr} {X : Cx} {W : WX} {e : Stmt} {f : DS} (h : SX cn X W e f) : PS X e (toS X.K cn W f) := let ⟨_, a, b⟩ := h.ex; ⟨fun pins s σ H D I ⟨b', G, ρ, fl, l, B, q, p⟩ => a.run pins s σ H D I (b b' G H σ ρ D l B fl q p)⟩
theorem SX.den {cn : String → Addr} {X : Cx} {W : WX} {e : Stmt} {f : DS} (_ : SX cn X W e f) : DenS X.K cn W (toS X.K cn W f) f := den_toS
theorem BX.ps {cn : String → Addr} {X : Cx} {W : WX} {e : List Stmt} {f : DS} (h : BX cn X W e f) : PSs X e (toS X.K cn W f) := let ⟨_, a, b⟩ := h.ex; ⟨fun pins s σ H D I ⟨b', G, ρ, fl, l, B, q, p⟩ => a.run pins s σ H D I (b b' G H σ ρ D l B fl q p)⟩
theorem BX.den {cn : String → Addr} {X : Cx} {W : WX} {e : List Stmt} {f : DS} (_ : BX cn X W e f) : DenS X.K cn W (toS X.K cn W f) f := den_toS
section
variable {cn : String → Addr} {X : Cx} {W : WX} {pos pos' p2 apos p : Pos} {a b c e : Expr} {es : List Expr} {ta tb tc te : TE} {fa fb fc fe : DE} {t : TA} {fs : DA} {tt tu : TT} {ft fu : DT}
theorem x_var (i : Nat) {x : Str} (hN : X.N[i]? = some x := by rfl) (hv : Vis X.env.scope x := by first | exact Or.inl rfl | exact Or.inr (Or.inl rfl) | exact Or.inr (Or.inr rfl)) (hd : (x == ("__debug__" : Str)) = false := by decide)
    (hcd : (x == ("__classdict__" : Str)) = false := by decide) : EX cn X W (.Name x pos) (eVar i) := ⟨⟨_, pe_var hN hv hd hcd, d_var⟩⟩
theorem x_int {i : Int} {j} : EX cn X W (.Constant (.int i) j pos) (eC (.int i)) := ⟨⟨_, pe_int, d_int⟩⟩
theorem x_bl {b : Bool} {j} : EX cn X W (.Constant (.bool b) j pos) (eC (.bl b)) := ⟨⟨_, pe_bl, d_bl⟩⟩
theorem x_non {j} : EX cn X W (.Constant .none j pos) (eC .non) := ⟨⟨_, pe_non, d_non⟩⟩
theorem x_str (s : String) {j} : EX cn X W (.Constant (.str (Str.ofString s)) j pos) (eC (.str s)) := ⟨⟨_, pe_str, d_str⟩⟩
/-- a constant of the module -/
theorem x_glob {x : Str} {v : V} {d : D} (h : ∃ u, X.mg x = some u ∧ RelV v u) (r : ∀ G, Rep X.K cn G d v) (hg : Gl X x := by rfl) (hd : (x == ("__debug__" : Str)) = false := by decide) : EX cn X W (.Name x pos) (eC d) :=
  let ⟨u, h1, h2⟩ := h
  ⟨⟨_, pe_glob hg h1 h2 hd, d_c r⟩⟩
theorem x_op {op : Operator} {r : R2} {o : D → D → Option Rv} (ho : OpR X (binaryOp op) r) (d : DOp X.K cn r o) (ha : EX cn X W a fa) (hb : EX cn X W b fb) : EX cn X W (.BinOp a op b pos) (eOp o fa fb) := ⟨⟨_, pe_op ho ha.pe hb.pe, d_op d ha.den hb.den⟩⟩
theorem x_cmp {op : CmpOp} {r : R2} {o : D → D → Option Rv} (ho : OpR X (compareOp op) r) (d : DOp X.K cn r o) (ha : EX cn X W a fa) (hb : EX cn X W b fb) (hm : behindInMarks op b = false) : EX cn X W (.Compare a [op] [b] pos) (eOp o fa fb) :=
  ⟨⟨_, pe_cmpR ho ha.pe hb.pe hm, d_op d ha.den hb.den⟩⟩
theorem x_chain {op op' : CmpOp} {r r' : R2} {o o' : D → D → Option Rv} (ho : OpR X (compareOp op) r) (d : DOp X.K cn r o) (ho' : OpR X (compareOp op') r') (d' : DOp X.K cn r' o') (ha : EX cn X W a fa) (hb : EX cn X W b fb) (hc : EX cn X W c fc) (hm : lastMarks [op, op'] [b, c] = false := by rfl) :
    EX cn X W (.Compare a [op, op'] [b, c] pos) (eChain o o' fa fb fc) := ⟨⟨_, pe_chain ho ho' ha.pe hb.pe hc.pe hm, d_chain d d' ha.den hb.den hc.den⟩⟩
theorem x_ix {r : R2} {o : D → D → Option Rv} (ho : IxR X r) (d : DOp X.K cn r o) (ha : EX cn X W a fa) (hb : EX cn X W b fb) (hs : PlainIx b := by exact fun _ _ => rfl) : EX cn X W (.Subscript a b pos) (eOp o fa fb) := ⟨⟨_, pe_ix ho ha.pe hb.pe hs, d_op d ha.den hb.den⟩⟩
theorem x_un {op : UnaryOp} {r : V → Hp → VK → Prop} {o : D → Option Rv} (ho : UnR X (unaryOp op) r) (d : DUn X.K cn r o) (ha : EX cn X W a fa) : EX cn X W (.UnaryOp op a pos) (eUn o fa) := ⟨⟨_, pe_un ho ha.pe, d_un d ha.den⟩⟩
theorem x_one {op : BoolOp} (ha : EX cn X W a fa) : EX cn X W (.BoolOp op [a] pos) fa := ⟨⟨_, pe_one ha.pe, ha.den⟩⟩
theorem x_and {rest : List Expr} (ha : EX cn X W a fa) (hb : EX cn X W (.BoolOp .And (b :: rest) pos) fb) : EX cn X W (.BoolOp .And (a :: b :: rest) pos) (eAnd fa fb) := ⟨⟨_, pe_and ha.pe hb.pe, d_and ha.den hb.den⟩⟩
theorem x_or {rest : List Expr} (ha : EX cn X W a fa) (hb : EX cn X W (.BoolOp .Or (b :: rest) pos) fb) : EX cn X W (.BoolOp .Or (a :: b :: rest) pos) (eOr fa fb) := ⟨⟨_, pe_or ha.pe hb.pe, d_or ha.den hb.den⟩⟩
theorem x_not (ha : EX cn X W a fa) : EX cn X W (.UnaryOp .Not a pos) (eNot fa) := ⟨⟨_, pe_not ha.pe, d_not ha.den⟩⟩
theorem x_anil : AX cn X W [] aNil := ⟨⟨_, pa_nil, d_nil⟩⟩
end
end DL
end

section
set_option maxRecDepth 100000
set_option maxHeartbeats 2000000
namespace DL
open PySem PySem.Spec L2
section
variable {K : PySem.W.Frag} {cn : String → Addr} {G H : Hp}
/-! ### data of plain kinds -/
theorem pk_int {i : Int} {v : V} (h : Pk K cn G H (.int i) v) : v = .int i := rep_int (h.rep (fun _ z => nomatch z) fun _ _ _ z => nomatch z)
theorem pk_bl {b : Bool} {v : V} (h : Pk K cn G H (.bl b) v) : v = .bl b := rep_bl (h.rep (fun _ z => nomatch z) fun _ _ _ z => nomatch z)
theorem pk_non {v : V} (h : Pk K cn G H .non v) : v = .non := by
  have := h.rep (fun _ z => nomatch z) fun _ _ _ z => nomatch z
  unfold Rep at this; exact this
theorem pk_str {s : String} {v : V} (h : Pk K cn G H (.str s) v) : v = .str (Str.ofString s) := by
  have := h.rep (fun _ z => nomatch z) fun _ _ _ z => nomatch z
  unfold Rep at this; exact this
theorem pk_tup {ds : List D} {v : V} (h : Pk K cn G H (.tup ds) v) : ∃ a vs, v = .ref a ∧ SqT K G a vs ∧ Reps K cn G ds vs := by
  have := h.rep (fun _ z => nomatch z) fun _ _ _ z => nomatch z
  unfold Rep at this; exact this
theorem pk_scr {ns : List Int} {v : V} (h : Pk K cn G H (.scr ns) v) : ∃ a, v = .ref a ∧ SqL K G a (ns.map V.int) := by
  have := h.rep (fun _ z => nomatch z) fun _ _ _ z => nomatch z
  unfold Rep at this; exact this
theorem rv_int {Hs : Hp} {i : Int} : RvR K cn Hs G H (.int i) (.val (.int i)) := show Rep K cn G (.int i) (.int i) from rep_intI
theorem rv_bl {Hs : Hp} {b : Bool} : RvR K cn Hs G H (.bl b) (.val (.bl b)) := show Rep K cn G (.bl b) (.bl b) from rep_blI
/-- a new tuple | a new list -/
theorem rv_tup {a : Addr} {vs : List V} {ds : List D} (l : Le G H) (n : H a = none) (r : Reps K cn G ds vs) : New G H (upd G a (.tup vs)) (upd H a (.tup vs)) ∧ RvR K cn H (upd G a (.tup vs)) (upd H a (.tup vs)) (.ref a) (.val (.tup ds)) := by
  have nw := New.keep (u := .tup vs) l n
  exact ⟨nw, rep_tup upd_same (Reps.mono nw.g _ _ r)⟩
theorem rv_lst {a : Addr} {vs : List V} {ds : List D} (l : Le G H) (n : H a = none) (r : Reps K cn G ds vs) : New G H G (upd H a (.lst vs)) ∧ RvR K cn H G (upd H a (.lst vs)) (.ref a) (.fre (.lst ds)) := by
  obtain ⟨nw, gn⟩ := New.own (u := .lst vs) l n
  exact ⟨nw, a, rfl, n, gn, vs, upd_same, r⟩
/-! ### arithmetic -/
theorem o_i {C : Int → Int → Prop} {g : Int → Int → Int} {op : D → D → Option Rv} (h : ∀ a b z, op a b = some z → ∃ i j, a = .int i ∧ b = .int j ∧ C i j ∧ z = .val (.int (g i j))) : DOp K cn (rI C fun i j => .int (g i j)) op := fun G H x y dx dy z Q l px py q k => by
  obtain ⟨i, j, e1, e2, c, e3⟩ := h dx dy z q
  subst e1; subst e2; subst e3
  exact ⟨i, j, pk_int px, pk_int py, c, k G H _ (New.refl l) rv_int⟩
theorem o_i0 {g : Int → Int → Int} {op : D → D → Option Rv} (h : ∀ a b z, op a b = some z → ∃ i j, a = .int i ∧ b = .int j ∧ z = .val (.int (g i j))) : DOp K cn (rI0 fun i j => .int (g i j)) op := fun G H x y dx dy z Q l px py q k => by
  obtain ⟨i, j, e1, e2, e3⟩ := h dx dy z q
  subst e1; subst e2; subst e3
  exact ⟨i, j, pk_int px, pk_int py, k G H _ (New.refl l) rv_int⟩
theorem o_b0 {g : Int → Int → Bool} : DOp K cn (rI0 fun i j => .bl (g i j)) (cI g) := fun G H x y dx dy z Q l px py q k => by
  unfold cI at q
  split at q
  · cases q; exact ⟨_, _, pk_int px, pk_int py, k G H _ (New.refl l) rv_bl⟩
  · cases q
theorem o_sub : DOp K cn (rI0 fun i j => .int (i - j)) opSub := o_i0 fun a b z q => by
  unfold opSub at q
  split at q
  · cases q; exact ⟨_, _, rfl, rfl, rfl⟩
  · cases q
theorem o_mul : DOp K cn (rI CMul fun i j => .int (i * j)) opMul := o_i fun a b z q => by
  unfold opMul at q
  split at q
  · split at q
    · rename_i h; cases q; exact ⟨_, _, rfl, rfl, .inl h, rfl⟩
    · cases q
  · cases q
theorem o_mod : DOp K cn (rI (fun _ j => 0 < j) fun i j => .int (i % j)) opMod := o_i fun a b z q => by
  unfold opMod at q
  split at q
  · split at q
    · rename_i h; cases q; exact ⟨_, _, rfl, rfl, h, rfl⟩
    · cases q
  · cases q
theorem o_fdiv : DOp K cn (rI CDiv fun i j => .int (i / j)) opFdiv := o_i fun a b z q => by
  unfold opFdiv at q
  split at q
  · split at q
    · rename_i h; cases q; exact ⟨_, _, rfl, rfl, h, rfl⟩
    · cases q
  · cases q
theorem o_pow : DOp K cn (rI CPow fun i j => .int (i ^ j.toNat)) opPow := o_i fun a b z q => by
  unfold opPow at q
  split at q
  · split at q
    · rename_i h; cases q; exact ⟨_, _, rfl, rfl, h, rfl⟩
    · cases q
  · cases q
theorem o_neg : DUn K cn (rU fun i => .int (-i)) opNeg := fun G H x dx z Q l px q k => by
  unfold opNeg at q
  split at q
  · cases q; exact ⟨_, pk_int px, k G H _ (New.refl l) rv_int⟩
  · cases q
/-- + of intsD, tuples, lists -/
def rAddA (K : PySem.W.Frag) : R2 := fun x y H Q => (rI0 fun i j => .int (i + j)) x y H Q ∨ (rCatA K x y H Q ∨ rCat x y H Q)
theorem op_addA {X : Cx} : OpR X (binaryOp .Add) (rAddA X.K) := OpR.or op_add (OpR.or op_catA op_cat)
theorem Reps.append {xs ys : List D} {vs us : List V} : Reps K cn G xs vs → Reps K cn G ys us → Reps K cn G (xs ++ ys) (vs ++ us) := by
  induction xs generalizing vs with
  | nil => intro h k; unfold Reps at h; subst h; exact k
  | cons d xs ih =>
    intro h k
    unfold Reps at h
    obtain ⟨v, ws, e, r, q⟩ := h
    subst e
    show Reps K cn G (d :: (xs ++ ys)) (v :: (ws ++ us))
    unfold Reps
    exact ⟨v, _, rfl, r, ih q k⟩
theorem reps_nil {vs : List V} (h : Reps K cn G [] vs) : vs = [] := by unfold Reps at h; exact h
theorem reps_empty {ds : List D} {vs : List V} (h : Reps K cn G ds vs) : ds = [] ↔ vs = [] := by
  have := h.length
  constructor
  · intro e; subst e; exact reps_nil h
  · intro e; subst e; exact List.length_eq_zero_iff.mp (by simpa using this.symm)
theorem o_add : DOp K cn (rAddA K) opAdd := fun G H x y dx dy z Q l px py q k => by
  unfold opAdd at q
  split at q
  · cases q; exact .inl ⟨_, _, pk_int px, pk_int py, k G H _ (New.refl l) rv_int⟩
  · rename_i xs ys
    split at q
    · rename_i hz
      cases q
      obtain ⟨a, vs, ex, ha, ra⟩ := pk_tup px
      obtain ⟨b, us, ey, hb, rb⟩ := pk_tup py
      refine .inr (.inl ⟨a, b, vs, us, ex, ey, l.sqT ha, l.sqT hb, line_of (by rw [ra.length, rb.length]; exact hz), fun e => ?_, fun _ e => ?_, fun _ _ p np => ?_⟩)
      · have : xs = [] := (reps_empty ra).mpr e
        subst this
        refine k G H _ (New.refl l) ?_
        show Rep K cn G (.tup ys) (.ref b)
        unfold Rep; exact ⟨b, us, rfl, hb, rb⟩
      · have : ys = [] := (reps_empty rb).mpr e
        subst this
        refine k G H _ (New.refl l) ?_
        show Rep K cn G (.tup (xs ++ [])) (.ref a)
        rw [List.append_nil]
        unfold Rep; exact ⟨a, vs, rfl, ha, ra⟩
      · obtain ⟨nw, r⟩ := rv_tup l np (ra.append rb)
        exact k _ _ _ nw r
    · cases q
  · rename_i xs ys
    split at q
    · rename_i hz
      cases q
      obtain ⟨a, vs, ex, ha, ra⟩ := px.lst l
      obtain ⟨b, us, ey, hb, rb⟩ := py.lst l
      refine .inr (.inr ⟨a, b, vs, us, ex, ey, ha, hb, line_of (by rw [ra.length, rb.length]; exact hz), fun p np => ?_⟩)
      obtain ⟨nw, r⟩ := rv_lst l np (ra.append rb)
      exact k _ _ _ nw r
    · cases q
  · cases q
/-! ### ==, in, is None -/
mutual
def py : D → PyData
  | .non => .none
  | .bl b => .bool b
  | .int i => .int i
  | .str s => .str (Str.ofString s)
  | .tup l => .tuple (pys l)
  | .lst l => .list (pys l)
  | .scr _ => .none
  | .obj _ _ _ => .none
def pys : List D → List PyData
  | [] => []
  | d :: ds => py d :: pys ds
end
theorem strEq (a b : String) : (Str.ofString a == Str.ofString b) = (a == b) := by
  by_cases e : a = b
  · subst e; simp
  · have : ¬ Str.ofString a = Str.ofString b := fun z => e (ofString_inj z)
    rw [beq_eq_false_iff_ne.mpr e, beq_eq_false_iff_ne.mpr this]
mutual
theorem eqv_py : ∀ (a b : D) (n m : Nat), a.dat n = true → b.dat m = true → PyData.eqv (py a) (py b) = a.eqv b
  | .non, b, n, m, h, k => by cases b <;> simp_all [py, D.eqv, PyData.eqv, D.dat]
  | .bl x, b, n, m, h, k => by cases b <;> simp_all [py, D.eqv, PyData.eqv, D.dat]
  | .int i, b, n, m, h, k => by cases b <;> simp_all [py, D.eqv, PyData.eqv, D.dat]
  | .str s, b, n, m, h, k => by cases b <;> simp_all [py, D.eqv, PyData.eqv, D.dat, strEq]
  | .tup l, b, n, m, h, k => by
    cases n with
    | zero => simp [D.dat] at h
    | succ n => cases b with
      | tup l' => cases m with
        | zero => simp [D.dat] at k
        | succ m =>
          simp only [py, D.eqv, PyData.eqv]
          exact eqvs_py l l' n m (by simpa [D.dat] using h) (by simpa [D.dat] using k)
      | _ => simp_all [py, D.eqv, PyData.eqv, D.dat]
  | .lst l, b, n, m, h, k => by
    cases n with
    | zero => simp [D.dat] at h
    | succ n => cases b with
      | lst l' => cases m with
        | zero => simp [D.dat] at k
        | succ m =>
          simp only [py, D.eqv, PyData.eqv]
          exact eqvs_py l l' n m (by simpa [D.dat] using h) (by simpa [D.dat] using k)
      | _ => simp_all [py, D.eqv, PyData.eqv, D.dat]
  | .scr _, b, n, m, h, k => by simp [D.dat] at h
  | .obj _ _ _, b, n, m, h, k => by simp [D.dat] at h
theorem eqvs_py : ∀ (a b : List D) (n m : Nat), D.dats a n = true → D.dats b m = true → PyData.eqvAll (pys a) (pys b) = D.eqvs a b
  | [], b, n, m, h, k => by cases b <;> simp [pys, D.eqvs, PyData.eqvAll]
  | x :: xs, b, n, m, h, k => by
    cases b with
    | nil => simp [pys, D.eqvs, PyData.eqvAll]
    | cons y ys =>
      simp only [D.dats, Bool.and_eq_true] at h k
      simp only [pys, D.eqvs, PyData.eqvAll]
      rw [eqv_py x y n m h.1 k.1, eqvs_py xs ys n m h.2 k.2]
end
theorem strOk_of (s : String) : PySem.PyData.strOk (Str.ofString s) = true := by
  unfold PySem.PyData.strOk
  rw [Str.ofString_eq_toList]
  show ((s.toList.map Char.toNat).toArray.all (· < 0x110000)) = true
  rw [List.all_toArray, List.all_map, List.all_eq_true]
  intro c _
  have := c.valid
  simp only [Function.comp, decide_eq_true_eq]
  rcases this with h | h
  · exact Nat.lt_trans h (by decide)
  · exact h.2
mutual
theorem can_py : ∀ (a : D) (n : Nat), a.dat n = true → (py a).canLay0 = true ∧ (py a).depth ≤ n
  | .non, n, h => by simp [py, PyData.canLay0, PyData.depth]
  | .bl _, n, h => by simp [py, PyData.canLay0, PyData.depth]
  | .int _, n, h => by simp [py, PyData.canLay0, PyData.depth]
  | .str s, n, h => by simp [py, PyData.canLay0, PyData.depth, strOk_of]
  | .tup l, n, h => by
    cases n with
    | zero => simp [D.dat] at h
    | succ n =>
      obtain ⟨h1, h2⟩ := cans_py l n (by simpa [D.dat] using h)
      simp only [py, PyData.canLay0, PyData.depth]
      exact ⟨h1, by omega⟩
  | .lst l, n, h => by
    cases n with
    | zero => simp [D.dat] at h
    | succ n =>
      obtain ⟨h1, h2⟩ := cans_py l n (by simpa [D.dat] using h)
      simp only [py, PyData.canLay0, PyData.depth]
      exact ⟨h1, by omega⟩
  | .scr _, n, h => by simp [D.dat] at h
  | .obj _ _ _, n, h => by simp [D.dat] at h
theorem cans_py : ∀ (a : List D) (n : Nat), D.dats a n = true → PyData.canLayAll0 (pys a) = true ∧ PyData.depthAll (pys a) ≤ n
  | [], n, h => by simp [pys, PyData.canLayAll0, PyData.depthAll]
  | x :: xs, n, h => by
    simp only [D.dats, Bool.and_eq_true] at h
    obtain ⟨a1, a2⟩ := can_py x n h.1
    obtain ⟨b1, b2⟩ := cans_py xs n h.2
    simp only [pys, PyData.canLayAll0, PyData.depthAll, a1, b1, Bool.and_self, true_and]
    omega
end
theorem shaped_py {a : D} (h : a.dat 60 = true) : SeqAt.shaped (py a) = true := by
  obtain ⟨h1, h2⟩ := can_py a 60 h
  unfold SeqAt.shaped
  rw [h1, decide_eq_true (by omega : (py a).depth ≤ 64)]
  rfl
mutual
theorem dp_rep (l : Le G H) : ∀ (a : D) (v : V) (n : Nat), a.dat n = true → Rep K cn G a v → Dp K H v (py a)
  | .non, v, n, h, r => by unfold Rep at r; subst r; unfold py; exact .non
  | .bl b, v, n, h, r => by unfold Rep at r; subst r; unfold py; exact .bl b
  | .int i, v, n, h, r => by unfold Rep at r; subst r; unfold py; exact .int i
  | .str s, v, n, h, r => by unfold Rep at r; subst r; unfold py; exact .str _
  | .tup ds, v, n, h, r => by
    cases n with
    | zero => simp [D.dat] at h
    | succ n =>
      unfold Rep at r
      obtain ⟨a, vs, e, q, rs⟩ := r
      subst e
      unfold py
      exact .tup (l.sqT q) (dps_rep l ds vs n (by simpa [D.dat] using h) rs)
  | .lst ds, v, n, h, r => by
    cases n with
    | zero => simp [D.dat] at h
    | succ n =>
      unfold Rep at r
      obtain ⟨a, vs, e, q, rs⟩ := r
      subst e
      unfold py
      exact .lst (.inl (.inl (l _ _ q))) (dps_rep l ds vs n (by simpa [D.dat] using h) rs)
  | .scr _, v, n, h, r => by simp [D.dat] at h
  | .obj _ _ _, v, n, h, r => by simp [D.dat] at h
theorem dps_rep (l : Le G H) : ∀ (a : List D) (v : List V) (n : Nat), D.dats a n = true → Reps K cn G a v → DpAll K H v (pys a)
  | [], v, n, h, r => by unfold Reps at r; subst r; unfold pys; exact .nil
  | x :: xs, v, n, h, r => by
    unfold Reps at r
    obtain ⟨w, us, e, r1, r2⟩ := r
    subst e
    simp only [D.dats, Bool.and_eq_true] at h
    unfold pys
    exact .cons (dp_rep l x w n h.1 r1) (dps_rep l xs us n h.2 r2)
end
theorem dp_pk {a : D} {v : V} {n : Nat} (l : Le G H) (h : a.dat n = true) (p : Pk K cn G H a v) : Dp K H v (py a) := by
  cases a with
  | lst ds =>
    cases n with
    | zero => simp [D.dat] at h
    | succ n =>
      obtain ⟨a, vs, e, q, rs⟩ := p.lst l
      subst e
      unfold py
      exact .lst (.inl (.inl q)) (dps_rep l ds vs n (by simpa [D.dat] using h) rs)
  | obj c ns ds => simp [D.dat] at h
  | _ => exact dp_rep l _ v n h (p.rep (fun _ z => nomatch z) fun _ _ _ z => nomatch z)
theorem o_eq : DOp K cn (rEqD K) cEq := fun G H x y dx dy z Q l px py' q k => by
  unfold cEq at q
  split at q
  · rename_i h
    cases q
    simp only [Bool.and_eq_true] at h
    refine ⟨py dx, py dy, dp_pk l h.1 px, dp_pk l h.2 py', shaped_py h.1, shaped_py h.2, ?_⟩
    rw [eqv_py dx dy 60 60 h.1 h.2]
    exact k G H _ (New.refl l) rv_bl
  · cases q
theorem o_ne : DOp K cn (rNeD K) cNe := fun G H x y dx dy z Q l px py' q k => by
  unfold cNe at q
  split at q
  · rename_i h
    cases q
    simp only [Bool.and_eq_true] at h
    refine ⟨py dx, py dy, dp_pk l h.1 px, dp_pk l h.2 py', shaped_py h.1, shaped_py h.2, ?_⟩
    rw [eqv_py dx dy 60 60 h.1 h.2]
    exact k G H _ (New.refl l) rv_bl
  · cases q
theorem flat_rep {d : D} {v : V} (h : d.flat = true) (r : Rep K cn G d v) : flatV v = true := by
  cases d <;> simp [D.flat] at h <;> (unfold Rep at r; subst r; rfl)
theorem eqV_rep {a b : D} {v u : V} (ha : a.flat = true) (hb : b.flat = true) (r : Rep K cn G a v) (q : Rep K cn G b u) : eqV v u = a.eqv b := by
  cases a <;> simp [D.flat] at ha <;> cases b <;> simp [D.flat] at hb <;> (unfold Rep at r q; subst r; subst q; simp [eqV, D.eqv, strEq])
theorem in_reps {x : D} {vx : V} (hx : x.flat = true) (rx : Rep K cn G x vx) : ∀ {l : List D} {vs : List V}, l.all D.flat = true → Reps K cn G l vs → vs.all flatV = true ∧ inV vx vs = l.any fun y => y.eqv x
  | [], vs, h, r => by unfold Reps at r; subst r; exact ⟨rfl, rfl⟩
  | d :: l, vs, h, r => by
    unfold Reps at r
    obtain ⟨v, us, e, r1, r2⟩ := r
    subst e
    simp only [List.all_cons, Bool.and_eq_true] at h
    obtain ⟨i1, i2⟩ := in_reps hx rx h.2 r2
    refine ⟨by simp only [List.all_cons, flat_rep h.1 r1, i1, Bool.and_self], ?_⟩
    unfold inV at i2 ⊢
    rw [List.any_cons, List.any_cons, i2, eqV_rep h.1 hx r1 rx]
theorem o_inG {neg : Bool} {op : D → D → Option Rv} (h : ∀ a b z, op a b = some z → ∃ l c, (b = .tup l ∨ b = .lst l) ∧ isIn a l = some c ∧ z = .val (.bl (if neg then !c else c))) : DOp K cn (rIn K neg) op := fun G H x y dx dy z Q l px py' q k => by
  obtain ⟨ds, c, hb, hi, e⟩ := h dx dy z q
  subst e
  unfold isIn at hi
  split at hi
  · rename_i hf
    cases hi
    simp only [Bool.and_eq_true] at hf
    have rx : Rep K cn G dx x := px.rep (fun _ z => by subst z; cases hf.1) fun _ _ _ z => by subst z; cases hf.1
    rcases hb with e | e
    · subst e
      obtain ⟨a, vs, ey, ha, ra⟩ := pk_tup py'
      obtain ⟨i1, i2⟩ := in_reps hf.1 rx hf.2 ra
      exact ⟨a, vs, ey, .inr (l.sqT ha), flat_rep hf.1 rx, i1, by rw [i2]; exact k G H _ (New.refl l) rv_bl⟩
    · subst e
      obtain ⟨a, vs, ey, ha, ra⟩ := py'.lst l
      obtain ⟨i1, i2⟩ := in_reps hf.1 rx hf.2 ra
      exact ⟨a, vs, ey, .inl (.inl (.inl ha)), flat_rep hf.1 rx, i1, by rw [i2]; exact k G H _ (New.refl l) rv_bl⟩
  · cases hi
theorem o_in : DOp K cn (rIn K false) cIn := o_inG fun a b z q => by
  unfold cIn at q
  split at q
  · split at q
    · rename_i h; cases q; exact ⟨_, _, .inl rfl, h, rfl⟩
    · cases q
  · split at q
    · rename_i h; cases q; exact ⟨_, _, .inr rfl, h, rfl⟩
    · cases q
  · cases q
theorem o_notIn : DOp K cn (rIn K true) cNotIn := o_inG fun a b z q => by
  unfold cNotIn at q
  split at q
  · split at q
    · rename_i h; cases q; exact ⟨_, _, .inl rfl, h, rfl⟩
    · cases q
  · split at q
    · rename_i h; cases q; exact ⟨_, _, .inr rfl, h, rfl⟩
    · cases q
  · cases q
theorem isNon_pk {d : D} {v : V} (p : Pk K cn G H d v) : decide (v = .non) = isNon d := by
  cases d with
  | non => rw [pk_non p]; rfl
  | bl b => rw [pk_bl p]; rfl
  | int i => rw [pk_int p]; rfl
  | str s => rw [pk_str p]; rfl
  | tup l => obtain ⟨a, _, e, _⟩ := pk_tup p; rw [e]; rfl
  | scr l => obtain ⟨a, e, _⟩ := pk_scr p; rw [e]; rfl
  | lst l =>
    rcases p with p | ⟨a, o, e, _⟩
    · unfold Rep at p; obtain ⟨a, _, e, _⟩ := p; rw [e]; rfl
    · rw [e]; rfl
  | obj c ns l =>
    rcases p with p | ⟨a, o, e, _⟩
    · unfold Rep at p; obtain ⟨a, _, _, e, _⟩ := p; rw [e]; rfl
    · rw [e]; rfl
theorem o_isN : DOp K cn (fun x y H Q => y = .non ∧ Q (.bl (decide (x = .non))) H) cIsN := fun G H x y dx dy z Q l px py' q k => by
  unfold cIsN at q
  split at q
  · cases q; exact ⟨pk_non py', by rw [isNon_pk px]; exact k G H _ (New.refl l) rv_bl⟩
  · cases q
theorem o_notN : DOp K cn (fun x y H Q => y = .non ∧ Q (.bl (!decide (x = .non))) H) cNotN := fun G H x y dx dy z Q l px py' q k => by
  unfold cNotN at q
  split at q
  · cases q; exact ⟨pk_non py', by rw [isNon_pk px]; exact k G H _ (New.refl l) rv_bl⟩
  · cases q
end
end DL
end

section
set_option maxRecDepth 100000
set_option maxHeartbeats 2000000
namespace DL
open PySem PySem.Spec L2
section
variable {K : PySem.W.Frag} {cn : String → Addr} {G H : Hp}
/-! ### a[i], a[lo:hi] -/
theorem Reps.get {l : List D} {vs : List V} {j : Nat} {d : D} (r : Reps K cn G l vs) (h : l[j]? = some d) : ∃ v, vs[j]? = some v ∧ Rep K cn G d v := reps_at r h
def rIxA (K : PySem.W.Frag) : R2 := fun x y H Q => rIxL K x y H Q ∨ rIxT K x y H Q
theorem ix_any {X : Cx} : IxR X (rIxA X.K) := ix_list.or ix_tup
theorem atI_of {α : Type} {xs : List α} {n j : Nat} {i : Int} {v : α} (hn : xs.length = n) (hj : ixD n i = some j) (h : xs[j]? = some v) : atI xs i = some v := by
  subst hn
  have : ixN xs.length i = some j := hj
  unfold atI
  rw [this]
  exact h
theorem sqL_of (h : H = H) {a : Addr} {vs : List V} (e : H a = some (.lst vs)) : SqL K H a vs := .inl (.inl e)
theorem o_ix : DOp K cn (rIxA K) ixS := fun G H x y dx dy z Q l px py q k => by
  unfold ixS at q
  split at q
  · rename_i i
    split at q
    · rename_i ds
      obtain ⟨a, vs, ev, hs, rs⟩ := pk_tup px
      split at q
      · rename_i j hj
        split at q
        · rename_i d hd
          cases q
          obtain ⟨v, hv, rv⟩ := rs.get hd
          exact .inr ⟨a, vs, i, v, ev, pk_int py, l.sqT hs, atI_of rs.length hj hv, k G H v (New.refl l) rv⟩
        · cases q
      · cases q
    · rename_i ds
      obtain ⟨a, vs, ev, hs, rs⟩ := px.lst l
      split at q
      · rename_i j hj
        split at q
        · rename_i d hd
          cases q
          obtain ⟨v, hv, rv⟩ := rs.get hd
          exact .inl ⟨a, vs, i, v, ev, pk_int py, .inl (.inl hs), atI_of rs.length hj hv, k G H v (New.refl l) rv⟩
        · cases q
      · cases q
    · rename_i ns
      obtain ⟨a, ev, hs⟩ := pk_scr px
      split at q
      · rename_i j hj
        split at q
        · rename_i d hd
          cases q
          refine .inl ⟨a, _, i, .int d, ev, pk_int py, l.sqL hs, atI_of (by simp) hj (by simp [hd]), k G H _ (New.refl l) rv_int⟩
        · cases q
      · cases q
    · cases q
  · cases q
theorem Reps.take : ∀ {n : Nat} {ds : List D} {vs : List V}, Reps K cn G ds vs → Reps K cn G (ds.take n) (vs.take n)
  | 0, ds, vs, h => by rw [List.take_zero, List.take_zero]; unfold Reps; rfl
  | n + 1, [], vs, h => by rw [reps_nil h]; exact reps_nilI
  | n + 1, d :: ds, vs, h => by
    unfold Reps at h
    obtain ⟨v, us, e, r, q⟩ := h
    subst e
    rw [List.take_succ_cons, List.take_succ_cons]
    unfold Reps
    exact ⟨v, _, rfl, r, Reps.take q⟩
where reps_nilI : Reps K cn G [] [] := by unfold Reps; rfl
theorem Reps.drop : ∀ {n : Nat} {ds : List D} {vs : List V}, Reps K cn G ds vs → Reps K cn G (ds.drop n) (vs.drop n)
  | 0, ds, vs, h => h
  | n + 1, [], vs, h => by rw [reps_nil h]; unfold Reps; rfl
  | n + 1, d :: ds, vs, h => by
    unfold Reps at h
    obtain ⟨v, us, e, r, q⟩ := h
    subst e
    rw [List.drop_succ_cons, List.drop_succ_cons]
    exact Reps.drop q
theorem Reps.cut {ds : List D} {vs : List V} {lo hi : Option Int} (h : Reps K cn G ds vs) : Reps K cn G (cutD ds lo hi) (cutV vs lo hi) := by
  unfold cutD cutV
  rw [h.length]
  exact h.drop.take
theorem cut_whole {vs : List V} {lo hi : Option Int} (h : HT.sIx vs.length 0 lo = 0 ∧ HT.sIx vs.length vs.length hi = vs.length) : cutV vs lo hi = vs := by
  unfold cutV
  rw [h.1, h.2]
  simp
theorem cutI_eq {ns : List Int} {lo hi : Option Int} : cutV (ns.map V.int) lo hi = (cutI ns lo hi).map V.int := by
  unfold cutV cutI
  rw [List.length_map, List.map_take, List.map_drop]
  rfl
theorem reps_ints : ∀ (ns : List Int), Reps K cn G (ns.map .int) (ns.map V.int)
  | [] => by unfold Reps; rfl
  | n :: ns => by
    rw [List.map_cons, List.map_cons]
    unfold Reps
    exact ⟨_, _, rfl, rep_intI, reps_ints ns⟩
def rSlA2 (K : PySem.W.Frag) : V → Option Int → Option Int → Hp → VK → Prop := fun x lo hi H Q => rSlL K x lo hi H Q ∨ rSlA K x lo hi H Q
theorem sl_any {X : Cx} : SlR X (rSlA2 X.K) := SlR.or sl_list sl_tupA
theorem o_sl : DSl K cn (rSlA2 K) slOp := fun G H x dx lo hi z Q l px q k => by
  unfold slOp at q
  split at q
  · rename_i ds
    cases q
    obtain ⟨a, vs, ev, hs, rs⟩ := pk_tup px
    refine .inr ⟨a, vs, ev, l.sqT hs, fun hw => ?_, fun _ p np => ?_⟩
    · refine k G H _ (New.refl l) ?_
      show Rep K cn G _ (.ref a)
      unfold Rep
      refine ⟨a, vs, rfl, hs, ?_⟩
      have := rs.cut (lo := lo) (hi := hi)
      rw [cut_whole hw] at this
      exact this
    · obtain ⟨nw, r⟩ := rv_tup l np (rs.cut (lo := lo) (hi := hi))
      exact k _ _ _ nw r
  · rename_i ds
    cases q
    obtain ⟨a, vs, ev, hs, rs⟩ := px.lst l
    refine .inl ⟨a, vs, ev, .inl (.inl hs), fun p np => ?_⟩
    obtain ⟨nw, r⟩ := rv_lst l np (rs.cut (lo := lo) (hi := hi))
    exact k _ _ _ nw r
  · rename_i ns
    cases q
    obtain ⟨a, ev, hs⟩ := pk_scr px
    refine .inl ⟨a, _, ev, l.sqL hs, fun p np => ?_⟩
    rw [cutI_eq]
    obtain ⟨nw, r⟩ := rv_lst (cn := cn) l np (reps_ints (K := K) (cn := cn) (G := G) (cutI ns lo hi))
    exact k _ _ _ nw r
  · cases q
/-! ### built-in functions -/
theorem CallR.or {X : Cx} {f : Value} {r r' : List V → Hp → VK → Prop} (h : CallR X f r) (h' : CallR X f r') : CallR X f (fun xs H Q => r xs H Q ∨ r' xs H Q) := fun pins s σ H xs us Q I rv q => q.elim (h pins s σ H xs us Q I rv) (h' pins s σ H xs us Q I rv)
theorem pks1 {d : D} {vs : List V} (h : Pks K cn G H [d] vs) : ∃ v, vs = [v] ∧ Pk K cn G H d v := by
  cases h with
  | cons a b => cases b; exact ⟨_, rfl, a⟩
theorem pks2 {d e : D} {vs : List V} (h : Pks K cn G H [d, e] vs) : ∃ v u, vs = [v, u] ∧ Pk K cn G H d v ∧ Pk K cn G H e u := by
  cases h with
  | cons a b => cases b with
    | cons b c => cases c; exact ⟨_, _, rfl, a, b⟩
theorem c_len {r : List V → Hp → VK → Prop} (hr : r = fun xs H Q => ∃ p ys, xs = [V.ref p] ∧ (SqL K H p ys ∨ SqT K H p ys) ∧ Q (.int ys.length) H) : DCl K cn r fLenS := fun G H vs ds z Q l p q k => by
  subst hr
  unfold fLenS at q
  split at q
  · cases q
    obtain ⟨v, e, pk⟩ := pks1 p
    obtain ⟨a, us, ev, hs, rs⟩ := pk_tup pk
    subst e ev
    exact ⟨a, us, rfl, .inr (l.sqT hs), by rw [rs.length]; exact k G H _ (New.refl l) rv_int⟩
  · cases q
    obtain ⟨v, e, pk⟩ := pks1 p
    obtain ⟨a, us, ev, hs, rs⟩ := pk.lst l
    subst e ev
    exact ⟨a, us, rfl, .inl (.inl (.inl hs)), by rw [rs.length]; exact k G H _ (New.refl l) rv_int⟩
  · cases q
    obtain ⟨v, e, pk⟩ := pks1 p
    obtain ⟨a, ev, hs⟩ := pk_scr pk
    subst e ev
    exact ⟨a, _, rfl, .inl (l.sqL hs), by rw [List.length_map]; exact k G H _ (New.refl l) rv_int⟩
  · cases q
theorem c_tuple {r : List V → Hp → VK → Prop} (hr : r = fun xs H Q => ∃ p ys, xs = [V.ref p] ∧ ((SqL K H p ys ∧ ∀ l, H l = none → Q (.ref l) (upd H l (.tup ys))) ∨ (SqT K H p ys ∧ Q (.ref p) H))) : DCl K cn r fTuple := fun G H vs ds z Q l p q k => by
  subst hr
  unfold fTuple at q
  split at q
  · cases q
    obtain ⟨v, e, pk⟩ := pks1 p
    obtain ⟨a, us, ev, hs, rs⟩ := pk_tup pk
    subst e ev
    refine ⟨a, us, rfl, .inr ⟨l.sqT hs, k G H _ (New.refl l) ?_⟩⟩
    show Rep K cn G _ (.ref a)
    unfold Rep; exact ⟨a, us, rfl, hs, rs⟩
  · cases q
    obtain ⟨v, e, pk⟩ := pks1 p
    obtain ⟨a, us, ev, hs, rs⟩ := pk.lst l
    subst e ev
    refine ⟨a, us, rfl, .inl ⟨.inl (.inl hs), fun p np => ?_⟩⟩
    obtain ⟨nw, r⟩ := rv_tup l np rs
    exact k _ _ _ nw r
  · cases q
theorem c_list {r : List V → Hp → VK → Prop} (hr : r = fun xs H Q => ∃ p ys, xs = [V.ref p] ∧ (SqL K H p ys ∨ SqT K H p ys) ∧ ∀ l, H l = none → Q (.ref l) (upd H l (.lst ys))) : DCl K cn r fList := fun G H vs ds z Q l p q k => by
  subst hr
  unfold fList at q
  split at q
  · cases q
    obtain ⟨v, e, pk⟩ := pks1 p
    obtain ⟨a, us, ev, hs, rs⟩ := pk_tup pk
    subst e ev
    refine ⟨a, us, rfl, .inr (l.sqT hs), fun p np => ?_⟩
    obtain ⟨nw, r⟩ := rv_lst l np rs
    exact k _ _ _ nw r
  · cases q
    obtain ⟨v, e, pk⟩ := pks1 p
    obtain ⟨a, us, ev, hs, rs⟩ := pk.lst l
    subst e ev
    refine ⟨a, us, rfl, .inl (.inl (.inl hs)), fun p np => ?_⟩
    obtain ⟨nw, r⟩ := rv_lst l np rs
    exact k _ _ _ nw r
  · cases q
theorem c_int {r : List V → Hp → VK → Prop} (hr : r = fun xs H Q => (∃ i, xs = [V.int i] ∧ Q (.int i) H) ∨ ∃ b, xs = [V.bl b] ∧ Q (.int (if b then 1 else 0)) H) : DCl K cn r fInt := fun G H vs ds z Q l p q k => by
  subst hr
  unfold fInt at q
  split at q
  · cases q
    obtain ⟨v, e, pk⟩ := pks1 p
    have := pk_int pk
    subst e this
    exact .inl ⟨_, rfl, k G H _ (New.refl l) rv_int⟩
  · cases q
    obtain ⟨v, e, pk⟩ := pks1 p
    have := pk_bl pk
    subst e this
    exact .inr ⟨_, rfl, k G H _ (New.refl l) rv_int⟩
  · cases q
theorem c_abs {r : List V → Hp → VK → Prop} (hr : r = fun xs H Q => ∃ i : Int, xs = [V.int i] ∧ Q (.int (if i < 0 then -i else i)) H) : DCl K cn r fAbs := fun G H vs ds z Q l p q k => by
  subst hr
  unfold fAbs at q
  split at q
  · cases q
    obtain ⟨v, e, pk⟩ := pks1 p
    have := pk_int pk
    subst e this
    exact ⟨_, rfl, k G H _ (New.refl l) rv_int⟩
  · cases q
theorem c_max2 {r : List V → Hp → VK → Prop} (hr : r = fun xs H Q => ∃ i j : Int, xs = [V.int i, V.int j] ∧ Q (.int (if j > i then j else i)) H) : DCl K cn r fMax2 := fun G H vs ds z Q l p q k => by
  subst hr
  unfold fMax2 at q
  split at q
  · cases q
    obtain ⟨v, u, e, pk, pk'⟩ := pks2 p
    have h1 := pk_int pk
    have h2 := pk_int pk'
    subst e h1 h2
    exact ⟨_, _, rfl, k G H _ (New.refl l) rv_int⟩
  · cases q
theorem c_min2 {r : List V → Hp → VK → Prop} (hr : r = fun xs H Q => ∃ i j : Int, xs = [V.int i, V.int j] ∧ Q (.int (if j < i then j else i)) H) : DCl K cn r fMin2 := fun G H vs ds z Q l p q k => by
  subst hr
  unfold fMin2 at q
  split at q
  · cases q
    obtain ⟨v, u, e, pk, pk'⟩ := pks2 p
    have h1 := pk_int pk
    have h2 := pk_int pk'
    subst e h1 h2
    exact ⟨_, _, rfl, k G H _ (New.refl l) rv_int⟩
  · cases q
theorem bools_ok : ∀ {l : List D} {bs : List Bool} {vs : List V}, bools l = some bs → Reps K cn G l vs → vs = bs.map V.bl
  | [], bs, vs, h, r => by cases h; exact reps_nil r
  | d :: l, bs, vs, h, r => by
    unfold Reps at r
    obtain ⟨v, us, e, r1, r2⟩ := r
    subst e
    cases d with
    | bl b =>
      simp only [bools] at h
      cases q : bools l with
      | none => rw [q] at h; cases h
      | some cs =>
        rw [q] at h; cases h
        rw [rep_bl r1, bools_ok q r2]; rfl
    | _ => cases h
theorem ints_ok : ∀ {l : List D} {bs : List Int} {vs : List V}, DL.intsD l = some bs → Reps K cn G l vs → vs = bs.map V.int
  | [], bs, vs, h, r => by cases h; exact reps_nil r
  | d :: l, bs, vs, h, r => by
    unfold Reps at r
    obtain ⟨v, us, e, r1, r2⟩ := r
    subst e
    cases d with
    | int b =>
      simp only [DL.intsD] at h
      cases q : DL.intsD l with
      | none => rw [q] at h; cases h
      | some cs =>
        rw [q] at h; cases h
        rw [rep_int r1, ints_ok q r2]; rfl
    | _ => cases h
theorem ints_len : ∀ {l : List D} {is : List Int}, DL.intsD l = some is → l.length = is.length
  | [], is, h => by cases h; rfl
  | d :: l, is, h => by
    cases d with
    | int b =>
      simp only [DL.intsD] at h
      cases q : DL.intsD l with
      | none => rw [q] at h; cases h
      | some cs => rw [q] at h; cases h; simp [ints_len q]
    | _ => cases h
theorem c_all : DCl K cn (rAll K) fAll := fun G H vs ds z Q l p q k => by
  unfold fAll at q
  split at q
  · split at q
    · rename_i bs hb
      cases q
      obtain ⟨v, e, pk⟩ := pks1 p
      obtain ⟨a, us, ev, hs, rs⟩ := pk.lst l
      subst e ev
      have := bools_ok hb rs
      subst this
      exact ⟨a, bs, rfl, .inl (.inl hs), k G H _ (New.refl l) rv_bl⟩
    · cases q
  · cases q
theorem c_any : DCl K cn (rAny K) fAny := fun G H vs ds z Q l p q k => by
  unfold fAny at q
  split at q
  · split at q
    · rename_i bs hb
      cases q
      obtain ⟨v, e, pk⟩ := pks1 p
      obtain ⟨a, us, ev, hs, rs⟩ := pk.lst l
      subst e ev
      have := bools_ok hb rs
      subst this
      exact ⟨a, bs, rfl, .inl (.inl hs), k G H _ (New.refl l) rv_bl⟩
    · cases q
  · cases q
theorem c_sum : DCl K cn (rSum K) fSum := fun G H vs ds z Q l p q k => by
  unfold fSum at q
  split at q
  · split at q
    · rename_i bs hb
      cases q
      obtain ⟨v, e, pk⟩ := pks1 p
      obtain ⟨a, us, ev, hs, rs⟩ := pk.lst l
      subst e ev
      have := ints_ok hb rs
      subst this
      exact ⟨a, bs, rfl, .inl (.inl hs), k G H _ (New.refl l) rv_int⟩
    · cases q
  · cases q
/-! the one ascending list -/
theorem insI_perm (x : Int) : ∀ l, (insI x l).Perm (x :: l)
  | [] => .refl _
  | y :: r => by
    unfold insI
    split
    · exact .refl _
    · exact ((insI_perm x r).cons y).trans (.swap x y r)
theorem sortI_perm : ∀ l, (sortI l).Perm l
  | [] => .refl _
  | x :: r => by
    unfold sortI
    exact (insI_perm x _).trans ((sortI_perm r).cons x)
theorem insI_sorted (x : Int) : ∀ l : List Int, l.Pairwise (· ≤ ·) → (insI x l).Pairwise (· ≤ ·)
  | [], _ => by simp [insI]
  | y :: r, h => by
    unfold insI
    split
    · rename_i hx
      rw [List.pairwise_cons]
      refine ⟨fun z hz => ?_, h⟩
      rcases List.mem_cons.mp hz with e | e
      · subst e; exact hx
      · exact Int.le_trans hx ((List.pairwise_cons.mp h).1 z e)
    · rename_i hx
      rw [List.pairwise_cons] at h ⊢
      refine ⟨fun z hz => ?_, insI_sorted x r h.2⟩
      rcases List.mem_cons.mp ((insI_perm x r).mem_iff.mp hz) with e | e
      · subst e; omega
      · exact h.1 z e
theorem sortI_sorted : ∀ l, (sortI l).Pairwise (· ≤ ·)
  | [] => .nil
  | x :: r => by unfold sortI; exact insI_sorted x _ (sortI_sorted r)
theorem sorted_uniq : ∀ {l m : List Int}, l.Pairwise (· ≤ ·) → m.Pairwise (· ≤ ·) → l.Perm m → l = m
  | [], m, _, _, p => (List.nil_perm.mp p).symm
  | x :: l, [], _, _, p => absurd p.length_eq (by simp)
  | x :: l, y :: m, h, k, p => by
    have e : x = y := by
      have h1 : x ≤ y := by
        rcases List.mem_cons.mp (p.mem_iff.mpr (List.mem_cons_self)) with e | e
        · omega
        · exact (List.pairwise_cons.mp h).1 y e
      have h2 : y ≤ x := by
        rcases List.mem_cons.mp (p.mem_iff.mp (List.mem_cons_self)) with e | e
        · omega
        · exact (List.pairwise_cons.mp k).1 x e
      omega
    subst e
    rw [sorted_uniq (List.pairwise_cons.mp h).2 (List.pairwise_cons.mp k).2 (List.perm_cons _ |>.mp p)]
theorem c_sorted : DCl K cn (rSortedI K) fSorted := fun G H vs ds z Q l p q k => by
  unfold fSorted at q
  split at q
  · split at q
    · rename_i is hb
      cases q
      obtain ⟨v, e, pk⟩ := pks1 p
      obtain ⟨a, us, ev, hs, rs⟩ := pk.lst l
      subst e ev
      have := ints_ok hb rs
      subst this
      refine ⟨a, is, rfl, .inl (.inl hs), fun ns' p pm pw np => ?_⟩
      rw [sorted_uniq pw (sortI_sorted is) (pm.trans (sortI_perm is).symm)]
      obtain ⟨nw, r⟩ := rv_lst (cn := cn) l np (reps_ints (K := K) (cn := cn) (G := G) (sortI is))
      exact k _ _ _ nw r
    · cases q
  · cases q
theorem log_of {i : Int} (h : i.natAbs < 2 ^ 1900) : i.natAbs.log2 < 1920 := by
  by_cases e : i.natAbs = 0
  · rw [e]; decide
  · exact Nat.lt_of_lt_of_le ((Nat.log2_lt e).mpr h) (by decide)
theorem c_repr (hs : ∀ i : Int, (toString i : Str) = Str.ofString (toString i)) {r : List V → Hp → VK → Prop} (hr : r = fun xs H Q => ∃ i : Int, xs = [V.int i] ∧ i.natAbs.log2 < 1920 ∧ Q (.str (toString i)) H) : DCl K cn r fRepr := fun G H vs ds z Q l p q k => by
  subst hr
  unfold fRepr at q
  split at q
  · split at q
    · rename_i h
      cases q
      obtain ⟨v, e, pk⟩ := pks1 p
      have := pk_int pk
      subst e this
      refine ⟨_, rfl, log_of h, k G H _ (New.refl l) ?_⟩
      show Rep K cn G (.str _) _
      unfold Rep
      rfl
    · cases q
  · cases q
/-! ### list(d) -/
theorem d_keys {W : WX} {t : TE} {f : DE} (h : Den K cn W t f) : Den K cn W (tCB L2.rListD (tCons t tNil)) (eKeys f) := fun G H σ ρ Q l e q p => by
  refine den_bind (t := t) h l q p fun G1 H1 ρ1 x rx e1 l1 r1 q1 => ?_
  have p1 := PostE.back e1 p
  cases rx with
  | val d => cases q1
  | fre o => cases q1
  | al i =>
    dsimp only at q1
    unfold own? at q1
    have fin : ∀ {kvs : List (Int × D)} {s : Sl}, ρ1[i]? = some s → s.hold = some (.dct kvs) → e = .ok (.fre (.lst (kvs.map fun p => .int p.1))) ρ1 → L2.rListD [x] H1 Q := fun {kvs s} hs hh he => by
      subst he
      obtain ⟨a, ha, _, ws, hw, hk, _⟩ := l1.own i s _ hs hh
      have hx : σ[i]? = some (some x) := r1
      rw [ha] at hx; cases hx
      unfold L2.rListD
      refine ⟨a, ws, rfl, hw, fun q nq => ?_⟩
      have e2 : ws.map (fun kv => kV kv.1) = (kvs.map (·.1)).map V.int := by
        have : ws.map (fun kv => kV kv.1) = (ws.map (·.1)).map kV := by rw [List.map_map]; rfl
        rw [this, hk, List.map_map, List.map_map]
        rfl
      rw [e2]
      obtain ⟨nw, r⟩ := rv_lst (cn := cn) l1.gh nq (reps_ints (K := K) (cn := cn) (G := G1) (kvs.map (·.1)))
      refine p1 _ _ _ nw.ext (l1.new nw) ?_
      have e3 : (kvs.map fun p => D.int p.1) = (kvs.map (·.1)).map D.int := by rw [List.map_map]; rfl
      rw [e3]
      exact r.r (σ := σ) (ρ := ρ1) l1
    cases z : ρ1[i]? with
    | none => rw [z] at q1; cases q1
    | some s =>
      rw [z] at q1
      cases s with
      | no => cases q1
      | frz d => cases q1
      | own o => cases o with
        | dct kvs => cases q1; exact fin z rfl rfl
        | _ => cases q1
      | ref o => cases o with
        | dct kvs => cases q1; exact fin z rfl rfl
        | _ => cases q1
/-! ### isinstance -/
theorem ty_pk {d : D} {v : V} {t : String} (l : Le G H) (h : tyN d = some t) (p : Pk K cn G H d v) : TyX K H v (.type t) := by
  cases d with
  | non => cases h; rw [pk_non p]; exact .base .non
  | bl b => cases h; rw [pk_bl p]; exact .base (.bl b)
  | int i => cases h; rw [pk_int p]; exact .base (.int i)
  | str s => cases h; rw [pk_str p]; exact .base (.str _)
  | tup ds =>
    cases h
    obtain ⟨a, vs, ev, hs, rs⟩ := pk_tup p
    subst ev
    rcases l.sqT hs with (h | ⟨o, h⟩) | ⟨o, its, n, h1, h2, _⟩
    · exact .base (.tup h)
    · exact .fTuple h
    · exact .kTuple h1 h2
  | lst ds =>
    cases h
    obtain ⟨a, vs, ev, hs, rs⟩ := p.lst l
    subst ev
    exact .base (.lst hs)
  | scr _ => cases h
  | obj _ _ _ => cases h
def isTab (n : String) : Bool := ["NoneType", "bool", "int", "str", "tuple", "list"].all fun t => kitB t n == some (isB t n)
theorem tyN_mem {d : D} {t : String} (h : tyN d = some t) : t ∈ ["NoneType", "bool", "int", "str", "tuple", "list"] := by
  cases d <;> simp [tyN] at h <;> subst h <;> simp
theorem isTab_kit {n t : String} {d : D} (h : isTab n = true) (e : tyN d = some t) : PySem.W.kitOne K (.type t) (.type n) = some (isB t n) := by
  unfold isTab at h
  rw [List.all_eq_true] at h
  have := h t (tyN_mem e)
  exact kit_ty (eq_of_beq this)
theorem d_isi {W : WX} {n : String} {t : TE} {f : DE} (hn : isTab n = true) (h : Den K cn W t f) : Den K cn W (tCB (rIsi K) (tCons t (tCons (tC (.ty n)) tNil))) (eUn (isiD [n]) f) := fun G H σ ρ Q l e q p => by
  refine den_bind (t := t) h l q p fun G1 H1 ρ1 x rx e1 l1 r1 q1 => ?_
  have p1 := PostE.back e1 p
  unfold op1 at q1
  cases z1 : rx.peek ρ1 with
  | none => rw [z1] at q1; cases q1
  | some d =>
    rw [z1] at q1; dsimp only at q1
    unfold isiD at q1
    cases z2 : tyN d with
    | none => rw [z2] at q1; cases q1
    | some ty =>
      rw [z2] at q1
      cases q1
      refine ⟨x, .ty n, .type ty, .type n, isB ty n, rfl, .ty n, ty_pk l1.gh z2 (r1.peek l1 z1), isTab_kit hn z2, ?_⟩
      have := p1 G1 H1 (.bl (isB ty n)) Ext.refl l1
      simp only [List.any_cons, List.any_nil, Bool.or_false] at this
      exact this RepR.blI
end
end DL
end

section
set_option maxRecDepth 100000
set_option maxHeartbeats 2000000
namespace DL
open PySem PySem.Spec L2
/-- what is known of the place: room for k calls, what takes its errors -/
structure Ct (X : Cx) (W : WX) (k : Nat) : Prop where
  hr : Room k X.A
  tk : Takes X W
  hc : X.calm = true
  hN : X.N.Nodup
abbrev W0 : WX := fun _ _ _ _ => False
theorem takes0 {X : Cx} : Takes X W0 := fun _ _ ⟨_, _, _, _, _, _, _, _, _, _, _, _, _, _, _, _, w⟩ => w.elim
theorem Ct.blk {X : Cx} {W : WX} {k : Nat} (c : Ct X W k) (s : Shared) (H : Hp) (scope : Scope) (ce : PySem.Env) (fp : List Addr) : Ct (X.blk s H scope ce fp) W0 k := ⟨c.hr, takes0, c.hc, c.hN⟩
theorem Ct.un {X : Cx} {W : WX} {k : Nat} (c : Ct X W k) : X.A.units + 1 < cLine := by have := c.hr.units; omega
/-- a def's body -/
theorem ct_of {P : Program} {w : World} {K : PySem.W.Frag} {mg : Str → Option Value} {base : Heap} {N : List Str} {qual : Str} {scope : Scope} {f : Addr} {cd : Value} {A : Around} {outer : List PySem.Env} {s : Shared} {H : Hp} {E : XK} {k : Nat}
    (hr : Room k (A.deeper (PyProof.Rows.envOfC qual scope s.heap.objs.size f cd))) (hN : N.Nodup) : Ct (cxOf (L2.CX P w) P w K mg base N qual scope f cd A outer s H E) (fun cls d _ H' => E cls d H') k :=
  ⟨hr, takes_of rfl rfl rfl rfl, rfl, hN⟩
theorem own_of {P : Program} {w : World} {K : PySem.W.Frag} {mg : Str → Option Value} {base : Heap} {N : List Str} {qual : Str} {scope : Scope} {f : Addr} {cd : Value} {A : Around} {outer : List PySem.Env} {s : Shared} {H : Hp} {E : XK} :
    PassesOwn (model P w) (cxOf (L2.CX P w) P w K mg base N qual scope f cd A outer s H E).A (cxOf (L2.CX P w) P w K mg base N qual scope f cd A outer s H E).env (cxOf (L2.CX P w) P w K mg base N qual scope f cd A outer s H E).xe :=
  passes_of (X := cxOf (L2.CX P w) P w K mg base N qual scope f cd A outer s H E) rfl
theorem Cg.mono {P : Program} {w : World} {K : PySem.W.Frag} {mg : Str → Option Value} {base : Heap} {cn : String → Addr} {j k : Nat} {x : String} {F : DF} (h : Cg P w K mg base cn j x F) (l : j ≤ k) : Cg P w K mg base cn k x F :=
  let ⟨f, h1, h2, h3⟩ := h; ⟨f, h1, h2, h3.mono l⟩
theorem CgM.mono {P : Program} {w : World} {K : PySem.W.Frag} {mg : Str → Option Value} {base : Heap} {cn : String → Addr} {j k : Nat} {x : String} {F : DM} (h : CgM P w K mg base cn j x F) (l : j ≤ k) : CgM P w K mg base cn k x F :=
  let ⟨f, h1, h2, h3⟩ := h; ⟨f, h1, h2, h3.mono l⟩
section
variable {cn : String → Addr} {X : Cx} {W : WX} {k j : Nat} {pos pos' p2 apos p : Pos} {a b c e : Expr} {es : List Expr} {ta tb tc te : TE} {fa fb fc fe : DE} {t : TA} {fs : DA} {tt tu : TT} {ft fu : DT}
theorem run_fnRS {CX : CXT} {f : Addr} {sp : Sp} {E : St → XK} {Q : VK} {us : List Value} {vs : List V} {pins : List (Addr × Obj)} {σ : L2.St} {H : Hp} {s : Shared} (F : FnR X.prog X.w X.K X.mg X.base CX k f sp) (hr : Room k X.A) (hx : PassesAt CX X σ (E σ)) (I : Inv X pins σ H s) (r : Vals vs us) (h : sp vs H Q (E σ)) :
    wpAny (model X.prog X.w) X.A (PySem.call (.ref f) us) (EP X pins σ Q) X.xe s := by
  refine wpAny_call (codeAny_mono (F X.A X.stack s H us vs Q (E σ) hr I.env0 r h) fun r s' hq => ?_)
  cases r with
  | error e => exact hx pins H s e s' I hq
  | ok fl =>
    cases fl with
    | ret u => exact I.after hq
    | next => exact False.elim hq
    | brk => exact False.elim hq
    | cont => exact False.elim hq
theorem pe_callRS {f : Addr} {sp : Sp} {x : Str} (F : FnR X.prog X.w X.K X.mg X.base (L2.CX X.prog X.w) k f sp) (hr : Room k X.A) (hg : Gl X x) (hm : X.mg x = some (.ref f)) (hk : PySem.W.keepIn X.K (.ref f) = true) (tk : Takes X W)
    (ha : PA X (e :: es) t) (hdb : (x == ("__debug__" : Str)) = false) (he : starEach (e :: es) X.env = (false, eval e X.env) :: starEach es X.env) (hpl : (backTo pos (starEach es X.env)).any (·.1) = false) :
    PE X (.Call (.Name x p) (e :: es) [] pos) (tCl sp W t) := by
  refine ⟨fun pins s σ H Q I h => ?_⟩
  refine wpAny_Call_Name_kw (ld_glob I hg hm ?_ hdb)
  refine PySem.W.callWith_K (h₀ := X.base) I.ok.mod.kin hk (thn (ha.run pos pins s σ H _ I h) fun us s1 ⟨vs, H1, I1, r, q⟩ => ⟨I1.kIn, ?_⟩) he hpl
  exact run_fnRS (E := WE W) F hr (passAt tk σ) I1 r q
/-! ### arguments, tuples, lists -/
theorem x_cons (ha : EX cn X W a fa) (hr : AX cn X W es fs) (hs : starEach (a :: es) X.env = (false, eval a X.env) :: starEach es X.env := by rfl) : AX cn X W (a :: es) (aCons fa fs) := ⟨⟨_, pa_cons ha.pe hr.pa hs, d_cons ha.den hr.den⟩⟩
theorem x_tup {m} (h : AX cn X W es fs) : EX cn X W (.Tuple es m pos) (eTup fs) := ⟨⟨_, pe_tup h.pa, d_tup h.den⟩⟩
theorem x_lst (h : AX cn X W es fs) : EX cn X W (.List es pos) (eLst fs) := ⟨⟨_, pe_lst h.pa, d_lst h.den⟩⟩
theorem x_dct : EX cn X W (.Dict [] [] pos) eDct := ⟨⟨_, pe_dnewK, d_dct⟩⟩
/-! ### calls -/
theorem x_call {x : String} {F : DF} (c : Ct X W k) (h : Cg X.prog X.w X.K X.mg X.base cn j x F) (ha : AX cn X W (e :: es) fs) (hj : j ≤ k := by decide) (hg : Gl X (Str.ofString x) := by rfl) (hdb : (Str.ofString x == ("__debug__" : Str)) = false := by decide)
    (he : starEach (e :: es) X.env = (false, eval e X.env) :: starEach es X.env := by rfl) (hpl : (backTo pos (starEach es X.env)).any (·.1) = false := by rfl) : EX cn X W (.Call (.Name (Str.ofString x) p) (e :: es) [] pos) (eCall F fs) :=
  let ⟨_, h1, h2, h3⟩ := h
  ⟨⟨_, pe_callRS (h3.mono hj) c.hr hg h1 h2 c.tk ha.pa hdb he hpl, d_call ha.den⟩⟩
theorem x_callM {x : String} {F : DM} (c : Ct X W k) (h : CgM X.prog X.w X.K X.mg X.base cn j x F) (ha : AX cn X W (e :: es) fs) (hj : j ≤ k := by decide) (hg : Gl X (Str.ofString x) := by rfl) (hdb : (Str.ofString x == ("__debug__" : Str)) = false := by decide)
    (he : starEach (e :: es) X.env = (false, eval e X.env) :: starEach es X.env := by rfl) (hpl : (backTo pos (starEach es X.env)).any (·.1) = false := by rfl) : EX cn X W (.Call (.Name (Str.ofString x) p) (e :: es) [] pos) (eCallM F fs) :=
  let ⟨_, h1, h2, h3⟩ := h
  ⟨⟨_, pe_callRS (h3.mono hj) c.hr hg h1 h2 c.tk ha.pa hdb he hpl, d_callM ha.den⟩⟩
/-- a built-in function -/
theorem x_cb {id : String} {x : Str} {r : List V → Hp → VK → Prop} {f : List D → Option Rv} (hc : CallR X (.builtin id) r) (d : DCl X.K cn r f) (hm : X.mg x = none) (ha : AX cn X W (e :: es) fs) (hg : Gl X x := by rfl) (hv : bootBuiltins x = some (.builtin id) := by kernel_rfl) (hn : x ≠ "__name__" := by decide) (hdb : (x == ("__debug__" : Str)) = false := by decide)
    (he : starEach (e :: es) X.env = (false, eval e X.env) :: starEach es X.env := by rfl) (hpl : (backTo pos (starEach es X.env)).any (·.1) = false := by rfl) : EX cn X W (.Call (.Name x p) (e :: es) [] pos) (eCB f fs) :=
  ⟨⟨_, pe_callB hc hg hm hv ha.pa hn hdb he hpl, d_cb d ha.den⟩⟩
theorem x_ct {T : String} {x : Str} {r : List V → Hp → VK → Prop} {f : List D → Option Rv} (hc : CallR X (.type T) r) (d : DCl X.K cn r f) (hm : X.mg x = none) (ha : AX cn X W (e :: es) fs) (hg : Gl X x := by rfl) (hv : bootBuiltins x = some (.type T) := by kernel_rfl) (hn : x ≠ "__name__" := by decide) (hdb : (x == ("__debug__" : Str)) = false := by decide)
    (he : starEach (e :: es) X.env = (false, eval e X.env) :: starEach es X.env := by rfl) (hpl : (backTo pos (starEach es X.env)).any (·.1) = false := by rfl) : EX cn X W (.Call (.Name x p) (e :: es) [] pos) (eCB f fs) :=
  ⟨⟨_, pe_callTy hc hg hm hv ha.pa hn hdb he hpl, d_cb d ha.den⟩⟩
/-- list(d) -/
theorem x_keys (c : Ct X W k) (hm : X.mg "list" = none) (ha : EX cn X W a fa) (hg : Gl X "list" := by rfl)
    (he : starEach [a] X.env = (false, eval a X.env) :: starEach [] X.env := by rfl) (hpl : (backTo pos (starEach [] X.env)).any (·.1) = false := by rfl) : EX cn X W (.Call (.Name "list" p) [a] [] pos) (eKeys fa) :=
  ⟨⟨_, pe_callTy (call_list_dK c.hc) hg hm (by kernel_rfl) (pa_cons ha.pe pa_nil he) (by decide) (by decide) he hpl, d_keys ha.den⟩⟩
/-- isinstance(x, T) -/
theorem x_isi {n : String} {x : Str} (hm : X.mg "isinstance" = none) (hm2 : X.mg x = none) (ha : EX cn X W a fa) (hn : isTab n = true := by decide +kernel) (hg : Gl X "isinstance" := by rfl) (hg2 : Gl X x := by rfl) (hv : bootBuiltins x = some (.type n) := by kernel_rfl) (hx : x ≠ "__name__" := by decide) (hdb : (x == ("__debug__" : Str)) = false := by decide)
    (hs : starEach [a, .Name x p2] X.env = (false, eval a X.env) :: starEach [.Name x p2] X.env := by rfl) (hpl : (backTo pos (starEach [.Name x p2] X.env)).any (·.1) = false := by rfl) : EX cn X W (.Call (.Name "isinstance" p) [a, .Name x p2] [] pos) (eUn (isiD [n]) fa) :=
  ⟨⟨_, pe_callB call_isi hg hm (by kernel_rfl) (pa_cons ha.pe (pa_cons (pe_bltn (v := V.ty n) hg2 hm2 hv rfl hx hdb) pa_nil) hs) (by decide) (by decide) hs hpl, d_isi hn ha.den⟩⟩
/-! ### subscripts -/
theorem x_sub (ha : EX cn X W a fa) (hb : EX cn X W b fb) (hs : PlainIx b := by exact fun _ _ => rfl) : EX cn X W (.Subscript a b pos) (eOp ixS fa fb) := x_ix ix_any o_ix ha hb hs
theorem o_non : OX cn X W none oNone := ⟨⟨_, po_none, d_onone⟩⟩
theorem o_some (h : EX cn X W a fa) : OX cn X W (some a) (oSome fa) := ⟨⟨_, po_some h.pe, d_osome h.den⟩⟩
theorem x_sl {lo hi : Option Expr} {fl fh : DO} (ha : EX cn X W a fa) (hl : OX cn X W lo fl) (hh : OX cn X W hi fh) : EX cn X W (.Subscript a (.Slice lo hi none p2) pos) (eSl slOp fa fl fh) :=
  ⟨⟨_, pe_slice sl_any ha.pe hl.po hh.po, d_sl o_sl ha.den hl.den hh.den⟩⟩
theorem Reps.rev {K : PySem.W.Frag} {G : Hp} : ∀ {ds : List D} {vs : List V}, Reps K cn G ds vs → Reps K cn G ds.reverse vs.reverse
  | [], vs, h => by rw [reps_nil h]; unfold Reps; rfl
  | d :: ds, vs, h => by
    unfold Reps at h
    obtain ⟨v, us, e, r, q⟩ := h
    subst e
    rw [List.reverse_cons, List.reverse_cons]
    refine (Reps.rev q).append ?_
    unfold Reps
    exact ⟨v, [], rfl, r, by unfold Reps; rfl⟩
theorem d_revL : DUn X.K cn (fun x H1 Q => ∃ a xs, x = V.ref a ∧ SqL X.K H1 a xs ∧ ∀ p, H1 p = none → Q (.ref p) (upd H1 p (.lst xs.reverse))) opRevL := fun G H x dx z Q l px q k => by
  cases dx with
  | lst ds =>
    cases q
    obtain ⟨a, vs, ev, hs, rs⟩ := px.lst l
    refine ⟨a, vs, ev, .inl (.inl hs), fun p np => ?_⟩
    obtain ⟨nw, r⟩ := rv_lst l np rs.rev
    exact k _ _ _ nw r
  | _ => cases q
theorem x_revL {kk : Nat} {p1 p2 p3 : Pos} (ha : EX cn X W a fa) : EX cn X W (.Subscript a (.Slice none none (some (.UnaryOp .USub (.Constant (.int 1) kk p1) p2)) p3) pos) (eUn opRevL fa) := ⟨⟨_, pe_revL ha.pe, d_un d_revL ha.den⟩⟩
end
end DL
end

section
set_option maxRecDepth 100000
set_option maxHeartbeats 2000000
namespace DL
open PySem PySem.Spec L2
section
variable {cn : String → Addr} {X : Cx} {W : WX} {k j : Nat} {pos pos' p2 apos p : Pos} {a b c e : Expr} {es : List Expr} {ta tb tc te : TE} {fa fb fc fe : DE} {t : TA} {fs : DA} {tt tu : TT} {ft fu : DT}
/-! ### tests -/
theorem t_val (h : EX cn X W e fe) (he : ∀ whole, isTrue e X.env whole = (do let v ← whole; standAt e.pos; holding [v] (truthy v)) := by intro _; rfl) : TX cn X W e (tE fe) := ⟨⟨_, pt_val h.pe he, d_tB h.den⟩⟩
theorem t_cmp {op : CmpOp} {r : R2} {o : D → D → Option Rv} (ho : OpR X (compareOp op) r) (d : DOp X.K cn r o) (ha : EX cn X W a fa) (hb : EX cn X W b fb) (hm : behindInMarks op b = false := by first | exact nobehind _ (by decide) (by decide) | rfl) : TX cn X W (.Compare a [op] [b] pos) (tE (eOp o fa fb)) :=
  ⟨⟨_, pt_cmpR ho ha.pe hb.pe hm, d_tTest (d_op d ha.den hb.den)⟩⟩
theorem t_chain {op op' : CmpOp} {r r' : R2} {o o' : D → D → Option Rv} (ho : OpR X (compareOp op) r) (d : DOp X.K cn r o) (ho' : OpR X (compareOp op') r') (d' : DOp X.K cn r' o') (ha : EX cn X W a fa) (hb : EX cn X W b fb) (hc : EX cn X W c fc) (hm : lastMarks [op, op'] [b, c] = false := by with_unfolding_all rfl) :
    TX cn X W (.Compare a [op, op'] [b, c] pos) (tE (eChain o o' fa fb fc)) := ⟨⟨_, pt_chain ho ho' ha.pe hb.pe hc.pe hm, d_tTest (d_chain d d' ha.den hb.den hc.den)⟩⟩
theorem w_and1 (h : TX cn X W a ft) : WTX cn X W (.BoolOp .And [a] pos) ft := ⟨⟨_, pw_and1 h.pt, h.den⟩⟩
theorem w_or1 (h : TX cn X W a ft) : WTX cn X W (.BoolOp .Or [a] pos) ft := ⟨⟨_, pw_or1 h.pt, h.den⟩⟩
theorem w_and {rest : List Expr} (h : TX cn X W a ft) (g : WTX cn X W (.BoolOp .And (b :: rest) pos) fu) : WTX cn X W (.BoolOp .And (a :: b :: rest) pos) (DL.tAnd ft fu) := ⟨⟨_, pw_and h.pt g.pw, d_tand h.den g.den⟩⟩
theorem w_or {rest : List Expr} (h : TX cn X W a ft) (g : WTX cn X W (.BoolOp .Or (b :: rest) pos) fu) : WTX cn X W (.BoolOp .Or (a :: b :: rest) pos) (DL.tOr ft fu) := ⟨⟨_, pw_or h.pt g.pw, d_tor h.den g.den⟩⟩
theorem t_w (h : WTX cn X W e ft) : TX cn X W e ft := ⟨⟨_, h.pw.pt, h.den⟩⟩
theorem t_not (h : TX cn X W a ft) : TX cn X W (.UnaryOp .Not a pos) (DL.tNot ft) := ⟨⟨_, pt_not h.pt, d_tnot h.den⟩⟩
theorem x_if (h : TX cn X W c ft) (ha : EX cn X W a fa) (hb : EX cn X W b fb) : EX cn X W (.IfExp c a b pos) (eIf ft fa fb) := ⟨⟨_, pe_ifExp h.pt ha.pe hb.pe, d_ifx h.den ha.den hb.den⟩⟩
/-! ### what is walked -/
theorem pi_sq {tg : Expr} (hl : PE X e te) : PI X tg e (iSq X.K te) := by
  refine ⟨fun pins s σ H R I h => ?_⟩
  refine thn (hl.run pins s σ H _ I h) fun v s1 ⟨x, H1, I1, r1, q1⟩ => ?_
  obtain ⟨a, e, q⟩ := q1
  subst e
  cases r1
  rcases q with ⟨⟨xs, hq⟩, q⟩ | ⟨⟨xs, hq⟩, q⟩
  · obtain ⟨its, rv, p, hz⟩ := I1.list hq
    refine wpAny_pyIter_list p.isList ?_
    refine ⟨s1.heap.objs.size, [s1.heap.objs.size], _, _, H1, rfl, I1.kept (t' := s1.toks) fun b o e => Heap.get?_push_of_some _ e, turn_list a _, ⟨_, Heap.get?_push_size _ rfl, rfl, rfl⟩, fun b hb => ?_, q⟩
    have e : b = s1.heap.objs.size := by simpa using hb
    subst e
    exact I1.fpOk (Nat.le_refl _) (I1.hok.fresh (Nat.le_refl _))
  · obtain ⟨its, rv, p, hz⟩ := I1.tuple hq
    refine wpAny_pyIter_tuple (show s1.heap.IsTuple a its.toArray from p) ?_
    refine ⟨s1.heap.objs.size, [s1.heap.objs.size], _, _, H1, rfl, I1.kept (t' := s1.toks) fun b o e => Heap.get?_push_of_some _ e, turn_tuple a _, ⟨_, Heap.get?_push_size _ rfl, rfl, rfl⟩, fun b hb => ?_, q⟩
    have e : b = s1.heap.objs.size := by simpa using hb
    subst e
    exact I1.fpOk (Nat.le_refl _) (I1.hok.fresh (Nat.le_refl _))
theorem i_seq {tg : Expr} (h : EX cn X W e fe) : IX cn X W tg e (DL.iSeq fe) := ⟨⟨_, pi_sq h.pe, d_iseq h.den⟩⟩
theorem one_arg {f : DE} {ρ : Env} {rs : List R} {ρ' : Env} (h : aCons f aNil ρ = some (.ok rs ρ')) : rs.length = 1 := by
  unfold aCons aNil at h
  cases z : f ρ with
  | none => rw [z] at h; cases h
  | some x => rw [z] at h; cases x with
    | ok r ρ1 => cases h; rfl
    | ex x ρ1 => cases h
theorem two_args {f g : DE} {ρ : Env} {rs : List R} {ρ' : Env} (h : aCons f (aCons g aNil) ρ = some (.ok rs ρ')) : rs.length = 2 := by
  rw [aCons] at h
  cases z : f ρ with
  | none => rw [z] at h; cases h
  | some x => rw [z] at h; cases x with
    | ok r ρ1 =>
      dsimp only at h
      cases z2 : aCons g aNil ρ1 with
      | none => rw [z2] at h; cases h
      | some y => rw [z2] at h; cases y with
        | ok r2 ρ2 => cases h; have := one_arg z2; simp [this]
        | ex x ρ1 => cases h
    | ex x ρ1 => cases h
theorem i_range1 {tg : Expr} (hm : X.mg "range" = none) (h : EX cn X W a fa) (hg : Gl X "range" := by rfl) (hs : starEach [a] X.env = [(false, eval a X.env)] := by rfl) : IX cn X W tg (.Call (.Name "range" p) [a] [] pos) (iRange (aCons fa aNil)) :=
  ⟨⟨_, pi_range1 hg hm (pa_cons h.pe pa_nil hs) hs, d_irange1 (d_cons h.den d_nil) fun _ _ _ q => one_arg q⟩⟩
theorem i_range2 {tg : Expr} (hm : X.mg "range" = none) (h : EX cn X W a fa) (h2 : EX cn X W b fb) (hg : Gl X "range" := by rfl) (hs : starEach [a, b] X.env = [(false, eval a X.env), (false, eval b X.env)] := by rfl) (hs2 : starEach [b] X.env = [(false, eval b X.env)] := by rfl)
    (hs3 : starEach [a, b] X.env = (false, eval a X.env) :: starEach [b] X.env := by rfl) : IX cn X W tg (.Call (.Name "range" p) [a, b] [] pos) (iRange (aCons fa (aCons fb aNil))) :=
  ⟨⟨_, pi_range2 hg hm (pa_cons h.pe (pa_cons h2.pe pa_nil hs2) hs3) hs hs2, d_irange2 (d_cons h.den (d_cons h2.den d_nil)) fun _ _ _ q => two_args q⟩⟩
theorem i_enum {elts : List Expr} {kk : Nat} {tpos : Pos} (hm : X.mg "enumerate" = none) (h : EX cn X W a fa) (hg : Gl X "enumerate" := by rfl) (hs : starEach [a] X.env = [(false, eval a X.env)] := by rfl) :
    IX cn X W (.Tuple elts kk tpos) (.Call (.Name "enumerate" p) [a] [] pos) (DL.iEnum fa) := ⟨⟨_, pi_enum hg hm (pa_cons h.pe pa_nil hs) hs, d_ienum h.den⟩⟩
theorem i_zip {elts : List Expr} {kk : Nat} {tpos : Pos} (hm : X.mg "zip" = none) (h : AX cn X W [a, b] fs) (hg : Gl X "zip" := by rfl) (hs : starEach [a, b] X.env = (false, eval a X.env) :: starEach [b] X.env := by rfl) (hpl : (backTo pos (starEach [b] X.env)).any (·.1) = false := by rfl) :
    IX cn X W (.Tuple elts kk tpos) (.Call (.Name "zip" p) [a, b] [] pos) (DL.iZip fs) := ⟨⟨_, pi_zip hg hm h.pa hs hpl, d_izip h.den⟩⟩
/-! ### targets -/
theorem g_name (i : Nat) {x : Str} (c : Ct X W k) (hi : X.N[i]? = some x := by rfl) (hx : Loc X.env.scope x := by first | exact Or.inl rfl | exact Or.inr rfl) (hf : X.fn x = true ∨ X.env.scope.names.lookup x = some .local := by first | exact .inl rfl | exact .inr rfl) : GX cn X [i] (.Name x pos) (DL.gName i) := ⟨⟨_, pg_name c.hN hi hx hf, d_gname⟩⟩
theorem g_nil : GsX cn X [] [] [] := ⟨⟨_, pgs_nil, d_gnil⟩⟩
theorem g_cons {vs ws : List Nat} {f : DG} {gfs : List DG} (h : GX cn X vs e f) (q : GsX cn X ws es gfs) (hs : (assignEach (e :: es) X.env).map (·.2) = assign e X.env :: (assignEach es X.env).map (·.2) := by rfl) : GsX cn X (vs ++ ws) (e :: es) (f :: gfs) := ⟨⟨_, pgs_cons h.pg q.pg hs, d_gcons h.den q.den⟩⟩
theorem g_tup {vs : List Nat} {n m : Nat} {gfs : List DG} (c : Ct X W k) (h : GsX cn X vs es gfs) (hl : gfs.length = n := by rfl) (hn : (assignEach es X.env).length = n := by rfl) (hst : (assignEach es X.env).findIdx? (·.1) = none := by rfl) : GX cn X vs (.Tuple es m pos) (DL.gTup gfs) :=
  ⟨⟨_, pg_tup c.hc h.pg hn hst, d_gtup h.den hl⟩⟩
/-! ### comprehensions -/
structure TsX (cn : String → Addr) (X : Cx) (W : WX) (es : List Expr) (f : DT) : Prop where
  ex : ∃ t, PTs X es t ∧ DenT X.K cn W t f
theorem TsX.pt {es : List Expr} {f : DT} (h : TsX cn X W es f) : PTs X es (toT X.K cn W f) := let ⟨_, a, b⟩ := h.ex; ⟨fun pins s σ H Q I ⟨G, ρ, e, l, q, p⟩ => a.run pins s σ H Q I (b G H σ ρ Q l e q p)⟩
theorem TsX.den {es : List Expr} {f : DT} (_ : TsX cn X W es f) : DenT X.K cn W (toT X.K cn W f) f := den_toT
theorem ts_nil : TsX cn X W [] DL.tYes := ⟨⟨_, pts_nil, d_tyes⟩⟩
theorem ts_one (h : TX cn X W a ft) : TsX cn X W [a] ft := ⟨⟨_, pts_one h.pt, h.den⟩⟩
theorem x_lc {elt tg iter : Expr} {ifs : List Expr} {scope : Scope} (own : List (Str × Nat)) {it : DI} {gf : DG} {ef : DE} {tf : DT} (c : Ct X W k) (hi : IX cn X W tg iter it)
    (hg : ∀ (s : Shared) (H : Hp) (C : Addr) (cl : List (Str × Addr)) (fp : List Addr), Ct (X.blk s H scope (compEnvC scope cl C X.env) fp) W0 k → GX cn (X.blk s H scope (compEnvC scope cl C X.env) fp) (own.map (·.2)) tg gf)
    (ht : ∀ (s : Shared) (H : Hp) (C : Addr) (cl : List (Str × Addr)) (fp : List Addr), Ct (X.blk s H scope (compEnvC scope cl C X.env) fp) W0 k → TsX cn (X.blk s H scope (compEnvC scope cl C X.env) fp) W0 ifs tf)
    (he : ∀ (s : Shared) (H : Hp) (C : Addr) (cl : List (Str × Addr)) (fp : List Addr), Ct (X.blk s H scope (compEnvC scope cl C X.env) fp) W0 k → EX cn (X.blk s H scope (compEnvC scope cl C X.env) fp) W0 elt ef)
    (ok : blkC X.N X.env.scope scope own = true := by rfl) (hs : ∀ x, foldedSetIterable iter X.env x = pure x := by intro _; rfl) :
    EX cn X W (.ListComp elt [⟨tg, iter, ifs, 0⟩] scope pos) (eLc it gf tf ef (own.map (·.2))) :=
  have cb := fun s H C cl fp => c.blk s H scope (compEnvC scope cl C X.env) fp
  ⟨⟨_, pe_lc c.hc c.hN hi.pi (blkOk_by ok) (fun s H C cl fp => (hg s H C cl fp (cb s H C cl fp)).pg) (fun s H C cl fp => (ht s H C cl fp (cb s H C cl fp)).pt) (fun s H C cl fp => (he s H C cl fp (cb s H C cl fp)).pe) hs,
    d_lc (W' := W0) hi.den (hg X.s_0 X.H_0 0 [] [] (cb _ _ _ _ _)).den (ht X.s_0 X.H_0 0 [] [] (cb _ _ _ _ _)).den (he X.s_0 X.H_0 0 [] [] (cb _ _ _ _ _)).den⟩⟩
/-! ### statements -/
variable {st : Stmt} {sts sts2 : List Stmt} {ts us : TS} {gs hs' : DS}
theorem b_nil : BX cn X W [] sNil := ⟨⟨_, pss_nil, ds_nil⟩⟩
theorem b_cons (h : SX cn X W st gs) (r : BX cn X W sts hs') : BX cn X W (st :: sts) (sSeq gs hs') := ⟨⟨_, pss_cons h.ps r.ps, ds_seq h.den r.den⟩⟩
theorem b_one (h : SX cn X W st gs) : BX cn X W [st] gs := ⟨⟨_, pss_one h.ps, h.den⟩⟩
theorem s_pass : SX cn X W (.Pass pos) sNil := ⟨⟨_, ps_pass, ds_nil⟩⟩
theorem s_break : SX cn X W (.Break pos) sBreak := ⟨⟨_, ps_break, ds_break⟩⟩
theorem s_cont : SX cn X W (.Continue pos) sCont := ⟨⟨_, ps_continue, ds_cont⟩⟩
theorem s_expr (h : EX cn X W e fe) (hs : swapsWith e none pos.line X.env = pure false := by rfl) : SX cn X W (.Expr e pos) (sExpr fe) := ⟨⟨_, ps_expr h.pe hs, ds_expr h.den⟩⟩
theorem s_ret (h : EX cn X W e fe) : SX cn X W (.Return (some e) pos) (sRet fe) := ⟨⟨_, ps_ret h.pe, ds_ret h.den⟩⟩
theorem s_retN : SX cn X W (.Return none pos) sRetN := ⟨⟨_, ps_retN, ds_retN⟩⟩
theorem s_set (i : Nat) {x : Str} (c : Ct X W k) (h : EX cn X W e fe) (hi : X.N[i]? = some x := by rfl) (hx : Loc X.env.scope x := by first | exact Or.inl rfl | exact Or.inr rfl) (hs : swapsWith e (some (.Name x pos')) pos.line X.env = pure false := by rfl) (hf : X.fn x = true ∨ X.env.scope.names.lookup x = some .local := by first | exact .inl rfl | exact .inr rfl) :
    SX cn X W (.Assign [.Name x pos'] e pos) (sSet i fe) := ⟨⟨_, ps_set c.hN hi hx h.pe hs hf, ds_set h.den⟩⟩
/-- name = [..], on one line -/
theorem s_setLc (i : Nat) {y : Str} {elt tg iter : Expr} {ifs : List Expr} {scope : Scope} (own : List (Str × Nat)) {it : DI} {gf : DG} {ef : DE} {tf : DT} (c : Ct X W k) (hi : IX cn X W tg iter it)
    (hg : ∀ (s : Shared) (H : Hp) (C : Addr) (cl : List (Str × Addr)) (fp : List Addr), Ct (X.blk s H scope (compEnvC scope cl C X.env) fp) W0 k → GX cn (X.blk s H scope (compEnvC scope cl C X.env) fp) (own.map (·.2)) tg gf)
    (ht : ∀ (s : Shared) (H : Hp) (C : Addr) (cl : List (Str × Addr)) (fp : List Addr), Ct (X.blk s H scope (compEnvC scope cl C X.env) fp) W0 k → TsX cn (X.blk s H scope (compEnvC scope cl C X.env) fp) W0 ifs tf)
    (he : ∀ (s : Shared) (H : Hp) (C : Addr) (cl : List (Str × Addr)) (fp : List Addr), Ct (X.blk s H scope (compEnvC scope cl C X.env) fp) W0 k → EX cn (X.blk s H scope (compEnvC scope cl C X.env) fp) W0 elt ef)
    (hsw : swapsWith (.ListComp elt [⟨tg, iter, ifs, 0⟩] scope p) (some (.Name y pos')) pos.line X.env = pure true)
    (hy : X.N[i]? = some y := by rfl) (hyl : X.env.scope.names.lookup y = some .local := by rfl)
    (ok : blkC X.N X.env.scope scope own = true := by rfl) (hs : ∀ x, foldedSetIterable iter X.env x = pure x := by intro _; rfl) :
    SX cn X W (.Assign [.Name y pos'] (.ListComp elt [⟨tg, iter, ifs, 0⟩] scope p) pos) (sSet i (eLc it gf tf ef (own.map (·.2)))) :=
  have cb := fun s H C cl fp => c.blk s H scope (compEnvC scope cl C X.env) fp
  ⟨⟨_, ps_setLc c.hc c.hN hy hyl hsw hi.pi (blkOk_by ok) (fun s H C cl fp => (hg s H C cl fp (cb s H C cl fp)).pg) (fun s H C cl fp => (ht s H C cl fp (cb s H C cl fp)).pt) (fun s H C cl fp => (he s H C cl fp (cb s H C cl fp)).pe) hs,
    ds_set (d_lc (W' := W0) hi.den (hg X.s_0 X.H_0 0 [] [] (cb _ _ _ _ _)).den (ht X.s_0 X.H_0 0 [] [] (cb _ _ _ _ _)).den (he X.s_0 X.H_0 0 [] [] (cb _ _ _ _ _)).den)⟩⟩
theorem s_asg {tg : Expr} {vs : List Nat} {gf : DG} (h : EX cn X W e fe) (hg : GX cn X vs tg gf) (hs : swapsWithSole [tg] e pos.line X.env = pure false := by rfl) (hw : swappedStores [tg] e X.env = pure none := by rfl) (h1 : (assignEach [tg] X.env).map (·.2) = [assign tg X.env] := by rfl) :
    SX cn X W (.Assign [tg] e pos) (sAsg gf fe) := ⟨⟨_, ps_asg h.pe hg.pg hs hw h1, ds_asg h.den hg.den⟩⟩
theorem s_par (i j : Nat) {x y : Str} {px py pt pt2 : Pos} {kt k2 : Nat} (c : Ct X W k) (h : AX cn X W [a, b] fs) (hi : X.N[i]? = some x := by rfl) (hj : X.N[j]? = some y := by rfl) (hij : i ≠ j := by decide) (hx : X.env.scope.names.lookup x = some .local := by rfl) (hy : X.env.scope.names.lookup y = some .local := by rfl)
    (hw : swappedStores [.Tuple [.Name x px, .Name y py] kt pt] (.Tuple [a, b] k2 pt2) X.env = pure (some [x, y]) := by rfl)
    (hs : swapsWithSole [.Tuple [.Name x px, .Name y py] kt pt] (.Tuple [a, b] k2 pt2) pos.line X.env = pure false := by rfl) :
    SX cn X W (.Assign [.Tuple [.Name x px, .Name y py] kt pt] (.Tuple [a, b] k2 pt2) pos) (sPar i j fs) := ⟨⟨_, ps_par c.hc c.hN hi hj hij hx hy h.pa hw hs, ds_par h.den hij⟩⟩
theorem s_if {cc : Expr} (h : TX cn X W cc ft) (ha : BX cn X W sts gs) (hb : BX cn X W sts2 hs') : SX cn X W (.If cc sts sts2 pos) (sIf ft gs hs') := ⟨⟨_, ps_if h.pt ha.ps hb.ps, ds_if h.den ha.den hb.den⟩⟩
theorem s_for {tg iter : Expr} {vs : List Nat} {it : DI} {gf : DG} (c : Ct X W k) (hp : PassesOwn (model X.prog X.w) X.A X.env X.xe) (hi : IX cn X W tg iter it) (hg : GX cn X vs tg gf) (hb : BX cn X W sts gs) (hs : ∀ x, foldedSetIterable iter X.env x = pure x := by intro _; rfl) :
    SX cn X W (.For tg iter sts [] pos) (sFor it gf gs) := ⟨⟨_, ps_for hp c.hc hi.pi hg.pg hb.ps hs, ds_for hi.den hg.den hb.den⟩⟩
theorem s_while {cc : Expr} (m : Env → Nat) (hp : PassesOwn (model X.prog X.w) X.A X.env X.xe) (h : TX cn X W cc ft) (hb : BX cn X W sts gs) : SX cn X W (.While cc sts [] pos) (sWhile m ft gs) := ⟨⟨_, ps_while hp h.pt hb.ps, ds_while h.den hb.den⟩⟩
theorem s_app (i : Nat) {x : Str} {xp : Pos} (h : EX cn X W e fe) (hN : X.N[i]? = some x := by rfl) (hv : Vis X.env.scope x := by first | exact Or.inl rfl | exact Or.inr (Or.inl rfl) | exact Or.inr (Or.inr rfl)) (hd : (x == ("__debug__" : Str)) = false := by decide)
    (hcd : (x == ("__classdict__" : Str)) = false := by decide)
    (hbase : attributeBase (.Name x xp) "append" X.env (eval (.Name x xp) X.env) = eval (.Name x xp) X.env := by rfl)
    (hfew : ((backTo p2 (starEach [e] X.env)).all (fun x => !x.1) && (backToKw p2 (keywordEach [] X.env)).all (fun x => x.1.isSome)
      && decide ([e].length + ([] : List Keyword).length + (if ([] : List Keyword).isEmpty then 0 else 1) < 30)) = true := by rfl)
    (hline : (apos.endLine == p2.line) = true := by rfl) (hs : starEach [e] X.env = (false, eval e X.env) :: starEach [] X.env := by rfl) (hplain : (backTo p2 (starEach [] X.env)).any (·.1) = false := by rfl)
    (hsw : swapsWith (.Call (.Attribute (.Name x xp) "append" apos) [e] [] p2) none pos.line X.env = pure false := by rfl) :
    SX cn X W (.Expr (.Call (.Attribute (.Name x xp) "append" apos) [e] [] p2) pos) (sApp i fe) :=
  ⟨⟨_, ps_expr (pe_bm PySem.F.plainAttrs_list PySem.F.slot_list_append PySem.F.type_list_append mt_append (pe_var hN hv hd hcd) (pa_cons h.pe pa_nil hs) hbase hfew hline hs hplain) hsw, ds_app h.den⟩⟩
/-- x[j] = e -/
theorem s_put (i : Nat) {x : Str} {xp : Pos} (h : EX cn X W e fe) (g : EX cn X W b fb) (hN : X.N[i]? = some x := by rfl) (hv : Vis X.env.scope x := by first | exact Or.inl rfl | exact Or.inr (Or.inl rfl) | exact Or.inr (Or.inr rfl)) (hd : (x == ("__debug__" : Str)) = false := by decide)
    (hcd : (x == ("__classdict__" : Str)) = false := by decide)
    (ha : ∀ v, assign (.Subscript (.Name x xp) b p) X.env v = (do
      let ov ← holding [v] (eval (.Name x xp) X.env)
      let iv ← holding [v, ov] (eval b X.env)
      standAt p
      holding [v, ov, iv] (setItem ov iv v)
      release [v, ov, iv] []) := by intro _; rfl)
    (hs : swapsWithSole [.Subscript (.Name x xp) b p] e pos.line X.env = pure false := by rfl) (hw : swappedStores [.Subscript (.Name x xp) b p] e X.env = pure none := by rfl) (h1 : (assignEach [.Subscript (.Name x xp) b p] X.env).map (·.2) = [assign (.Subscript (.Name x xp) b p) X.env] := by rfl) :
    SX cn X W (.Assign [.Subscript (.Name x xp) b p] e pos) (sPut i fb fe) :=
  ⟨⟨_, ps_asg h.pe (pg_sub (pe_var hN hv hd hcd) g.pe set_list ha) hs hw h1, ds_put h.den g.den⟩⟩
theorem s_dput (i : Nat) {x : Str} {xp : Pos} (c : Ct X W k) (h : EX cn X W e fe) (g : EX cn X W b fb) (hN : X.N[i]? = some x := by rfl) (hv : Vis X.env.scope x := by first | exact Or.inl rfl | exact Or.inr (Or.inl rfl) | exact Or.inr (Or.inr rfl)) (hd : (x == ("__debug__" : Str)) = false := by decide)
    (hcd : (x == ("__classdict__" : Str)) = false := by decide)
    (hs : swapsWith e (some (.Subscript (.Name x xp) b p)) pos.line X.env = pure false := by rfl) :
    SX cn X W (.Assign [.Subscript (.Name x xp) b p] e pos) (sDput i fb fe) :=
  ⟨⟨_, ps_dput c.un (pe_var hN hv hd hcd) g.pe h.pe hs, ds_dput h.den g.den⟩⟩
/-! x += e -/
theorem ds_aug {r : R2} {op : D → D → Option Rv} {i : Nat} {te : TE} {f : DE} {K : PySem.W.Frag} (o : DOp K cn r op) (h : Den K cn W te f) : DenS K cn W (tAug i te r) (sAugS i op f) := fun b G H σ ρ D l B fl q p => by
  unfold sAugS at q
  split at q
  · rename_i d hd
    obtain ⟨x, hx, rx⟩ := l.frz i d hd
    refine ⟨x, hx, ?_⟩
    refine den_bS (t := te) h l B q p fun G1 H1 ρ1 v r e1 l1 B1 r1 q1 => ?_
    cases z1 : r.peek ρ1 with
    | none => rw [z1] at q1; cases q1
    | some e =>
      rw [z1] at q1; dsimp only at q1
      split at q1
      · rename_i z hz
        split at q1
        · rename_i ρ2 hp
          cases q1
          refine o G1 H1 x v d e (.val z) _ l1.gh (.inl (Rep.mono e1.g _ _ rx)) (r1.peek l1 z1) hz fun G2 H2 y n rv => ?_
          obtain ⟨l3, t3⟩ := (l1.new n).put hp rv
          exact p G2 H2 _ l3 ((B1.new n).tg t3)
        · cases q1
      · cases q1
  · cases q
theorem s_aug (i : Nat) {x : Str} {op : Operator} {r : R2} {o : D → D → Option Rv} (c : Ct X W k) (ho : PIp X op r) (d : DOp X.K cn r o) (h : EX cn X W e fe) (hi : X.N[i]? = some x := by rfl) (hx : Loc X.env.scope x := by first | exact Or.inl rfl | exact Or.inr rfl) (hf : X.fn x = true ∨ X.env.scope.names.lookup x = some .local := by first | exact .inl rfl | exact .inr rfl) :
    SX cn X W (.AugAssign (.Name x pos') op e pos) (sAugS i o fe) := ⟨⟨_, ps_aug c.hN hi hx h.pe ho hf, ds_aug d h.den⟩⟩
end
end DL
end

section
set_option maxRecDepth 100000
set_option maxHeartbeats 2000000
namespace DL
open PySem PySem.Spec L2
/-! ### a constant of the class; a method by the class -/
/-- what the written part says of the constant f of the classes in F -/
def ConF (K : PySem.W.Frag) (cn : String → Addr) (f : String) (F : String → Option D) : Prop := ∀ c d, F c = some d → Cls K (cn c) ∧ ∃ v u, Con K (cn c) (Str.ofString f) v u ∧ ∀ G, Rep K cn G d v
/-- .. of the method m of the classes in F: they keep what is handed in -/
def MetF (P : Program) (w : World) (K : PySem.W.Frag) (mg : Str → Option Value) (base : Heap) (cn : String → Addr) (k : Nat) (m : String) (F : String → Option DF) : Prop :=
  ∀ c g, F c = some g → Cls K (cn c) ∧ ∃ f, Meth K (cn c) (Str.ofString m) f ∧ FnR P w K mg base (L2.CX P w) k f (spD K cn g)
theorem MetF.mono {P : Program} {w : World} {K : PySem.W.Frag} {mg : Str → Option Value} {base : Heap} {cn : String → Addr} {j k : Nat} {m : String} {F : String → Option DF} (h : MetF P w K mg base cn j m F) (l : j ≤ k) : MetF P w K mg base cn k m F :=
  fun c g e => let ⟨h1, f, h2, h3⟩ := h c g e; ⟨h1, f, h2, h3.mono l⟩
section
variable {cn : String → Addr} {X : Cx} {W : WX} {k j : Nat} {pos pos' p2 apos p : Pos} {a b c e : Expr} {es : List Expr} {ta tb tc te : TE} {fa fb fc fe : DE} {t : TA} {fs : DA} {tt tu : TT} {ft fu : DT}
theorem x_con {f : String} {F : String → Option D} (hc : ConF X.K cn f F) (h : EX cn X W e fe) (hb : attributeBase e (Str.ofString f) X.env (eval e X.env) = eval e X.env := by rfl) : EX cn X W (.Attribute e (Str.ofString f) pos) (eCon F fe) := ⟨⟨_, pe_con h.pe hb, d_con hc h.den⟩⟩
/-- o.m(..) by the object's class -/
def tMetD (K : PySem.W.Frag) (cn : String → Addr) (m : Str) (F : String → Option DF) (W : WX) (te : TE) (t : TA) : TE := fun σ H Q => te σ H fun x H1 => ∃ (a : Addr) (c : String) (g : DF) (dx : Addr) (fs : List (Str × V)), x = .ref a ∧ F c = some g ∧ H1 a = some (.ins (cn c) dx fs) ∧ fs.lookup m = none ∧
  t σ H1 fun vs H2 => spD K cn g (.ref a :: vs) H2 Q fun cls d H' => W cls d σ H'
theorem pe_metD {m : String} {F : String → Option DF} {pl : Sem Bool} (he : PE X b te) (M : MetF X.prog X.w X.K X.mg X.base cn j m F) (c : Ct X W k) (hj : j ≤ k) (ha : PA X (e :: es) t)
    (hst : starEach (e :: es) X.env = (false, eval e X.env) :: starEach es X.env) (hpl : (backTo pos (starEach es X.env)).any (·.1) = false)
    (ht : eval (.Call (.Attribute b (Str.ofString m) apos) (e :: es) [] pos) X.env = (do
      let ov ← eval b X.env
      standAt apos.atName
      let (f, first) ← holding [ov] (getMethod ov (Str.ofString m) pl)
      callWith pos f first (backTo pos (starEach (e :: es) X.env)) (backToKw pos (keywordEach [] X.env)))) :
    PE X (.Call (.Attribute b (Str.ofString m) apos) (e :: es) [] pos) (tMetD X.K cn (Str.ofString m) F W te t) := by
  refine ⟨fun pins s σ H Q I h => ?_⟩
  refine PySem.W.methodCall_KW (pl := pl) (thn (he.run pins s σ H _ I h) fun u s1 ⟨x, H1, I1, rx, a, cl, g, dx, fs, ex, hF, ea, l, q⟩ => ?_) ht
  subst ex
  obtain rfl : u = Value.ref a := rx
  obtain ⟨hc, f, hm, hf⟩ := M cl g hF
  refine getmeth_ok I1 ea hc hm l ?_
  refine PySem.W.callWith_K (first := [.ref a]) (h₀ := X.base) I.ok.mod.kin hm.kp (thn (ha.run pos pins s1 σ H1 _ I1 q) fun us s2 ⟨vs, H2, I2, r, q2⟩ => ⟨I2.kIn, ?_⟩) hst hpl
  exact run_fnRS (E := WE W) (us := .ref a :: us) (vs := .ref a :: vs) (hf.mono hj) c.hr (passAt c.tk σ) I2 (.cons rfl r) q2
theorem no_field {m : String} : ∀ {ns : List String} {vs : List V}, ns.contains m = false → ((ns.map Str.ofString).zip vs).lookup (Str.ofString m) = none
  | [], _, _ => rfl
  | n :: ns, [], _ => rfl
  | n :: ns, v :: vs, h => by
    rw [List.contains_cons, Bool.or_eq_false_iff] at h
    rw [List.map_cons, List.zip_cons_cons, List.lookup_cons, strEq, h.1]
    exact no_field h.2
theorem d_metD {K : PySem.W.Frag} {m : String} {F : String → Option DF} {te : TE} {fe : DE} {t : TA} {fa : DA} (he : Den K cn W te fe) (ha : DenA K cn W t fa) : Den K cn W (tMetD K cn (Str.ofString m) F W te t) (eMet m F fe fa) := fun G H σ ρ Q l e q p => by
  refine den_bind (t := te) he l q p fun G1 H1 ρ1 x rx e1 l1 r1 q1 => ?_
  have p1 := PostE.back e1 p
  cases rx with
  | fre o => cases q1
  | al i => cases q1
  | val d => cases d with
    | obj c ns ds =>
      dsimp only at q1
      cases z : F c with
      | none => rw [z] at q1; cases q1
      | some g =>
        rw [z] at q1; dsimp only at q1
        have r1' : Rep K cn G1 (.obj c ns ds) x := r1
        have r1o := r1'
        unfold Rep at r1'
        obtain ⟨a, dx, vs0, ev, ha0, hl, hr⟩ := r1'
        subst ev
        split at q1
        · rename_i hns
          have hlk : ((ns.map Str.ofString).zip vs0).lookup (Str.ofString m) = none := no_field hns
          refine ⟨a, c, g, dx, _, rfl, z, l1.gh _ _ ha0, hlk, ?_⟩
          refine den_bindA (t := t) ha l1 q1 p1 fun G2 H2 ρ2 vs rs e2 l2 r2 q2 => ?_
          have p2 := PostE.back e2 p1
          cases z1 : frzs ρ2 rs with
          | none => rw [z1] at q2; cases q2
          | some y =>
            obtain ⟨dsx, ρ3⟩ := y
            rw [z1] at q2; dsimp only at q2
            obtain ⟨G3, f, l3, rd⟩ := r2.frzs l2 z1
            cases z2 : g (.obj c ns ds :: dsx) with
            | none => rw [z2] at q2; cases q2
            | some fo =>
              rw [z2] at q2
              have e3 := e2.fz f
              refine ⟨G3, .obj c ns ds :: dsx, fo, l3.gh, ?_, z2, ?_⟩
              · unfold Reps
                exact ⟨_, _, rfl, Rep.mono e3.g _ _ r1o, rd⟩
              · cases fo with
                | ret r => cases q2; exact fun G4 H4 v n rv => p1 G4 H4 v (e3.trans n.ext) (l3.new n) ((rv.r l3).back e3.d)
                | ex x => cases q2; exact fun G4 H4 d n xr => p1 G4 H4 d (e3.trans n.ext) (l3.new n) xr
        · cases q1
    | _ => cases q1
theorem x_met {m : String} {F : String → Option DF} {pl : Sem Bool} (c : Ct X W k) (M : MetF X.prog X.w X.K X.mg X.base cn j m F) (he : EX cn X W b fe) (ha : AX cn X W (e :: es) fs) (hj : j ≤ k := by decide)
    (hst : starEach (e :: es) X.env = (false, eval e X.env) :: starEach es X.env := by rfl) (hpl : (backTo pos (starEach es X.env)).any (·.1) = false := by rfl)
    (ht : eval (.Call (.Attribute b (Str.ofString m) apos) (e :: es) [] pos) X.env = (do
      let ov ← eval b X.env
      standAt apos.atName
      let (f, first) ← holding [ov] (getMethod ov (Str.ofString m) pl)
      callWith pos f first (backTo pos (starEach (e :: es) X.env)) (backToKw pos (keywordEach [] X.env))) := by rfl) :
    EX cn X W (.Call (.Attribute b (Str.ofString m) apos) (e :: es) [] pos) (eMet m F fe fs) := ⟨⟨_, pe_metD he.pe M c hj ha.pa hst hpl ht, d_metD he.den ha.den⟩⟩
/-! ### C(), nothing but an object -/
structure Mk0 (K : PySem.W.Frag) (C : Addr) : Prop where
  makes : PySem.W.makesIn K C = true
  init : PySem.W.findIn K (.ref C) "__init__" = some (some (.builtin "object.__init__"))
  kp : PySem.W.keepIn K (.ref C) = true
def tMk0 (C : Addr) : TE := fun _ H Q => ∀ x dx, H x = none → H dx = none → dx ≠ x → Q (.ref x) (upd (upd H dx (.own x)) x (.ins C dx []))
theorem run_make0 {C : Addr} {pins : List (Addr × Obj)} {σ : L2.St} {H : Hp} {s : Shared} {Q : VK} (M : Mk0 X.K C) (I : Inv X pins σ H s) (h : tMk0 C σ H Q) : wpAny (model X.prog X.w) X.A (PySem.call (.ref C) []) (EP X pins σ Q) X.xe s := by
  have hq := h (s.heap.objs.size + 1) s.heap.objs.size (I.hok.fresh (Nat.le_succ _)) (I.hok.fresh (Nat.le_refl _)) (Nat.ne_of_lt (Nat.lt_succ_self _))
  have I2 := Inv.made (C := C) I
  have X0 := I.kIn
  obtain ⟨hh, g, d, tk, os⟩ := s
  have Y := PySem.W.makes_of (M := model X.prog X.w) X0 M.makes
  refine wpAny_call (PySem.W.make_core Y (PySem.W.looks_findIn X0 M.init) (fun self => PySem.W.Looks.of_pure (PySem.W.oi_bind self)) (.inr ⟨rfl, rfl⟩) ?_)
  have hg : ((hh.push PySem.W.emptyDict).push (PySem.W.instObj C hh.objs.size)).get? (hh.objs.size + 1) = some (PySem.W.instObj C hh.objs.size) := by
    have := Heap.get?_push_size (hh.push PySem.W.emptyDict) (o := PySem.W.instObj C hh.objs.size) rfl
    rwa [Heap.size_push] at this
  have t1 : PySem.W.Looks (model X.prog X.w) ((hh.push PySem.W.emptyDict).push (PySem.W.instObj C hh.objs.size)) (typeOf (.ref (hh.objs.size + 1))) (.ref C) := (PySem.W.Looks.ld hg).andThen .now
  have t2 : PySem.W.Looks (model X.prog X.w) ((hh.push PySem.W.emptyDict).push (PySem.W.instObj C hh.objs.size)) (isInstance (.ref (hh.objs.size + 1)) (.type "object")) true := t1.andThen (Y.top.keeps fun b o e => Heap.get?_push_of_some _ (Heap.get?_push_of_some _ e))
  refine codeAny_call_builtin PySem.W.oi_plain PySem.W.entry_oi (@PySem.W.check_slot (model X.prog X.w) _ _ _ "object.__init__" "object" "__init__" (.ref (hh.objs.size + 1)) [] [] _ PySem.W.oi_kind PySem.W.oi_split t2 (PySem.W.oi_args (.ref (hh.objs.size + 1))) ?_)
  rw [PySem.W.oi_run]
  exact wpAny_pure ⟨rfl, ⟨V.ref (hh.objs.size + 1), _, I2, rfl, hq⟩⟩
theorem x_make {cl : String} (M : Mk0 X.K (cn cl)) (hm : X.mg (Str.ofString cl) = some (.ref (cn cl))) (hg : Gl X (Str.ofString cl) := by rfl) (hdb : (Str.ofString cl == ("__debug__" : Str)) = false := by decide) : EX cn X W (.Call (.Name (Str.ofString cl) p) [] [] pos) (eC (.obj cl [] [])) :=
  ⟨⟨tMk0 (cn cl), ⟨fun pins s σ H Q I h => wpAny_Call_Name_kw (ld_glob I hg hm (PySem.W.callWith_K0 I.kIn M.kp (run_make0 M I h)) hdb)⟩, fun G H σ ρ Q l e q p => by
    cases q
    intro x dx nx nd ne
    have n1 := New.keep (u := .own x) l.gh nd
    have nx' : upd H dx (.own x) x = none := by rw [upd_ne (Ne.symm ne)]; exact nx
    have n2 := New.keep (u := .ins (cn cl) dx []) n1.gh nx'
    refine p _ _ (.ref x) (n1.ext.trans n2.ext) ((l.new n1).new n2) ?_
    show Rep _ cn _ (.obj cl [] []) (.ref x)
    unfold Rep
    exact ⟨x, dx, [], rfl, upd_same, rfl, by unfold Reps; rfl⟩⟩⟩
/-! ### match on a text -/
/-- the cases, for the text x -/
def MRun (X : Cx) (cs : List MatchCase) (t : Str → TS) : Prop := ∀ (pins : List (Addr × Obj)) (s : Shared) (σ : L2.St) (H : Hp) (x : Str) (u : Value) (D : Ends) (first : Bool), Inv X pins σ H s → RelV (.str x) u → t x D σ H → wpAny (model X.prog X.w) X.A (matchCases cs X.env u first) (SP X pins D) X.xe s
structure MX (cn : String → Addr) (X : Cx) (W : WX) (cs : List MatchCase) (gs : List (String × DS)) (df : DS) : Prop where
  ex : ∃ t, MRun X cs t ∧ ∀ s : String, DenS X.K cn W (t (Str.ofString s)) (fun ρ => msGo df s ρ gs)
theorem m_else {sts : List Stmt} {g : DS} (h : BX cn X W sts g) : MX cn X W [⟨.MatchAs none none p, none, sts⟩] [] g :=
  ⟨⟨fun _ => toS X.K cn W g, fun pins s σ H x u D first I r q => wpAny_matchCases_cons (wpAny_matchPattern_Capture (wpAny_assignInOrder_none (h.ps.run pins s σ H D I q))), fun _ => h.den⟩⟩
theorem m_case (c : String) {sts : List Stmt} {cs : List MatchCase} {g df : DS} {gs : List (String × DS)} {kk} (h : BX cn X W sts g) (r : MX cn X W cs gs df) :
    MX cn X W (⟨.MatchValue (.Constant (.str (Str.ofString c)) kk p2) p, none, sts⟩ :: cs) ((c, g) :: gs) df := by
  obtain ⟨tr, r1, r2⟩ := r.ex
  refine ⟨⟨fun x => if x = Str.ofString c then toS X.K cn W g else tr x, fun pins s σ H x u D first I rx q => ?_, fun s b G H σ ρ D l B fl q p => ?_⟩⟩
  · refine wpAny_matchCases_cons (wpAny_matchPattern_Value (thn ((pe_str (X := X) (pos := p2)).run pins s σ H (fun v H1 => v = .str (Str.ofString c) ∧ H1 = H) I ⟨rfl, rfl⟩) fun v s1 ⟨y, H1, I1, ry, ey, eH⟩ => ?_))
    subst ey eH
    refine thn (op_eq pins s1 σ H1 (.str x) (.str (Str.ofString c)) u v (fun w H2 => w = .bl (decide (x = Str.ofString c)) ∧ H2 = H1) I1 rx ry ⟨rfl, by simp, rfl⟩) fun w s2 ⟨z, H2, I2, rz, ez, eH⟩ => ?_
    subst ez eH
    cases rz
    refine wpAny_truthy_bool ?_
    by_cases hx : x = Str.ofString c
    · rw [if_pos hx] at q
      simp only [hx, decide_true, if_true]
      exact wpAny_assignInOrder_none (h.ps.run pins s2 σ H2 D I2 q)
    · rw [if_neg hx] at q
      simp only [hx, decide_false, Bool.false_eq_true, if_false]
      exact r1 pins s2 σ H2 x u D false I2 rx q
  · dsimp only [msGo] at q
    show (if Str.ofString s = Str.ofString c then toS X.K cn W g else tr (Str.ofString s)) D σ H
    by_cases hs : s = c
    · rw [if_pos hs] at q
      rw [if_pos (by rw [hs])]
      exact h.den b G H σ ρ D l B fl q p
    · rw [if_neg hs] at q
      rw [if_neg fun z => hs (ofString_inj z)]
      exact r2 s b G H σ ρ D l B fl q p
def tMatchS (te : TE) (t : Str → TS) : TS := fun D σ H => te σ H fun v H1 => ∃ x, v = .str x ∧ t x D σ H1
theorem s_match {cs : List MatchCase} {gs : List (String × DS)} {df : DS} (he : EX cn X W e fe) (h : MX cn X W cs gs df) : SX cn X W (.Match e cs pos) (sMatch fe gs df) := by
  obtain ⟨t, h1, h2⟩ := h.ex
  refine ⟨⟨tMatchS (toE X.K cn W fe) t, ⟨fun pins s σ H D I q => wpAny_Match (thn (he.pe.run pins s σ H _ I q) fun v s1 ⟨y, H1, I1, r1, x, ey, q1⟩ => ?_)⟩, fun b G H σ ρ D l B fl q p => ?_⟩⟩
  · subst ey
    exact h1 pins s1 σ H1 x v D true I1 r1 q1
  · refine den_bS (t := toE X.K cn W fe) he.den l B q p fun G1 H1 ρ1 v r e1 l1 B1 r1 q1 => ?_
    cases r with
    | fre o => cases q1
    | al i => cases q1
    | val d => cases d with
      | str s =>
        have ev : v = .str (Str.ofString s) := by
          have : Rep X.K cn G1 (.str s) v := r1
          unfold Rep at this; exact this
        exact ⟨_, ev, h2 s b G1 H1 σ ρ1 D l1 B1 fl q1 p⟩
      | _ => cases q1
end
/-! ### a def of the module -/
/-- x, its text st, stands where the module's globals say -/
def FnA (K : PySem.W.Frag) (mg : Str → Option Value) (x : String) (st : Stmt) : Prop := ∃ f fd, mg (Str.ofString x) = some (.ref f) ∧ FunD K (Str.ofString x) (Str.ofString x) (defArgs st) (defBody st) (defScope st) [] [] f fd
theorem Fun.ofD {K : PySem.W.Frag} {x qual : Str} {st : Stmt} {f : Addr} {fd : FuncData} (F : FunD K x qual (defArgs st) (defBody st) (defScope st) [] [] f fd) : Fun K x qual st f fd := by
  obtain ⟨⟨oc, od, dV, kV, doc, pm, an, cdv, ct, osl, e, h1, h2, h3, _⟩, kp⟩ := F
  have hd : dV = .none := by
    rcases h3 with h | ⟨h, _⟩
    · first | exact h.2 | exact h.1 | exact h
    · exact absurd rfl h
  subst hd
  exact ⟨⟨oc, od, kV, doc, pm, an, cdv, ct, osl, e, h1, h2⟩, kp⟩
section
variable {P : Program} {w : World} {K : PySem.W.Frag} {mg : Str → Option Value} {base : Heap} {cn : String → Addr} {k : Nat}
abbrev CXD (P : Program) (w : World) (K : PySem.W.Frag) (mg : Str → Option Value) (base : Heap) (N : List Str) (qual : Str) (st : Stmt) (f : Addr) (cdv : Value) (A : Around) (outer : List PySem.Env) (s : Shared) (H : Hp) (E : XK) : Cx := cxOf (L2.CX P w) P w K mg base N qual (defScope st) f cdv A outer s H E
abbrev WD (E : XK) : WX := fun cls d _ H' => E cls d H'
theorem cg_of {x : String} {st : Stmt} {N ps : List Str} {g : DS} (h : FnA K mg x st) (S : FnScope N ps (defScope st))
    (hb : ∀ (f : Addr) (cdv : Value) (A : Around) (outer : List PySem.Env) (s : Shared) (H : Hp) (E : XK), Ct (CXD P w K mg base N (Str.ofString x) st f cdv A outer s H E) (WD E) k →
      PassesOwn (model P w) (CXD P w K mg base N (Str.ofString x) st f cdv A outer s H E).A (CXD P w K mg base N (Str.ofString x) st f cdv A outer s H E).env (CXD P w K mg base N (Str.ofString x) st f cdv A outer s H E).xe →
      BX cn (CXD P w K mg base N (Str.ofString x) st f cdv A outer s H E) (WD E) (defBody st) g)
    (hbind : ∀ (kV doc pm : Value) (an : Option Addr) (cdv ct : Value) (us : List Value), us.length = ps.length → bindArgs (PySem.W.fnOf (Str.ofString x) (Str.ofString x) (defArgs st) (defBody st) (defScope st) .none kV doc pm an cdv ct) ⟨us, []⟩ = pure (ps.zip us)) :
    Cg P w K mg base cn (k + 1) x (fn N.length ps.length g) := by
  obtain ⟨f, fd, h1, F⟩ := h
  refine ⟨f, h1, F.kp, Fun.fnR (Fun.ofD F) (fn_den (Fun.ofD F) S fun cdv A outer s H E hr => ?_) hbind⟩
  have b := hb f cdv A outer s H E (ct_of hr S.nd) own_of
  exact ⟨_, b.ps, b.den⟩
theorem cgM_of {x : String} {st : Stmt} {N ps : List Str} {g : DS} (h : FnA K mg x st) (S : FnScope N ps (defScope st)) (hN : 0 < N.length)
    (hb : ∀ (f : Addr) (cdv : Value) (A : Around) (outer : List PySem.Env) (s : Shared) (H : Hp) (E : XK), Ct (CXD P w K mg base N (Str.ofString x) st f cdv A outer s H E) (WD E) k →
      PassesOwn (model P w) (CXD P w K mg base N (Str.ofString x) st f cdv A outer s H E).A (CXD P w K mg base N (Str.ofString x) st f cdv A outer s H E).env (CXD P w K mg base N (Str.ofString x) st f cdv A outer s H E).xe →
      BX cn (CXD P w K mg base N (Str.ofString x) st f cdv A outer s H E) (WD E) (defBody st) g)
    (hbind : ∀ (kV doc pm : Value) (an : Option Addr) (cdv ct : Value) (us : List Value), us.length = ps.length → bindArgs (PySem.W.fnOf (Str.ofString x) (Str.ofString x) (defArgs st) (defBody st) (defScope st) .none kV doc pm an cdv ct) ⟨us, []⟩ = pure (ps.zip us)) :
    CgM P w K mg base cn (k + 1) x (fnM N.length ps.length g) := by
  obtain ⟨f, fd, h1, F⟩ := h
  refine ⟨f, h1, F.kp, Fun.fnR (Fun.ofD F) (fnM_den (Fun.ofD F) S hN fun cdv A outer s H E hr => ?_) hbind⟩
  have b := hb f cdv A outer s H E (ct_of hr S.nd) own_of
  exact ⟨_, b.ps, b.den⟩
end
end DL
end

section
set_option maxRecDepth 100000
set_option maxHeartbeats 2000000
namespace DL
open PySem PySem.Spec L2
section
variable {cn : String → Addr} {X : Cx} {W : WX} {k j : Nat} {pos pos' p2 apos p : Pos} {a b c e : Expr} {es : List Expr} {ta tb tc te : TE} {fa fb fc fe : DE} {t : TA} {fs : DA} {tt tu : TT} {ft fu : DT}
theorem x_cmpA {op : CmpOp} {r : R2} {o : D → D → Option Rv} (ho : OpR X (compareOp op) r) (d : DOp X.K cn r o) (ha : EX cn X W a fa) (hb : EX cn X W b fb) (hm : behindInMarks op b = false := by first | exact nobehind _ (by decide) (by decide) | rfl) : EX cn X W (.Compare a [op] [b] pos) (eOp o fa fb) := x_cmp ho d ha hb hm
theorem o_addI {K : PySem.W.Frag} : DOp K cn (rI0 fun i j => .int (i + j)) opAddI := o_i0 fun a b z q => by
  unfold opAddI at q
  split at q
  · cases q; exact ⟨_, _, rfl, rfl, rfl⟩
  · cases q
/-! ### stars -/
theorem x_star (ha : EX cn X W a fa) (hr : AX cn X W es fs) (hs : starEach (.Starred a p :: es) X.env = (true, eval a X.env) :: starEach es X.env := by rfl) : AX cn X W (.Starred a p :: es) (aStar fa fs) := ⟨⟨_, StX.pa_star ha.pe hr.pa hs, d_star ha.den hr.den⟩⟩
theorem pe_callRS2 {f : Addr} {sp : Sp} {x : Str} (F : FnR X.prog X.w X.K X.mg X.base (L2.CX X.prog X.w) k f sp) (hr : Room k X.A) (hg : Gl X x) (hm : X.mg x = some (.ref f)) (hk : PySem.W.keepIn X.K (.ref f) = true) (tk : Takes X W)
    (ha : PA X (e :: es) t) (hd : (x == ("__debug__" : Str)) = false) (he : starEach (e :: es) X.env = (false, eval e X.env) :: starEach es X.env) (hst : (backTo pos (starEach es X.env)).any (·.1) = true) :
    PE X (.Call (.Name x p) (e :: es) [] pos) (tCl sp W t) := by
  refine ⟨fun pins s σ H Q I h => ?_⟩
  refine wpAny_Call_Name_kw (ld_glob I hg hm ?_ hd)
  refine PySem.W.callWith_S2 (h₀ := X.base) I.ok.mod.kin hk (thn (ha.run pos pins s σ H _ I h) fun us s1 ⟨vs, H1, I1, r, q⟩ => ⟨I1.kIn, ?_⟩) he hst
  exact run_fnRS (E := WE W) F hr (passAt tk σ) I1 r q
/-- x(e, .., *y) -/
theorem x_callS {x : String} {F : DF} (c : Ct X W k) (h : Cg X.prog X.w X.K X.mg X.base cn j x F) (ha : AX cn X W (e :: es) fs) (hj : j ≤ k := by decide) (hg : Gl X (Str.ofString x) := by rfl) (hdb : (Str.ofString x == ("__debug__" : Str)) = false := by decide)
    (he : starEach (e :: es) X.env = (false, eval e X.env) :: starEach es X.env := by rfl) (hst : (backTo pos (starEach es X.env)).any (·.1) = true := by rfl) : EX cn X W (.Call (.Name (Str.ofString x) p) (e :: es) [] pos) (eCall F fs) :=
  let ⟨_, h1, h2, h3⟩ := h
  ⟨⟨_, pe_callRS2 (h3.mono hj) c.hr hg h1 h2 c.tk ha.pa hdb he hst, d_call ha.den⟩⟩
end
section
variable {P : Program} {w : World} {K : PySem.W.Frag} {mg : Str → Option Value} {base : Heap} {cn : String → Addr} {k : Nat}
theorem Reps.split {G : Hp} : ∀ {n : Nat} {ds : List D} {vs : List V}, Reps K cn G ds vs → Reps K cn G (ds.take n) (vs.take n) ∧ Reps K cn G (ds.drop n) (vs.drop n) := fun h => ⟨h.take, h.drop⟩
theorem body_den {N ps : List Str} {g : DS} {t : TS} {vs : List V} {H : Hp} {Q : VK} {E : XK} (hd : DenS K cn (WD E) t g) (h : spD K cn (fn N.length ps.length g) vs H Q E) : t { nx := fun _ H' => Q .non H', rt := Q } (L2.start N vs) H := by
  obtain ⟨G, ds, fo, l, r, hF, p⟩ := h
  unfold fn at hF
  split at hF
  · rename_i hl
    have Bl0 : Bl ⟨H, G, []⟩ G H (L2.start N vs) (DL.start N.length ds) := ⟨Le.refl _, fun _ _ h => .inl h, fun _ _ h _ => h, fun _ h => h, fun i o a h _ => (start_hold h rfl).elim, fun i o h => (start_hold h rfl).elim⟩
    have nw : ∀ {G' H' : Hp} {σ' : L2.St} {ρ' : Env}, Rl K cn G' H' σ' ρ' → Bl ⟨H, G, []⟩ G' H' σ' ρ' → New G H G' H' := fun l' B => ⟨B.g0, fun a o h => B.h0 a o h (by simp), l'.gh, B.gn⟩
    cases z : g (DL.start N.length ds) with
    | none => rw [z] at hF; cases hF
    | some fl =>
      rw [z] at hF
      refine hd ⟨H, G, []⟩ G H _ _ _ (Rl.start l r) Bl0 fl z ?_
      cases fl with
      | nx ρ' => cases hF; exact fun G' H' σ' l' B => p G' H' .non (nw l' B) (by show Rep K cn G' .non .non; unfold Rep; rfl)
      | rt rv ρ' => cases hF; exact fun G' H' σ' v l' B rr => p G' H' v (nw l' B) (by cases rv <;> exact rr)
      | ex x ρ' => cases hF; exact fun G' H' σ' d l' B xr => p G' H' d (nw l' B) xr
      | bk ρ' => cases hF
      | ct ρ' => cases hF
  · cases hF
theorem PostF.new {G H G1 H1 : Hp} {Q : VK} {E : XK} {fo : Fo} (n : New G H G1 H1) (p : PostF K cn G H Q E fo) : PostF K cn G1 H1 Q E fo := by
  have tr : ∀ {G' H' : Hp}, New G1 H1 G' H' → New G H G' H' := fun m => ⟨n.g.trans m.g, n.h.trans m.h, m.gh, fun a o h => by
    rcases m.n a o h with z | z
    · exact n.n a o z
    · refine .inr ?_
      cases q : H a with
      | none => rfl
      | some u => rw [n.h a u q] at z; cases z⟩
  cases fo with
  | ret r =>
    intro G' H' v m rv
    refine p G' H' v (tr m) ?_
    cases r with
    | val d => exact rv
    | fre o =>
      obtain ⟨a, ev, na, k⟩ := rv
      refine ⟨a, ev, ?_, k⟩
      cases q : H a with
      | none => rfl
      | some u => rw [n.h a u q] at na; cases na
  | ex x => exact fun G' H' d m xr => p G' H' d (tr m) xr
theorem cgS_of {x : String} {st : Stmt} {N ps : List Str} {pv : Str} {g : DS} (h : FnA K mg x st) (S : FnScope N (ps ++ [pv]) (defScope st))
    (hb : ∀ (f : Addr) (cdv : Value) (A : Around) (outer : List PySem.Env) (s : Shared) (H : Hp) (E : XK), Ct (CXD P w K mg base N (Str.ofString x) st f cdv A outer s H E) (WD E) k →
      PassesOwn (model P w) (CXD P w K mg base N (Str.ofString x) st f cdv A outer s H E).A (CXD P w K mg base N (Str.ofString x) st f cdv A outer s H E).env (CXD P w K mg base N (Str.ofString x) st f cdv A outer s H E).xe →
      BX cn (CXD P w K mg base N (Str.ofString x) st f cdv A outer s H E) (WD E) (defBody st) g)
    (hbind : ∀ (kV doc pm : Value) (an : Option Addr) (cdv ct : Value) (us rest : List Value), us.length = ps.length → bindArgs (PySem.W.fnOf (Str.ofString x) (Str.ofString x) (defArgs st) (defBody st) (defScope st) .none kV doc pm an cdv ct) ⟨us ++ rest, []⟩ = (newTuple rest >>= fun t => pure (ps.zip us ++ [(pv, t)]))) :
    Cg P w K mg base cn (k + 1) x (fnS N.length ps.length g) := by
  obtain ⟨f, fd, h1, F⟩ := h
  obtain ⟨oc, od, kV, doc, pm, an, cdv, ct, osl, e, lk, hcd⟩ := (Fun.ofD F).ex
  subst e
  have R := StX.fn_star (CX := L2.CX P w) (P := P) (w := w) (mg := mg) (base := base) (k := k) (sp := spD K cn (fn N.length (ps ++ [pv]).length g)) lk hcd S StX.cxUp (fun us rest hl => hbind kV doc pm an cdv ct us rest hl) fun A outer s H vs Q E hr hs => by
    have b := hb f cdv A outer s H E (ct_of hr S.nd) own_of
    exact ⟨_, b.ps, body_den b.den hs⟩
  refine ⟨f, h1, F.kp, R.imp fun vs H Q E q => ?_⟩
  obtain ⟨G, ds, fo, l, r, hF, p⟩ := q
  unfold fnS at hF
  split at hF
  · rename_i hz
    have hlen := r.length
    refine ⟨vs.take ps.length, vs.drop ps.length, (List.take_append_drop _ _).symm, by rw [List.length_take]; omega, line_of (by rw [List.length_drop]; omega), fun a na => ?_⟩
    obtain ⟨nw, rt⟩ := rv_tup (cn := cn) (K := K) l na (r.drop (n := ps.length))
    refine ⟨_, _, fo, nw.gh, ?_, by rw [List.length_append, List.length_singleton]; exact hF, p.new nw⟩
    refine (Reps.mono nw.g _ _ r.take).append ?_
    unfold Reps
    exact ⟨_, _, rfl, rt, by unfold Reps; rfl⟩
  · cases hF
end
end DL
end

section
set_option maxRecDepth 100000
set_option maxHeartbeats 2000000
namespace DL
open PySem PySem.Spec L2
/-- an own exception class C (by the name cl) with one field f, as PMk tells -/
def tMkX (C : Addr) (f : Str) (ta : TA) : L2.St → Hp → XK → Prop := fun σ H Q => ta σ H fun vs H1 => ∃ v, vs = [v] ∧ ∀ d, H1 d = none → Q (.ref C) (some d) (upd H1 d (.xd [(f, v)]))
/-- raising is known: what the written part says of the class -/
def ExcF (P : Program) (w : World) (K : PySem.W.Frag) (mg : Str → Option Value) (base : Heap) (cn : String → Addr) (j : Nat) (cl f : String) : Prop :=
  ∀ (X : Cx) (k : Nat), X.prog = P → X.w = w → X.K = K → X.mg = mg → X.base = base → Room k X.A → j ≤ k → Gl X (Str.ofString cl) → ∀ (a : Expr) (ta : TA) (p pos : Pos), PA X [a] ta →
    starEach [a] X.env = (false, eval a X.env) :: starEach [] X.env → (backTo pos (starEach [] X.env)).any (·.1) = false → PMk X (.Call (.Name (Str.ofString cl) p) [a] [] pos) (tMkX (cn cl) (Str.ofString f) ta)
section
variable {cn : String → Addr} {X : Cx} {W : WX} {k j : Nat} {pos pos' p2 apos p : Pos} {a b c e : Expr} {es : List Expr} {fa fb fc fe : DE} {fs : DA}
theorem x_globA {x : Str} {d : D} (h : ∃ v u, X.mg x = some u ∧ RelV v u ∧ ∀ G, Rep X.K cn G d v) (hg : Gl X x := by rfl) (hd : (x == ("__debug__" : Str)) = false := by decide) : EX cn X W (.Name x pos) (eC d) :=
  let ⟨_, u, h1, h2, h3⟩ := h
  x_glob ⟨u, h1, h2⟩ h3 hg hd
theorem s_raise {cl f : String} (c : Ct X W k) (R : ExcF X.prog X.w X.K X.mg X.base cn j cl f) (ha : AX cn X W [a] fs) (hj : j ≤ k := by decide) (hg : Gl X (Str.ofString cl) := by rfl)
    (he : starEach [a] X.env = (false, eval a X.env) :: starEach [] X.env := by rfl) (hpl : (backTo pos (starEach [] X.env)).any (·.1) = false := by rfl) :
    SX cn X W (.Raise (some (.Call (.Name (Str.ofString cl) p) [a] [] pos)) none pos') (sRaise (mkExc cl [f]) fs) := by
  refine ⟨⟨_, ps_raise c.hc c.tk (R X k rfl rfl rfl rfl rfl c.hr hj hg a (toA X.K cn W fs) p pos ha.pa he hpl), fun b G H σ ρ D l B fl q pp => ?_⟩⟩
  show tMkX (cn cl) (Str.ofString f) (toA X.K cn W fs) σ H fun cls d H' => W cls d σ H'
  unfold sRaise at q
  cases z : fs ρ with
  | none => rw [z] at q; cases q
  | some x =>
    rw [z] at q
    refine den_toA G H σ ρ _ l x z ?_
    cases x with
    | ex x ρ1 => cases q; exact fun G1 H1 d e1 l1 r1 => pp G1 H1 σ d l1 (B.ext e1) r1
    | ok rs ρ1 =>
      dsimp only at q
      refine fun G1 H1 vs e1 l1 r1 => ?_
      cases z1 : frzs ρ1 rs with
      | none => rw [z1] at q; cases q
      | some y =>
        obtain ⟨ds, ρ2⟩ := y
        rw [z1] at q; dsimp only at q
        obtain ⟨G2, fz, l2, rd⟩ := r1.frzs l1 z1
        cases z2 : mkExc cl [f] ds with
        | none => rw [z2] at q; cases q
        | some x =>
          rw [z2] at q
          cases q
          unfold mkExc at z2
          split at z2
          · rename_i hl
            cases z2
            cases ds with
            | nil => cases hl
            | cons d ds => cases ds with
              | cons _ _ => cases hl
              | nil =>
                have rd0 := rd
                unfold Reps at rd
                obtain ⟨v, us, ev, rv, ru⟩ := rd
                have hu := reps_nil ru
                subst ev hu
                refine ⟨v, rfl, fun a na => ?_⟩
                obtain ⟨nw, gn⟩ := New.own (u := .xd [(Str.ofString f, v)]) l2.gh na
                refine pp G2 _ σ (some a) (l2.new nw) ((B.ext (e1.fz fz)).new nw) (.inr ⟨a, [v], rfl, upd_same, rfl, ?_⟩)
                exact rd0
          · cases z2
end
end DL
end

section
set_option maxRecDepth 100000
set_option maxHeartbeats 4000000
namespace DL
open PySem PySem.Spec L2
section
variable {K : PySem.W.Frag} {cn : String → Addr} {G H G1 H1 G2 H2 Hs Gs : Hp} {σ : L2.St} {ρ ρ1 ρ2 ρs : Env} {W : WX}
/-- what a block's slots hold stands outside of vs -/
def Out (vs : List Nat) (ρ : Env) : Prop := ∀ (j : Nat) (o : Own), (ρ[j]? = some (.own o) ∨ ρ[j]? = some (.ref o)) → j ∉ vs
theorem Ext.out {vs : List Nat} (e : Ext σ G H ρ G1 H1 ρ1) (h : Out vs ρ) : Out vs ρ1 := fun j o q => by
  rcases q with q | q
  · obtain ⟨o', z⟩ := e.so j o q; exact h j o' (.inl z)
  · obtain ⟨o', z⟩ := e.sr j o q; exact h j o' (.inr z)
/-- a step within a block, behind its target's store -/
theorem Ext.lift {vs : List Nat} {σ2 : L2.St} {ρ0 : Env} (hs : ∀ j, j ∉ vs → σ2[j]? = σ[j]?) (ho : Out vs ρ) (e : Ext σ2 G H ρ G1 H1 ρ1) : Ext σ G H (backE ρ0 ρ vs) G1 H1 (backE ρ0 ρ1 vs) := by
  have own : ∀ {a : Addr}, OwnA σ2 ρ a → OwnA σ (backE ρ0 ρ vs) a := fun {a} ⟨j, s, o, h1, h2, h3⟩ => by
    rcases Sl.hold_own h2 with z | z
    · subst z
      have hj := ho j o (.inl h1)
      exact ⟨j, _, o, by rw [backE_st hj]; exact h1, rfl, by rw [← hs j hj]; exact h3⟩
    · subst z
      have hj := ho j o (.inr h1)
      exact ⟨j, _, o, by rw [backE_st hj]; exact h1, rfl, by rw [← hs j hj]; exact h3⟩
  refine ⟨e.g, fun a u h => ?_, fun a u h no => e.h a u h fun z => no (own z), e.d, fun j o h => ?_, fun j o h => ?_⟩
  · rcases e.n a u h with h | h | ⟨j, w, h1, h2⟩
    · exact .inl h
    · exact .inr (.inl h)
    · have hj := ho j w (.inl h1)
      exact .inr (.inr ⟨j, w, by rw [backE_st hj]; exact h1, by rw [← hs j hj]; exact h2⟩)
  · by_cases hj : j ∈ vs
    · rcases backE_in hj h with z | ⟨d, z, _⟩ <;> cases z
    · rw [backE_st hj] at h
      obtain ⟨o', q⟩ := e.so j o h
      exact ⟨o', by rw [backE_st hj]; exact q⟩
  · by_cases hj : j ∈ vs
    · rcases backE_in hj h with z | ⟨d, z, _⟩ <;> cases z
    · rw [backE_st hj] at h
      obtain ⟨o', q⟩ := e.sr j o h
      exact ⟨o', by rw [backE_st hj]; exact q⟩
theorem out_tg {vs : List Nat} {σ2 : L2.St} {ρi ρa : Env} (t : Tg vs (L2.wipe σ vs) (wipeE ρi vs) σ2 ρa) : Out vs ρa := fun j o q hj => by
  rcases q with q | q
  · obtain ⟨h1, _⟩ := t.ow j o q; cases wipeE_in hj h1
  · obtain ⟨h1, _⟩ := t.rf j o q; cases wipeE_in hj h1
theorem notOwn_tg {vs : List Nat} {σ2 : L2.St} {ρ0 ρi ρa : Env} {D : Addr} (t : Tg vs (L2.wipe σ vs) (wipeE ρi vs) σ2 ρa) (no : ¬ OwnA σ (backE ρ0 ρi vs) D) : ¬ OwnA σ2 ρa D := fun h => by
  obtain ⟨j, s, o, h1, h2, h3⟩ := h
  rcases Sl.hold_own h2 with e | e
  · subst e
    obtain ⟨q1, q2⟩ := t.ow j o h1
    by_cases hj : j ∈ vs
    · cases wipeE_in hj q1
    · exact no ⟨j, _, o, by rw [backE_st hj]; rw [wipeE_st hj] at q1; exact q1, rfl, by rw [q2, wipe_st hj] at h3; exact h3⟩
  · subst e
    obtain ⟨q1, q2⟩ := t.rf j o h1
    by_cases hj : j ∈ vs
    · cases wipeE_in hj q1
    · exact no ⟨j, _, o, by rw [backE_st hj]; rw [wipeE_st hj] at q1; exact q1, rfl, by rw [q2, wipe_st hj] at h3; exact h3⟩
theorem backE_back {vs vs1 : List Nat} {ρ0 ρ3 : Env} (hv : ∀ i ∈ vs1, i ∈ vs) : backE ρ0 (backE ρ3 ρ vs1) vs = backE ρ0 ρ vs := by
  have key : ∀ {us : List Nat} {a b : Env}, a.length = b.length → (∀ j, j ∉ us → a[j]? = b[j]?) → backE ρ0 a us = backE ρ0 b us := fun {us a b} hl h => by
    refine List.ext_getElem? fun j => ?_
    by_cases hj : j ∈ us
    · have aux : ∀ {us : List Nat} {a b : Env}, a.length = b.length → j ∈ us → (backE ρ0 a us)[j]? = (backE ρ0 b us)[j]? := fun {us} => by
        induction us with
        | nil => intro a b _ h; cases h
        | cons v vs ih =>
          intro a b hl h
          unfold backE
          by_cases e : v = j
          · subst e
            rw [List.getElem?_set, List.getElem?_set, if_pos rfl, if_pos rfl, backE_len, backE_len, hl]
          · rw [List.getElem?_set_ne e, List.getElem?_set_ne e]
            exact ih hl ((List.mem_cons.mp h).resolve_left fun z => e z.symm)
      exact aux hl hj
    · rw [backE_st hj, backE_st hj, h j hj]
  exact key backE_len fun j hj => backE_st fun z => hj (hv j z)
/-- the inner clause of a comprehension at one turn of the outer one -/
theorem inner {σ2 : L2.St} {G0 H0 G4 H4 : Hp} {ρ0 ρ1 ρ3 ρ4 : Env} {vs vs1 : List Nat} {D : Addr} {J1 : It} {g1 : TG} {tt1 : TT} {te : TE} {gf1 : DG} {tf1 : DT} {ef : DE} {W' : WX} {ds1 xs1 ado : List DL.D} {av0 : List V} {Nx : Hp → Prop}
    (hg : DenG K cn vs1 g1 gf1) (ht : DenT K cn W' tt1 tf1) (he : Den K cn W' te ef) (hs : ∀ j, j ∉ vs → σ2[j]? = σ[j]?) (ho : Out vs ρ3) (l4 : Rl K cn G4 H4 σ2 ρ3) (wk : Walks K cn G4 J1 ds1) (hD : H4 D = some (.lst av0)) (hr : Reps K cn G4 ado av0) (gD : G4 D = none)
    (noD : ¬ OwnA σ2 ρ3 D) (ec : Ext σ G0 H0 ρ0 G4 H4 (backE ρ1 ρ3 vs)) (nD : H0 D = none) (z : lcGo gf1 tf1 ef vs1 ds1 ρ3 = some (xs1, ρ4)) (hN : ado.length + xs1.length ≤ 1000000)
    (fin : ∀ Gn Hn av, Hn D = some (.lst av) → Reps K cn Gn (ado ++ xs1) av → Gn D = none → Le G4 Gn → Ext σ G0 H0 ρ0 Gn Hn (backE ρ1 (backE ρ3 ρ4 vs1) vs) → Rl K cn Gn Hn σ2 (backE ρ3 ρ4 vs1) → ¬ OwnA σ2 (backE ρ3 ρ4 vs1) D → Out vs (backE ρ3 ρ4 vs1) → Nx Hn) :
    ∃ W1 : Nat → Nat → Hp → Prop, (∃ m, W1 0 m H4) ∧ ∀ j k H, W1 j k H →
      (J1.stop j H ∧ Nx H) ∨ (J1.go j H ∧ ∃ Nx1 : Hp → Prop, (∀ H', Nx1 H' → ∃ k', k' < k ∧ W1 (j + 1) k' H') ∧ ∀ x H', J1.yld j H x H' → g1 x (L2.wipe σ2 vs1) H' fun σ3 H5 => L2.wipe σ3 vs1 = L2.wipe σ2 vs1 ∧ tt1 σ3 H5 fun b H6 =>
        if b = true then te σ3 H6 fun y H7 => ∃ acc, H7 D = some (.lst acc) ∧ acc.length < sizeLine ∧ Nx1 (upd H7 D (.lst (acc ++ [y]))) else Nx1 H6) := by
  have back0 : ∀ {o : Nat → Prop}, Ext σ2 G4 H4 ρ3 G4 H4 (backE ρ3 ρ3 vs1) := fun {o} => ⟨Le.refl _, fun _ _ h => .inl h, fun _ _ h _ => h, fun _ h => h, fun j o h => by
      by_cases hj : j ∈ vs1
      · rcases backE_in hj h with e | ⟨d, e, _⟩ <;> cases e
      · rw [backE_st hj] at h; exact ⟨o, h⟩, fun j o h => by
      by_cases hj : j ∈ vs1
      · rcases backE_in hj h with e | ⟨d, e, _⟩ <;> cases e
      · rw [backE_st hj] at h; exact ⟨o, h⟩⟩
  refine ⟨fun i m Hc => m = ds1.length - i ∧ i ≤ ds1.length ∧ ∃ (Gc : Hp) (ρi : Env) (ad rest : List DL.D) (av : List V), lcGo gf1 tf1 ef vs1 (ds1.drop i) ρi = some (rest, ρ4) ∧ xs1 = ad ++ rest ∧ Hc D = some (.lst av) ∧ Reps K cn Gc (ado ++ ad) av ∧ Gc D = none ∧
    Le G4 Gc ∧ Ext σ G0 H0 ρ0 Gc Hc (backE ρ1 (backE ρ3 ρi vs1) vs) ∧ Rl K cn Gc Hc σ2 (backE ρ3 ρi vs1) ∧ ¬ OwnA σ2 (backE ρ3 ρi vs1) D ∧ Out vs (backE ρ3 ρi vs1),
    ⟨ds1.length, by simp, Nat.zero_le _, G4, ρ3, [], xs1, av0, by simpa using z, rfl, hD, by rw [List.append_nil]; exact hr, gD, Le.refl _, ?_, ?_, ?_, ?_⟩, ?_⟩
  · exact ec.trans (Ext.lift hs ho (back0 (o := fun _ => True)))
  · exact Rl.takeBack (vs := vs1) l4 (Le.refl _) l4 rfl fun _ _ => rfl
  · exact fun h => noD ((back0 (o := fun _ => True)).ownA h)
  · exact (back0 (o := fun _ => True)).out ho
  · rintro i m Hc ⟨rfl, hi', Gc, ρi, ad, rest, av, hgo, hxs, hDc, hav, hGD, lg, ecc, lc, noDc, hoc⟩
    have wkc := wk i Gc Hc lg lc.gh
    by_cases hlt : i < ds1.length
    · refine .inr ⟨(wkc.1 ds1[i] (List.getElem?_eq_getElem hlt)).1, ?_⟩
      rw [List.drop_eq_getElem_cons hlt] at hgo
      simp only [lcGo] at hgo
      refine ⟨fun Hn => i + 1 ≤ ds1.length ∧ ∃ (Gn : Hp) (ρn : Env) (ad rest : List DL.D) (av : List V), lcGo gf1 tf1 ef vs1 (ds1.drop (i + 1)) ρn = some (rest, ρ4) ∧ xs1 = ad ++ rest ∧ Hn D = some (.lst av) ∧ Reps K cn Gn (ado ++ ad) av ∧ Gn D = none ∧
        Le G4 Gn ∧ Ext σ G0 H0 ρ0 Gn Hn (backE ρ1 (backE ρ3 ρn vs1) vs) ∧ Rl K cn Gn Hn σ2 (backE ρ3 ρn vs1) ∧ ¬ OwnA σ2 (backE ρ3 ρn vs1) D ∧ Out vs (backE ρ3 ρn vs1), fun H' h => ⟨ds1.length - (i + 1), by omega, rfl, h⟩, fun x H2 y => ?_⟩
      obtain ⟨Gy, ny, ry⟩ := (wkc.1 ds1[i] (List.getElem?_eq_getElem hlt)).2 x H2 y
      have lw : Rl K cn Gc Hc (L2.wipe σ2 vs1) (wipeE ρi vs1) := by
        have := lc.wipe (vs := vs1)
        rw [wipeE_back] at this
        exact this
      have lwy := lw.new ny
      have DGy : Gy D = none := ny.none hGD hDc
      have DH2 : H2 D = some (.lst av) := ny.h D _ hDc
      cases z3 : gf1 ds1[i] (wipeE ρi vs1) with
      | none => rw [z3] at hgo; cases hgo
      | some ρa =>
        rw [z3] at hgo
        refine hg Gy H2 (L2.wipe σ2 vs1) (wipeE ρi vs1) x ds1[i] _ lwy ry ρa z3 fun σ3 la ta => ?_
        have hσ3 : ∀ j, j ∉ vs1 → σ3[j]? = σ2[j]? := fun j hj => by rw [ta.st j hj, wipe_st hj]
        refine ⟨wipe_same (by rw [ta.len, wipe_length]) ta.st, ?_⟩
        have noDa : ¬ OwnA σ3 ρa D := notOwn_tg ta noDc
        dsimp only at hgo
        cases z4 : tf1 ρa with
        | none => rw [z4] at hgo; cases hgo
        | some r =>
          rw [z4] at hgo
          refine ht Gy H2 σ3 ρa _ la r z4 ?_
          cases r with
          | ex x ρb => cases hgo
          | ok b ρb =>
            refine fun G3 H3 e3 l3 => ?_
            have D3 : H3 D = some (.lst av) := e3.h D _ DH2 noDa
            have DG3 : G3 D = none := e3.none DGy DH2 noDa
            cases b with
            | false =>
              dsimp only at hgo
              have ex := Ext.takeBack (ρ0 := ρ3) ta ny e3
              have lx := Rl.takeBack (vs := vs1) l4 ((lg.trans ny.g).trans e3.g) l3 (by rw [ta.len, wipe_length]) hσ3
              exact ⟨hlt, G3, ρb, ad, rest, av, hgo, hxs, D3, Reps.mono (ny.g.trans e3.g) _ _ hav, DG3, (lg.trans ny.g).trans e3.g, ecc.trans (Ext.lift hs hoc ex), lx, fun h => noDc (ex.ownA h), ex.out hoc⟩
            | true =>
              dsimp only at hgo
              have noDb : ¬ OwnA σ3 ρb D := fun h => noDa (e3.ownA h)
              cases z5 : ef ρb with
              | none => rw [z5] at hgo; cases hgo
              | some r =>
                rw [z5] at hgo
                refine he G3 H3 σ3 ρb _ l3 r z5 ?_
                cases r with
                | ex x ρc => cases hgo
                | ok r ρc =>
                  refine fun G4' H4' v e4 l4' r4 => ?_
                  dsimp only at hgo
                  cases z6 : r.frz ρc with
                  | none => rw [z6] at hgo; cases hgo
                  | some y =>
                    obtain ⟨d, ρd⟩ := y
                    rw [z6] at hgo
                    dsimp only at hgo
                    obtain ⟨G5, f5, l5, r5, nw5⟩ := r4.frz l4' z6
                    have e34 := e4.fz f5
                    cases z7 : lcGo gf1 tf1 ef vs1 (ds1.drop (i + 1)) ρd with
                    | none => rw [z7] at hgo; cases hgo
                    | some y =>
                      obtain ⟨xs', ρe⟩ := y
                      rw [z7] at hgo
                      cases hgo
                      have D4 : H4' D = some (.lst av) := e4.h D _ D3 noDb
                      have DG5 : G5 D = none := e34.none DG3 D3 noDb
                      have e25 := e3.trans e34
                      have ex := Ext.takeBack (ρ0 := ρ3) ta ny e25
                      have lg5 : Le G4 G5 := (lg.trans ny.g).trans e25.g
                      have lx := Rl.takeBack (vs := vs1) l4 lg5 l5 (by rw [ta.len, wipe_length]) hσ3
                      have no5 : ¬ OwnA σ2 (backE ρ3 ρd vs1) D := fun h => noDc (ex.ownA h)
                      have hav5 := Reps.mono (ny.g.trans e25.g) _ _ hav
                      have hlen : av.length < 1000000 := by
                        rw [hav.length, List.length_append]
                        rw [hxs, List.length_append, List.length_cons] at hN
                        omega
                      refine ⟨av, D4, line_lt hlen, hlt, G5, ρd, ad ++ [d], xs', av ++ [v], z7, by rw [hxs]; simp, upd_same, ?_, DG5, lg5, (ecc.trans (Ext.lift hs hoc ex)).bump nD, lx.bump DG5 no5, no5, ex.out hoc⟩
                      rw [← List.append_assoc]
                      exact hav5.snoc r5
    · have ei : ds1.length = i := by omega
      refine .inl ⟨wkc.2 ei, ?_⟩
      rw [List.drop_eq_nil_of_le (by omega)] at hgo
      cases hgo
      rw [List.append_nil] at hxs
      subst hxs
      exact fin Gc Hc av hDc hav hGD lg ecc lc noDc hoc
/-- [el for g in it if tt for g1 in it1 if tt1] -/
theorem d_lc2 {wi wi1 : TI} {g g1 : TG} {tt tt1 : TT} {te : TE} {it it1 : DI} {gf gf1 : DG} {tf tf1 : DT} {ef : DE} {vs vs1 : List Nat} {W' : WX} (hi : DenI K cn W wi it) (hg : DenG K cn vs g gf) (ht : DenT K cn W' tt tf) (hi1 : DenI K cn W' wi1 it1) (hg1 : DenG K cn vs1 g1 gf1) (ht1 : DenT K cn W' tt1 tf1) (he : Den K cn W' te ef)
    (hv : ∀ i ∈ vs1, i ∈ vs) : Den K cn W (tLc2 wi g tt wi1 g1 tt1 te vs vs1) (eLc2 it gf tf it1 gf1 tf1 ef vs vs1) := fun G H σ ρ Q l e q p => by
  unfold eLc2 at q
  cases z : it ρ with
  | none => rw [z] at q; cases q
  | some x =>
    rw [z] at q
    refine hi G H σ ρ _ l x z ?_
    cases x with
    | ex x ρ1 => cases q; exact p
    | ok ds ρ1 =>
      dsimp only at q
      cases z2 : lcGo2 gf tf it1 gf1 tf1 ef vs vs1 ds ρ1 with
      | none => rw [z2] at q; cases q
      | some y =>
        obtain ⟨xs, ρ2⟩ := y
        rw [z2] at q
        dsimp only at q
        split at q
        · rename_i hlen
          cases q
          refine fun G1 H1 J e1 l1 wk D nD => ?_
          have HsD : H D = none := by
            cases y5 : H D with
            | none => rfl
            | some u5 => exact absurd nD (e1.d D (by rw [y5]; exact fun z => nomatch z))
          refine ⟨fun i m Hc => m = ds.length - i ∧ i ≤ ds.length ∧ ∃ (Gc : Hp) (ρi : Env) (ad rest : List DL.D) (av : List V), lcGo2 gf tf it1 gf1 tf1 ef vs vs1 (ds.drop i) ρi = some (rest, ρ2) ∧ xs = ad ++ rest ∧ Hc D = some (.lst av) ∧ Reps K cn Gc ad av ∧ Gc D = none ∧
            Le G1 Gc ∧ Ext σ G H ρ Gc Hc (backE ρ1 ρi vs) ∧ Rl K cn Gc Hc σ (backE ρ1 ρi vs) ∧ ¬ OwnA σ (backE ρ1 ρi vs) D, ⟨ds.length, by simp, Nat.zero_le _, G1, ρ1, [], xs, [], by simpa using z2, rfl, upd_same, by unfold Reps; rfl, ?_, Le.refl _, ?_, ?_, ?_⟩, ?_⟩
          · cases q : G1 D with
            | none => rfl
            | some w => rw [l1.gh D w q] at nD; cases nD
          · refine (Ext.bump (u := .lst []) ?_ HsD)
            refine ⟨e1.g, e1.n, e1.h, e1.d, fun j o h => ?_, fun j o h => ?_⟩
            · by_cases hj : j ∈ vs
              · rcases backE_in hj h with e | ⟨d, e, _⟩ <;> cases e
              · rw [backE_st hj] at h; exact e1.so j o h
            · by_cases hj : j ∈ vs
              · rcases backE_in hj h with e | ⟨d, e, _⟩ <;> cases e
              · rw [backE_st hj] at h; exact e1.sr j o h
          · have gn : G1 D = none := by
              cases q : G1 D with
              | none => rfl
              | some w => rw [l1.gh D w q] at nD; cases nD
            refine (Rl.takeBack (vs := vs) l1 (Le.refl _) l1 rfl fun _ _ => rfl).bump gn fun h => ?_
            obtain ⟨j, s, o, _, h1, h2, h3⟩ := h.back
            obtain ⟨b, hb, kb⟩ := l1.own j s o h1 h2
            rw [h3] at hb; cases hb
            obtain ⟨_, u, hu, _⟩ := kb.some
            rw [nD] at hu; cases hu
          · intro h
            obtain ⟨j, s, o, _, h1, h2, h3⟩ := h.back
            obtain ⟨b, hb, kb⟩ := l1.own j s o h1 h2
            rw [h3] at hb; cases hb
            obtain ⟨_, u, hu, _⟩ := kb.some
            rw [nD] at hu; cases hu
          · rintro i m Hc ⟨rfl, hi', Gc, ρi, ad, rest, av, hgo, hxs, hD, hav, hGD, lg, ec, lc, noD⟩
            have wkc := wk i Gc Hc lg lc.gh
            by_cases hlt : i < ds.length
            · refine .inr ⟨(wkc.1 ds[i] (List.getElem?_eq_getElem hlt)).1, ?_⟩
              rw [List.drop_eq_getElem_cons hlt] at hgo
              simp only [lcGo2] at hgo
              refine ⟨fun Hn => i + 1 ≤ ds.length ∧ ∃ (Gn : Hp) (ρn : Env) (ad rest : List DL.D) (av : List V), lcGo2 gf tf it1 gf1 tf1 ef vs vs1 (ds.drop (i + 1)) ρn = some (rest, ρ2) ∧ xs = ad ++ rest ∧ Hn D = some (.lst av) ∧ Reps K cn Gn ad av ∧ Gn D = none ∧
                Le G1 Gn ∧ Ext σ G H ρ Gn Hn (backE ρ1 ρn vs) ∧ Rl K cn Gn Hn σ (backE ρ1 ρn vs) ∧ ¬ OwnA σ (backE ρ1 ρn vs) D, fun H' h => ⟨ds.length - (i + 1), by omega, rfl, h⟩, fun x H2 y => ?_⟩
              obtain ⟨Gy, ny, ry⟩ := (wkc.1 ds[i] (List.getElem?_eq_getElem hlt)).2 x H2 y
              have lw : Rl K cn Gc Hc (L2.wipe σ vs) (wipeE ρi vs) := by
                have := lc.wipe (vs := vs)
                rw [wipeE_back] at this
                exact this
              have lwy := lw.new ny
              have DGy : Gy D = none := ny.none hGD hD
              have DH2 : H2 D = some (.lst av) := ny.h D _ hD
              cases z3 : gf ds[i] (wipeE ρi vs) with
              | none => rw [z3] at hgo; cases hgo
              | some ρa =>
                rw [z3] at hgo
                refine hg Gy H2 (L2.wipe σ vs) (wipeE ρi vs) x ds[i] _ lwy ry ρa z3 fun σ2 la ta => ?_
                have hσ2 : ∀ j, j ∉ vs → σ2[j]? = σ[j]? := fun j hj => by rw [ta.st j hj, wipe_st hj]
                refine ⟨wipe_same (by rw [ta.len, wipe_length]) ta.st, ?_⟩
                have noDa : ¬ OwnA σ2 ρa D := notOwn_tg ta noD
                have hoa : Out vs ρa := out_tg ta
                have eca : Ext σ G H ρ Gy H2 (backE ρ1 ρa vs) := ec.trans (Ext.takeBack (ρ0 := ρ1) ta ny Ext.refl)
                dsimp only at hgo
                cases z4 : tf ρa with
                | none => rw [z4] at hgo; cases hgo
                | some r =>
                  rw [z4] at hgo
                  refine ht Gy H2 σ2 ρa _ la r z4 ?_
                  cases r with
                  | ex x ρb => cases hgo
                  | ok b ρb =>
                    refine fun G3 H3 e3 l3 => ?_
                    have D3 : H3 D = some (.lst av) := e3.h D _ DH2 noDa
                    have DG3 : G3 D = none := e3.none DGy DH2 noDa
                    have ecb : Ext σ G H ρ G3 H3 (backE ρ1 ρb vs) := eca.trans (Ext.lift hσ2 hoa e3)
                    have noDb : ¬ OwnA σ2 ρb D := fun h => noDa (e3.ownA h)
                    have hob := e3.out hoa
                    have hl2 : σ2.length = σ.length := by rw [ta.len, wipe_length]
                    -- a turn's end
                    have stop : ∀ {Gn Hn : Hp} {ρn : Env}, Ext σ G H ρ Gn Hn (backE ρ1 ρn vs) → ¬ OwnA σ2 ρn D → Out vs ρn → ¬ OwnA σ (backE ρ1 ρn vs) D := fun {Gn Hn ρn} _ no ho h => by
                      obtain ⟨j, s, o, hj, h1, h2, h3⟩ := h.back
                      exact no ⟨j, s, o, h1, h2, by rw [hσ2 j hj]; exact h3⟩
                    cases b with
                    | false =>
                      dsimp only at hgo
                      have lx := Rl.takeBack (vs := vs) l1 ((lg.trans ny.g).trans e3.g) l3 hl2 hσ2
                      exact ⟨hlt, G3, ρb, ad, rest, av, hgo, hxs, D3, Reps.mono (ny.g.trans e3.g) _ _ hav, DG3, (lg.trans ny.g).trans e3.g, ecb, lx, stop ecb noDb hob⟩
                    | true =>
                      dsimp only at hgo
                      cases z5 : it1 ρb with
                      | none => rw [z5] at hgo; cases hgo
                      | some r =>
                        rw [z5] at hgo
                        refine hi1 G3 H3 σ2 ρb _ l3 r z5 ?_
                        cases r with
                        | ex x ρc => cases hgo
                        | ok ds1 ρc =>
                          refine fun G4 H4 J1 e4 l4 wk1 => ?_
                          dsimp only at hgo
                          cases z6 : lcGo gf1 tf1 ef vs1 ds1 ρc with
                          | none => rw [z6] at hgo; cases hgo
                          | some y =>
                            obtain ⟨xs1, ρd⟩ := y
                            rw [z6] at hgo
                            dsimp only at hgo
                            cases z7 : lcGo2 gf tf it1 gf1 tf1 ef vs vs1 (ds.drop (i + 1)) ρd with
                            | none => rw [z7] at hgo; cases hgo
                            | some y =>
                              obtain ⟨ys, ρe⟩ := y
                              rw [z7] at hgo
                              cases hgo
                              have D4 : H4 D = some (.lst av) := e4.h D _ D3 noDb
                              have DG4 : G4 D = none := e4.none DG3 D3 noDb
                              have lg4 : Le Gc G4 := (ny.g.trans e3.g).trans e4.g
                              refine inner (G0 := G) (H0 := H) (ρ0 := ρ) (ρ1 := ρ1) (vs := vs) (ado := ad) hg1 ht1 he hσ2 (e4.out hob) l4 wk1 D4 (Reps.mono lg4 _ _ hav) DG4 (fun h => noDb (e4.ownA h)) (ecb.trans (Ext.lift hσ2 hob e4)) HsD z6 ?_ fun Gn Hn avn hDn hrn gDn lgn en ln non hon => ?_
                              · rw [hxs, List.length_append, List.length_append] at hlen; omega
                              · rw [backE_back hv] at en
                                have lx : Rl K cn Gn Hn σ (backE ρ1 (backE ρc ρd vs1) vs) := Rl.takeBack (vs := vs) l1 ((lg.trans lg4).trans lgn) ln hl2 hσ2
                                rw [backE_back hv] at lx
                                refine ⟨hlt, Gn, ρd, ad ++ xs1, ys, avn, z7, by rw [hxs]; simp, hDn, hrn, gDn, (lg.trans lg4).trans lgn, en, lx, fun h => ?_⟩
                                obtain ⟨j, s, o, hj, h1, h2, h3⟩ := h.back
                                exact non ⟨j, s, o, by rw [backE_st fun z => hj (hv j z)]; exact h1, h2, by rw [hσ2 j hj]; exact h3⟩
            · have ei : ds.length = i := by omega
              refine .inl ⟨wkc.2 ei, ?_⟩
              rw [List.drop_eq_nil_of_le (by omega)] at hgo
              cases hgo
              rw [List.append_nil] at hxs
              subst hxs
              exact p Gc Hc (.ref D) ec lc ⟨D, rfl, HsD, ⟨hGD, av, hD, hav⟩, noD⟩
        · cases q
end
end DL
end

section
set_option maxRecDepth 100000
set_option maxHeartbeats 4000000
/-! sorted(set(xs)), xs a list of whole numbers -/
namespace DL
open PySem PySem.Spec PyProof.Rows L2
abbrev setE (w : World) : Obj := { cls := .type "set", dict := none, data := .set #[] 0 (.fresh 0 0 (!w.params.followText "set-order")) }
section
variable {P : Program} {w : World} {A : Around} {E : Value → Shared → Prop} {s : Shared}
/-- set.__init__ of a fresh set at the heap's end, a list of whole numbers handed in -/
theorem set_filled {l : Addr} {its : Array Value} {ns : List Int} (hh : A.handled = none) (hl : s.heap.IsList l its) (hi : IntsAre its.toList ns) (hb : ns.length + 1 < scanBound) :
    wpAny (model P w) A.in1 (Builtin.«set.__init__» ⟨[.ref s.heap.objs.size, .ref l], []⟩) (fun fn s' => match fn with
      | .done f => f = .ret .none ∧ ∃ h' tk c, s' = { s with heap := h', toks := tk } ∧ SetR w h' s.heap.objs.size (fun j => decide (j ∈ ns)) c ∧ c ≤ ns.length ∧ ∀ b o, s.heap.get? b = some o → h'.get? b = some o
      | .again _ => False) E { s with heap := s.heap.push (setE w) } := by
  have hn : its.size = ns.length := by rw [← IntsAre.length hi, Array.length_toList]
  have hT : Shared.TypeIs { s with heap := s.heap.push (setE w) } (.ref s.heap.objs.size) "set" := ⟨_, Heap.get?_push_size _ rfl, rfl⟩
  obtain ⟨⟨cl, dd, dt, sl⟩, ho, hc, nn, hd⟩ := id hl
  simp only at hc hd
  subst hc hd
  have ho1 : (s.heap.push (setE w)).get? l = _ := Heap.get?_push_of_some _ ho
  have sub1 := PySem.F.sub_list_set
  have sub2 := PySem.F.sub_list_frozenset
  have hnd : (Value.type "list" == Value.type "dict") = false := by decide
  have hl1 : (s.heap.push (setE w)).IsList l its := hl.push _
  unfold Builtin.«set.__init__» noKeywords Builtin.Frozenset.updateFrom
  generalize hPI : pyIter = PI
  wp_walk
  subst hPI
  refine wpAny_pyIter_list hl1 (wpAny_bind (wpAny_runValue ?_))
  have lt : l < s.heap.objs.size := Heap.lt_size ho
  have sz : (s.heap.push (setE w)).objs.size = s.heap.objs.size + 1 := Heap.size_push ..
  have n1 : l ≠ (s.heap.push (setE w)).objs.size := by rw [sz]; exact Nat.ne_of_lt (Nat.lt_succ_of_lt lt)
  have n2 : s.heap.objs.size ∉ [(s.heap.push (setE w)).objs.size, l] := by
    rw [sz]
    intro z
    rcases List.mem_cons.mp z with z | z
    · exact Nat.ne_of_lt (Nat.lt_succ_self _) z
    · rw [List.mem_singleton] at z; exact Nat.ne_of_gt lt z
  have vals : ∀ (i : Nat) (v : Value), its[i]? = some v → ∃ k t, ns[i]? = some k ∧ v = .int k t := fun i v hv => by
    have lti : i < ns.length := by rw [← hn]; exact (Array.getElem?_eq_some_iff.mp hv).1
    obtain ⟨t, e⟩ := IntsAre.int_at hi i v (by rw [Array.getElem?_toList]; exact hv)
    exact ⟨ns[i], t, List.getElem?_eq_getElem lti, by rw [e, List.getD_eq_getElem?_getD, List.getElem?_eq_getElem lti]; rfl⟩
  have h3 : A.in1.in1.handled = none := by simp [hh]
  refine set_update_ints (Walks.list h3 _ l n1 its).toS s.heap.objs.size n2 ns hn hb vals its.size 0 _ (Nat.sub_zero _) (Nat.zero_le _) ?st ?e fun s' c mv hc' R => ?_
  case st => exact ⟨⟨_, Heap.get?_push_size _ rfl, rfl, rfl⟩, hl1.push _⟩
  case e =>
    have g : ((s.heap.push (setE w)).push { cls := .type "list_iterator", data := .fields #[.ref l, .int 0 0] }).get? s.heap.objs.size = some (setE w) := Heap.get?_push_of_some _ (Heap.get?_push_size _ rfl)
    exact ⟨0, Nat.le_refl 0, setR_new_at g⟩
  obtain ⟨h', g', d', tk', os'⟩ := s'
  have eg : g' = s.gens := mv.gens
  have ed : d' = s.drawn := mv.drawn
  have eo : os' = s.os := mv.os
  subst eg ed eo
  refine wpAny_pure ?_
  rw [hn] at hc'
  refine wpAny_pure ⟨rfl, h', tk', c, rfl, R, hc', fun b o e => ?_⟩
  have ltb : b < s.heap.objs.size := Heap.lt_size e
  refine mv.heap b o (fun z => ?_) (Heap.get?_push_of_some _ (Heap.get?_push_of_some _ e))
  rcases List.mem_cons.mp z with z | z
  · exact Nat.ne_of_lt ltb z
  · rw [List.mem_singleton, sz] at z; exact Nat.ne_of_lt (Nat.lt_succ_of_lt ltb) z
set_option maxHeartbeats 4000000 in
/-- set(xs) -/
theorem call_set_lst {l : Addr} {its : Array Value} {ns : List Int} {Q : Value → Shared → Prop} (hh : A.handled = none) (hl : s.heap.IsList l its) (hi : IntsAre its.toList ns) (hb : ns.length + 1 < scanBound)
    (hQ : ∀ h' tk c, SetR w h' s.heap.objs.size (fun j => decide (j ∈ ns)) c → c ≤ ns.length → (∀ b o, s.heap.get? b = some o → h'.get? b = some o) → Q (.ref s.heap.objs.size) { s with heap := h', toks := tk }) :
    wpAny (model P w) A (PySem.call (.type "set") [.ref l]) Q E s := by
  obtain ⟨mc, mt, hm⟩ := PySem.F.called_set.mro
  have made := PySem.F.called_set.made
  have sub := PySem.F.called_set.sub
  refine wpAny_call (codeAny_of_tree ?_)
  show wpAny _ _ (callAny (.type "set") _) _ _ _
  refine wpAny_pure ⟨Code.quiet_builtin _ (by decide +kernel), codeAny_builtin PySem.F.entry_type_call ?_⟩
  rw [Around.under_plain (weight_type_call_type "set" [.ref l] []) rfl]
  have nt := PySem.F.called_set.notType
  have cc := PySem.F.called_set.canCreate
  have tc := PySem.F.typeCall_set_1 (.ref l)
  repeat (any_goals (first | assumption | wp_step))
  refine codeAny_mono (code_set_led1 (.ref l) (E := E) (Q₁ := fun v s1 => v = .ref s.heap.objs.size ∧ s1 = { s with heap := s.heap.push (setE w) }) ⟨rfl, rfl⟩) fun r s1 hr => ?_
  cases r with
  | error e => exact hr
  | ok fl => cases fl with
    | ret v =>
      obtain ⟨e1, e2⟩ := hr
      subst e1 e2
      have hT : Shared.TypeIs { s with heap := s.heap.push (setE w) } (.ref s.heap.objs.size) "set" := ⟨_, Heap.get?_push_size _ rfl, rfl⟩
      have il := PySem.F.called_set.init.lookup
      have ib := PySem.F.called_set.init.bind (.ref s.heap.objs.size)
      repeat (any_goals (first | assumption | wp_step))
      refine codeAny_mono (codeAny_call_builtin (R := wants (fun r s2 => r = .none ∧ ∃ h' tk c, s2 = { s with heap := h', toks := tk } ∧ SetR w h' s.heap.objs.size (fun j => decide (j ∈ ns)) c ∧ c ≤ ns.length ∧ ∀ b o, s.heap.get? b = some o → h'.get? b = some o) E) PySem.F.called_set.init.plain PySem.F.entry_set_init (check_set_init_1 hT ?_)) fun r2 s2 hr2 => ?_
      · refine wpAny_mono (set_filled (E := E) hh hl hi hb) (fun fn s' h => ?_) fun _ _ h => h
        cases fn with
        | done f => obtain ⟨ef, h⟩ := h; subst ef; exact ⟨rfl, h⟩
        | again c => exact h.elim
      · cases r2 with
        | error e => exact hr2
        | ok f2 => cases f2 with
          | ret r =>
            obtain ⟨e1, h', tk, c, e2, R, hc, k⟩ := hr2
            subst e1 e2
            repeat (any_goals (first | assumption | wp_step))
            exact hQ _ _ _ R hc k
          | _ => exact hr2.elim
    | _ => exact hr.elim
end
/-! the different ones, ascending -/
theorem dedI_mem : ∀ {l : List Int} {k : Int}, k ∈ dedI l ↔ k ∈ l
  | [], k => by simp [dedI]
  | [x], k => by simp [dedI]
  | x :: y :: r, k => by
    rw [dedI]
    have ih := dedI_mem (l := y :: r) (k := k)
    split
    · rename_i e; subst e; rw [ih]; simp
    · rw [List.mem_cons, ih, List.mem_cons (b := x)]
theorem dedI_lt : ∀ {l : List Int}, l.Pairwise (· ≤ ·) → (dedI l).Pairwise (· < ·)
  | [], _ => .nil
  | [x], _ => by simp [dedI]
  | x :: y :: r, h => by
    rw [dedI]
    have hx := (List.pairwise_cons.mp h).1
    have ih := dedI_lt (List.pairwise_cons.mp h).2
    split
    · exact ih
    · rename_i ne
      refine List.pairwise_cons.mpr ⟨fun z hz => ?_, ih⟩
      have h1 := hx y List.mem_cons_self
      rcases List.mem_cons.mp (dedI_mem.mp hz) with e | e
      · subst e; omega
      · have := (List.pairwise_cons.mp (List.pairwise_cons.mp h).2).1 z e
        omega
theorem asc_uniq : ∀ {l m : List Int}, l.Pairwise (· < ·) → m.Pairwise (· < ·) → (∀ k, k ∈ l ↔ k ∈ m) → l = m
  | [], [], _, _, _ => rfl
  | [], y :: m, _, _, h => by have := (h y).mpr List.mem_cons_self; cases this
  | x :: l, [], _, _, h => by have := (h x).mp List.mem_cons_self; cases this
  | x :: l, y :: m, a, b, h => by
    obtain ⟨a1, a2⟩ := List.pairwise_cons.mp a
    obtain ⟨b1, b2⟩ := List.pairwise_cons.mp b
    have e : x = y := by
      rcases List.mem_cons.mp ((h x).mp List.mem_cons_self) with e | e
      · exact e
      · rcases List.mem_cons.mp ((h y).mpr List.mem_cons_self) with e2 | e2
        · exact e2.symm
        · have := b1 x e; have := a1 y e2; omega
    subst e
    rw [asc_uniq a2 b2 fun k => ?_]
    constructor
    · intro hk
      rcases List.mem_cons.mp ((h k).mp (List.mem_cons_of_mem _ hk)) with e | e
      · subst e; have := a1 k hk; omega
      · exact e
    · intro hk
      rcases List.mem_cons.mp ((h k).mpr (List.mem_cons_of_mem _ hk)) with e | e
      · subst e; have := b1 k hk; omega
      · exact e
theorem sset_mem {ns : List Int} {k : Int} : k ∈ dedI (sortI ns) ↔ k ∈ ns := dedI_mem.trans (sortI_perm ns).mem_iff
theorem sset_asc {ns : List Int} : (dedI (sortI ns)).Pairwise (· < ·) := dedI_lt (sortI_sorted ns)
theorem asc_nodup : ∀ {l : List Int}, l.Pairwise (· < ·) → l.Nodup := fun h => h.imp fun z => Int.ne_of_lt z
theorem sset_len {w : World} {h : Heap} {a : Addr} {ns : List Int} {n : Nat} (R : SetR w h a (fun j => decide (j ∈ ns)) n) : n = (dedI (sortI ns)).length := by
  obtain ⟨o, es, ep, t, h1, h2, h3, h4, nd, hm, h5, h6, hn, _⟩ := R
  have p : (es.toList.map keyOf).Perm (dedI (sortI ns)) := (List.perm_ext_iff_of_nodup nd (asc_nodup sset_asc)).mpr fun k => by rw [sset_mem, ← hm k]; simp
  have := p.length_eq
  rw [List.length_map, Array.length_toList, hn] at this
  exact this
section
variable {X : Cx}
/-- set(xs) -/
def rSetL2 (K : PySem.W.Frag) (w : World) : List V → Hp → VK → Prop := fun xs H Q => ∃ (l : Addr) (ns : List Int), xs = [V.ref l] ∧ SqL K H l (ns.map V.int) ∧ ns.length ≤ 4000 ∧ ∀ p, H p = none → Q (.ref p) (upd H p (SetO w p (fun j => decide (j ∈ ns)) (dedI (sortI ns)).length))
theorem cr_setL (hc : X.calm = true) : CallR X (.type "set") (rSetL2 X.K X.w) := by
  intro pins s σ H xs us Q I r h
  obtain ⟨l, ns, e, hl, hz, q⟩ := h
  subst e
  rw [Vals.ref1 r]
  obtain ⟨its, rv, pl, _⟩ := I.list hl
  refine call_set_lst (P := X.prog) (w := X.w) (ns := ns) (I.ok.hd hc) pl.isList (by simpa using rv.ints) (Nat.lt_of_le_of_lt (Nat.succ_le_succ hz) (by unfold scanBound; decide)) fun h' tk c R hc' k => ?_
  have e := sset_len R
  subst e
  exact ⟨.ref s.heap.objs.size, _, I.laid (t' := tk) k (Nat.le_refl _) (setO_new R), rfl, q _ (I.hok.fresh (Nat.le_refl _))⟩
end
section
variable {cn : String → Addr} {X : Cx} {W : WX} {k j : Nat} {pos p2 p : Pos} {a : Expr} {fa : DE}
theorem x_sortedSet {pos2 : Pos} (c : Ct X W k) (hm : X.mg "sorted" = none) (hm2 : X.mg "set" = none) (ha : AX cn X W [a] fs) (hg : Gl X "sorted" := by rfl) (hg2 : Gl X "set" := by rfl)
    (he : starEach [a] X.env = (false, eval a X.env) :: starEach [] X.env := by rfl) (hpl : (backTo pos2 (starEach [] X.env)).any (·.1) = false := by rfl)
    (he2 : starEach [.Call (.Name "set" p2) [a] [] pos2] X.env = (false, eval (.Call (.Name "set" p2) [a] [] pos2) X.env) :: starEach [] X.env := by rfl) (hpl2 : (backTo pos (starEach [] X.env)).any (·.1) = false := by rfl) :
    EX cn X W (.Call (.Name "sorted" p) [.Call (.Name "set" p2) [a] [] pos2] [] pos) (eCB fSetSorted fs) := by
  refine ⟨⟨_, pe_callB (cr_sortedSet c.hc) hg hm (by kernel_rfl) (pa_cons (pe_callTy (cr_setL c.hc) hg2 hm2 (by kernel_rfl) ha.pa (by decide) (by decide) he hpl) pa_nil he2) (by decide) (by decide) he2 hpl2, fun G H σ ρ Q l e q pp => ?_⟩⟩
  show toA X.K cn W fs σ H _
  refine den_bindA (t := toA X.K cn W fs) den_toA l q pp fun G1 H1 ρ1 vs rs e1 l1 r1 q1 => ?_
  have p1 := PostE.back e1 pp
  cases z1 : peeks ρ1 rs with
  | none => rw [z1] at q1; cases q1
  | some ds =>
    rw [z1] at q1; dsimp only at q1
    cases z3 : fSetSorted ds with
    | none => rw [z3] at q1; cases q1
    | some z =>
      rw [z3] at q1
      cases q1
      have pk := r1.peeks l1 z1
      unfold fSetSorted at z3
      split at z3
      · split at z3
        · rename_i ns hns
          split at z3
          · rename_i hz
            cases z3
            obtain ⟨v, ev, pk⟩ := pks1 pk
            obtain ⟨b, us, eb, hb, rs⟩ := pk.lst l1.gh
            have := ints_ok hns rs
            subst ev eb this
            refine ⟨b, ns, rfl, .inl (.inl hb), by rw [← ints_len hns]; exact hz.1, fun p np => ?_⟩
            refine ⟨p, _, _, rfl, upd_same, hz.2, fun ns' p' asc mem len np' => ?_⟩
            have e2 : ns' = dedI (sortI ns) := asc_uniq asc sset_asc fun k => by rw [mem k, sset_mem]; simp
            subst e2
            obtain ⟨n1, gn⟩ := New.own (u := SetO X.w p (fun j => decide (j ∈ ns)) (dedI (sortI ns)).length) l1.gh np
            obtain ⟨n2, r⟩ := rv_lst (cn := cn) n1.gh np' (reps_ints (K := X.K) (cn := cn) (G := G1) (dedI (sortI ns)))
            have l2 := (l1.new n1).new n2
            have e3 := (n1.ext (σ := σ) (ρ := ρ1)).trans n2.ext
            exact p1 _ _ _ e3 l2 ((r.r (l1.new n1)).back (n1.ext (σ := σ) (ρ := ρ1)).d)
          · cases z3
        · cases z3
      · cases z3
end
/-! ### two clauses -/
section
variable {cn : String → Addr} {X : Cx} {W : WX} {k j : Nat} {pos p2 p : Pos} {ef : DE} {tf tf1 : DT}
theorem GX.sub {vs ws : List Nat} {e : Expr} {f : DG} (h : GX cn X vs e f) (hs : ∀ j ∈ vs, j ∈ ws) : GX cn X ws e f :=
  ⟨⟨_, h.pg, fun G H σ ρ v d Q l r ρ' q p => h.den G H σ ρ v d Q l r ρ' q fun σ' l' t => p σ' l' (t.sub hs)⟩⟩
theorem x_lc2 {elt tg iter tg1 iter1 : Expr} {ifs ifs1 : List Expr} {scope : Scope} (own : List (Str × Nat)) {vs0 : List Nat} (vs1 : List Nat) {it it1 : DI} {gf gf1 : DG} (c : Ct X W k) (hi : IX cn X W tg iter it)
    (hg : ∀ (s : Shared) (H : Hp) (C : Addr) (cl : List (Str × Addr)) (fp : List Addr), Ct (X.blk s H scope (compEnvC scope cl C X.env) fp) W0 k → GX cn (X.blk s H scope (compEnvC scope cl C X.env) fp) vs0 tg gf)
    (ht : ∀ (s : Shared) (H : Hp) (C : Addr) (cl : List (Str × Addr)) (fp : List Addr), Ct (X.blk s H scope (compEnvC scope cl C X.env) fp) W0 k → TsX cn (X.blk s H scope (compEnvC scope cl C X.env) fp) W0 ifs tf)
    (hi1 : ∀ (s : Shared) (H : Hp) (C : Addr) (cl : List (Str × Addr)) (fp : List Addr), Ct (X.blk s H scope (compEnvC scope cl C X.env) fp) W0 k → IX cn (X.blk s H scope (compEnvC scope cl C X.env) fp) W0 tg1 iter1 it1)
    (hg1 : ∀ (s : Shared) (H : Hp) (C : Addr) (cl : List (Str × Addr)) (fp : List Addr), Ct (X.blk s H scope (compEnvC scope cl C X.env) fp) W0 k → GX cn (X.blk s H scope (compEnvC scope cl C X.env) fp) vs1 tg1 gf1)
    (ht1 : ∀ (s : Shared) (H : Hp) (C : Addr) (cl : List (Str × Addr)) (fp : List Addr), Ct (X.blk s H scope (compEnvC scope cl C X.env) fp) W0 k → TsX cn (X.blk s H scope (compEnvC scope cl C X.env) fp) W0 ifs1 tf1)
    (he : ∀ (s : Shared) (H : Hp) (C : Addr) (cl : List (Str × Addr)) (fp : List Addr), Ct (X.blk s H scope (compEnvC scope cl C X.env) fp) W0 k → EX cn (X.blk s H scope (compEnvC scope cl C X.env) fp) W0 elt ef)
    (ok : blkC X.N X.env.scope scope own = true := by rfl) (h0 : ∀ j ∈ vs0, j ∈ own.map (·.2) := by decide) (h1 : ∀ j ∈ vs1, j ∈ own.map (·.2) := by decide) (hs : ∀ x, foldedSetIterable iter X.env x = pure x := by intro _; rfl) (hs1 : ∀ env x, foldedSetIterable iter1 env x = pure x := by intro _ _; rfl) :
    EX cn X W (.ListComp elt [⟨tg, iter, ifs, 0⟩, ⟨tg1, iter1, ifs1, 0⟩] scope pos) (eLc2 it gf tf it1 gf1 tf1 ef (own.map (·.2)) vs1) :=
  have cb := fun s H C cl fp => c.blk s H scope (compEnvC scope cl C X.env) fp
  ⟨⟨_, pe_lc2 c.hc c.hN hi.pi (blkOk_by ok) h1 (fun s H C cl fp => ((hg s H C cl fp (cb s H C cl fp)).sub h0).pg) (fun s H C cl fp => (ht s H C cl fp (cb s H C cl fp)).pt) (fun s H C cl fp => (hi1 s H C cl fp (cb s H C cl fp)).pi)
      (fun s H C cl fp => (hg1 s H C cl fp (cb s H C cl fp)).pg) (fun s H C cl fp => (ht1 s H C cl fp (cb s H C cl fp)).pt) (fun s H C cl fp => (he s H C cl fp (cb s H C cl fp)).pe) hs hs1,
    d_lc2 (W' := W0) hi.den den_toG den_toT den_toI den_toG den_toT den_toE h1⟩⟩
theorem s_setLc2 (i : Nat) {y : Str} {pos' : Pos} {elt tg iter tg1 iter1 : Expr} {ifs ifs1 : List Expr} {scope : Scope} (own : List (Str × Nat)) {vs0 : List Nat} (vs1 : List Nat) {it it1 : DI} {gf gf1 : DG} (c : Ct X W k) (hi : IX cn X W tg iter it)
    (hg : ∀ (s : Shared) (H : Hp) (C : Addr) (cl : List (Str × Addr)) (fp : List Addr), Ct (X.blk s H scope (compEnvC scope cl C X.env) fp) W0 k → GX cn (X.blk s H scope (compEnvC scope cl C X.env) fp) vs0 tg gf)
    (ht : ∀ (s : Shared) (H : Hp) (C : Addr) (cl : List (Str × Addr)) (fp : List Addr), Ct (X.blk s H scope (compEnvC scope cl C X.env) fp) W0 k → TsX cn (X.blk s H scope (compEnvC scope cl C X.env) fp) W0 ifs tf)
    (hi1 : ∀ (s : Shared) (H : Hp) (C : Addr) (cl : List (Str × Addr)) (fp : List Addr), Ct (X.blk s H scope (compEnvC scope cl C X.env) fp) W0 k → IX cn (X.blk s H scope (compEnvC scope cl C X.env) fp) W0 tg1 iter1 it1)
    (hg1 : ∀ (s : Shared) (H : Hp) (C : Addr) (cl : List (Str × Addr)) (fp : List Addr), Ct (X.blk s H scope (compEnvC scope cl C X.env) fp) W0 k → GX cn (X.blk s H scope (compEnvC scope cl C X.env) fp) vs1 tg1 gf1)
    (ht1 : ∀ (s : Shared) (H : Hp) (C : Addr) (cl : List (Str × Addr)) (fp : List Addr), Ct (X.blk s H scope (compEnvC scope cl C X.env) fp) W0 k → TsX cn (X.blk s H scope (compEnvC scope cl C X.env) fp) W0 ifs1 tf1)
    (he : ∀ (s : Shared) (H : Hp) (C : Addr) (cl : List (Str × Addr)) (fp : List Addr), Ct (X.blk s H scope (compEnvC scope cl C X.env) fp) W0 k → EX cn (X.blk s H scope (compEnvC scope cl C X.env) fp) W0 elt ef)
    (hsw : swapsWith (.ListComp elt [⟨tg, iter, ifs, 0⟩, ⟨tg1, iter1, ifs1, 0⟩] scope p) (some (.Name y pos')) pos.line X.env = pure true)
    (hy : X.N[i]? = some y := by rfl) (hyl : X.env.scope.names.lookup y = some .local := by rfl)
    (ok : blkC X.N X.env.scope scope own = true := by rfl) (h0 : ∀ j ∈ vs0, j ∈ own.map (·.2) := by decide) (h1 : ∀ j ∈ vs1, j ∈ own.map (·.2) := by decide) (hs : ∀ x, foldedSetIterable iter X.env x = pure x := by intro _; rfl) (hs1 : ∀ env x, foldedSetIterable iter1 env x = pure x := by intro _ _; rfl) :
    SX cn X W (.Assign [.Name y pos'] (.ListComp elt [⟨tg, iter, ifs, 0⟩, ⟨tg1, iter1, ifs1, 0⟩] scope p) pos) (sSet i (eLc2 it gf tf it1 gf1 tf1 ef (own.map (·.2)) vs1)) :=
  have cb := fun s H C cl fp => c.blk s H scope (compEnvC scope cl C X.env) fp
  ⟨⟨_, ps_setLc2 c.hc c.hN hy hyl hsw hi.pi (blkOk_by ok) h1 (fun s H C cl fp => ((hg s H C cl fp (cb s H C cl fp)).sub h0).pg) (fun s H C cl fp => (ht s H C cl fp (cb s H C cl fp)).pt) (fun s H C cl fp => (hi1 s H C cl fp (cb s H C cl fp)).pi)
      (fun s H C cl fp => (hg1 s H C cl fp (cb s H C cl fp)).pg) (fun s H C cl fp => (ht1 s H C cl fp (cb s H C cl fp)).pt) (fun s H C cl fp => (he s H C cl fp (cb s H C cl fp)).pe) hs hs1,
    ds_set (d_lc2 (W' := W0) hi.den den_toG den_toT den_toI den_toG den_toT den_toE h1)⟩⟩
end
end DL
end

section
set_option maxRecDepth 100000
set_option maxHeartbeats 4000000
/-! an own error whose class inherits an __init__ that says super().__init__('..'); self.f = f -/
namespace DL
open PySem PySem.W PySem.Calls PyProof.Rows PySem.HandSPX
/-! ### the text -/
def iA (f : Str) (p1 p2 : Pos) : Arguments := { posonlyargs := [], args := [{ arg := "self", annotation := none, pos := p1 }, { arg := f, annotation := none, pos := p2 }], vararg := none, kwonlyargs := [], kw_defaults := [], kwarg := none, defaults := [] }
def supE (msg : Str) (kk : Nat) (q : Nat → Pos) : Expr := .Call (.Attribute (.Call (.Name "super" (q 0)) [] [] (q 1)) "__init__" (q 2)) [.Constant (.str msg) kk (q 3)] [] (q 4)
def iB (f msg : Str) (kk : Nat) (q : Nat → Pos) : List Stmt := [.Expr (supE msg kk q) (q 5),
  .Assign [.Attribute (.Name "self" (q 6)) f (q 7)] (.Name f (q 8)) (q 9)]
def iS (f : Str) : Scope := { kind := .function, names := [(PySem.Str.ofString "self", .local), (f, .local), (PySem.Str.ofString "__class__", .free), (PySem.Str.ofString "super", .globalImplicit)], isGenerator := false, isCoroutine := false, more := [] }
/-- what the written part says of the class at C, of the class D that has the __init__ at fI -/
structure ExI (P : Program) (K : Frag) (mg : Str → Option Value) (C D fI cc cda : Addr) (cl f q msg : Str) : Prop where
  gC : mg cl = some (.ref C)
  cls : ∃ nm qn N bs bm sn sub ab col dd k0 k1 k2 k3 k5, K.lookup C = some (excClassObj nm qn C N bs bm true sn sub ab col dd k0 k1 k2 k3 k5 "ValueError.__new__") ∧ refsVE bm = true
  sa : findIn K (.ref C) "__setattr__" = some (some (.builtin "object.__setattr__"))
  noN : findIn K (.ref C) f = some none
  iC : findIn K (.ref C) "__init__" = some (some (.ref fI))
  tC : typeIn K (.ref fI) = some (.type "function")
  kC : keepIn K (.ref C) = true
  exC : subIn K (.ref C) (.type "BaseException") = some true
  tyC : typeIn K (.ref C) = some (.type "type")
  fn : ∃ (oc : Value) (od : Option Addr) (doc pm : Value) (an : Option Addr) (ct : Value) (osl : Array (Option Value)) (p1 p2 : Pos) (kk : Nat) (qs : Nat → Pos),
    (∀ env : PySem.Env, ∃ pl : Sem Bool, eval (supE msg kk qs) env = (do
      let ov ← attributeBase (.Call (.Name "super" (qs 0)) [] [] (qs 1)) "__init__" env (eval (.Call (.Name "super" (qs 0)) [] [] (qs 1)) env)
      standAt (qs 2).atName
      let (f, first) ← holding [ov] (getMethod ov "__init__" pl)
      callWith (qs 4) f first (backTo (qs 4) (starEach [.Constant (.str msg) kk (qs 3)] env)) [])) ∧
    K.lookup fI = some ⟨oc, od, .func (ksFn "__init__" q (iA f p1 p2) (iB f msg kk qs) (iS f) .none .none doc pm an (.ref cda) ct cc), osl⟩
  cd : codeIn K (.ref cda) q = true
  code : ∃ c d vs sl file t, K.lookup cda = some ⟨c, d, .fields vs, sl⟩ ∧ vs[2]? = some (.str file t) ∧ ((P.main.file : Str) == file) = true
  cell : ∃ k d sl, K.lookup cc = some ⟨k, d, .cell (some (.ref D)), sl⟩
  dcl : ∃ cdD, clsIn K D = some cdD
  sub : mroIn K C (.ref D) = some true
  sup : ks_superIn K C D "__init__" = some (some (.builtin "ValueError.__init__"))
  isV : subIn K (.ref C) (.type "ValueError") = some true
  noS : mg "super" = none
  opq : nsIn K cStatics "thirdparty.any" = some none
  top : (P.main.scope.names.lookup ("super" : Str)).isSome = false
  bnd : ∀ (p1 p2 : Pos) (kk : Nat) (qs : Nat → Pos) (doc pm : Value) (an : Option Addr) (cdv ct a b : Value), bindArgs (ksFn "__init__" q (iA f p1 p2) (iB f msg kk qs) (iS f) .none .none doc pm an cdv ct cc) ⟨[a, b], []⟩ = pure [(("self" : Str), a), (f, b)]
  fne : f ≠ "self" ∧ f ≠ "__class__" ∧ f ≠ "super" ∧ (f == ("__debug__" : Str)) = false
/-- what is left of a fresh error at x -/
structure ExE (h h' : Heap) (x C dx t1 : Addr) (f : Str) (v : Value) : Prop where
  keep : ∀ b o, b ≠ x → h.get? b = some o → h'.get? b = some o
  obj : h'.get? x = some { cls := .ref C, dict := some dx, data := .fields #[.ref t1, .none, .none, .none, .bool false, .none] }
  dbig : h.objs.size ≤ dx
  dne : dx ≠ x
  ns : h'.Ns1 dx (fun y => if y = f then some v else none)
section
variable {prog : Program} {w : World} {A : Around} {E : Value → Shared → Prop} {R : Result → Shared → Prop} {K : Frag} {mg mb : Str → Option Value} {C D fI cc cda : Addr} {cl f q msg : Str}
/-- the bound built-in __init__ is called: the args are laid anew -/
theorem mw_call {h : Heap} {g : Array GenState} {d : Drawn} {t : Nat} {os : OsState} {u e t0 : Addr} {rest : List Value} {nm qn : Str} {N : Addr} {bs bm : List Value} {sn : List Str} {sub : List Value} {ab : Bool} {col : Option Bool} {dd : Option Addr} {k0 k1 k2 k3 k5 : Option Value} {Q : Value → Shared → Prop}
    (hC : h.get? C = some (excClassObj nm qn C N bs bm true sn sub ab col dd k0 k1 k2 k3 k5 "ValueError.__new__")) (he : h.get? e = some (excO C t0)) (hu : h.get? u = some (kxs_mw "ValueError.__init__" e)) (hz : rest.length ≤ sizeLine)
    (hq : ∀ h', (∀ b o, b ≠ e → h.get? b = some o → h'.get? b = some o) → h'.get? e = some (excO C h.objs.size) → Q .none ⟨h', g, d, t, os⟩) : wpAny (model prog w) A (PySem.call (.ref u) rest) Q E ⟨h, g, d, t, os⟩ := by
  have F := PySem.F.excBase_ValueError
  refine wpAny_call (codeAny_of_tree ?_)
  show wpAny _ A.in1 (callAny (.ref u) ⟨rest, []⟩) _ _ _
  simp only [callAny]
  refine wpAny_bind (wpAny_load hu ?_)
  have hb : (Value.type "method-wrapper" == Value.type "method" || Value.type "method-wrapper" == Value.type "builtin_function_or_method" || Value.type "method-wrapper" == Value.type "method-wrapper") = true := by decide
  simp only [kxs_mw, hb, if_true]
  refine KFB.if_so (by decide) ?_
  refine wpAny_bind (check_bound_init F.toExcCallFacts hC he rfl ?_)
  refine wpAny_bind (wpAny_pure (wpAny_pure ?_))
  refine ⟨plainId_quiet F.init.plain _, codeAny_builtin F.initEntry ?_⟩
  exact exc_init_tree (cls := .ref C) (t0 := t0) (dv := none) (c2 := .none) (c3 := .none) (b4 := .bool false) he hz fun h' a b _ => hq h' a b
theorem exi_init (T : ExI prog K mg C D fI cc cda cl f q msg) {x t0 : Addr} {v : Value} {s : Shared} (X : K.In s.heap) (hlim : s.heap.NoLimit) (gl : s.heap.Ns mainGlobals mg) (bl : s.heap.Ns builtinsNs mb) (hmb : mb "super" = some (.type "super"))
    (hx : s.heap.get? x = some (excO C t0)) (hnx : K.lookup x = none) (hroom : A.depth < recursionLimit)
    (hq : ∀ h' tk dx t1, ExE s.heap h' x C dx t1 f v → R (.ok (.ret .none)) { s with heap := h', toks := tk }) :
    codeAny (model prog w) A (.call (.ref fI) ⟨[.ref x, v], []⟩) R s := by
  obtain ⟨oc, od, doc, pm, an, ct, osl, p1, p2, kk, qs, hev, ho⟩ := T.fn
  obtain ⟨nm, qn, N, bs, bm, sn, sub, ab, col, dd, k0, k1, k2, k3, k5, hC, hbm⟩ := T.cls
  obtain ⟨c1, d1, vs1, sl1, file, tf, hcode, hvs, hfile⟩ := T.code
  obtain ⟨kc, dc, slc, hcell⟩ := T.cell
  obtain ⟨cdD, hD⟩ := T.dcl
  obtain ⟨f1, f2, f3, f4⟩ := T.fne
  have hcl : clsIn K C = some { name := nm, bases := bs, mro := .ref C :: bm, ns := N, qualname := qn, hasDict := true, slotNames := sn, subclasses := sub, abstract := ab, collection := col, hasDel := false } := by unfold clsIn; rw [hC] <;> rfl
  have ls : (iS f).names.lookup ("self" : Str) = some .local := by simp [iS, List.lookup]
  have lf : (iS f).names.lookup f = some .local := by
    have e : (f == Str.ofString "self") = false := beq_eq_false_iff_ne.mpr f1
    simp [iS, List.lookup, e]
  have lc : (iS f).names.lookup ("__class__" : Str) = some .free := by
    have e : (Str.ofString "__class__" == f) = false := beq_eq_false_iff_ne.mpr (Ne.symm f2)
    have e2 : (Str.ofString "__class__" == Str.ofString "self") = false := by decide
    simp [iS, List.lookup, e, e2]
  have lu : (iS f).names.lookup ("super" : Str) = some .globalImplicit := by
    have e : (Str.ofString "super" == f) = false := beq_eq_false_iff_ne.mpr (Ne.symm f3)
    have e2 : (Str.ofString "super" == Str.ofString "self") = false := by decide
    have e3 : (Str.ofString "super" == Str.ofString "__class__") = false := by decide
    simp [iS, List.lookup, e, e2, e3]
  refine ks_codeAny_call_defAt (fd := ksFn "__init__" q (iA f p1 p2) (iB f msg kk qs) (iS f) .none .none doc pm an (.ref cda) ct cc) (body := iB f msg kk qs) (binds := [("self", .ref x), (f, v)]) hroom (X _ _ ho) rfl hlim (codeRec_of X T.cd) rfl
    (BindsTo.of_eq (T.bnd _ _ _ _ _ _ _ _ _ _ _)) (fun y hy => ?_) (fun y hy => ?_) (fun h₁ hns k => ?_) rfl rfl rfl
  · simp only [iS, List.mem_cons, List.not_mem_nil, or_false] at hy
    rcases hy with e | e | e | e <;> (subst e; simp)
  · simp only [List.mem_cons, List.not_mem_nil, or_false] at hy
    rcases hy with e | e
    · subst e; exact ls
    · subst e; exact lf
  · obtain ⟨hh, g, dr, tk, os⟩ := s
    have nsup : ("super" : Str) ≠ "self" := by decide
    have X₁ : K.In h₁ := X.keeps k
    have hx₁ := k _ _ hx
    obtain ⟨oD, hD1, hD2⟩ : ∃ oD, h₁.get? D = some oD ∧ oD.data = .cls cdD := by
      unfold clsIn at hD
      split at hD
      · rename_i c d cd' sl ho'
        cases hD
        exact ⟨_, X₁ _ _ ho', rfl⟩
      · cases hD
    have mself : (List.reverse [((PySem.Str.ofString "self"), Value.ref x), (f, v)]).lookup ("self" : Str) = some (.ref x) := by
      have e : (Str.ofString "self" == f) = false := beq_eq_false_iff_ne.mpr (Ne.symm f1)
      simp [List.lookup, e]
    have mf : (List.reverse [((PySem.Str.ofString "self"), Value.ref x), (f, v)]).lookup f = some v := by simp [List.lookup]
    show _root_.PySem.wpAt _ (A.deeper (ksEnv q (iS f) hh.objs.size fI (.ref cda) cc)) (.func (iB f msg kk qs) (ksEnv q (iS f) hh.objs.size fI (.ref cda) cc)) (execs (iB f msg kk qs) (ksEnv q (iS f) hh.objs.size fI (.ref cda) cc)) _ _ ⟨h₁, g, dr, tk + 2, os⟩
    refine ks_wpAt_execs_cons (ks_wpAt_Expr_any ?_)
    obtain ⟨pl, hev⟩ := hev (ksEnv q (iS f) hh.objs.size fI (.ref cda) cc)
    refine ks_wpAt_MethodCall ?_ hev
    · refine ks_wpAt_super_base (env := ksEnv q (iS f) hh.objs.size fI (.ref cda) cc) lu lc (by decide) rfl (X₁ _ _ ho) rfl rfl rfl (X₁ _ _ hcode) rfl hvs hfile T.top ?_
      refine ks_loadName_global rfl lu (loadGlobal_builtin (env := ksEnv q (iS f) hh.objs.size fI (.ref cda) cc) (gl.keeps k) T.noS (bl.keeps k) hmb ⟨rfl, ?_⟩)
      refine wpAny_loadName_free rfl lc rfl ⟨_, X₁ _ _ hcell, rfl⟩ ?_
      refine wpAny_loadName_local rfl ls hns mself ?_
      refine ks_wpAny_isType_cls hD1 hD2 ⟨rfl, ?_⟩
      refine ks_wpAny_call_super hD1 hD2 hx₁ rfl (fun c e => nomatch e) (looks_mroIn X₁ T.sub) (fun h₂ e₂ k₂ => ?_)
      have X₂ : K.In h₂ := X₁.keeps k₂
      have hx₂ := k₂ _ _ hx₁
      have sup := T.sup
      unfold ks_superIn at sup
      rw [hcl] at sup
      have I₂ : InstAt h₂ x (excO C t0) C none := ⟨hx₂, rfl, rfl, trivial⟩
      refine kxs_getMethod kxs_ValueError e₂ (looks_opaque X₂ T.opq) (l₀ := .ref C :: bm) (fun A Q E s k' q' => wpAny_bind ((looks_clsIn X₂ hcl) A _ E s k' (wpAny_pure q'))) rfl X₂ sup (I₂.type.andThen (looks_subIn X₂ T.isV)) (ks_ne X₂ I₂ hcl) (by decide) ?_
      have X₃ : K.In (h₂.push (kxs_mw "ValueError.__init__" x)) := X₂.keeps fun b o e => Heap.get?_push_of_some _ e
      refine kxs_callWith (i := "ValueError.__init__") (x := x) rfl (evalArgs_plain (spliced_cons (Constant_str (k := kk) (pos := qs 3) (spliced_nil ⟨Heap.get?_push_size _ rfl, ?_⟩))))
      refine mw_call (X₃ _ _ hC) (Heap.get?_push_of_some _ hx₂) (Heap.get?_push_size _ rfl) (by rw [sizeLine_eq]; exact (by decide : 1 ≤ 16777216)) fun h₄ k₄ hx₄ => ?_
      -- self.f = f
      have X₄ : K.In h₄ := fun a o e => k₄ a o (fun z => by rw [z, hnx] at e; cases e) (X₃ a o e)
      have lx : hh.objs.size ≠ x := Nat.ne_of_gt (Heap.lt_size hx)
      have hns₄ : h₄.Ns hh.objs.size fun y => (List.reverse [((PySem.Str.ofString "self"), Value.ref x), (f, v)]).lookup y := by
        obtain ⟨oL, es, ep, hL, r⟩ := hns
        exact ⟨oL, es, ep, k₄ _ _ lx (Heap.get?_push_of_some _ (k₂ _ _ hL)), r⟩
      refine wpAt_of_wpAny ?_
      refine wpAny_execs_cons (plainObj_wpAny_Assign_Attribute ?_)
      refine wpAny_Name (wpAny_loadName_local rfl lf hns₄ mf ?_) f4
      refine wpAny_Name (wpAny_loadName_local rfl ls hns₄ mself ?_) (by decide)
      refine set_plain X₄ (ox := excO C _) (od := none) ⟨hx₄, rfl, rfl, trivial⟩ T.sa ?_
      refine exc_osa X₄ hx₄ hcl (show refsVE (.ref C :: bm) = true from hbm) rfl T.noN (fun h₅ tk₅ dx k₅ dn dne hx₅ hn₅ => ?_)
      refine wpAny_execs_nil (hq h₅ tk₅ dx _ ⟨fun b o hb e => k₅ b o hb (k₄ b o hb (Heap.get?_push_of_some _ (k₂ _ _ (k b o e)))), hx₅, Nat.le_trans ?_ dn, dne, hn₅⟩)
      have hlt : hh.objs.size < h₄.objs.size := hns₄.lt
      exact Nat.le_of_lt hlt
/-- a made error -/
structure ExM (h h' : Heap) (e C d : Addr) (f : Str) (v : Value) : Prop where
  keep : ∀ b o, h.get? b = some o → h'.get? b = some o
  new : h.objs.size ≤ e
  obj : ∃ oe vs, h'.get? e = some oe ∧ oe.cls = .ref C ∧ oe.dict = some d ∧ oe.data = .fields vs ∧ vs[1]? = some .none
  dbig : h.objs.size ≤ d
  dne : d ≠ e
  ns : h'.Ns1 d (fun y => if y = f then some v else none)
theorem exi_made (T : ExI prog K mg C D fI cc cda cl f q msg) {v : Value} {s : Shared} (X : K.In s.heap) (hlim : s.heap.NoLimit) (gl : s.heap.Ns mainGlobals mg) (bl : s.heap.Ns builtinsNs mb) (hmb : mb "super" = some (.type "super")) (hroom : A.depth + 1 < recursionLimit)
    (hq : ∀ h' tk e d, ExM s.heap h' e C d f v → R (.ok (.ret (.ref e))) { s with heap := h', toks := tk }) : codeAny (model prog w) A (.call (.ref C) ⟨[v], []⟩) R s := by
  obtain ⟨nm, qn, N, bs, bm, sn, sub, ab, col, dd, k0, k1, k2, k3, k5, hC, hbm⟩ := T.cls
  obtain ⟨hh, g, dr, tk, os⟩ := s
  have up : ∀ b o, hh.get? b = some o → ((hh.push (kdv_tup [v])).push (excO C hh.objs.size)).get? b = some o := fun b o e => Heap.get?_push_of_some _ (Heap.get?_push_of_some _ e)
  have he : ((hh.push (kdv_tup [v])).push (excO C hh.objs.size)).get? (hh.objs.size + 1) = some (excO C hh.objs.size) := by heap_get
  have nk : K.lookup (hh.objs.size + 1) = none := by
    cases e : K.lookup (hh.objs.size + 1) with
    | none => rfl
    | some o => exact absurd (Heap.lt_size (X _ _ e)) (Nat.not_lt_of_le (Nat.le_succ _))
  refine call_own PySem.F.excBase_ValueError (fun Y => refsVE_contains Y bm hbm) (X _ _ hC) (looks_findIn X T.iC) (fun self => bind_fn X self T.tC) (by rw [sizeLine_eq]; exact (by decide : 1 ≤ 16777216)) ?_
  refine exi_init (s := ⟨(hh.push (kdv_tup [v])).push (excO C hh.objs.size), g, dr, tk, os⟩) T (X.keeps up) (hlim.keeps up) (gl.keeps up) (bl.keeps up) hmb he nk hroom fun h' tk' dx t1 M => ?_
  have dn : hh.objs.size + 1 + 1 ≤ dx := by
    have z := M.dbig
    rw [Heap.size_push, Heap.size_push] at z
    exact z
  exact ⟨rfl, hq h' tk' (hh.objs.size + 1) dx ⟨fun b o e => M.keep b o (Nat.ne_of_lt (Nat.lt_succ_of_lt (Heap.lt_size e))) (up b o e), Nat.le_succ _, ⟨_, _, M.obj, rfl, rfl, rfl, rfl⟩, Nat.le_trans (Nat.le_trans (Nat.le_succ _) (Nat.le_succ _)) dn, M.dne, M.ns⟩⟩
end
end DL
namespace DL
open PySem PySem.Spec PyProof.Rows L2
theorem relO_one {f : Str} {v : V} {u : Value} (r : RelV v u) (y : Str) : RelO (List.lookup y [(f, v)]) (if y = f then some u else none) := by
  by_cases h : y = f
  · subst h
    rw [if_pos rfl]
    simp only [List.lookup, beq_self_eq_true]
    exact r
  · have hb : (y == f) = false := beq_eq_false_iff_ne.mpr h
    rw [if_neg h]
    simp only [List.lookup, hb]
    trivial
/-- cl(e) -/
theorem exi_pmk {P : Program} {w : World} {K : PySem.W.Frag} {mg : Str → Option Value} {base : Heap} {cn : String → Addr} {cl f : String} {D fI cc cda : Addr} {q msg : Str} (T : ExI P K mg (cn cl) D fI cc cda (Str.ofString cl) (Str.ofString f) q msg)
    (hdb : (Str.ofString cl == ("__debug__" : Str)) = false) : ExcF P w K mg base cn 3 cl f := by
  intro X k e1 e2 e3 e4 e5 hr hj hg a ta p pos ha he hpl
  subst e1 e2 e3 e4 e5
  intro pins s σ H Q I h
  refine wpAny_Call_Name_kw (ld_glob I hg T.gC ?_ hdb)
  refine PySem.W.callWith_K (h₀ := X.base) I.ok.mod.kin T.kC (thn (ha.run pos pins s σ H _ I h) fun us s1 hh => ?_) he hpl
  obtain ⟨vs, H1, I1, r1, v, ev, q1⟩ := hh
  subst ev
  refine ⟨I1.kIn, ?_⟩
  obtain ⟨u, eu, rv⟩ := vals1 r1
  subst eu
  show wpAny _ _ (PySem.call (.ref (cn cl)) [u]) _ _ _
  obtain ⟨mb, bns, hmb⟩ := I1.mod.blt
  have hsup : mb "super" = some (.type "super") := (hmb "super" (by decide)).trans (by kernel_rfl)
  have lim := I1.nolimit
  have bk := I1.bk
  obtain ⟨hp, g, dr, tk, os⟩ := s1
  refine wpAny_call (exi_made T I1.kIn lim (I1.mod.glob.keeps bk) (bns.keeps bk) hsup (by have := hr.dp; omega) fun h' tk' e d M => ?_)
  show MkP X pins σ Q (.ref e) ⟨h', g, dr, tk', os⟩
  obtain ⟨oe, fv, hoe, hc, hd, hdat, h1⟩ := M.obj
  have hns := M.ns
  obtain ⟨G', g1, g2⟩ := restrict h' fun b => decide (b ≠ e)
  have gk : ∀ b, b ≠ e → G'.get? b = h'.get? b := fun b hb => g1 b (decide_eq_true hb)
  have ge : G'.get? e = none := g2 e (by simp)
  have old : ∀ b o, hp.get? b = some o → G'.get? b = some o := fun b o z => (gk b (Nat.ne_of_lt (Nat.lt_of_lt_of_le (Heap.lt_size z) M.new))).trans (M.keep b o z)
  have ob : ObjOk X.prog X.w (upd H1 d (.xd [(Str.ofString f, v)])) G' d (.xd [(Str.ofString f, v)]) := ⟨_, hns.at (fun o z => (gk d M.dne).trans z), fun y => relO_one rv y⟩
  have J : Inv X pins σ (upd H1 d (.xd [(Str.ofString f, v)])) ⟨G', g, dr, tk', os⟩ := I1.laid (t' := tk') old M.dbig ob
  refine ⟨e, oe, fv, ⟨G', g, dr, tk', os⟩, _, .ref (cn cl), some d, rfl, J, fun b o z => ?_, ge, hoe, ⟨hc, hd⟩, hdat, h1, ?_, rfl, I1.bare, raises_own T.exC T.tyC, q1 d (I1.hok.fresh M.dbig)⟩
  · by_cases hb : b = e
    · have z' : G'.get? b = some o := z
      rw [hb, ge] at z'; cases z'
    · exact (gk b hb).symm.trans z
  · rw [upd_ne (Ne.symm M.dne)]
    exact I1.hok.fresh M.new
end DL
end

section
set_option maxRecDepth 100000
set_option maxHeartbeats 4000000
/-! methods that say super().m(..): what is said of the def's own code -/
namespace DL
open PySem PySem.Spec PyProof.Rows L2
open PySem.W (ksEnv ksFn ks_superIn)
/-! ### the steps, at the code -/
section
variable {M : Model} {A : Around} {E : Value → Shared → Prop} {s : Shared} {env : PySem.Env} {c : Code}
theorem at_sub {e sl : Expr} {pos : Pos} {Q : Value → Shared → Prop} (h : _root_.PySem.wpAt M A c (eval e env) (fun o s1 => wpAny M A (eval sl env) (fun i s2 => wpAny M A (subscriptTail e sl o i) Q E s2) E s1) E s) :
    _root_.PySem.wpAt M A c (eval (.Subscript e sl pos) env) Q E s := by
  rw [eval_Subscript]
  exact _root_.PySem.wpAt_bind (_root_.PySem.wpAt_mono h (fun o s1 h1 => _root_.PySem.wpAt_of_wpAny (wpAny_bind (wpAny_holding (wpAny_mono h1 (fun i s2 h2 => wpAny_bind (wpAny_standAt h2)) fun _ _ z => z)))) fun _ _ z => z)
theorem at_hold {α : Type} {vs : List Value} {m : Sem α} {Q : α → Shared → Prop} (h : _root_.PySem.wpAt M A c m Q E s) : _root_.PySem.wpAt M A c (holding vs m) Q E s := fun Γ p hc hΓ => by rw [Sem.wp_holding]; exact h Γ p hc hΓ
/-- f(e), one argument -/
theorem at_args {f : Value} {e : Expr} {Q : Args → Shared → Prop} (h : _root_.PySem.wpAt M A c (eval e env) (fun v s1 => Q ⟨[v], []⟩ s1) E s) : _root_.PySem.wpAt M A c (evalArgs f true [(false, eval e env)] []) Q E s := by
  unfold evalArgs
  show _root_.PySem.wpAt M A c (spliced [(false, eval e env)] >>= _) Q E s
  refine _root_.PySem.wpAt_bind ?_
  rw [spliced]
  refine _root_.PySem.wpAt_bind (_root_.PySem.wpAt_mono h (fun v s1 h1 => ?_) fun _ _ z => z)
  simp only [Bool.false_eq_true, if_false]
  refine _root_.PySem.wpAt_of_wpAny (wpAny_bind (wpAny_pure (wpAny_bind (wpAny_holding ?_))))
  rw [spliced]
  refine wpAny_pure (wpAny_pure (_root_.PySem.wpAt_of_wpAny (wpAny_holding ?_)))
  exact wpAny_bind (wpAny_pure (wpAny_bind (wpAny_pure (wpAny_pure h1))))
theorem at_callWith {f : Value} {e : Expr} {pos : Pos} {Q : Value → Shared → Prop} (hf : keeperOf f = pure .machine) (he : backTo pos (starEach [e] env) = [(false, eval e env)])
    (h : _root_.PySem.wpAt M A c (eval e env) (fun v s1 => wpAny M A (PySem.call f [v]) Q E s1) E s) : _root_.PySem.wpAt M A c (callWith pos f [] (backTo pos (starEach [e] env)) []) Q E s := by
  rw [he]
  unfold callWith
  refine _root_.PySem.wpAt_bind (at_hold (at_args (_root_.PySem.wpAt_mono h (fun v s1 h1 => ?_) fun _ _ z => z)))
  refine _root_.PySem.wpAt_of_wpAny (wpAny_bind (wpAny_standAt ?_))
  rw [hf]
  refine wpAny_bind (wpAny_pure ?_)
  exact wpAny_bind (wpAny_mono h1 (fun r s2 hr => wpAny_bind (wpAny_holding (wpAny_point (wpAny_pure hr)))) fun _ _ z => z)
theorem at_callName {x : Str} {f : Value} {e : Expr} {p pos : Pos} {Q : Value → Shared → Prop} (hn : ∀ Q', Q' f s → wpAny M A (eval (.Name x p) env) Q' E s) (hf : keeperOf f = pure .machine) (he : backTo pos (starEach [e] env) = [(false, eval e env)])
    (h : _root_.PySem.wpAt M A c (eval e env) (fun v s1 => wpAny M A (PySem.call f [v]) Q E s1) E s) : _root_.PySem.wpAt M A c (eval (.Call (.Name x p) [e] [] pos) env) Q E s := by
  rw [arm_eval_Call_Name']
  exact _root_.PySem.wpAt_bind (_root_.PySem.wpAt_of_wpAny (hn _ (at_callWith hf he h)))
theorem at_For {target iter : Expr} {body orelse : List Stmt} {pos : Pos} {Q : Flow → Shared → Prop}
    (h : _root_.PySem.wpAt M A c (eval iter env) (fun x s1 => wpAny M A (pyIter x) (fun it s2 =>
      codeAny M A (.forLoop target it body orelse env) (fun r s' => match r with | .ok f => Q f s' | .error e => cameBackBy M A env E e s') s2) E s1) E s)
    (hs : ∀ x, foldedSetIterable iter env x = pure x) : _root_.PySem.wpAt M A c (exec (.For target iter body orelse pos) env) Q E s := by
  rw [exec_For]
  refine _root_.PySem.wpAt_bind (_root_.PySem.wpAt_of_wpAny (wpAny_standAt (_root_.PySem.wpAt_bind (_root_.PySem.wpAt_mono h (fun x s1 h1 => ?_) fun _ _ z => z))))
  refine _root_.PySem.wpAt_of_wpAny (wpAny_bind (wpAny_of_eq (hs x) (wpAny_bind (wpAny_standAt (wpAny_bind (wpAny_holding (wpAny_mono h1 (fun it s2 h2 => wpAny_runOwn h2) fun _ _ z => z)))))))
end
/-! ### t[::-1], t a tuple -/
theorem fm_congr {α β : Type} {f g : α → Option β} : ∀ {l : List α}, (∀ x ∈ l, f x = g x) → l.filterMap f = l.filterMap g
  | [], _ => rfl
  | a :: l, h => by
    rw [List.filterMap_cons, List.filterMap_cons, h a List.mem_cons_self, fm_congr fun x hx => h x (List.mem_cons_of_mem _ hx)]
theorem pick_rev (xs : Array Value) : ((List.range xs.size).filterMap fun (m : Nat) => xs[(((xs.size : Int) - 1) + (m : Int) * (-1)).toNat]?).toArray = xs.toList.reverse.toArray := by
  congr 1
  have e : ((List.range xs.size).filterMap fun (m : Nat) => xs[(((xs.size : Int) - 1) + (m : Int) * (-1)).toNat]?) = (List.range xs.size).reverse.filterMap (xs[·]?) := by
    rw [← PySem.W.krv_range, List.filterMap_map]
    refine fm_congr fun k hk => ?_
    have := List.mem_range.mp hk
    show xs[(((xs.size : Int) - 1) + (k : Int) * (-1)).toNat]? = xs[xs.size - 1 - k]?
    congr 1
    omega
  rw [e, List.filterMap_reverse, PySem.W.krv_all]
section
variable {prog : Program} {w : World} {A : Around} {E : Value → Shared → Prop} {s : Shared}
theorem getItem_tup_rev {t sl : Addr} {items : Array Value} {vs : Value} {Q : Value → Shared → Prop} (ht : IsTup s.heap t items) (hs : s.heap.IsSliceOf sl .none .none vs) (pk : IsPart vs (some (-1)))
    (h : Q (.ref s.heap.objs.size) { s with heap := s.heap.push { cls := .type "tuple", data := .seq items.toList.reverse.toArray } }) (hz : items.size ≤ sizeLine) : wpAny (model prog w) A (getItem (.ref t) (.ref sl)) Q E s := by
  obtain ⟨os, hos, hcs, hds⟩ := id hs
  have hTs : s.TypeIs (.ref sl) "slice" := ⟨os, hos, hcs⟩
  unfold getItem
  refine wpAny_holding ?_
  refine wpAny_bind (wpAny_sequenceKey ht.typeIs (by decide) ?_)
  refine wpAny_bind (wpAny_callSpecial?_slot (name := Str.ofString "__getitem__") ht.typeIs PyProof.Rows.slot_tuple_getitem (wpAny_call_entry PyProof.Rows.slot_tuple_getitem ht.typeIs entry_tuple_getitem ?_ (args_tuple_getitem _ _)))
  show wpAny _ _ (Builtin.Tuple.tupleItemsOf (.ref t) >>= _) _ _ s
  refine wpAny_bind (tupleItemsOf_ ht (wpAny_bind (wpAny_typeOf hTs ?_)))
  rw [if_pos (by decide)]
  refine wpAny_bind ?_
  unfold Builtin.Slice.sliceApplied Builtin.Slice.sliceFields
  refine wpAny_bind (wpAny_bind (wpAny_field hos hds (x := .none) rfl (wpAny_bind (wpAny_field hos hds (x := .none) rfl (wpAny_bind (wpAny_field hos hds (x := vs) rfl (wpAny_pure ?_)))))))
  refine wpAny_bind (HT.slicePart_ pk ?_)
  show wpAny _ _ (if ((-1 : Int) == 0) = true then _ else _) _ _ s
  rw [if_neg (by decide)]
  refine wpAny_bind (HT.slicePart_ .none (wpAny_bind (HT.slicePart_ .none (wpAny_bind (wpAny_pure ?_)))))
  have ea : Builtin.Slice.sliceAdjust none none (-1) (items.size : Int) = ((items.size : Int) - 1, -1) := rfl
  have ep : Builtin.Slice.slicePlaces ((items.size : Int) - 1) (-1) (-1) = items.size := by
    unfold Builtin.Slice.slicePlaces
    rw [if_neg (by decide)]
    by_cases hp : (items.size : Int) - 1 > -1
    · rw [if_pos hp, show (-(-1 : Int)) = 1 by decide, Int.ediv_one]; omega
    · rw [if_neg hp]; omega
  show wpAny _ _ (match Builtin.Slice.sliceAdjust none none (-1) (items.size : Int) with | (lo, hi) => pure (lo, (-1 : Int), Builtin.Slice.slicePlaces lo hi (-1))) _ _ s
  rw [ea]
  show wpAny _ _ (pure ((items.size : Int) - 1, (-1 : Int), Builtin.Slice.slicePlaces ((items.size : Int) - 1) (-1) (-1))) _ _ s
  rw [ep]
  refine wpAny_pure ?_
  have hno : ¬ ((((items.size : Int) - 1) == 0 && (-1 : Int) == 1 && items.size == items.size) = true) := by
    intro q
    rw [Bool.and_eq_true, Bool.and_eq_true] at q
    exact absurd q.1.2 (by decide)
  show wpAny _ _ (if (((items.size : Int) - 1) == 0 && (-1 : Int) == 1 && items.size == items.size) = true then _ else _) _ _ s
  rw [if_neg hno, pick_rev]
  have hk : sizeOk (.seq items.toList.reverse.toArray) := by
    show items.toList.reverse.toArray.size ≤ sizeLine
    rw [List.size_toArray, List.length_reverse, Array.length_toList]
    exact hz
  first
    | exact wpAny_bind (m := Builtin.Tuple.tupleExact _) (wpAny_newObj_type (wpAny_pure ⟨_, rfl, wpAny_pure h⟩) hk)
    | exact wpAny_bind (m := Builtin.Tuple.tupleExact _) (wpAny_newObj_type (wpAny_bind (wpAny_pure (wpAny_pure ⟨_, rfl, wpAny_pure h⟩))) hk)
    | exact wpAny_bind (wpAny_bind (m := Builtin.Tuple.tupleExact _) (wpAny_newObj_type (wpAny_pure (wpAny_pure ⟨_, rfl, wpAny_pure h⟩)) hk))
    | exact wpAny_bind (wpAny_bind (m := Builtin.Tuple.tupleExact _) (wpAny_newObj_type (wpAny_pure ⟨_, rfl, wpAny_pure h⟩) hk))
end
end DL
end

section
set_option maxRecDepth 100000
set_option maxHeartbeats 4000000
/-! rules and packages at the def's own code -/
namespace DL
open PySem PySem.Spec PyProof.Rows L2
open PySem.W (ksEnv ksFn ks_superIn)
abbrev AtC (X : Cx) (b : List Stmt) {α : Type} (t : Sem α) (Q : α → Shared → Prop) (s : Shared) : Prop := _root_.PySem.wpAt (model X.prog X.w) X.A (.func b X.env) t Q X.xe s
structure PEA (X : Cx) (b : List Stmt) (e : Expr) (t : TE) : Prop where
  run : ∀ (pins : List (Addr × Obj)) (s : Shared) (σ : L2.St) (H : Hp) (Q : VK), Inv X pins σ H s → t σ H Q → AtC X b (eval e X.env) (EP X pins σ Q) s
structure PSA (X : Cx) (b : List Stmt) (st : Stmt) (t : TS) : Prop where
  run : ∀ (pins : List (Addr × Obj)) (s : Shared) (σ : L2.St) (H : Hp) (D : Ends), Inv X pins σ H s → t D σ H → AtC X b (exec st X.env) (SP X pins D) s
structure PSsA (X : Cx) (b : List Stmt) (sts : List Stmt) (t : TS) : Prop where
  run : ∀ (pins : List (Addr × Obj)) (s : Shared) (σ : L2.St) (H : Hp) (D : Ends), Inv X pins σ H s → t D σ H → AtC X b (execs sts X.env) (SP X pins D) s
section
variable {X : Cx} {b : List Stmt} {pos pos' p p2 apos : Pos} {e : Expr} {es : List Expr} {te : TE} {st : Stmt} {sts : List Stmt} {t u : TS}
theorem at_thn {α : Type} {M : Model} {A : Around} {c : Code} {m : Sem α} {Q Q' : α → Shared → Prop} {E : Value → Shared → Prop} {s : Shared} (h : _root_.PySem.wpAt M A c m Q E s) (k : ∀ a s', Q a s' → Q' a s') : _root_.PySem.wpAt M A c m Q' E s :=
  _root_.PySem.wpAt_mono h k fun _ _ z => z
theorem psa_of (h : PSs X sts t) : PSsA X b sts t := ⟨fun pins s σ H D I q => _root_.PySem.wpAt_of_wpAny (h.run pins s σ H D I q)⟩
theorem psa_cons (h : PS X st t) (r : PSsA X b sts u) : PSsA X b (st :: sts) (tSeq t u) := by
  refine ⟨fun pins s σ H D I q => ks_wpAt_execs_cons (_root_.PySem.wpAt_of_wpAny (thn (h.run pins s σ H { D with nx := u D } I q) fun f s1 z => ?_))⟩
  cases f with
  | next => obtain ⟨σ', H', I', z⟩ := z; exact r.run pins s1 σ' H' D I' z
  | ret v => exact z
  | brk => exact z
  | cont => exact z
theorem psa_consA (h : PSA X b st t) (r : PSs X sts u) : PSsA X b (st :: sts) (tSeq t u) := by
  refine ⟨fun pins s σ H D I q => ks_wpAt_execs_cons (at_thn (h.run pins s σ H { D with nx := u D } I q) fun f s1 z => ?_)⟩
  cases f with
  | next => obtain ⟨σ', H', I', z⟩ := z; exact _root_.PySem.wpAt_of_wpAny (r.run pins s1 σ' H' D I' z)
  | ret v => exact z
  | brk => exact z
  | cont => exact z
theorem psa_one (h : PSA X b st t) : PSsA X b [st] t := by
  refine ⟨fun pins s σ H D I q => ks_wpAt_execs_cons (at_thn (h.run pins s σ H D I q) fun f s1 z => ?_)⟩
  cases f with
  | next => exact _root_.PySem.wpAt_of_wpAny (wpAny_execs_nil z)
  | ret v => exact z
  | brk => exact z
  | cont => exact z
theorem psa_ret (h : PEA X b e te) : PSA X b (.Return (some e) pos) (tRet te) :=
  ⟨fun pins s σ H D I q => ks_wpAt_Return_some (at_thn (h.run pins s σ H _ I q) fun v s1 ⟨x, H1, I1, r1, q1⟩ => ⟨x, σ, H1, I1, r1, q1⟩)⟩
theorem psa_set {i : Nat} {x : Str} (hN : X.N.Nodup) (hi : X.N[i]? = some x) (hx : Loc X.env.scope x) (h : PEA X b e te) (hs : swapsWith e (some (.Name x pos')) pos.line X.env = pure false) (hf : X.fn x = true ∨ X.env.scope.names.lookup x = some .local) :
    PSA X b (.Assign [.Name x pos'] e pos) (tAsg te (L2.gName i)) :=
  ⟨fun pins s σ H D I q => ks_wpAt_Assign_Name (at_thn (h.run pins s σ H _ I q) fun v s1 ⟨y, H1, I1, r1, q1⟩ => store_ok I1 hN hi hx r1 (fun s2 I2 => ⟨_, H1, I2, q1⟩) hf) hs⟩
theorem pea_slice {r : V → Option Int → Option Int → Hp → VK → Prop} {lo hi : Option Expr} {tl th : TO} (hr : SlR X r) (he : PEA X b e te) (hl : PO X lo tl) (hu : PO X hi th) : PEA X b (.Subscript e (.Slice lo hi none p2) pos) (tSl r te tl th) := by
  refine ⟨fun pins s σ H Q I h => at_sub (at_thn (he.run pins s σ H _ I h) fun v s1 ⟨x, H1, I1, r1, q1⟩ => ?_)⟩
  refine wpAny_Slice (thn (hl.run pins s1 σ H1 _ I1 q1) fun vl s2 ⟨l, H2, I2, pl, q2⟩ => thn (hu.run pins s2 σ H2 _ I2 q2) fun vu s3 ⟨u, H3, I3, pu, q3⟩ => ?_)
  rw [evalPart_none]
  refine wpAny_pure ?_
  have I4 : Inv X pins σ H3 { s3 with heap := s3.heap.push { cls := .type "slice", data := .fields #[vl, vu, .none] } } := I3.kept (t' := s3.toks) fun b ob q => Heap.get?_push_of_some _ q
  obtain ⟨T, id, hT, ht, hg⟩ := hr pins { s3 with heap := s3.heap.push { cls := .type "slice", data := .fields #[vl, vu, .none] } } σ H3 x v vl vu l u s3.heap.objs.size Q I4 r1 (Heap.IsSliceOf.new ..) pl pu q3
  exact tail_any (ops := [.ref s3.heap.objs.size, v]) ht hT hg (by with_unfolding_all rfl)
def tRevT (K : PySem.W.Frag) (te : TE) : TE := tUn (fun x H1 Q => ∃ a xs, x = V.ref a ∧ SqT K H1 a xs ∧ ∀ p, H1 p = none → Q (.ref p) (upd H1 p (.tup xs.reverse))) te
theorem pea_rev {k : Nat} {p1 p3 : Pos} (he : PEA X b e te) : PEA X b (.Subscript e (.Slice none none (some (.UnaryOp .USub (.Constant (.int 1) k p1) p2)) p3) pos) (tRevT X.K te) := by
  refine ⟨fun pins s σ H Q I h => at_sub (at_thn (he.run pins s σ H _ I h) fun v s1 ⟨x, H1, I1, r1, a, xs, ex, hx, q⟩ => ?_)⟩
  subst ex
  cases r1
  have hst : PO X (some (.UnaryOp .USub (.Constant (.int 1) k p1) p2)) (tPart (tUn (rU fun i => .int (-i)) (tC (.int 1)))) := po_some (pe_un un_neg pe_int)
  refine wpAny_Slice (thn (po_none.run pins s1 σ H1 (fun o H2 => o = none ∧ H2 = H1) I1 ⟨rfl, rfl⟩) fun vl s2 ⟨l, H2, I2, pl, el, e2⟩ => ?_)
  subst el e2
  refine thn (po_none.run pins s2 σ H2 (fun o H3 => o = none ∧ H3 = H2) I2 ⟨rfl, rfl⟩) fun vu s3 ⟨u, H3, I3, pu, eu, e3⟩ => ?_
  subst eu e3
  refine thn (hst.run pins s3 σ H3 (fun o H4 => o = some (-1) ∧ H4 = H3) I3 ⟨1, rfl, -1, rfl, rfl, rfl⟩) fun vs s4 ⟨o, H4, I4, ps, eo, e4⟩ => ?_
  subst eo e4
  have evl : vl = .none := by cases pl; rfl
  have evu : vu = .none := by cases pu; rfl
  subst evl evu
  have I5 : Inv X pins σ H4 { s4 with heap := s4.heap.push { cls := .type "slice", data := .fields #[.none, .none, vs] } } := I4.kept (t' := s4.toks) fun b ob q => Heap.get?_push_of_some _ q
  obtain ⟨its, r, ht, hz⟩ := I5.tuple hx
  refine tail_any (ops := [.ref a, .ref s4.heap.objs.size]) ht.typeIs PyProof.Rows.slot_tuple_getitem.lookup ?_ (by with_unfolding_all rfl)
  refine getItem_tup_rev ht (Heap.IsSliceOf.new _ .none .none vs) ps ?_ (by rw [List.size_toArray, ← r.length]; exact hz)
  refine ⟨.ref _, _, I5.laid (t' := s4.toks) (o := .tup xs.reverse) (fun b ob q => Heap.get?_push_of_some _ q) (Nat.le_refl _) ?_, rfl, q _ (I5.hok.fresh (Nat.le_refl _))⟩
  exact ⟨by rw [List.length_reverse]; exact hz, _, r.reverse, ⟨_, Heap.get?_push_size _ rfl, rfl, _, rfl⟩⟩
theorem pea_cb {id : String} {x : Str} {r : List V → Hp → VK → Prop} (hc : CallR X (.builtin id) r) (hg : Gl X x) (hm : X.mg x = none) (hv : bootBuiltins x = some (.builtin id)) (he : PEA X b e te) (hn : x ≠ "__name__") (hdb : (x == ("__debug__" : Str)) = false)
    (hs : backTo pos (starEach [e] X.env) = [(false, eval e X.env)]) : PEA X b (.Call (.Name x p) [e] [] pos) (tCB r (tCons te tNil)) :=
  ⟨fun pins s σ H Q I h => at_callName (fun Q' q => ld_blt I hg hm hv q hn hdb) rfl hs (at_thn (he.run pins s σ H _ I h) fun v s1 ⟨y, H1, I1, r1, q1⟩ => hc pins s1 σ H1 [y] [v] Q I1 (.cons r1 .nil) q1)⟩
theorem pea_ct {T : String} {x : Str} {r : List V → Hp → VK → Prop} (hc : CallR X (.type T) r) (hg : Gl X x) (hm : X.mg x = none) (hv : bootBuiltins x = some (.type T)) (he : PEA X b e te) (hn : x ≠ "__name__") (hdb : (x == ("__debug__" : Str)) = false)
    (hs : backTo pos (starEach [e] X.env) = [(false, eval e X.env)]) : PEA X b (.Call (.Name x p) [e] [] pos) (tCB r (tCons te tNil)) :=
  ⟨fun pins s σ H Q I h => at_callName (fun Q' q => ld_blt I hg hm hv q hn hdb) rfl hs (at_thn (he.run pins s σ H _ I h) fun v s1 ⟨y, H1, I1, r1, q1⟩ => hc pins s1 σ H1 [y] [v] Q I1 (.cons r1 .nil) q1)⟩
/-- a for's turns, its iterator made -/
theorem loop_run {pins : List (Addr × Obj)} {σ : L2.St} {D : Ends} {tg : Expr} {g : TG} {tb : TS} {itv : Value} {s2 : Shared} (hp : PassesOwn (model X.prog X.w) X.A X.env X.xe) (hc : X.calm = true) (hg : PG X tg g) (hb : PSs X sts tb)
    (h : PIE X pins σ tg (fun J H' => ∃ W : Nat → Nat → L2.St → Hp → Prop, (∃ m, W 0 m σ H') ∧ ∀ i m σ H, W i m σ H → (J.stop i H ∧ D.nx σ H) ∨ (J.go i H ∧ ∃ N : L2.St → Hp → Prop, (∀ σ' H', N σ' H' → ∃ m', m' < m ∧ W (i + 1) m' σ' H') ∧
      ∀ x H', J.yld i H x H' → g x σ H' fun σ2 H2 => tb { D with nx := N, ct := N, bk := D.nx } σ2 H2)) itv s2) :
    codeAny (model X.prog X.w) X.A (.forLoop tg itv sts [] X.env) (fun r s' => match r with | .ok f => SP X pins D f s' | .error e => cameBackBy (model X.prog X.w) X.A X.env X.xe e s') s2 := by
  obtain ⟨it, fp, tn, J, H0, ei, I0, Tn, s0, ok0, W, ⟨m0, w0⟩, turns⟩ := h
  subst ei
  have okd : ∀ {K : Hp}, (∀ c ∈ fp, K c = none) → ∀ c ∈ fp, FpOk X pins K c := fun z c hc => ⟨z c hc, (ok0 c hc).2⟩
  refine codeAny_forLoop_any (fun n s' => ∃ i τ K, Inv X pins τ K s' ∧ tn i s'.heap ∧ (∀ c ∈ fp, K c = none) ∧ W i n τ K) ?_ m0 ⟨0, σ, H0, I0, s0, fun c hc => (ok0 c hc).1, w0⟩
  rintro n z ⟨i, τ, K, J1, st1, no1, w1⟩
  rcases turns i n τ K w1 with ⟨halt, dn⟩ | ⟨run, Nx, less, each⟩
  · refine wpAny_passesOwn hp (thn (Tn.done X rfl rfl rfl hc i pins z τ K X.xe J1 (okd no1) st1 halt) fun r z1 ⟨er, J2⟩ => ?_)
    subst er
    exact wpAny_execs_nil ⟨τ, K, J2, dn⟩
  · refine wpAny_passesOwn hp (thn (Tn.item X rfl rfl rfl hc i pins z τ K X.xe J1 (okd no1) st1 run) fun r z1 ⟨u, er, k1⟩ => ?_)
    subst er
    refine wpAny_passesOwn hp (thn k1 fun _ z2 ⟨x, K2, J2, rx, yx, st2, no2⟩ => ?_)
    refine wpAny_passesOwn hp (thn (hg.run _ z2 τ K2 x u _ (J2.pinned (okd no2) (Tn.obj _ _ st2)) rx (each x K2 yx)) fun _ z3 ⟨τ3, K3, J3, k3⟩ => ?_)
    refine wpAny_passesOwn hp (thn (hb.run _ z3 τ3 K3 _ J3 k3) fun f z4 k4 => ?_)
    have on : ∀ {τ4 : L2.St} {K4 : Hp}, Inv X (pins ++ pinsAt fp z2.heap) τ4 K4 z4 → Nx τ4 K4 → ∃ m, m < n ∧ ∃ i τ K, Inv X pins τ K z4 ∧ tn i z4.heap ∧ (∀ c ∈ fp, K c = none) ∧ W i m τ K := fun {τ4 K4} J4 n4 => by
      obtain ⟨m1, lt1, w4⟩ := less τ4 K4 n4
      have pn : ∀ c ∈ fp, ∀ o, z2.heap.get? c = some o → z4.heap.get? c = some o ∧ K4 c = none := fun c hc o e =>
        let q := J4.pin (c, o) (List.mem_append_right _ (List.mem_append_right _ (mem_pinsAt hc e)))
        ⟨q.1, q.2.1⟩
      exact ⟨m1, lt1, i + 1, τ4, K4, J4.unpinned, Tn.keep _ _ _ st2 fun c hc o e => (pn c hc o e).1, fun c hc => let ⟨o, e, _⟩ := Tn.obj _ _ st2 c hc; (pn c hc o e).2, w4⟩
    cases f with
    | next => obtain ⟨τ4, K4, J4, n4⟩ := k4; exact on J4 n4
    | cont => obtain ⟨τ4, K4, J4, n4⟩ := k4; exact on J4 n4
    | brk => obtain ⟨τ4, K4, J4, q4⟩ := k4; exact ⟨τ4, K4, J4.unpinned, q4⟩
    | ret v => obtain ⟨x4, τ4, K4, J4, r4, q4⟩ := k4; exact ⟨x4, τ4, K4, J4.unpinned, r4, q4⟩
/-- for g in e, e at the code -/
theorem psa_for {tg : Expr} {g : TG} {tb : TS} (hp : PassesOwn (model X.prog X.w) X.A X.env X.xe) (hc : X.calm = true) (he : PEA X b e te) (hg : PG X tg g) (hb : PSs X sts tb) (hs : ∀ x, foldedSetIterable e X.env x = pure x) :
    PSA X b (.For tg e sts [] pos) (tFor (iSq X.K te) g tb) := by
  refine ⟨fun pins s σ H D I h => at_For (at_thn (he.run pins s σ H _ I h) fun v s1 ⟨x, H1, I1, r1, a, ex, q⟩ => ?_) hs⟩
  subst ex
  cases r1
  have fin : ∀ {itv : Value} {s2 : Shared}, _ → codeAny (model X.prog X.w) X.A (.forLoop tg itv sts [] X.env) _ s2 := fun {itv s2} z => loop_run (pins := pins) (σ := σ) (D := D) (itv := itv) (s2 := s2) hp hc hg hb z
  have nw : ∀ {o : Obj} {J : It} {tn : Nat → Heap → Prop} {R : It → Hp → Prop}, Turn X.prog X.w X.K tg J [s1.heap.objs.size] s1.heap.objs.size tn → tn 0 (s1.heap.push o) → R J H1 → PIE X pins σ tg R (.ref s1.heap.objs.size) { s1 with heap := s1.heap.push o } := fun {o J tn R} T t0 rr =>
    ⟨s1.heap.objs.size, [s1.heap.objs.size], tn, J, H1, rfl, I1.kept (t' := s1.toks) fun b o e => Heap.get?_push_of_some _ e, T, t0, fun c hc => by
      have e : c = s1.heap.objs.size := by simpa using hc
      subst e
      exact I1.fpOk (Nat.le_refl _) (I1.hok.fresh (Nat.le_refl _)), rr⟩
  rcases q with ⟨⟨xs, hq⟩, q⟩ | ⟨⟨xs, hq⟩, q⟩
  · obtain ⟨its, rv, p, hz⟩ := I1.list hq
    exact wpAny_pyIter_list p.isList (fin (nw (turn_list a _) ⟨_, Heap.get?_push_size _ rfl, rfl, rfl⟩ q))
  · obtain ⟨its, rv, p, hz⟩ := I1.tuple hq
    exact wpAny_pyIter_tuple (show s1.heap.IsTuple a its.toArray from p) (fin (nw (turn_tuple a _) ⟨_, Heap.get?_push_size _ rfl, rfl, rfl⟩ q))
end
end DL
end

section
set_option maxRecDepth 100000
set_option maxHeartbeats 4000000
/-! super().m(..) and the methods that say it -/
namespace DL
open PySem PySem.Spec PyProof.Rows L2
open PySem.W (ksEnv ksFn ks_superIn)
/-- what the written part says of the method m of the class D, its text st, its function at f: its super() is asked by instances of the classes cs alone, the next m above stands at f2 -/
structure SupK (P : Program) (K : PySem.W.Frag) (mg : Str → Option Value) (cn : String → Addr) (D : Addr) (cs : List String) (m q : Str) (st : Stmt) (f f2 cc cda : Addr) : Prop where
  lk : ∃ (oc : Value) (od : Option Addr) (kV doc pm : Value) (an : Option Addr) (ct : Value) (osl : Array (Option Value)), K.lookup f = some ⟨oc, od, .func (ksFn m q (defArgs st) (defBody st) (defScope st) .none kV doc pm an (.ref cda) ct cc), osl⟩
  cd : PySem.W.codeIn K (.ref cda) q = true
  code : ∃ c d vs sl file t, K.lookup cda = some ⟨c, d, .fields vs, sl⟩ ∧ vs[2]? = some (.str file t) ∧ ((P.main.file : Str) == file) = true
  cell : ∃ k d sl, K.lookup cc = some ⟨k, d, .cell (some (.ref D)), sl⟩
  dcl : ∃ cdD, PySem.W.clsIn K D = some cdD
  up : ∀ c ∈ cs, PySem.W.mroIn K (cn c) (.ref D) = some true ∧ ks_superIn K (cn c) D m = some (some (.ref f2))
  ty2 : PySem.W.typeIn K (.ref f2) = some (.type "function")
  fi : PySem.W.fnIn K f2 = true
  noS : mg "super" = none
  opq : PySem.W.nsIn K cStatics "thirdparty.any" = some none
  top : (P.main.scope.names.lookup ("super" : Str)).isSome = false
abbrev nfOf (m q : Str) (st : Stmt) (cc cda : Addr) : NdefX.NF := ⟨m, q, defArgs st, defBody st, defScope st, [(("__class__" : Str), cc)], cda⟩
abbrev CXS (P : Program) (w : World) (K : PySem.W.Frag) (mg : Str → Option Value) (base : Heap) (N : List Str) (m q : Str) (st : Stmt) (cc cda f : Addr) (A : Around) (outer : List PySem.Env) (s : Shared) (H : Hp) (E : XK) : Cx := NdefX.ncx (L2.CX P w) P w K mg base N (nfOf m q st cc cda) f A outer s H E
/-! ### packages at the code -/
structure EXA (cn : String → Addr) (X : Cx) (W : WX) (b : List Stmt) (e : Expr) (f : DE) : Prop where
  ex : ∃ t, PEA X b e t ∧ Den X.K cn W t f
theorem EXA.pe {cn : String → Addr} {X : Cx} {W : WX} {b : List Stmt} {e : Expr} {f : DE} (h : EXA cn X W b e f) : PEA X b e (toE X.K cn W f) := let ⟨_, a, c⟩ := h.ex; ⟨fun pins s σ H Q I ⟨G, ρ, e, l, q, p⟩ => a.run pins s σ H Q I (c G H σ ρ Q l e q p)⟩
structure SXA (cn : String → Addr) (X : Cx) (W : WX) (b : List Stmt) (st : Stmt) (g : DS) : Prop where
  ex : ∃ t, PSA X b st t ∧ DenS X.K cn W t g
structure BXA (cn : String → Addr) (X : Cx) (W : WX) (b : List Stmt) (sts : List Stmt) (g : DS) : Prop where
  ex : ∃ t, PSsA X b sts t ∧ DenS X.K cn W t g
section
variable {cn : String → Addr} {X : Cx} {W : WX} {b : List Stmt} {k j : Nat} {pos pos' p p2 apos : Pos} {e a : Expr} {es : List Expr} {fe : DE} {fs : DA} {st : Stmt} {sts : List Stmt} {gs hs' : DS}
theorem ba_of (h : BX cn X W sts gs) : BXA cn X W b sts gs := ⟨⟨_, psa_of h.ps, h.den⟩⟩
theorem ba_cons (h : SX cn X W st gs) (r : BXA cn X W b sts hs') : BXA cn X W b (st :: sts) (sSeq gs hs') := let ⟨_, r1, r2⟩ := r.ex; ⟨⟨_, psa_cons h.ps r1, ds_seq h.den r2⟩⟩
theorem ba_consA (h : SXA cn X W b st gs) (r : BX cn X W sts hs') : BXA cn X W b (st :: sts) (sSeq gs hs') := let ⟨_, h1, h2⟩ := h.ex; ⟨⟨_, psa_consA h1 r.ps, ds_seq h2 r.den⟩⟩
theorem ba_one (h : SXA cn X W b st gs) : BXA cn X W b [st] gs := let ⟨_, h1, h2⟩ := h.ex; ⟨⟨_, psa_one h1, h2⟩⟩
theorem sa_ret (h : EXA cn X W b e fe) : SXA cn X W b (.Return (some e) pos) (sRet fe) := ⟨⟨_, psa_ret h.pe, ds_ret den_toE⟩⟩
theorem sa_set (i : Nat) {x : Str} (c : Ct X W k) (h : EXA cn X W b e fe) (hi : X.N[i]? = some x := by rfl) (hx : Loc X.env.scope x := by first | exact Or.inl rfl | exact Or.inr rfl) (hs : swapsWith e (some (.Name x pos')) pos.line X.env = pure false := by rfl) (hf : X.fn x = true ∨ X.env.scope.names.lookup x = some .local := by first | exact .inl rfl | exact .inr rfl) :
    SXA cn X W b (.Assign [.Name x pos'] e pos) (sSet i fe) := ⟨⟨_, psa_set c.hN hi hx h.pe hs hf, ds_set den_toE⟩⟩
theorem sa_for {tg : Expr} {vs : List Nat} {gf : DG} (c : Ct X W k) (hp : PassesOwn (model X.prog X.w) X.A X.env X.xe) (h : EXA cn X W b e fe) (hg : GX cn X vs tg gf) (hb : BX cn X W sts gs) (hs : ∀ x, foldedSetIterable e X.env x = pure x := by intro _; rfl) :
    SXA cn X W b (.For tg e sts [] pos) (sFor (DL.iSeq fe) gf gs) := ⟨⟨_, psa_for hp c.hc h.pe hg.pg hb.ps hs, ds_for (d_iseq den_toE) hg.den hb.den⟩⟩
theorem xa_sl {lo hi : Option Expr} {fl fh : DO} (h : EXA cn X W b a fe) (hl : OX cn X W lo fl) (hh : OX cn X W hi fh) : EXA cn X W b (.Subscript a (.Slice lo hi none p2) pos) (eSl slOp fe fl fh) := ⟨⟨_, pea_slice sl_any h.pe hl.po hh.po, d_sl o_sl den_toE hl.den hh.den⟩⟩
theorem d_revT {K : PySem.W.Frag} : DUn K cn (fun x H1 Q => ∃ a xs, x = V.ref a ∧ SqT K H1 a xs ∧ ∀ p, H1 p = none → Q (.ref p) (upd H1 p (.tup xs.reverse))) opRevT := fun G H x dx z Q l px q k => by
  cases dx with
  | tup ds =>
    cases q
    obtain ⟨a, vs, ev, hs, rs⟩ := pk_tup px
    refine ⟨a, vs, ev, l.sqT hs, fun p np => ?_⟩
    obtain ⟨nw, r⟩ := rv_tup l np rs.rev
    exact k _ _ _ nw r
  | _ => cases q
theorem xa_revT {kk : Nat} {p1 p3 : Pos} (h : EXA cn X W b a fe) : EXA cn X W b (.Subscript a (.Slice none none (some (.UnaryOp .USub (.Constant (.int 1) kk p1) p2)) p3) pos) (eUn opRevT fe) := ⟨⟨_, pea_rev h.pe, d_un d_revT den_toE⟩⟩
theorem xa_cb {id : String} {x : Str} {r : List V → Hp → VK → Prop} {f : List D → Option Rv} (hc : CallR X (.builtin id) r) (d : DCl X.K cn r f) (hm : X.mg x = none) (h : EXA cn X W b e fe) (hg : Gl X x := by rfl) (hv : bootBuiltins x = some (.builtin id) := by kernel_rfl) (hn : x ≠ "__name__" := by decide) (hdb : (x == ("__debug__" : Str)) = false := by decide)
    (hs : backTo pos (starEach [e] X.env) = [(false, eval e X.env)] := by rfl) : EXA cn X W b (.Call (.Name x p) [e] [] pos) (eCB f (aCons fe aNil)) := ⟨⟨_, pea_cb hc hg hm hv h.pe hn hdb hs, d_cb d (d_cons den_toE d_nil)⟩⟩
theorem xa_ct {T : String} {x : Str} {r : List V → Hp → VK → Prop} {f : List D → Option Rv} (hc : CallR X (.type T) r) (d : DCl X.K cn r f) (hm : X.mg x = none) (h : EXA cn X W b e fe) (hg : Gl X x := by rfl) (hv : bootBuiltins x = some (.type T) := by kernel_rfl) (hn : x ≠ "__name__" := by decide) (hdb : (x == ("__debug__" : Str)) = false := by decide)
    (hs : backTo pos (starEach [e] X.env) = [(false, eval e X.env)] := by rfl) : EXA cn X W b (.Call (.Name x p) [e] [] pos) (eCB f (aCons fe aNil)) := ⟨⟨_, pea_ct hc hg hm hv h.pe hn hdb hs, d_cb d (d_cons den_toE d_nil)⟩⟩
end
/-! ### super().m(e) -/
def tSup (K : PySem.W.Frag) (cn : String → Addr) (cs : List String) (f2 : Addr) (g : DF) (W : WX) (t : TA) : TE := fun σ H Q => ∃ (a : Addr) (c : String) (dx : Addr) (fs : List (Str × V)), σ[(0 : Nat)]? = some (some (.ref a)) ∧ c ∈ cs ∧ H a = some (.ins (cn c) dx fs) ∧
  ∀ q, H q = none → t σ (upd H q (.met f2 a)) fun vs H2 => H2 q = some (.met f2 a) ∧ spD K cn g (.ref a :: vs) H2 Q fun cls d H' => W cls d σ H'
section
variable {P : Program} {w : World} {K : PySem.W.Frag} {mg : Str → Option Value} {base : Heap} {cn : String → Addr} {D : Addr} {cs : List String} {m q : Str} {st : Stmt} {f f2 cc cda : Addr} {N : List Str} {A : Around} {outer : List PySem.Env} {s0 : Shared} {H0 : Hp} {E : XK} {W : WX} {k j : Nat}
theorem pea_super {g : DF} {e : Expr} {t : TA} {p0 p1 apos pos : Pos} {pl : Sem Bool} (S : SupK P K mg cn D cs m q st f f2 cc cda) (c : Ct (CXS P w K mg base N m q st cc cda f A outer s0 H0 E) W k) (F2 : FnR P w K mg base (L2.CX P w) j f2 (spD K cn g)) (hj : j ≤ k)
    (ha : PA (CXS P w K mg base N m q st cc cda f A outer s0 H0 E) [e] t) (h0 : N[0]? = some ("self" : Str)) (hself : (defScope st).names.lookup ("self" : Str) = some .local) (hp : ((defArgs st).posonlyargs ++ (defArgs st).args).head?.map (·.arg) = some ("self" : Str))
    (hsu : (defScope st).names.lookup ("super" : Str) = some .globalImplicit) (hcl : (defScope st).names.lookup ("__class__" : Str) = some .free) (hm : (m == ("__class__" : Str)) = false)
    (hev : eval (.Call (.Attribute (.Call (.Name "super" p0) [] [] p1) m apos) [e] [] pos) (CXS P w K mg base N m q st cc cda f A outer s0 H0 E).env = (do
      let ov ← attributeBase (.Call (.Name "super" p0) [] [] p1) m (CXS P w K mg base N m q st cc cda f A outer s0 H0 E).env (eval (.Call (.Name "super" p0) [] [] p1) (CXS P w K mg base N m q st cc cda f A outer s0 H0 E).env)
      standAt apos.atName
      let (fn0, first) ← holding [ov] (getMethod ov m pl)
      callWith pos fn0 first (backTo pos (starEach [e] (CXS P w K mg base N m q st cc cda f A outer s0 H0 E).env)) []))
    (he : starEach [e] (CXS P w K mg base N m q st cc cda f A outer s0 H0 E).env = (false, eval e (CXS P w K mg base N m q st cc cda f A outer s0 H0 E).env) :: starEach [] (CXS P w K mg base N m q st cc cda f A outer s0 H0 E).env) :
    PEA (CXS P w K mg base N m q st cc cda f A outer s0 H0 E) (defBody st) (.Call (.Attribute (.Call (.Name "super" p0) [] [] p1) m apos) [e] [] pos) (tSup K cn cs f2 g W t) := by
  obtain ⟨oc, od, kV, doc, pm, an, ct, osl, ho⟩ := S.lk
  obtain ⟨c1, d1, vs1, sl1, file, tf, hcode, hvs, hfile⟩ := S.code
  obtain ⟨kc, dc, slc, hcell⟩ := S.cell
  obtain ⟨cdD, hD⟩ := S.dcl
  obtain ⟨ar, har, hself2⟩ := Option.map_eq_some_iff.mp hp
  refine ⟨fun pins s σ H Q I h => ?_⟩
  obtain ⟨a, cl, dx, fs, hσ, hcs, hH, hq⟩ := h
  obtain ⟨hh, g0, d0, tk, os⟩ := s
  have X1 : K.In hh := I.kIn
  obtain ⟨mL, hns, hl⟩ := I.loc
  obtain ⟨u, ru, lu⟩ := hl 0 _ _ h0 hσ (.inl hself)
  obtain rfl : u = Value.ref a := ru
  have mself : mL "self" = some (.ref a) := by
    rcases lu with ⟨_, e⟩ | ⟨hk, _⟩
    · exact e
    · have hk : (defScope st).names.lookup ("self" : Str) = some .cell ∨ (defScope st).names.lookup ("self" : Str) = some .free := hk
      rcases hk with z | z <;> (rw [hself] at z; cases z)
  obtain ⟨oD, hD1, hD2⟩ : ∃ oD, hh.get? D = some oD ∧ oD.data = .cls cdD := by
    unfold PySem.W.clsIn at hD
    split at hD
    · rename_i c d cd' sl ho'
      cases hD
      exact ⟨_, X1 _ _ ho', rfl⟩
    · cases hD
  obtain ⟨mA, O, _⟩ := ins_get I.hok hH
  obtain ⟨od', IA, _⟩ := O.look
  obtain ⟨hsub, hsup⟩ := S.up cl hcs
  have gl := I.mod.glob.keeps I.bk
  obtain ⟨mb, bns, hmb⟩ := I.mod.blt
  have bl := bns.keeps I.bk
  have hsuper : mb "super" = some (.type "super") := (hmb "super" (by decide)).trans (by kernel_rfl)
  refine ks_wpAt_MethodCall ?_ hev
  refine ks_wpAt_super_base (env := ksEnv q (defScope st) s0.heap.objs.size f (.ref cda) cc) hsu hcl hm rfl (X1 _ _ ho) rfl har rfl (X1 _ _ hcode) rfl hvs hfile S.top ?_
  have hk : (defScope st).kind = .function := I.ok.kind
  refine PySem.W.ks_loadName_global hk hsu (PySem.Calls.loadGlobal_builtin (env := ksEnv q (defScope st) s0.heap.objs.size f (.ref cda) cc) gl S.noS bl hsuper ⟨rfl, ?_⟩)
  refine wpAny_loadName_free hk hcl rfl ⟨_, X1 _ _ hcell, rfl⟩ ?_
  rw [hself2]
  refine wpAny_loadName_local hk hself hns mself ?_
  refine ks_wpAny_isType_cls hD1 hD2 ⟨rfl, ?_⟩
  refine ks_wpAny_call_super hD1 hD2 IA.at_ IA.cls (fun c e => ?_) (PySem.W.looks_mroIn X1 hsub) (fun h2 e2 k2 => ?_)
  · have no := IA.no
    unfold PySem.W.notCls at no
    rw [e] at no
    exact Bool.noConfusion no
  · have I2 : Inv (CXS P w K mg base N m q st cc cda f A outer s0 H0 E) pins σ H ⟨h2, g0, d0, tk, os⟩ := I.kept (t' := tk) k2
    have X2 : K.In h2 := X1.keeps k2
    obtain ⟨of, hof, hofc⟩ : ∃ of, h2.get? f2 = some of ∧ of.cls = .type "function" := by
      have ht : (K.lookup f2).map (·.cls) = some (.type "function") := S.ty2
      cases z : K.lookup f2 with
      | none => rw [z] at ht; cases ht
      | some o => rw [z] at ht; exact ⟨o, X2 _ _ z, Option.some.inj ht⟩
    cases hc : PySem.W.clsIn K (cn cl) with
    | none => unfold ks_superIn at hsup; rw [hc] at hsup; cases hsup
    | some cd =>
      unfold ks_superIn at hsup
      rw [hc] at hsup
      refine ks_wpAny_getMethod_super e2 (PySem.W.looks_opaque X2 S.opq) (l₀ := cd.mro) (fun A Q E s k' q' => wpAny_bind ((PySem.W.looks_clsIn X2 hc) A _ E s k' (wpAny_pure q'))) rfl X2 hsup hof hofc (PySem.W.ks_ne X1 IA hc) hm ?_
      have I3 : Inv (CXS P w K mg base N m q st cc cda f A outer s0 H0 E) pins σ (upd H h2.objs.size (.met f2 a)) ⟨h2.push (PySem.W.methodObj (.ref f2) (.ref a)), g0, d0, tk + 1, os⟩ :=
        I2.laid (t' := tk + 1) (a := h2.objs.size) (o := .met f2 a) (fun b u z => Heap.get?_push_of_some _ z) (Nat.le_refl _) (Heap.get?_push_size h2 rfl)
      have hA := ha.run pos pins _ σ _ _ I3 (hq _ (I2.hok.fresh (Nat.le_refl _)))
      show wpAny _ _ (callWith pos (.ref h2.objs.size) [] (backTo pos (starEach [e] (CXS P w K mg base N m q st cc cda f A outer s0 H0 E).env)) []) _ _ _
      rw [he] at hA ⊢
      refine callwith_met (X := CXS P w K mg base N m q st cc cda f A outer s0 H0 E) (a := a) rfl S.fi (PySem.Calls.evalArgs_plain (thn hA fun us s4 ⟨vs, H4, I4, r4, hm4, hsp⟩ => ⟨met_P I4 hm4, ?_⟩))
      refine wpAny_call (PySem.W.method_call (met_P I4 hm4).1 (codeAny_mono ((F2.mono hj) _ _ s4 H4 (Value.ref a :: us) (V.ref a :: vs) Q _ c.hr I4.env0 (.cons rfl r4) hsp) fun r s' z => ?_))
      cases r with
      | error er => exact (passAt c.tk σ) pins H4 s4 er s' I4 z
      | ok fl =>
        cases fl with
        | ret u => exact I4.after z
        | next => exact z.elim
        | brk => exact z.elim
        | cont => exact z.elim
theorem d_sup {g : DF} {t : TA} {fa : DA} (ha : DenA K cn W t fa) : Den K cn W (tSup K cn cs f2 g W t) (eSup cs g fa) := fun G H σ ρ Q l e q p => by
  unfold eSup at q
  split at q
  · rename_i c ns ds h0
    split at q
    · rename_i hc
      obtain ⟨v, hv, rv⟩ := l.frz 0 _ h0
      have rv0 := rv
      unfold Rep at rv
      obtain ⟨a, dx, vs, ev, hGa, hlen, rds⟩ := rv
      subst ev
      refine ⟨a, c, dx, _, hv, hc.1, l.gh _ _ hGa, fun qa nq => ?_⟩
      obtain ⟨nw, gn⟩ := New.own (u := .met f2 a) l.gh nq
      have l1 := l.new nw
      have noq : ¬ OwnA σ ρ qa := fun ⟨i, s, o, h1, h2, h3⟩ => by
        obtain ⟨b, eb, kb⟩ := l.own i s o h1 h2
        rw [h3] at eb; cases eb
        obtain ⟨_, u, hu, _⟩ := kb.some
        rw [nq] at hu; cases hu
      have p0 := PostE.back (nw.ext (σ := σ) (ρ := ρ)) p
      refine den_bindA (t := t) ha l1 q p0 fun G1 H1 ρ1 vs1 rs e1 l2 r1 q1 => ?_
      cases z : frzs ρ1 rs with
      | none => rw [z] at q1; cases q1
      | some y =>
        obtain ⟨ds1, ρ2⟩ := y
        rw [z] at q1; dsimp only at q1
        obtain ⟨G2, fz, l3, rd⟩ := r1.frzs l2 z
        have e2 := e1.fz fz
        refine ⟨e1.h _ _ upd_same noq, ?_⟩
        cases z2 : g (.obj c ns ds :: ds1) with
        | none => rw [z2] at q1; cases q1
        | some fo =>
          rw [z2] at q1
          refine ⟨G2, .obj c ns ds :: ds1, fo, l3.gh, ?_, z2, ?_⟩
          · unfold Reps
            exact ⟨_, _, rfl, Rep.mono (nw.g.trans e2.g) _ _ rv0, rd⟩
          · cases fo with
            | ret r => cases q1; exact fun G3 H3 v n rr => p0 G3 H3 v (e2.trans n.ext) (l3.new n) ((rr.r l3).back e2.d)
            | ex x => cases q1; exact fun G3 H3 d n xr => p0 G3 H3 d (e2.trans n.ext) (l3.new n) xr
    · cases q
  · cases q
theorem x_super {g : DF} {e : Expr} {fs : DA} {p0 p1 apos pos : Pos} {pl : Sem Bool} (S : SupK P K mg cn D cs m q st f f2 cc cda) (c : Ct (CXS P w K mg base N m q st cc cda f A outer s0 H0 E) W k) (F2 : FnR P w K mg base (L2.CX P w) j f2 (spD K cn g))
    (ha : AX cn (CXS P w K mg base N m q st cc cda f A outer s0 H0 E) W [e] fs) (hj : j ≤ k := by decide) (h0 : N[0]? = some ("self" : Str) := by rfl) (hself : (defScope st).names.lookup ("self" : Str) = some .local := by rfl) (hp : ((defArgs st).posonlyargs ++ (defArgs st).args).head?.map (·.arg) = some ("self" : Str) := by rfl)
    (hsu : (defScope st).names.lookup ("super" : Str) = some .globalImplicit := by rfl) (hcl : (defScope st).names.lookup ("__class__" : Str) = some .free := by rfl) (hm : (m == ("__class__" : Str)) = false := by decide)
    (hev : eval (.Call (.Attribute (.Call (.Name "super" p0) [] [] p1) m apos) [e] [] pos) (CXS P w K mg base N m q st cc cda f A outer s0 H0 E).env = (do
      let ov ← attributeBase (.Call (.Name "super" p0) [] [] p1) m (CXS P w K mg base N m q st cc cda f A outer s0 H0 E).env (eval (.Call (.Name "super" p0) [] [] p1) (CXS P w K mg base N m q st cc cda f A outer s0 H0 E).env)
      standAt apos.atName
      let (fn0, first) ← holding [ov] (getMethod ov m pl)
      callWith pos fn0 first (backTo pos (starEach [e] (CXS P w K mg base N m q st cc cda f A outer s0 H0 E).env)) []) := by rfl)
    (he : starEach [e] (CXS P w K mg base N m q st cc cda f A outer s0 H0 E).env = (false, eval e (CXS P w K mg base N m q st cc cda f A outer s0 H0 E).env) :: starEach [] (CXS P w K mg base N m q st cc cda f A outer s0 H0 E).env := by rfl) :
    EXA cn (CXS P w K mg base N m q st cc cda f A outer s0 H0 E) W (defBody st) (.Call (.Attribute (.Call (.Name "super" p0) [] [] p1) m apos) [e] [] pos) (eSup cs g fs) :=
  ⟨⟨_, pea_super S c F2 hj ha.pa h0 hself hp hsu hcl hm hev he, d_sup den_toA⟩⟩
theorem startF_eq {N : List Str} {vs : List V} : NdefX.startF N vs [none] = L2.start N vs ∨ N.length ≤ vs.length := by
  by_cases h : N.length ≤ vs.length
  · exact .inr h
  · refine .inl ?_
    unfold NdefX.startF L2.start
    congr 1
    obtain ⟨n, e⟩ : ∃ n, N.length - vs.length = n + 1 := ⟨N.length - vs.length - 1, by omega⟩
    rw [e, List.length_singleton, Nat.add_sub_cancel]
    rfl
/-- a method with super() keeps its datum's promise -/
theorem metS_of {ps : List Str} {gd : DS} (S : SupK P K mg cn D cs m q st f f2 cc cda) (Sc : NdefX.NScope N ps [("__class__" : Str)] (defScope st))
    (hbind : ∀ (kV doc pm : Value) (an : Option Addr) (ct : Value) (us : List Value), us.length = ps.length → bindArgs (ksFn m q (defArgs st) (defBody st) (defScope st) .none kV doc pm an (.ref cda) ct cc) ⟨us, []⟩ = pure (ps.zip us))
    (hb : ∀ (A : Around) (outer : List PySem.Env) (s : Shared) (H : Hp) (E : XK), Ct (CXS P w K mg base N m q st cc cda f A outer s H E) (WD E) k →
      PassesOwn (model P w) (CXS P w K mg base N m q st cc cda f A outer s H E).A (CXS P w K mg base N m q st cc cda f A outer s H E).env (CXS P w K mg base N m q st cc cda f A outer s H E).xe →
      BXA cn (CXS P w K mg base N m q st cc cda f A outer s H E) (WD E) (defBody st) (defBody st) gd) :
    FnR P w K mg base (L2.CX P w) (k + 1) f (spD K cn (fn N.length ps.length gd)) := by
  intro A outer s H us vs Q E hr e0 r hsp
  obtain ⟨oc, od, kV, doc, pm, an, ct, osl, lk⟩ := S.lk
  obtain ⟨kc, dc, slc, hcell⟩ := S.cell
  have KX : K.In s.heap := e0.mod.kin.keeps fun b o e => (e0.bs b o e).1
  have lim : s.heap.NoLimit := e0.mod.nolimit.keeps fun b o e => (e0.bs b o e).1
  have hl : vs.length = ps.length := by
    obtain ⟨G, ds, fo, l, rr, hF, _⟩ := hsp
    unfold fn at hF
    split at hF
    · rename_i z; rw [rr.length, z]
    · cases hF
  have hNl : vs.length < N.length := by
    have z := congrArg List.length Sc.pre
    rw [List.length_take, List.length_append, List.length_singleton] at z
    omega
  have C : NdefX.CellsAt [(("__class__" : Str), cc)] [("__class__" : Str)] [none] s.heap H := by
    have at_ : ∀ y c, List.lookup y [(("__class__" : Str), cc)] = some c → c = cc := fun y c z => by
      simp only [List.lookup] at z
      split at z
      · cases z; rfl
      · cases z
    refine ⟨rfl, fun y c z => ?_, fun x y c z1 z2 => ?_, fun i y hy => ?_⟩
    · have e := at_ y c z
      subst e
      exact ⟨(e0.bs _ _ (e0.mod.kin _ _ hcell)).2, _, _, KX _ _ hcell, rfl⟩
    · have key : ∀ x c, List.lookup x [(("__class__" : Str), cc)] = some c → x = "__class__" := fun x c z => by
        simp only [List.lookup] at z
        split at z
        · rename_i hb; exact eq_of_beq hb
        · cases z
      rw [key x c z1, key y c z2]
    · cases i with
      | zero =>
        cases hy
        exact ⟨cc, by simp [List.lookup], fun v z => by cases z⟩
      | succ i => simp at hy
  refine PySem.ks_codeAny_call_defAt (fd := ksFn m q (defArgs st) (defBody st) (defScope st) .none kV doc pm an (.ref cda) ct cc) (body := defBody st) (binds := ps.zip us) hr.depth (KX _ _ lk) rfl lim (PySem.W.codeRec_of KX S.cd) rfl
    (BindsTo.of_eq (hbind kV doc pm an ct us (by rw [← r.length]; exact hl))) Sc.nocell (fun y hy => Sc.par y.1 (List.of_mem_zip hy).1) (fun h₁ hns kp => ?_) Sc.co Sc.gen Sc.kind
  have I : Inv (CXS P w K mg base N m q st cc cda f A outer s H E) [] (NdefX.startF N vs [none]) H { s with heap := h₁, toks := s.toks + (ps.zip us).length } := NdefX.inv_startN Sc hr.hd e0 hl r C hns kp
  have bx := hb A outer s H E ⟨hr.deeper _, takes_of rfl rfl rfl rfl, rfl, Sc.nd⟩ (passes_of (X := CXS P w K mg base N m q st cc cda f A outer s H E) rfl)
  obtain ⟨t, ht, hd⟩ := bx.ex
  have q0 : t { nx := fun _ H' => Q .non H', rt := Q } (NdefX.startF N vs [none]) H := by
    rcases startF_eq (N := N) (vs := vs) with e | e
    · rw [e]; exact body_den hd hsp
    · omega
  show _root_.PySem.wpAt (model P w) (CXS P w K mg base N m q st cc cda f A outer s H E).A (.func (defBody st) (CXS P w K mg base N m q st cc cda f A outer s H E).env) (execs (defBody st) (CXS P w K mg base N m q st cc cda f A outer s H E).env) _ _ _
  refine _root_.PySem.wpAt_mono (ht.run [] _ _ H _ I q0) (fun fl s' hs => ?_) fun e s' hs => hs
  have fin : ∀ {σ' : L2.St} {H' : Hp} {v : V} {u : Value}, Inv (CXS P w K mg base N m q st cc cda f A outer s H E) [] σ' H' s' → RelV v u → Q v H' → CE outer P w H s Q u s' :=
    fun {σ' H' v u} J rv z => ⟨v, H', J.os, J.bare, J.base, J.hok, rv, z⟩
  cases fl with
  | ret u => obtain ⟨v, σ', H', J, rv, z⟩ := hs; exact fin J rv z
  | next => obtain ⟨σ', H', J, z⟩ := hs; exact fin (v := V.non) (u := Value.none) J rfl z
  | brk => obtain ⟨_, _, _, z⟩ := hs; exact z.elim
  | cont => obtain ⟨_, _, _, z⟩ := hs; exact z.elim
end
end DL
end

section
set_option maxRecDepth 100000
set_option maxHeartbeats 4000000
/-! try: body, except clauses with or without a name -/
namespace DL
open PySem PySem.Spec PyProof.Rows L2
abbrev Cl3 := Value × Option Nat × (Addr → Value → Option Addr → TS)
/-- behind a suite its name's slot is empty -/
def offE (i : Option Nat) (D : Ends) : Ends := match i with
  | none => D
  | some i => { nx := fun σ' H' => D.nx (σ'.set i none) H', rt := D.rt, bk := fun σ' H' => D.bk (σ'.set i none) H', ct := fun σ' H' => D.ct (σ'.set i none) H' }
def onS (i : Option Nat) (σ : L2.St) (a : Addr) : L2.St := match i with
  | none => σ
  | some i => σ.set i (some (.ref a))
/-- what the clauses wish of the body's error -/
def wCl (K : PySem.W.Frag) (Wout : WX) (D : Ends) : List Cl3 → WX
  | [] => Wout
  | (c, i, ts) :: r => fun cls d σ H => ∃ b, PySem.W.exmOne K cls c = some b ∧ (b = true → ∀ a, H a = none → ts a cls d (offE i D) (onS i σ a) H) ∧ (b = false → wCl K Wout D r cls d σ H)
inductive ClOk (X : Cx) : List ExceptHandler → List Cl3 → Prop
  | nil : ClOk X [] []
  | no {x : Str} {c : Value} {ts : Addr → Value → Option Addr → TS} {b0 : Stmt} {suite : List Stmt} {np pos' : Pos} {hds : List ExceptHandler} {l : List Cl3} (hc : Names X x c)
      (hsu : ∀ (a : Addr) (oe : Obj) (cls : Value) (d : Option Addr) (pn : List (Addr × Obj)), Zc cls d oe → (∃ vs, oe.data = .fields vs) → PSs (X.suite a ((a, oe) :: pn)) (b0 :: suite) (ts a cls d)) (r : ClOk X hds l) :
      ClOk X (.ExceptHandler (some (.Name x np)) none (b0 :: suite) pos' :: hds) ((c, none, ts) :: l)
  | as_ {x n : Str} {i : Nat} {c : Value} {ts : Addr → Value → Option Addr → TS} {b0 : Stmt} {suite : List Stmt} {np pos' : Pos} {hds : List ExceptHandler} {l : List Cl3} (hi : X.N[i]? = some n) (hln : X.env.kindOf n = some .local) (hc : Names X x c)
      (hsu : ∀ (a : Addr) (oe : Obj) (cls : Value) (d : Option Addr) (pn : List (Addr × Obj)), Zc cls d oe → (∃ vs, oe.data = .fields vs) → PSs (X.suite a ((a, oe) :: pn)) (b0 :: suite) (ts a cls d)) (r : ClOk X hds l) :
      ClOk X (.ExceptHandler (some (.Name x np)) (some n) (b0 :: suite) pos' :: hds) ((c, some i, ts) :: l)
section
variable {X : Cx} {body : List Stmt} {h0 : ExceptHandler} {hds : List ExceptHandler} {l : List Cl3} {pos : Pos} {tb : WX → TS} {Wout : WX}
theorem ps_tryC (hs : X.stack = X.env :: X.outer) (hf : X.env.frame = some X.env.locals) (hN : X.N.Nodup) (tk : Takes X Wout)
    (hb : ∀ (W : WX) (pn : List (Addr × Obj)) (xe : Value → Shared → Prop), Takes (X.tr pn xe) W → PassesOwn (model X.prog X.w) X.A X.env xe → PSs (X.tr pn xe) body (tb W)) (hh : ClOk X (h0 :: hds) l) :
    PS X (.Try body (h0 :: hds) [] [] pos) (fun D σ H => tb (wCl X.K Wout D l) D σ H) := by
  refine ⟨fun pins s σ H D I h => ?_⟩
  have ok := I.ok
  have fr : X.A.frames = some (X.env :: X.outer) := by rw [ok.frames, hs]
  refine wpAny_Try_except ?_
  refine wpAny_mono ((hb (wCl X.K Wout D l) (X.pn ++ pins) (fun e s₁ => wpAny (model X.prog X.w) X.A (noteFrame e X.env) (fun _ s₂ => wpAny (model X.prog X.w) X.A (setFlight e none) (fun _ s₃ =>
    wpAny (model X.prog X.w) X.A (handleBy e X.env (h0 :: hds)) (SP X pins D) X.xe s₃) X.xe s₂) X.xe s₁) (fun u s' xx => ?_) PassesOwn.looking).run [] s σ H D (I.toTry _) h) (fun f s1 hsp => ?_) (fun e s1 he => he)
  · obtain ⟨a, B, sI, pins', σ1, H1, cls, d, eu, J', nb, up, sky, na, os, ag, wish⟩ := xx
    subst eu
    have J : Inv X pins σ1 H1 sI := J'.ofTry ok
    show wpAny (model X.prog X.w) X.A (noteFrame (.ref a) X.env) _ _ _
    refine Sky.land Zc.steady fr hf (by rw [← hs]; exact sky) fun h3 fl3 up3 => ?_
    obtain ⟨oe3, vs3, he3, hz3, hd3⟩ := fl3.there
    have J3 : Inv X pins σ1 H1 { s' with heap := h3 } := J.landed nb fl3.1 (up.trans up3) os ag
    have off : a ∉ frs (X.env :: X.outer) := fun hm => by
      obtain ⟨_, o', e', hnf⟩ := fl3.2.2.1.mem hm
      rw [he3] at e'; cases e'
      exact hnf _ hd3
    have nL : a ≠ X.env.locals := fun z => off (List.mem_filterMap.mpr ⟨X.env, List.mem_cons_self, by rw [hf, z]⟩)
    have nF : a ∉ X.fs := fun hm => by
      obtain ⟨e, he, q⟩ := List.mem_filterMap.mp hm
      exact off (List.mem_filterMap.mpr ⟨e, List.mem_cons_of_mem _ he, q⟩)
    have S3 := J3.suite he3 hd3 na nL nF
    have LT : PySem.W.Looks (model X.prog X.w) h3 (typeOf (.ref a)) cls := fun A Q E s k q => wpAny_typeOf_ref (k _ _ he3) (by rw [hz3.1]; exact q)
    have test : ∀ {x : Str} {np : Pos} {c : Value} {Q : Value → Shared → Prop} {E : Value → Shared → Prop}, Names X x c → Q c { s' with heap := h3 } → wpAny (model X.prog X.w) (X.A.mark (some (.ref a))) (eval (.Name x np) X.env) Q E { s' with heap := h3 } := fun {x np c Q E} hc q => by
      obtain ⟨hg, hdb, hm | ⟨hm, hv, hnn⟩⟩ := hc
      · exact ld_glob (X := X.suite a ((a, oe3) :: (X.pn ++ pins))) S3 hg hm q hdb
      · exact ld_blt (X := X.suite a ((a, oe3) :: (X.pn ++ pins))) S3 hg hm hv q hnn hdb
    have go : ∀ {hds' : List ExceptHandler} {l' : List Cl3}, ClOk X hds' l' → wCl X.K Wout D l' cls d σ1 H1 → wpAny (model X.prog X.w) X.A (handleBy (.ref a) X.env hds') (SP X pins D) X.xe { s' with heap := h3 } := by
      intro hds' l' hk
      induction hk with
      | nil =>
        intro wish
        refine wpAny_handleBy_nil ?_
        obtain ⟨k1, k2, k3, oe, vs, T, oT, ts', he, hz, hd, h1, hr⟩ := id fl3
        unfold PySem.passOn
        refine wpAny_bind (wpAny_field he hd h1 ?_)
        rw [if_neg (show ¬ ((Value.ref T == Value.none) = true) from by simp)]
        have out : wpAny (model X.prog X.w) X.A (setFlight (.ref a) X.env.frame) (fun _ s4 => wpAny (model X.prog X.w) X.A (throw (.ref a) : Sem Flow) (SP X pins D) X.xe s4) X.xe { s' with heap := h3 } := by
          rw [hf]
          refine HandSPX.setFlight_upZ fl3 fun h4 hh4 up4 => wpAny_throw (tk _ _ ?_)
          exact ⟨a, B, sI, pins, σ1, H1, cls, d, rfl, J, nb, (up.trans up3).trans up4, .inr (.inr (by rw [hs]; exact hh4)), na, os, ag, wish⟩
        first
          | exact wpAny_bind (wpAny_pure (wpAny_bind out))
          | exact wpAny_bind out
      | @no x c ts b0 suite np pos' hds2 l2 hc hsu r ih =>
        intro wish
        obtain ⟨b, hb1, yes, no⟩ := wish
        refine wpAny_handleBy_cons (codeAny_handlers_test ?_) (by intro q; cases q)
        refine test hc ((PySem.W.exm_one (M := model X.prog X.w) J3.kIn LT hb1).here ?_)
        cases b with
        | false => exact ih (no rfl)
        | true =>
          refine codeAny_handlers_suite ?_
          refine HandSPX.lands_againZ fl3 fun h4 fl4 up4 => ?_
          obtain ⟨oe4, vs4, he4, hz4, hd4⟩ := fl4.there
          have J4 : Inv X pins σ1 H1 { s' with heap := h4 } := J.landed nb fl4.1 ((up.trans up3).trans up4) os ag
          have S4 := J4.suite he4 hd4 na nL nF
          refine wpAny_mono ((hsu a oe4 cls d (X.pn ++ pins) hz4 ⟨_, hd4⟩).run [] _ _ H1 _ S4 (yes rfl a na)) (fun f s6 hsp => ?_) (fun _ _ z => False.elim z)
          cases f with
          | next => obtain ⟨σ6, H6, S6, q6⟩ := hsp; exact ⟨_, _, S6.unsuite ok, q6⟩
          | brk => obtain ⟨σ6, H6, S6, q6⟩ := hsp; exact ⟨_, _, S6.unsuite ok, q6⟩
          | cont => obtain ⟨σ6, H6, S6, q6⟩ := hsp; exact ⟨_, _, S6.unsuite ok, q6⟩
          | ret u => obtain ⟨v6, σ6, H6, S6, r6, q6⟩ := hsp; exact ⟨_, _, _, S6.unsuite ok, r6, q6⟩
      | @as_ x n i c ts b0 suite np pos' hds2 l2 hi hln hc hsu r ih =>
        intro wish
        obtain ⟨b, hb1, yes, no⟩ := wish
        refine wpAny_handleBy_cons (codeAny_handlers_test ?_) (by intro q; cases q)
        refine test hc ((PySem.W.exm_one (M := model X.prog X.w) J3.kIn LT hb1).here ?_)
        cases b with
        | false => exact ih (no rfl)
        | true =>
          refine codeAny_handlers_suite_as ?_
          refine HandSPX.lands_againZ fl3 fun h4 fl4 up4 => ?_
          obtain ⟨oe4, vs4, he4, hz4, hd4⟩ := fl4.there
          have J4 : Inv X pins σ1 H1 { s' with heap := h4 } := J.landed nb fl4.1 ((up.trans up3).trans up4) os ag
          have S4 := J4.suite he4 hd4 na nL nF
          refine store_ok (X := X.suite a ((a, oe4) :: (X.pn ++ pins))) (v := .ref a) S4 hN hi (.inl hln) rfl (fun s5 S5 => ?_) (.inr hln)
          refine wpAny_mono ((hsu a oe4 cls d (X.pn ++ pins) hz4 ⟨_, hd4⟩).run [] s5 _ H1 _ S5 (yes rfl a na)) (fun f s6 hsp => ?_) (fun _ _ z => False.elim z)
          have end_ : ∀ {σ6 : L2.St} {H6 : Hp} {Q : Shared → Prop}, Inv (X.suite a ((a, oe4) :: (X.pn ++ pins))) [] σ6 H6 s6 → (∀ s7, Inv X pins (σ6.set i none) H6 s7 → Q s7) →
              wpAny (model X.prog X.w) X.A (do bindName X.env n .none; unbindBehindTheSuite X.env n pos') (fun _ s7 => Q s7) X.xe s6 := fun {σ6 H6 Q} S6 hq => gone_ok (S6.unsuite ok) hN hi hln hq
          cases f with
          | next => obtain ⟨σ6, H6, S6, q6⟩ := hsp; exact end_ S6 fun s7 J7 => ⟨_, _, J7, q6⟩
          | brk => obtain ⟨σ6, H6, S6, q6⟩ := hsp; exact end_ S6 fun s7 J7 => ⟨_, _, J7, q6⟩
          | cont => obtain ⟨σ6, H6, S6, q6⟩ := hsp; exact end_ S6 fun s7 J7 => ⟨_, _, J7, q6⟩
          | ret u => obtain ⟨v6, σ6, H6, S6, r6, q6⟩ := hsp; exact end_ S6 fun s7 J7 => ⟨_, _, _, J7, r6, q6⟩
    exact go hh wish
  · cases f with
    | next => obtain ⟨σ', H', J', q⟩ := hsp; exact wpAny_execs_nil ⟨σ', H', J'.ofTry ok, q⟩
    | brk => obtain ⟨σ', H', J', q⟩ := hsp; exact ⟨σ', H', J'.ofTry ok, q⟩
    | cont => obtain ⟨σ', H', J', q⟩ := hsp; exact ⟨σ', H', J'.ofTry ok, q⟩
    | ret u => obtain ⟨v, σ', H', J', r, q⟩ := hsp; exact ⟨v, σ', H', J'.ofTry ok, r, q⟩
end
end DL
end

section
set_option maxRecDepth 100000
set_option maxHeartbeats 4000000
/-! try: what it does, in plain data -/
namespace DL
open PySem PySem.Spec PyProof.Rows L2
section
variable {K : PySem.W.Frag} {cn : String → Addr} {G H : Hp} {σ : L2.St} {ρ ρ1 ρ2 : Env} {b : Bs} {W : WX}
theorem Bl.off {i : Nat} (B : Bl b G H σ ρ) (hr : ∀ o, ρ[i]? ≠ some (.ref o)) : Bl b G H (σ.set i none) (ρ.set i .no) :=
  ⟨B.g0, B.gn, B.h0, B.hd, fun j o a h1 h2 => by
    rcases set_get h1 with ⟨_, z⟩ | ⟨ne, z⟩
    · cases z
    · rw [List.getElem?_set_ne (by omega)] at h2; exact B.ow j o a z h2, fun j o h => by
    rcases set_get h with ⟨_, z⟩ | ⟨ne, z⟩
    · cases z
    · obtain ⟨a, h1, h2⟩ := B.rf j o z
      exact ⟨a, h1, by rw [List.getElem?_set_ne (by omega)]; exact h2⟩⟩
theorem Rl.off {i : Nat} (l : Rl K cn G H σ ρ) : Rl K cn G H (σ.set i none) (ρ.set i .no) := l.wipe (vs := [i])
/-- the suite x = (s, repr(n.f)) -/
def tsR (cn : String → Addr) (mt : String → Option Bool) (i told : Nat) (s f : String) : Addr → Value → Option Addr → TS := fun a cls d D σ H => ∃ c, mt c = some true ∧
  tAsg (tTup (tCons (tC (.str (Str.ofString s))) (tCons (tCB (fun xs H Q => ∃ i : Int, xs = [V.int i] ∧ i.natAbs.log2 < 1920 ∧ Q (.str (toString i)) H) (tCons (tXf a cls d (cn c) (Str.ofString f) (tVar i)) tNil)) tNil))) (L2.gName told) D σ H
theorem d_rep (hs : ∀ i : Int, (toString i : Str) = Str.ofString (toString i)) {mt : String → Option Bool} {i told : Nat} {s f : String} {x : Exc} {d : Option Addr} {a : Addr} {n : Int} {D : Ends} (l : Rl K cn G H σ ρ) (B : Bl b G H σ ρ) (xr : ExR K cn G H x d) (hm : mt x.cls = some true)
    (hl : look f x.ns x.l = some (.int n)) (hn : n.natAbs < 2 ^ 1900) (hx : x.ns ≠ []) (hit : i ≠ told) (p1 : DL.put ρ i .no = some ρ1) (p2 : DL.put ρ1 told (.frz (.tup [.str s, .str (toString n)])) = some ρ2) (p : PostS K cn W b D (.nx ρ2)) :
    tsR cn mt i told s f a (.ref (cn x.cls)) d (offE (some i) D) (σ.set i (some (.ref a))) H := by
  obtain ⟨e1, hi, hr⟩ := put_set p1
  subst e1
  have hσi : i < σ.length := by rw [← l.len]; exact hi
  rcases xr with h | ⟨dd, vs, ed, hd, hlen, rs⟩
  · exact absurd h hx
  obtain ⟨v, hv, rv⟩ := look_ok hlen rs hl
  unfold Rep at rv
  subst rv
  refine ⟨x.cls, hm, ?_⟩
  refine ⟨.ref a, List.getElem?_set_self hσi, rfl, rfl, dd, _, .int n, ed, hd, hv, ⟨n, rfl, log_of hn, ?_⟩⟩
  refine ⟨(by decide : 2 ≤ sizeLine), fun q nq => ?_⟩
  show D.nx (((σ.set i (some (.ref a))).set told (some (.ref q))).set i none) _
  rw [List.set_comm _ _ hit, List.set_set, List.set_comm _ _ (Ne.symm hit)]
  have rr : Reps K cn G [.str s, .str (toString n)] [.str (Str.ofString s), .str (toString n)] := by
    refine ⟨_, _, rfl, rfl, _, _, rfl, ?_, rfl⟩
    show _ = _
    rw [hs n]
  obtain ⟨nw, r⟩ := New.keep (u := .tup [.str (Str.ofString s), .str (toString n)]) l.gh nq |> fun z => (⟨z, trivial⟩ : _ ∧ True)
  have rep : Rep K cn (upd G q (.tup [.str (Str.ofString s), .str (toString n)])) (.tup [.str s, .str (toString n)]) (.ref q) := by
    unfold Rep
    exact ⟨q, _, rfl, .inl (.inl upd_same), Reps.mono nw.g _ _ rr⟩
  have l1 := (l.new nw).off (i := i)
  have B1 := (B.new nw).off (i := i) hr
  obtain ⟨l2, t2⟩ := l1.put p2 rep
  exact p _ _ _ l2 (B1.tg t2)
/-- the clauses, as they stand and as plain data -/
inductive ClD (K : PySem.W.Frag) (cn : String → Addr) : List Cl3 → List TCl → Prop
  | nil : ClD K cn [] []
  | rep {c : Value} {mt : String → Option Bool} {i told : Nat} {s f : String} {l : List Cl3} {l' : List TCl} (hm : ∀ x b, mt x = some b → PySem.W.exmOne K (.ref (cn x)) c = some b) (r : ClD K cn l l') : ClD K cn ((c, some i, tsR cn mt i told s f) :: l) (.rep mt i told s f :: l')
  | suite {c : Value} {mt : String → Option Bool} {t : TS} {g : DS} {l : List Cl3} {l' : List TCl} (hm : ∀ x b, mt x = some b → PySem.W.exmOne K (.ref (cn x)) c = some b) (hd : DenS K cn W0 t g) (r : ClD K cn l l') : ClD K cn ((c, none, fun _ _ _ => t) :: l) (.suite mt g :: l')
theorem d_clauses (hs : ∀ i : Int, (toString i : Str) = Str.ofString (toString i)) {x : Exc} {d : Option Addr} {D : Ends} {fl : Fl} (l : Rl K cn G H σ ρ) (B : Bl b G H σ ρ) (xr : ExR K cn G H x d) (p : PostS K cn W b D fl) :
    ∀ {ls : List Cl3} {ts : List TCl}, ClD K cn ls ts → tryGo ts x ρ = some fl → wCl K W D ls (.ref (cn x.cls)) d σ H
  | _, _, .nil, h => by cases h; exact p _ _ _ d l B xr
  | _, _, @ClD.rep _ _ c mt i told s f ls ts hm r, h => by
    unfold tryGo at h
    cases z : mt x.cls with
    | none => rw [z] at h; cases h
    | some bb =>
      refine ⟨bb, hm _ _ z, fun hb a na => ?_, fun hb => ?_⟩
      · subst hb
        rw [z] at h; dsimp only at h
        split at h
        · rename_i n hl
          split at h
          · rename_i hc
            split at h
            · rename_i ρ1 q1
              split at h
              · rename_i ρ2 q2
                cases h
                exact d_rep hs l B xr z hl hc.1 hc.2.1 hc.2.2 q1 q2 p
              · cases h
            · cases h
          · cases h
        · cases h
      · subst hb
        rw [z] at h
        exact d_clauses hs l B xr p r h
  | _, _, @ClD.suite _ _ c mt t g ls ts hm hd r, h => by
    unfold tryGo at h
    cases z : mt x.cls with
    | none => rw [z] at h; cases h
    | some bb =>
      refine ⟨bb, hm _ _ z, fun hb a na => ?_, fun hb => ?_⟩
      · subst hb
        rw [z] at h; dsimp only at h
        cases z1 : g ρ with
        | none => rw [z1] at h; cases h
        | some f1 =>
          rw [z1] at h
          refine hd b G H σ ρ D l B f1 z1 ?_
          cases f1 with
          | ex x ρ => cases h
          | _ => cases h; exact p
      · subst hb
        rw [z] at h
        exact d_clauses hs l B xr p r h
theorem ds_try (hs : ∀ i : Int, (toString i : Str) = Str.ofString (toString i)) {tb : WX → TS} {gb : DS} {ls : List Cl3} {ts : List TCl} (hb : ∀ W, DenS K cn W (tb W) gb) (hc : ClD K cn ls ts) : DenS K cn W (fun D σ H => tb (wCl K W D ls) D σ H) (sTry gb ts) := fun b G H σ ρ D l B fl q p => by
  unfold sTry at q
  cases z : gb ρ with
  | none => rw [z] at q; cases q
  | some f1 =>
    rw [z] at q
    refine hb (wCl K W D ls) b G H σ ρ D l B f1 z ?_
    cases f1 with
    | ex x ρ1 => exact fun G' H' σ' d l1 B1 xr => d_clauses hs l1 B1 xr p hc q
    | nx ρ1 => cases q; exact p
    | rt r ρ1 => cases q; exact p
    | bk ρ1 => cases q; exact p
    | ct ρ1 => cases q; exact p
end
/-! ### packages -/
section
variable {cn : String → Addr} {X : Cx} {W : WX} {k : Nat}
theorem ps_ex {α : Type} {st : Stmt} {q : α → Prop} {t : α → TS} (h : ∀ c, q c → PS X st (t c)) : PS X st (fun D σ H => ∃ c, q c ∧ t c D σ H) := ⟨fun pins s σ H D I ⟨c, h1, h2⟩ => (h c h1).run pins s σ H D I h2⟩
/-- the clauses of a try, as both -/
structure ClX (cn : String → Addr) (X : Cx) (hds : List ExceptHandler) (ts : List TCl) : Prop where
  ex : ∃ ls, ClOk X hds ls ∧ ClD X.K cn ls ts
theorem cl_nil : ClX cn X [] [] := ⟨⟨_, .nil, .nil⟩⟩
/-- except C: a suite -/
theorem cl_suite {x : Str} {c : Value} {mt : String → Option Bool} {b0 : Stmt} {suite : List Stmt} {np pos' : Pos} {hds : List ExceptHandler} {g : DS} {ts : List TCl} (hc : Names X x c) (hm : ∀ x b, mt x = some b → PySem.W.exmOne X.K (.ref (cn x)) c = some b)
    (hb : ∀ (a : Addr) (pn : List (Addr × Obj)), BX cn (X.suite a pn) W0 (b0 :: suite) g) (r : ClX cn X hds ts) : ClX cn X (.ExceptHandler (some (.Name x np)) none (b0 :: suite) pos' :: hds) (.suite mt g :: ts) :=
  let ⟨ls, h1, h2⟩ := r.ex
  ⟨⟨_, .no (ts := fun _ _ _ => toS X.K cn W0 g) hc (fun a oe _ _ pn _ _ => (hb a ((a, oe) :: pn)).ps) h1, .suite hm den_toS h2⟩⟩
/-- except C as n: x = (s, repr(n.f)) -/
theorem cl_rep (i told : Nat) {x n y : Str} {c : Value} {mt : String → Option Bool} {s f : String} {kk tk : Nat} {np pos' pos yp cp rp ap fp rpos tp : Pos} {hds : List ExceptHandler} {ts : List TCl} (hc : Names X x c) (hm : ∀ x b, mt x = some b → PySem.W.exmOne X.K (.ref (cn x)) c = some b)
    (hx : ∀ x, mt x = some true → XfC X.K (cn x) ∧ PySem.W.findIn X.K (.ref (cn x)) (Str.ofString f) = some none) (hN : X.N.Nodup) (hrep : X.mg "repr" = none) (r : ClX cn X hds ts)
    (hi : X.N[i]? = some n := by rfl) (hln : X.env.kindOf n = some .local := by rfl) (ht : X.N[told]? = some y := by rfl) (hy : Loc X.env.scope y := by first | exact Or.inl rfl | exact Or.inr rfl) (hg : Gl X "repr" := by rfl)
    (hv : Vis X.env.scope n := by first | exact Or.inl rfl | exact Or.inr (Or.inl rfl) | exact Or.inr (Or.inr rfl)) (hd : (n == ("__debug__" : Str)) = false := by decide) (hcd : (n == ("__classdict__" : Str)) = false := by decide)
    (hf : X.fn y = true ∨ X.env.scope.names.lookup y = some .local := by first | exact .inl rfl | exact .inr rfl)
    (hb : attributeBase (.Name n ap) (Str.ofString f) X.env (eval (.Name n ap) X.env) = eval (.Name n ap) X.env := by rfl)
    (hsw : swapsWith (.Tuple [.Constant (.str (Str.ofString s)) kk cp, .Call (.Name "repr" rp) [.Attribute (.Name n ap) (Str.ofString f) fp] [] rpos] tk tp) (some (.Name y yp)) pos.line X.env = pure false := by rfl)
    (h1 : starEach [.Attribute (.Name n ap) (Str.ofString f) fp] X.env = (false, eval (.Attribute (.Name n ap) (Str.ofString f) fp) X.env) :: starEach [] X.env := by rfl)
    (h2 : starEach [.Constant (.str (Str.ofString s)) kk cp, .Call (.Name "repr" rp) [.Attribute (.Name n ap) (Str.ofString f) fp] [] rpos] X.env = (false, eval (.Constant (.str (Str.ofString s)) kk cp) X.env) :: starEach [.Call (.Name "repr" rp) [.Attribute (.Name n ap) (Str.ofString f) fp] [] rpos] X.env := by rfl)
    (h3 : starEach [.Call (.Name "repr" rp) [.Attribute (.Name n ap) (Str.ofString f) fp] [] rpos] X.env = (false, eval (.Call (.Name "repr" rp) [.Attribute (.Name n ap) (Str.ofString f) fp] [] rpos) X.env) :: starEach [] X.env := by rfl)
    (hpl : (backTo rpos (starEach [] X.env)).any (·.1) = false := by rfl) :
    ClX cn X (.ExceptHandler (some (.Name x np)) (some n) [.Assign [.Name y yp] (.Tuple [.Constant (.str (Str.ofString s)) kk cp, .Call (.Name "repr" rp) [.Attribute (.Name n ap) (Str.ofString f) fp] [] rpos] tk tp) pos] pos' :: hds) (.rep mt i told s f :: ts) :=
  let ⟨ls, q1, q2⟩ := r.ex
  ⟨⟨_, .as_ (ts := tsR cn mt i told s f) hi hln hc (fun a oe cls d pn hz ho => pss_one (ps_ex fun c hcm => ps_set (X := X.suite a ((a, oe) :: pn)) hN ht hy
    (pe_tup (pa_cons pe_str (pa_cons (pe_callB SkE.call_repr_int hg hrep (by kernel_rfl) (pa_cons (pe_xf (hx c hcm).1 (hx c hcm).2 hz ho (pe_var hi hv hd hcd) hb) pa_nil h1) (by decide) (by decide) h1 hpl) pa_nil h3) h2)) hsw hf)) q1, .rep hm q2⟩⟩
theorem s_try {body : List Stmt} {h0 : ExceptHandler} {hds : List ExceptHandler} {pos : Pos} {gb : DS} {ts : List TCl} (c : Ct X W k) (hs : X.stack = X.env :: X.outer) (hf : X.env.frame = some X.env.locals)
    (hb : ∀ (W' : WX) (pn : List (Addr × Obj)) (xe : Value → Shared → Prop), Ct (X.tr pn xe) W' k → PassesOwn (model X.prog X.w) X.A X.env xe → BX cn (X.tr pn xe) W' body gb) (hh : ClX cn X (h0 :: hds) ts) :
    SX cn X W (.Try body (h0 :: hds) [] [] pos) (sTry gb ts) :=
  let ⟨ls, q1, q2⟩ := hh.ex
  ⟨⟨_, ps_tryC hs hf c.hN c.tk (tb := fun W' => toS X.K cn W' gb) (fun W' pn xe tk po => (hb W' pn xe ⟨c.hr, tk, c.hc, c.hN⟩ po).ps) q1, ds_try (fun _ => rfl) (fun _ => den_toS) q2⟩⟩
/-- a slot is set, where all that is known is that names are different -/
theorem s_setN (i : Nat) {x : Str} {e : Expr} {fe : DE} {pos pos' : Pos} (hN : X.N.Nodup) (h : EX cn X W e fe) (hi : X.N[i]? = some x := by rfl) (hx : Loc X.env.scope x := by first | exact Or.inl rfl | exact Or.inr rfl) (hs : swapsWith e (some (.Name x pos')) pos.line X.env = pure false := by rfl) (hf : X.fn x = true ∨ X.env.scope.names.lookup x = some .local := by first | exact .inl rfl | exact .inr rfl) :
    SX cn X W (.Assign [.Name x pos'] e pos) (sSet i fe) := ⟨⟨_, ps_set hN hi hx h.pe hs hf, ds_set h.den⟩⟩
end
end DL
end

section
set_option maxRecDepth 100000
set_option maxHeartbeats 4000000
/-! sorted(t), t a tuple of whole numbers; a method without super() -/
namespace SrtO
open PySem PyProof.Rows Srt
section
variable {prog : Program} {w : World} {A : Around} {E : Value → Shared → Prop} {s : Shared}
theorem collect_tupT {l : Addr} {vs : List Value} {Q : List Value → Shared → Prop} (hl : IsTup s.heap l vs.toArray)
    (h : Q vs { s with heap := (s.heap.push (seqObj "list" #[] 0)).update s.heap.objs.size (Obj.mapSeq (· ++ vs.toArray)) }) (hsz : vs.length ≤ sizeLine) :
    wpAny (model prog w) A (collect (.ref l)) Q E s := by
  obtain ⟨o, ho, hc, n, hd⟩ := id hl
  have ho2 : (s.heap.push (seqObj "list" #[] 0)).get? l = some o := Heap.get?_push_of_some _ ho
  have hn := Heap.get?_push_size s.heap (o := seqObj "list" #[] 0) rfl
  unfold collect
  refine wpAny_bind (wpAny_runValue (codeAny_builtin entry_proto_collect' ?_))
  show wpAny _ _ (do again (.builtin "list.__iadd__" ⟨[← newList [], .ref l], []⟩)) _ _ s
  refine wpAny_bind (wpAny_newList (wpAny_pure ⟨Code.quiet_builtin _ (by decide +kernel), codeAny_builtin entry_list_iadd' ?_⟩))
  show wpAny _ _ (Builtin.List.listExtendWith (.ref s.heap.objs.size) (.ref l) (.ref s.heap.objs.size)) _ _ { s with heap := s.heap.push (seqObj "list" #[] 0) }
  unfold Builtin.List.listExtendWith
  refine wpAny_bind (wpAny_typeOf (T := "tuple") ⟨o, ho2, hc⟩ ?_)
  have ht : (Value.type "tuple" == Value.type "tuple") = true := by rfl
  rw [if_pos (by rw [ht]; simp)]
  refine wpAny_bind (listItems_at ho2 hd ?_)
  refine wpAny_bind (listItems_at (xs := #[]) (n := 0) hn rfl ?_)
  rw [if_neg (by simp)]
  refine wpAny_bind (listUpdate_at (xs := #[]) (n := 0) hn rfl ?_ (Nat.zero_le _) (by show (#[] ++ vs.toArray).size ≤ sizeLine + 1; simp only [Array.size_append, List.size_toArray, List.length_nil]; omega))
  refine wpAny_pure ?_
  show wpAny (model prog w) A (do
      let o ← load s.heap.objs.size
      match o.data with
      | .seq xs _ => pure xs.toList
      | _ => unsupported "internal:collect") Q E { s with heap := (s.heap.push (seqObj "list" #[] 0)).update s.heap.objs.size (Obj.mapSeq (· ++ vs.toArray)) }
  refine wpAny_bind (wpAny_load (get?_update_seq hn _) ?_)
  show wpAny _ _ (pure ((#[] : Array Value) ++ vs.toArray).toList) Q E _
  rw [show ((#[] : Array Value) ++ vs.toArray).toList = vs by simp]
  exact wpAny_pure h
theorem sorted_ordT {l : Addr} {vs : List Value} {ltv : Value → Value → Bool} {Q : Value → Shared → Prop} (O : Swo ltv) (hl : IsTup s.heap l vs.toArray) (hz : vs.length ≤ sizeLine)
    (hS : 2 ≤ vs.length → ∀ (h₁ : Heap) (a : Addr), SortableO prog w A.in1.in1 { s with heap := h₁ } a vs ltv)
    (h : ∀ out : List Value, Srtd ltv out → Stb ltv out vs → Q (.ref (s.heap.objs.size + 1)) { s with heap := sortedAll s.heap vs out.toArray }) :
    wpAny (model prog w) A (call (.builtin "sorted") [.ref l]) Q E s := by
  refine Calls.call_function_entry kind_sorted plain_sorted entry_sorted (args_sorted1 _) ?_
  unfold Builtin.«sorted»
  refine wpAny_bind (m := checkCount "sorted" 1 1 _) (wpAny_pure ?_)
  refine wpAny_bind (collect_tupT hl ?_ hz)
  refine wpAny_bind (wpAny_newList ?_ hz)
  have hsz : ((s.heap.push (seqObj "list" #[] 0)).update s.heap.objs.size (Obj.mapSeq (· ++ vs.toArray))).objs.size = s.heap.objs.size + 1 := by
    rw [Heap.size_update, size_push']
  have hoL : (((s.heap.push (seqObj "list" #[] 0)).update s.heap.objs.size (Obj.mapSeq (· ++ vs.toArray))).push (seqObj "list" vs.toArray 0)).get? (s.heap.objs.size + 1) = some (seqObj "list" vs.toArray 0) := by
    rw [← hsz]; exact Heap.get?_push_size _ rfl
  show wpAny _ _ _ _ _ { s with heap := ((s.heap.push (seqObj "list" #[] 0)).update s.heap.objs.size (Obj.mapSeq (· ++ vs.toArray))).push (seqObj "list" vs.toArray 0) }
  rw [hsz]
  refine wpAny_bind (wpAny_holding (wpAny_call_entry slot_list_sort ⟨_, hoL, rfl⟩ entry_list_sort (list_sort_ord O hoL hz (fun h2 => hS h2 _ _) fun out hs hb => ⟨_, rfl, ?_⟩) (args_list_sort _)))
  exact wpAny_pure ⟨_, rfl, h out hs hb⟩
end
end SrtO
namespace DL
open PySem PySem.Spec PyProof.Rows L2
def rSortedIT (K : PySem.W.Frag) : List V → Hp → VK → Prop := fun vs H Q => ∃ (a : Addr) (ns : List Int), vs = [V.ref a] ∧ SqT K H a (ns.map V.int) ∧
  ∀ (ns' : List Int) (p : Addr), ns'.Perm ns → ns'.Pairwise (· ≤ ·) → H p = none → Q (.ref p) (upd H p (.lst (ns'.map V.int)))
section
variable {X : Cx} {K : PySem.W.Frag} {cn : String → Addr}
theorem cr_sortedIT : CallR X (.builtin "sorted") (rSortedIT X.K) := by
  intro pins s σ H vs us Q I r h
  obtain ⟨a, ns, rfl, hs, q⟩ := h
  obtain ⟨its, rv, hl, hz⟩ := I.tuple hs
  rw [Vals.ref1 r]
  have hi := rv.ints
  refine SrtO.sorted_ordT SrtO.swo_int hl (by rw [← rv.length]; exact hz) (fun h2 h₁ a' => SrtO.ints_sortable hi h2) fun out h1 h2 => ?_
  obtain ⟨k1, k2, k3⟩ := SrtO.ints_out hi h1 h2
  obtain ⟨ep, he'⟩ := PyProof.Rows.sortedAll_at s.heap its out.toArray
  have hlen : ((out.map SrtO.iv).map V.int).length ≤ sizeLine := by
    rw [List.length_map, k2.length_eq]
    rw [List.length_map] at hz
    exact hz
  exact ⟨.ref _, upd H (s.heap.objs.size + 1) (.lst ((out.map SrtO.iv).map V.int)), I.laid (t' := s.toks) (fun _ _ => PyProof.Rows.sortedAll_old) (Nat.le_succ _) ⟨hlen, out, ep, vals_of_ints k1, he'⟩, rfl, q _ _ k2 k3 (I.hok.fresh (Nat.le_succ _))⟩
theorem cr_sortedA : CallR X (.builtin "sorted") (fun vs H Q => rSortedI X.K vs H Q ∨ rSortedIT X.K vs H Q) := fun pins s σ H vs us Q I r h => h.elim (fun h => cr_sortedI pins s σ H vs us Q I r h) fun h => cr_sortedIT pins s σ H vs us Q I r h
theorem c_sortedA : DCl K cn (fun vs H Q => rSortedI K vs H Q ∨ rSortedIT K vs H Q) fSortedA := fun G H vs ds z Q l p q k => by
  unfold fSortedA at q
  split at q
  · exact .inl (c_sorted G H vs _ z Q l p (by unfold fSorted; exact q) k)
  · split at q
    · rename_i is hb
      cases q
      obtain ⟨v, e, pk⟩ := pks1 p
      obtain ⟨a, us, ev, hs, rs⟩ := pk_tup pk
      subst e ev
      have := ints_ok hb rs
      subst this
      refine .inr ⟨a, is, rfl, l.sqT hs, fun ns' p pm pw np => ?_⟩
      rw [sorted_uniq pw (sortI_sorted is) (pm.trans (sortI_perm is).symm)]
      obtain ⟨nw, r⟩ := rv_lst (cn := cn) l np (reps_ints (K := K) (cn := cn) (G := G) (sortI is))
      exact k _ _ _ nw r
    · cases q
  · cases q
variable {P : Program} {w : World} {mg : Str → Option Value} {base : Heap} {k : Nat}
/-- a method without super() -/
theorem met_of {x qual : Str} {st : Stmt} {N ps : List Str} {g : DS} {f : Addr} {fd : FuncData} (F : FunD K x qual (defArgs st) (defBody st) (defScope st) [] [] f fd) (S : FnScope N ps (defScope st))
    (hb : ∀ (cdv : Value) (A : Around) (outer : List PySem.Env) (s : Shared) (H : Hp) (E : XK), Ct (CXD P w K mg base N qual st f cdv A outer s H E) (WD E) k →
      PassesOwn (model P w) (CXD P w K mg base N qual st f cdv A outer s H E).A (CXD P w K mg base N qual st f cdv A outer s H E).env (CXD P w K mg base N qual st f cdv A outer s H E).xe →
      BX cn (CXD P w K mg base N qual st f cdv A outer s H E) (WD E) (defBody st) g)
    (hbind : ∀ (kV doc pm : Value) (an : Option Addr) (cdv ct : Value) (us : List Value), us.length = ps.length → bindArgs (PySem.W.fnOf x qual (defArgs st) (defBody st) (defScope st) .none kV doc pm an cdv ct) ⟨us, []⟩ = pure (ps.zip us)) :
    FnR P w K mg base (L2.CX P w) (k + 1) f (spD K cn (fn N.length ps.length g)) := by
  refine Fun.fnR (Fun.ofD F) (fn_den (Fun.ofD F) S fun cdv A outer s H E hr => ?_) hbind
  have b := hb cdv A outer s H E (ct_of hr S.nd) own_of
  exact ⟨_, b.ps, b.den⟩
end
end DL
end

section
set_option maxRecDepth 100000
set_option maxHeartbeats 4000000
/-! the head's facts of a program with classes, super() and own errors, read by a Hook -/
namespace DL
open PySem PySem.Spec PyProof.Rows L2
open PySem.W (ksFn ks_superIn)
/-! ### what a function is, its closure by names -/
section
variable {K : PySem.W.Frag} {f : Addr} {m q : Str} {st : Stmt}
theorem sup_lk (e : supW K f = supV m q st) (c : bareB K f = true) :
    ∃ (oc : Value) (od : Option Addr) (kV doc pm : Value) (an : Option Addr) (ct : Value) (osl : Array (Option Value)), K.lookup f = some ⟨oc, od, .func (ksFn m q (defArgs st) (defBody st) (defScope st) .none kV doc pm an (.ref (cdaOf K f)) ct (ccOf K f)), osl⟩ ∧
      (bareKB K f = true → kV = .none) := by
  unfold supW at e
  unfold bareB at c
  cases z : K.lookup f with
  | none => rw [z] at c; cases c
  | some o =>
    obtain ⟨oc, od, dt, osl⟩ := o
    rw [z] at c e
    cases dt with
    | func fd =>
      obtain ⟨n1, n2, n3, n4, n5, n6, n7, n8, n9, n10, n11, n12, n13, n14, n15⟩ := fd
      have e2 : (some (n1, n2, n3, n4, n5, n6, n7.map (·.1), n15) : SupW) = supV m q st := e
      unfold supV at e2
      simp only [Option.some.injEq, Prod.mk.injEq] at e2
      obtain ⟨h1, h2, h3, h4, h5, h6, h7, h8⟩ := e2
      subst h1 h2 h3 h4 h5 h6 h8
      have c2 : (match (generalizing := false) n8, n13 with
        | .none, .ref _ => true
        | _, _ => false) = true := c
      cases n7 with
      | nil => cases h7
      | cons y r =>
        cases r with
        | cons _ _ => simp at h7
        | nil =>
          obtain ⟨yn, ya⟩ := y
          have hy : yn = "__class__" := by simpa using h7
          subst hy
          cases n8 with
          | none =>
            cases n13 with
            | ref cda =>
              have e3 : cdaOf K f = cda := by unfold cdaOf; rw [z]
              have e4 : ccOf K f = ya := by unfold ccOf; rw [z]
              rw [e3, e4]
              refine ⟨oc, od, n9, n10, n11, n12, n14, osl, rfl, fun hk => ?_⟩
              unfold bareKB at hk
              rw [z] at hk
              have hk2 : (match (generalizing := false) n9 with
                | .none => true
                | _ => false) = true := hk
              cases n9 with
              | none => rfl
              | _ => cases hk2
            | _ => cases c2
          | _ => cases c2
    | _ => cases c
end
theorem codeB_ok {P : Program} {K : PySem.W.Frag} {cda : Addr} (h : codeB P K cda = true) : ∃ c d vs sl file t, K.lookup cda = some ⟨c, d, .fields vs, sl⟩ ∧ vs[2]? = some (.str file t) ∧ ((P.main.file : Str) == file) = true := by
  unfold codeB at h
  split at h
  · rename_i c d vs sl hk
    split at h
    · rename_i file t hv
      exact ⟨_, _, _, _, _, _, hk, hv, h⟩
    · cases h
  · cases h
theorem cellB_ok {K : PySem.W.Frag} {cc D : Addr} (h : cellB K cc D = true) : ∃ k d sl, K.lookup cc = some ⟨k, d, .cell (some (.ref D)), sl⟩ := by
  unfold cellB at h
  split at h
  · rename_i hk
    have := eq_of_beq h
    subst this
    exact ⟨_, _, _, hk⟩
  · cases h
open He (eqO eqO_ok)
/-! ### classes -/
theorem clsB_ok {K : PySem.W.Frag} {C : Addr} (h : clsB K C = true) : Cls K C := by
  obtain ⟨c1, h⟩ := He.ba h
  obtain ⟨c2, h⟩ := He.ba h
  obtain ⟨c3, c4⟩ := He.ba h
  exact ⟨c1, c2, c3, eqO_ok c4⟩
theorem methB_ok {K : PySem.W.Frag} {C f : Addr} {m : Str} (h : methB K C m f = true) : Meth K C m f := by
  obtain ⟨c1, h⟩ := He.ba h
  obtain ⟨c2, c3⟩ := He.ba h
  exact ⟨eqO_ok c1, c2, c3⟩
theorem mkB_ok {K : PySem.W.Frag} {C : Addr} (h : mkB K C = true) : Mk0 K C := by
  obtain ⟨c1, h⟩ := He.ba h
  obtain ⟨c2, c3⟩ := He.ba h
  exact ⟨c1, eqO_ok c2, c3⟩
theorem conB_ok {K : PySem.W.Frag} {cn : String → Addr} {f c : String} {d : D} (h : conB K cn f c d = true) : Cls K (cn c) ∧ ∃ v u, Con K (cn c) (Str.ofString f) v u ∧ ∀ G, Rep K cn G d v := by
  unfold conB at h
  split at h
  · rename_i s
    obtain ⟨h1, h⟩ := He.ba h
    obtain ⟨h2, h⟩ := He.ba h
    refine ⟨clsB_ok h1, ?_⟩
    split at h
    · rename_i y t hf
      obtain ⟨h3, h4⟩ := He.ba h
      have := of_decide_eq_true h3
      subst this
      exact ⟨.str (Str.ofString s), _, ⟨hf, ⟨t, rfl⟩, eqO_ok h4, by simpa using h2⟩, fun G => by unfold Rep; rfl⟩
    · cases h
  · cases h
/-! ### the module's constants -/
section
variable {K : PySem.W.Frag} {cn : String → Addr}
mutual
theorem repB_ok : ∀ {d : D} {u : Value}, repB K d u = true → ∃ v, RelV v u ∧ ∀ G, Rep K cn G d v
  | .non, u, h => by
    unfold repB at h
    split at h
    · exact ⟨.non, rfl, fun G => by unfold Rep; rfl⟩
    · cases h
  | .bl b, u, h => by
    unfold repB at h
    split at h
    · have := eq_of_beq h; subst this; exact ⟨.bl b, rfl, fun G => by unfold Rep; rfl⟩
    · cases h
  | .int i, u, h => by
    unfold repB at h
    split at h
    · have := of_decide_eq_true h; subst this; exact ⟨.int _, ⟨_, rfl⟩, fun G => by unfold Rep; rfl⟩
    · cases h
  | .str s, u, h => by
    unfold repB at h
    split at h
    · have := of_decide_eq_true h; subst this; exact ⟨.str (Str.ofString s), ⟨_, rfl⟩, fun G => by unfold Rep; rfl⟩
    · cases h
  | .tup ds, u, h => by
    unfold repB at h
    split at h
    · rename_i a
      split at h
      · rename_i c od its n sl hk
        obtain ⟨h1, h⟩ := He.ba h
        obtain ⟨h2, h3⟩ := He.ba h
        obtain ⟨vs, r1, r2⟩ := repsB_ok h3
        have := of_decide_eq_true h1
        subst this
        exact ⟨.ref a, rfl, fun G => by unfold Rep; exact ⟨a, vs, rfl, .inr ⟨_, its, n, hk, rfl, rfl, of_decide_eq_true h2, r1⟩, r2 G⟩⟩
      · cases h
    · cases h
  | .lst _, _, h => by unfold repB at h; cases h
  | .scr _, _, h => by unfold repB at h; cases h
  | .obj _ _ _, _, h => by unfold repB at h; cases h
theorem repsB_ok : ∀ {ds : List D} {us : List Value}, repsB K ds us = true → ∃ vs, Vals vs us ∧ ∀ G, Reps K cn G ds vs
  | [], us, h => by
    unfold repsB at h
    cases us with
    | nil => exact ⟨[], .nil, fun G => by unfold Reps; rfl⟩
    | cons _ _ => cases h
  | d :: ds, us, h => by
    unfold repsB at h
    split at h
    · cases h
    · rename_i u us
      obtain ⟨h1, h2⟩ := He.ba h
      obtain ⟨v, r1, r2⟩ := repB_ok h1
      obtain ⟨vs, r3, r4⟩ := repsB_ok h2
      exact ⟨v :: vs, .cons r1 r3, fun G => by unfold Reps; exact ⟨v, vs, rfl, r2 G, r4 G⟩⟩
end
end
section
variable {K : PySem.W.Frag} {cn : String → Addr} {h : Heap} {mg : Str → Option Value}
theorem gB_ok (X : K.In h) (G : h.Ns mainGlobals mg) {x : Str} {d : D} (c : gB K x d = true) : ∃ v u, mg x = some u ∧ RelV v u ∧ ∀ G, Rep K cn G d v := by
  unfold gB at c
  split at c
  · rename_i u hu
    obtain ⟨v, r1, r2⟩ := repB_ok c
    exact ⟨v, u, PySem.W.mg_of X G hu, r1, r2⟩
  · cases c
theorem atB_ok (X : K.In h) (G : h.Ns mainGlobals mg) {x : Str} {a : Addr} (c : atB K x a = true) : mg x = some (.ref a) := PySem.W.mg_of X G (eqO_ok c)
theorem offB_ok (X : K.In h) (G : h.Ns mainGlobals mg) {x : Str} (c : offB K x = true) : mg x = none := PySem.W.mg_none_of X G (eqO_ok c)
end
end DL
end

section
set_option maxRecDepth 100000
set_option maxHeartbeats 4000000
/-! the head's facts, joined; the Hook -/
namespace DL
open PySem PySem.Spec PyProof.Rows L2
open PySem.W (ksFn ks_superIn)
open He (eqO eqO_ok)
section
variable {P : Program} {K : PySem.W.Frag} {cn : String → Addr} {h : Heap} {mg : Str → Option Value} {D f f2 cc cda : Addr} {cs : List String} {m q : Str} {st : Stmt}
theorem supB_ok (X : K.In h) (G : h.Ns mainGlobals mg) (e : supW K f = supV m q st) (c : supB P K cn D cs m q f f2 cc cda = true) : SupK P K mg cn D cs m q st f f2 cc cda := by
  obtain ⟨c1, c⟩ := He.ba c
  obtain ⟨c2, c⟩ := He.ba c
  obtain ⟨c3, c⟩ := He.ba c
  obtain ⟨c4, c⟩ := He.ba c
  obtain ⟨c5, c⟩ := He.ba c
  obtain ⟨c6, c⟩ := He.ba c
  obtain ⟨c7, c⟩ := He.ba c
  obtain ⟨c8, c⟩ := He.ba c
  obtain ⟨c9, c⟩ := He.ba c
  obtain ⟨c10, c⟩ := He.ba c
  obtain ⟨c11, c⟩ := He.ba c
  obtain ⟨c12, c13⟩ := He.ba c
  have e2 := of_decide_eq_true c2
  have e3 := of_decide_eq_true c3
  subst e2 e3
  obtain ⟨oc, od, kV, doc, pm, an, ct, osl, lk, _⟩ := sup_lk e c1
  exact {
    lk := ⟨oc, od, kV, doc, pm, an, ct, osl, lk⟩
    cd := c4
    code := codeB_ok c5
    cell := cellB_ok c6
    dcl := Option.isSome_iff_exists.mp c7
    up := fun x hx => by
      obtain ⟨a, b⟩ := He.ba (List.all_eq_true.mp c8 x hx)
      exact ⟨of_decide_eq_true a, eqO_ok b⟩
    ty2 := of_decide_eq_true c9
    fi := c10
    noS := offB_ok X G c11
    opq := eqO_ok c12
    top := by simpa using c13 }
end
/-! ### own errors -/
theorem excVE_ok {K : PySem.W.Frag} {C : Addr} (q : excVE K C = true) : ∃ nm qn N bs bm sn sub ab col dd k0 k1 k2 k3 k5, K.lookup C = some (excClassObj nm qn C N bs bm true sn sub ab col dd k0 k1 k2 k3 k5 "ValueError.__new__") ∧ PySem.HandSPX.refsVE bm = true := by
  unfold excVE at q
  split at q
  · rename_i dd cd sl ho
    split at q
    · rename_i C' bm k0 k1 k2 k3 n k5 hm hs
      simp only [Bool.and_eq_true, beq_iff_eq, Bool.not_eq_true'] at q
      obtain ⟨⟨⟨⟨rfl, rfl⟩, hdel⟩, hdc⟩, ht⟩ := q
      obtain ⟨nm, bs, mro, ns, qn, hd, sn, sub, ab, col, del⟩ := cd
      dsimp only at hm hdel hdc
      subst hm hdel hdc
      have hsl : sl = #[k0, k1, k2, k3, some (.builtin "ValueError.__new__"), k5] := by
        obtain ⟨l⟩ := sl
        simp only at hs
        rw [hs]
      subst hsl
      exact ⟨nm, qn, ns, bs, bm, sn, sub, ab, col, dd, k0, k1, k2, k3, k5, ho, ht⟩
    · cases q
  · cases q
def qsOf : List Stmt → Nat → Pos
  | [.Expr (.Call (.Attribute (.Call (.Name _ q0) [] [] q1) _ q2) [.Constant _ _ q3] [] q4) q5, .Assign [.Attribute (.Name _ q6) _ q7] (.Name _ q8) q9], i => match i with
    | 0 => q0 | 1 => q1 | 2 => q2 | 3 => q3 | 4 => q4 | 5 => q5 | 6 => q6 | 7 => q7 | 8 => q8 | _ => q9
  | _, _ => ⟨0, 0, 0, 0⟩
def kkOf : List Stmt → Nat
  | [.Expr (.Call _ [.Constant _ k _] [] _) _, _] => k
  | _ => 0
def apOf : Arguments → Nat → Pos
  | { args := [a, b], .. }, i => if i = 0 then a.pos else b.pos
  | _, _ => ⟨0, 0, 0, 0⟩
section
variable {P : Program} {K : PySem.W.Frag} {h : Heap} {mg : Str → Option Value} {C D fI cc cda : Addr} {cl f q msg : Str} {st : Stmt}
theorem exiB_ok (X : K.In h) (G : h.Ns mainGlobals mg) (e : supW K fI = supV "__init__" q st) (c : exiB P K C D fI cc cda cl f q = true) (ha : defArgs st = iA f (apOf (defArgs st) 0) (apOf (defArgs st) 1)) (hb : defBody st = iB f msg (kkOf (defBody st)) (qsOf (defBody st))) (hs : defScope st = iS f)
    (hev : ∀ env : PySem.Env, ∃ pl : Sem Bool, eval (supE msg (kkOf (defBody st)) (qsOf (defBody st))) env = (do
      let ov ← attributeBase (.Call (.Name "super" (qsOf (defBody st) 0)) [] [] (qsOf (defBody st) 1)) "__init__" env (eval (.Call (.Name "super" (qsOf (defBody st) 0)) [] [] (qsOf (defBody st) 1)) env)
      standAt (qsOf (defBody st) 2).atName
      let (f, first) ← holding [ov] (getMethod ov "__init__" pl)
      callWith (qsOf (defBody st) 4) f first (backTo (qsOf (defBody st) 4) (starEach [.Constant (.str msg) (kkOf (defBody st)) (qsOf (defBody st) 3)] env)) []))
    (bnd : ∀ (p1 p2 : Pos) (kk : Nat) (qs : Nat → Pos) (doc pm : Value) (an : Option Addr) (cdv ct a b : Value), bindArgs (ksFn "__init__" q (iA f p1 p2) (iB f msg kk qs) (iS f) .none .none doc pm an cdv ct cc) ⟨[a, b], []⟩ = pure [(("self" : Str), a), (f, b)])
    (fne : f ≠ "self" ∧ f ≠ "__class__" ∧ f ≠ "super" ∧ (f == ("__debug__" : Str)) = false) : ExI P K mg C D fI cc cda cl f q msg := by
  obtain ⟨c1, c⟩ := He.ba c
  obtain ⟨c2, c⟩ := He.ba c
  obtain ⟨c3, c⟩ := He.ba c
  obtain ⟨c4, c⟩ := He.ba c
  obtain ⟨c5, c⟩ := He.ba c
  obtain ⟨c6, c⟩ := He.ba c
  obtain ⟨c7, c⟩ := He.ba c
  obtain ⟨c8, c⟩ := He.ba c
  obtain ⟨c9, c⟩ := He.ba c
  obtain ⟨c10, c⟩ := He.ba c
  obtain ⟨c11, c⟩ := He.ba c
  obtain ⟨c12, c⟩ := He.ba c
  obtain ⟨c13, c⟩ := He.ba c
  obtain ⟨c14, c⟩ := He.ba c
  obtain ⟨c15, c⟩ := He.ba c
  obtain ⟨c16, c⟩ := He.ba c
  obtain ⟨c17, c⟩ := He.ba c
  obtain ⟨c18, c⟩ := He.ba c
  obtain ⟨c19, c⟩ := He.ba c
  obtain ⟨c20, c⟩ := He.ba c
  obtain ⟨c21, c⟩ := He.ba c
  obtain ⟨c22, c23⟩ := He.ba c
  have e2 := of_decide_eq_true c12
  have e3 := of_decide_eq_true c13
  obtain ⟨oc, od, kV, doc, pm, an, ct, osl, lk, hk⟩ := sup_lk e c10
  have hkv := hk c11
  subst hkv
  rw [ha, hb, hs, ← e2, ← e3] at lk
  exact {
    gC := atB_ok X G c1
    cls := excVE_ok c2
    sa := eqO_ok c3
    noN := eqO_ok c4
    iC := eqO_ok c5
    tC := of_decide_eq_true c6
    kC := c7
    exC := of_decide_eq_true c8
    tyC := of_decide_eq_true c9
    fn := ⟨oc, od, doc, pm, an, ct, osl, _, _, _, _, hev, lk⟩
    cd := c14
    code := codeB_ok c15
    cell := cellB_ok c16
    dcl := Option.isSome_iff_exists.mp c17
    sub := of_decide_eq_true c18
    sup := eqO_ok c19
    isV := of_decide_eq_true c20
    noS := offB_ok X G c21
    opq := eqO_ok c22
    top := by simpa using c23
    bnd := bnd
    fne := fne }
end
/-! ### the Hook -/
section
variable {B : PySem.W.Frag → Bool} {fn : List He.DefD} {sf : List (PySem.W.Frag → Addr)} {sv : List SupW} {K : PySem.W.Frag}
theorem SaysS.b (c : SaysS B fn sf sv K) : B K = true := (He.ba (show (B K && fn.all fun d => d.ok K) = true from congrArg (fun z : AlS => z.1) c)).1
theorem SaysS.def_ (c : SaysS B fn sf sv K) (i : Nat) {d : He.DefD} (h : fn[i]? = some d) : ∃ fd, FunD K d.name d.qual d.params d.body d.scope (d.dvs K) (d.kws K) (He.fAd K d.at_) fd := by
  have c2 := (He.ba (show (B K && fn.all fun d => d.ok K) = true from congrArg (fun z : AlS => z.1) c)).2
  have e : fn.map (fun d => He.fnW K d.at_) = fn.map He.DefD.val := congrArg (fun z : AlS => z.2.1) c
  have e2 : (fn.map fun d => He.fnW K d.at_)[i]? = (fn.map He.DefD.val)[i]? := by rw [e]
  rw [List.getElem?_map, List.getElem?_map, h] at e2
  exact He.DefD.funD (Option.some.inj e2) (List.all_eq_true.mp c2 d (List.mem_of_getElem? h))
theorem SaysS.sup (c : SaysS B fn sf sv K) (i : Nat) {p : PySem.W.Frag → Addr} {v : SupW} (h : sf[i]? = some p) (hv : sv[i]? = some v) : supW K (p K) = v := by
  have e : (sf.map fun p => supW K (p K)) = sv := congrArg (fun z : AlS => z.2.2) c
  have e2 : (sf.map fun p => supW K (p K))[i]? = sv[i]? := by rw [e]
  rw [List.getElem?_map, h, hv] at e2
  exact Option.some.inj e2
end
end DL
end

section
set_option maxRecDepth 100000
set_option maxHeartbeats 4000000
namespace DL
open PySem PySem.Spec PyProof.Rows L2
variable {P : Program} {w : World} {K : PySem.W.Frag} {mg : Str → Option Value} {base : Heap} {cn : String → Addr} {k : Nat}
/-- the law's own def -/
theorem ok_of {x qual : Str} {st : Stmt} {N ps : List Str} {g : DS} {f : Addr} {fd : FuncData} (F : FunD K x qual (defArgs st) (defBody st) (defScope st) [] [] f fd) (S : FnScope N ps (defScope st))
    (hb : ∀ (f : Addr) (cdv : Value) (A : Around) (outer : List PySem.Env) (s : Shared) (H : Hp) (E : XK), Ct (CXD P w K mg base N qual st f cdv A outer s H E) (WD E) k →
      PassesOwn (model P w) (CXD P w K mg base N qual st f cdv A outer s H E).A (CXD P w K mg base N qual st f cdv A outer s H E).env (CXD P w K mg base N qual st f cdv A outer s H E).xe →
      BX cn (CXD P w K mg base N qual st f cdv A outer s H E) (WD E) (defBody st) g) :
    FnOk P w K mg base (L2.CX P w) (k + 1) f fd ps (spD K cn (fn N.length ps.length g)) := fn_den (Fun.ofD F) S fun cdv A outer s H E hr =>
  have b := hb f cdv A outer s H E (ct_of hr S.nd) own_of
  ⟨_, b.ps, b.den⟩
/-- a law whose datum is True of every script -/
theorem law_sp {F : DF} {n : Nat} (h : ∀ ns : List Int, ns.length ≤ n → F [.scr ns] = some (.ret (.val (.bl true)))) (H : Hp) (a : Addr) (ns : List Int) (hl : ns.length ≤ n) (hS : SqL K H a (ns.map V.int)) :
    spD K cn F [.ref a] H (fun v _ => v = .bl true) fun _ _ _ => False :=
  ⟨H, [.scr ns], _, Le.refl H, by unfold Reps; exact ⟨_, _, rfl, by unfold Rep; exact ⟨a, rfl, hS⟩, by unfold Reps; rfl⟩, h ns hl, fun G' H' v _ r => by
    have r1 : Rep K cn G' (.bl true) v := r
    unfold Rep at r1
    exact r1⟩
theorem cx_no {P : Program} {w : World} (H : Hp) (s : Shared) (e : Value) (s' : Shared) (h : L2.CX P w [] H s (fun _ _ _ => False) e s') : False := by
  obtain ⟨_, _, _, _, _, _, _, _, _, _, _, _, z⟩ := h
  exact z
/-- the end of a law whose errors are followed -/
theorem walk_ofW {l : PySem.W.OpenLaw} {n k : Nat} {q : Program} {loose : List Str} {XP : (Str → Option Value) → Heap → Prop} {YP : World → Heap → Prop} {d : DefRec} {CX : World → CXT} {x : Str}
    (hn : l.most = some n) (hn2 : n ≤ sizeLine) (hdf : d.params.defaults = []) (hr : Room k callerA)
    (F : ∀ (w : World) (mg : Str → Option Value) (fa : Addr) (h : Heap), YP w h → h.Ns mainGlobals mg → mg d.name = some (.ref fa) →
      ∃ (K : PySem.W.Frag) (fd : FuncData) (sp : Sp), K.In h ∧ (∀ (s : Shared) (u : Value), BindsTo s fd ⟨[u], []⟩ [(x, u)]) ∧
        (∀ (H : Hp) (a : Addr) (ns : List Int), ns.length ≤ n → SqL K H a (ns.map V.int) → sp [.ref a] H (fun v _ => v = .bl true) fun _ _ _ => False) ∧
        ∀ base : Heap, K.In base → base.Ns mainGlobals mg → FnOk l.prog w K mg base (CX w) k fa fd [x] sp)
    (hCX : ∀ (w : World) (H : Hp) (s : Shared) (e : Value) (s' : Shared), CX w [] H s (fun _ _ _ => False) e s' → False) :
    PySem.W.WalkO q loose XP YP l.row.toRowW d [] (fun f vs => PySem.call f vs) := by
  refine Att.attach_call hn hdf fun w s₀ s₁ mg mb fa o pm cd doc a vs ns G Y ho hd hcd hmg hobj hints hlen hg => ?_
  obtain ⟨K, fd, sp, KX, hb, hsp, hF⟩ := F w mg fa _ Y G.T.g hmg
  exact law_call KX G.T.g G.T.b G.T.builtins G.T.nolimit hg hobj hints (Nat.le_trans hlen hn2) hr hF hb (fun H _ hS => hsp H a ns hlen hS) fun H e s' => hCX w H s₁ e s'
end DL
end

section
set_option maxRecDepth 100000
/-! plain lemmas about the constructs -/
namespace DL
theorem wipeE_len' {ρ : Env} : ∀ {vs : List Nat}, (wipeE ρ vs).length = ρ.length
  | [] => rfl
  | v :: vs => by unfold wipeE; rw [List.length_set, wipeE_len']
theorem wipeE_get {ρ : Env} {j : Nat} : ∀ {vs : List Nat}, (wipeE ρ vs)[j]? = if j ∈ vs then (ρ[j]?).map (fun _ => Sl.no) else ρ[j]?
  | [] => by simp [wipeE]
  | v :: vs => by
    unfold wipeE
    rw [List.getElem?_set, wipeE_len']
    by_cases e : v = j
    · subst e
      by_cases h : v < ρ.length
      · simp [h]
      · simp [h]
    · rw [if_neg e, wipeE_get (vs := vs)]
      have : j ≠ v := fun z => e z.symm
      simp [List.mem_cons, this]
theorem backE_len' {ρ0 ρ : Env} : ∀ {vs : List Nat}, (backE ρ0 ρ vs).length = ρ.length
  | [] => rfl
  | v :: vs => by unfold backE; rw [List.length_set, backE_len']
theorem backE_get {ρ0 ρ : Env} {j : Nat} : ∀ {vs : List Nat}, (backE ρ0 ρ vs)[j]? = if j ∈ vs then (ρ[j]?).map (fun _ => match ρ0[j]? with | some (.frz d) => Sl.frz d | _ => .no) else ρ[j]?
  | [] => by simp [backE]
  | v :: vs => by
    unfold backE
    rw [List.getElem?_set, backE_len']
    by_cases e : v = j
    · subst e
      by_cases h : v < ρ.length
      · simp [h]
        try rfl
      · simp [h]
    · rw [if_neg e, backE_get (vs := vs)]
      have : j ≠ v := fun z => e z.symm
      simp [List.mem_cons, this]
theorem backE_wipe {ρ0 ρ ρ' : Env} {vs : List Nat} (h : wipeE ρ vs = wipeE ρ' vs) : backE ρ0 ρ vs = backE ρ0 ρ' vs := by
  apply List.ext_getElem?
  intro j
  have hj := congrArg (fun l : Env => l[j]?) h
  simp only [wipeE_get] at hj
  rw [backE_get, backE_get]
  by_cases hm : j ∈ vs
  · simp only [hm, if_true] at hj ⊢
    cases h1 : ρ[j]? <;> cases h2 : ρ'[j]? <;> simp [h1, h2] at hj ⊢
  · simp only [hm, if_false] at hj ⊢
    exact hj
/-- a comprehension whose parts leave all but its own names alone -/
theorem lcGo_map {α : Type} {g : DG} {tt : DT} {el : DE} {vs : List Nat} {toD f : α → D} {p : α → Bool} (ρw : Env) : ∀ (xs : List α),
    (∀ x ∈ xs, ∃ ρ1 ρ2, g (toD x) ρw = some ρ1 ∧ tt ρ1 = some (.ok (p x) ρ2) ∧ (p x = true → ∃ r ρ3 ρ4, el ρ2 = some (.ok r ρ3) ∧ r.frz ρ3 = some (f x, ρ4) ∧ wipeE ρ4 vs = ρw) ∧ (p x = false → wipeE ρ2 vs = ρw)) →
    ∀ ρ, wipeE ρ vs = ρw → ∃ ρ', lcGo g tt el vs (xs.map toD) ρ = some ((xs.filter p).map f, ρ') ∧ wipeE ρ' vs = ρw
  | [], _, ρ, hw => ⟨ρ, rfl, hw⟩
  | x :: xs, h, ρ, hw => by
    obtain ⟨ρ1, ρ2, h1, h2, h3, h4⟩ := h x List.mem_cons_self
    have ih := lcGo_map ρw xs fun y hy => h y (List.mem_cons_of_mem _ hy)
    cases hp : p x with
    | true =>
      obtain ⟨r, ρ3, ρ4, a, b, c⟩ := h3 hp
      obtain ⟨ρ', e1, e2⟩ := ih ρ4 c
      refine ⟨ρ', ?_, e2⟩
      rw [List.map_cons, lcGo, hw, h1]
      dsimp only
      rw [h2, hp]
      dsimp only
      rw [a]
      dsimp only
      rw [b]
      dsimp only
      rw [e1]
      simp [List.filter_cons, hp]
    | false =>
      obtain ⟨ρ', e1, e2⟩ := ih ρ2 (h4 hp)
      refine ⟨ρ', ?_, e2⟩
      rw [List.map_cons, lcGo, hw, h1]
      dsimp only
      rw [h2, hp]
      dsimp only
      rw [e1]
      simp [List.filter_cons, hp]
theorem eLc_map {α : Type} {it : DI} {g : DG} {tt : DT} {el : DE} {vs : List Nat} {toD f : α → D} {p : α → Bool} {ρ ρ1 : Env} (ρw : Env) (xs : List α) (hit : it ρ = some (.ok (xs.map toD) ρ1)) (hl : xs.length ≤ 1000000) (hw : wipeE ρ1 vs = ρw)
    (h : ∀ x ∈ xs, ∃ ρ1 ρ2, g (toD x) ρw = some ρ1 ∧ tt ρ1 = some (.ok (p x) ρ2) ∧ (p x = true → ∃ r ρ3 ρ4, el ρ2 = some (.ok r ρ3) ∧ r.frz ρ3 = some (f x, ρ4) ∧ wipeE ρ4 vs = ρw) ∧ (p x = false → wipeE ρ2 vs = ρw)) :
    eLc it g tt el vs ρ = some (.ok (.fre (.lst ((xs.filter p).map f))) (backE ρ1 ρ1 vs)) := by
  obtain ⟨ρ', e1, e2⟩ := lcGo_map ρw xs h ρ1 hw
  unfold eLc
  rw [hit]
  dsimp only
  rw [if_pos (by rw [List.length_map]; exact hl), e1]
  dsimp only
  rw [backE_wipe (ρ := ρ') (ρ' := ρ1) (by rw [e2, hw])]
theorem eLc_all {α : Type} {it : DI} {g : DG} {el : DE} {vs : List Nat} {toD f : α → D} {ρ ρ1 : Env} (ρw : Env) (xs : List α) (hit : it ρ = some (.ok (xs.map toD) ρ1)) (hl : xs.length ≤ 1000000) (hw : wipeE ρ1 vs = ρw)
    (h : ∀ x ∈ xs, ∃ ρ2 r ρ3 ρ4, g (toD x) ρw = some ρ2 ∧ el ρ2 = some (.ok r ρ3) ∧ r.frz ρ3 = some (f x, ρ4) ∧ wipeE ρ4 vs = ρw) :
    eLc it g tYes el vs ρ = some (.ok (.fre (.lst (xs.map f))) (backE ρ1 ρ1 vs)) := by
  have z := eLc_map (tt := tYes) (p := fun _ => true) (f := f) ρw xs hit hl hw fun x hx => by
    obtain ⟨ρ2, r, ρ3, ρ4, a, b, c, d⟩ := h x hx
    exact ⟨ρ2, ρ2, a, rfl, fun _ => ⟨r, ρ3, ρ4, b, c, d⟩, fun q => by cases q⟩
  rw [List.filter_eq_self.mpr fun _ _ => rfl] at z
  exact z
/-- a loop that goes through -/
theorem forGo_fold {α S : Type} {g : DG} {bd : DS} {toD : α → D} (enc : S → Env) (step : S → α → S) (I : S → Prop) : ∀ (xs : List α) (s : S), I s →
    (∀ x ∈ xs, ∀ s, I s → I (step s x) ∧ ∃ ρ1, g (toD x) (enc s) = some ρ1 ∧ (bd ρ1 = some (.nx (enc (step s x))) ∨ bd ρ1 = some (.ct (enc (step s x))))) →
    forGo g bd (xs.map toD) (enc s) = some (.nx (enc (xs.foldl step s)))
  | [], s, _, _ => rfl
  | x :: xs, s, hs, h => by
    obtain ⟨hi, ρ1, h1, h2⟩ := h x List.mem_cons_self s hs
    have ih := forGo_fold enc step I xs (step s x) hi fun y hy => h y (List.mem_cons_of_mem _ hy)
    rw [List.map_cons, forGo, h1]
    dsimp only
    rcases h2 with h2 | h2
    · rw [h2]; exact ih
    · rw [h2]; exact ih
end DL
end

section
set_option maxRecDepth 100000
set_option maxHeartbeats 1000000
namespace SoR
open DL
abbrev Wd := List Int
abbrev Ef := Bool × Wd
def wD (w : Wd) : D := .tup (w.map .int)
def fD (e : Ef) : D := .tup [.bl e.1, wD e.2]
inductive Kd where | list | bag | set | first | last | ends | heads | tails
deriving DecidableEq
def Kd.nm : Kd → String
  | .list => "list" | .bag => "bag" | .set => "set" | .first => "first" | .last => "last" | .ends => "ends" | .heads => "heads" | .tails => "tails"
def Kd.cl : Kd → String
  | .list => "Kind" | .bag => "BagKind" | .set => "SetKind" | .first => "FirstKind" | .last => "LastKind" | .ends => "EndsKind" | .heads => "HeadsKind" | .tails => "TailsKind"
abbrev Kd.ob (k : Kd) : D := .obj k.cl [] []
theorem ints_map (w : Wd) : intsD (w.map .int) = some w := by
  induction w with
  | nil => rfl
  | cons x w ih => simp [intsD, ih]
theorem e_kind_named (k : Kd) : den_kind_named [.str k.nm] = some (.ret (.val k.ob)) := by cases k <;> rfl
theorem e_Kind_plain (c : String) (l : List D) : den_Kind_plain [.obj c [] [], .tup l] = some (.ret (.val (.tup l))) := rfl
theorem e_Bag_plain {c : String} (hc : c ∈ ["BagKind", "SetKind"]) (w : Wd) : den_BagKind_plain [.obj c [] [], wD w] = some (.ret (.val (wD (sortI w)))) := by
  simp at hc
  simp [fn, start, sRet, sRetN, bS, eCB, bA, aCons, aNil, eSup, eCall, eVar, eC, frzs, R.frz, peeks, R.peek, Rv.r, retR, Own.d, eOp, eUn, bE, op2, op1, sSeq, sNil, sSet, put, sIf, bT, tE, tAnd, tOr, tNot, eAnd, eOr, eNot, eIf, eTup, eLst, sAsg, gTup, gsGo, gName, eCon, eSl, bO, oNone, oSome, eChain, tYes, sExpr, eFld, den_BagKind_plain, body_BagKind_plain, e_Kind_plain, fSortedA, ints_map, fTuple, wD, hc]
theorem insI_len (x : Int) : ∀ l : Wd, (insI x l).length = l.length + 1
  | [] => rfl
  | y :: r => by unfold insI; split <;> simp [insI_len x r]
theorem sortI_len : ∀ l : Wd, (sortI l).length = l.length
  | [] => rfl
  | x :: r => by unfold sortI; rw [insI_len, sortI_len r]; rfl
/-! adjacent ones kept once -/
def setGo (d : Wd) (x : Int) : Wd := if d.getLast? = some x then d else d ++ [x]
theorem eqvs_one (l : Wd) (x : Int) : D.eqvs (cutD (l.map .int) (some (-1)) none) [.int x] = decide (l.getLast? = some x) := by
  rcases List.eq_nil_or_concat l with h | ⟨m, y, h⟩
  · subst h; rfl
  · subst h
    have e1 : sIxD (((m ++ [y]).map D.int).length) 0 (some (-1)) = m.length := by simp [sIxD]; omega
    have e2 : cutD ((m ++ [y]).map D.int) (some (-1)) none = [.int y] := by
      unfold cutD
      rw [e1]
      simp [sIxD]
    rw [List.concat_eq_append, e2]
    simp [D.eqvs, D.eqv]
    rfl
theorem dats_ints (l : Wd) (n : Nat) : D.dats (l.map .int) n = true := by
  induction l with
  | nil => rfl
  | cons x l ih => simp [D.dats, D.dat, ih]
theorem dats_mem {n : Nat} : ∀ {l : List D}, D.dats l n = true ↔ ∀ d ∈ l, d.dat n = true
  | [] => by simp [D.dats]
  | d :: l => by simp [D.dats, dats_mem (l := l)]
theorem dats_cut {l : List D} {n : Nat} {lo hi : Option Int} (h : D.dats l n = true) : D.dats (cutD l lo hi) n = true := by
  rw [dats_mem] at h ⊢
  intro d hd
  exact h d (List.mem_of_mem_drop (List.mem_of_mem_take hd))
theorem e_Set_plain (w : Wd) (hw : w.length ≤ 100000) : den_SetKind_plain [.obj "SetKind" [] [], wD w] = some (.ret (.val (wD ((sortI w).foldl setGo [])))) := by
  have key : ∀ (xs : Wd) (d : Wd) (s : Sl), d.length + xs.length ≤ 100000 → (∀ o, s ≠ .ref o) → ∃ s', forGo (gName 4) lb_SetKind_plain_1 (xs.map .int)
      [.frz (.obj "SetKind" [] []), .frz (wD w), .no, .own (.lst (d.map .int)), s] = some (.nx [.frz (.obj "SetKind" [] []), .frz (wD w), .no, .own (.lst ((xs.foldl setGo d).map .int)), s']) := by
    intro xs
    induction xs with
    | nil => intro d s _ _; exact ⟨s, rfl⟩
    | cons x xs ih =>
      intro d s hl hs
      obtain ⟨s', e⟩ := ih (setGo d x) (.frz (.int x)) (by unfold setGo; split <;> simp at hl ⊢ <;> omega) (fun o z => by cases z)
      refine ⟨s', ?_⟩
      rw [List.map_cons, forGo]
      have hp : gName 4 (.int x) [.frz (.obj "SetKind" [] []), .frz (wD w), .no, .own (.lst (d.map .int)), s] = some [.frz (.obj "SetKind" [] []), .frz (wD w), .no, .own (.lst (d.map .int)), .frz (.int x)] := by
        cases s with
        | ref o => exact absurd rfl (hs o)
        | _ => rfl
      rw [hp]
      dsimp only
      have hd : D.dats (cutD (d.map .int) (some (-1)) none) 59 = true := dats_cut (dats_ints d 59)
      have hlt : d.length < 1000000 := by simp at hl; omega
      by_cases q : d.getLast? = some x
      · have e1 : setGo d x = d := by unfold setGo; rw [if_pos q]
        rw [e1] at e
        rw [List.foldl_cons, e1, ← e]
        simp [fn, start, sRet, sRetN, bS, eCB, bA, aCons, aNil, eSup, eCall, eVar, eC, frzs, R.frz, peeks, R.peek, Rv.r, retR, Own.d, eOp, eUn, bE, op2, op1, sSeq, sNil, sSet, put, sIf, bT, tE, tAnd, tOr, tNot, eAnd, eOr, eNot, eIf, eTup, eLst, sAsg, gTup, gsGo, gName, eCon, eSl, bO, oNone, oSome, eChain, tYes, sExpr, eFld, lb_SetKind_plain_1, slOp, opNeg, cNe, D.dat, D.eqv, D.dats, hd, eqvs_one, q]
      · have e1 : setGo d x = d ++ [x] := by unfold setGo; rw [if_neg q]
        rw [e1] at e
        rw [List.foldl_cons, e1, ← e]
        simp [fn, start, sRet, sRetN, bS, eCB, bA, aCons, aNil, eSup, eCall, eVar, eC, frzs, R.frz, peeks, R.peek, Rv.r, retR, Own.d, eOp, eUn, bE, op2, op1, sSeq, sNil, sSet, put, sIf, bT, tE, tAnd, tOr, tNot, eAnd, eOr, eNot, eIf, eTup, eLst, sAsg, gTup, gsGo, gName, eCon, eSl, bO, oNone, oSome, eChain, tYes, sExpr, eFld, lb_SetKind_plain_1, slOp, opNeg, cNe, D.dat, D.eqv, D.dats, hd, eqvs_one, q, sApp, own?, hlt]
  obtain ⟨s', e⟩ := key (sortI w) [] .no (by rw [sortI_len]; simpa using hw) (fun o z => by cases z)
  have hb := e_Bag_plain (c := "SetKind") (by decide) w
  simp only [wD, List.map_nil] at hb e
  simp [fn, start, sRet, sRetN, bS, eCB, bA, aCons, aNil, eSup, eCall, eVar, eC, frzs, R.frz, peeks, R.peek, Rv.r, retR, Own.d, eOp, eUn, bE, op2, op1, sSeq, sNil, sSet, put, sIf, bT, tE, tAnd, tOr, tNot, eAnd, eOr, eNot, eIf, eTup, eLst, sAsg, gTup, gsGo, gName, eCon, eSl, bO, oNone, oSome, eChain, tYes, sExpr, eFld, den_SetKind_plain, body_SetKind_plain, lp_SetKind_plain_1, sFor, iSeq, hb, fTuple, wD, e]
/-! keys in the order they came -/
def keyGo (d : Wd) (x : Int) : Wd := if x ∈ d then d else d ++ [x]
def dcD (d : Wd) : List (Int × D) := d.map fun x => (x, .bl true)
theorem putD_key (d : Wd) (x : Int) : putD (dcD d) x (.bl true) = dcD (keyGo d x) := by
  unfold putD keyGo
  by_cases h : x ∈ d
  · have h1 : ((dcD d).any fun kv => decide (kv.1 = x)) = true := by simp [dcD, h]
    rw [if_pos h1, if_pos h]
    unfold dcD
    rw [List.map_map]
    apply List.map_congr_left
    intro a _
    simp only [Function.comp]
    split <;> rfl
  · have h1 : ¬ ((dcD d).any fun kv => decide (kv.1 = x)) = true := by
      simpa [dcD] using h
    rw [if_neg h1, if_neg h]
    simp [dcD]
def hd (w : Wd) : Wd := w.foldl keyGo []
def tl (w : Wd) : Wd := (w.reverse.foldl keyGo []).reverse
theorem keyGo_len (d : Wd) (x : Int) : (keyGo d x).length ≤ d.length + 1 := by unfold keyGo; split <;> simp <;> omega
theorem heads_loop {B : DS} (hB : ∀ ρ, B ρ = sDput 3 (eVar 4) (eC (.bl true)) ρ) (o0 : Sl) (s1 s2 : Sl) : ∀ (xs : Wd) (d : Wd) (s : Sl), d.length + xs.length ≤ 100000 → (∀ o, s ≠ .ref o) → ∃ s', forGo (gName 4) B (xs.map .int)
      [o0, s1, s2, .own (.dct (dcD d)), s] = some (.nx [o0, s1, s2, .own (.dct (dcD (xs.foldl keyGo d))), s']) := by
  intro xs
  induction xs with
  | nil => intro d s _ _; exact ⟨s, rfl⟩
  | cons x xs ih =>
    intro d s hl hs
    have hkl := keyGo_len d x
    simp only [List.length_cons] at hl
    obtain ⟨s', e⟩ := ih (keyGo d x) (.frz (.int x)) (by omega) (fun o z => by cases z)
    refine ⟨s', ?_⟩
    rw [List.map_cons, forGo]
    have hp : gName 4 (.int x) [o0, s1, s2, .own (.dct (dcD d)), s] = some [o0, s1, s2, .own (.dct (dcD d)), .frz (.int x)] := by
      cases s with
      | ref o => exact absurd rfl (hs o)
      | _ => rfl
    rw [hp]
    dsimp only
    have hlt : (dcD d).length < 1000000 := by simp [dcD]; omega
    rw [hB, List.foldl_cons, ← e]
    simp [fn, start, sRet, sRetN, bS, eCB, bA, aCons, aNil, eSup, eCall, eVar, eC, frzs, R.frz, peeks, R.peek, Rv.r, retR, Own.d, eOp, eUn, bE, op2, op1, sSeq, sNil, sSet, put, sIf, bT, tE, tAnd, tOr, tNot, eAnd, eOr, eNot, eIf, eTup, eLst, sAsg, gTup, gsGo, gName, eCon, eSl, bO, oNone, oSome, eChain, tYes, sExpr, eFld, sDput, own?, hlt, putD_key]
theorem keys_dc (d : Wd) : ((dcD d).map fun p => D.int p.1) = d.map .int := by simp [dcD]
theorem e_Heads_plain {c : String} (hc : c ∈ ["HeadsKind", "FirstKind"]) (w : Wd) (hw : w.length ≤ 100000) : den_HeadsKind_plain [.obj c [] [], wD w] = some (.ret (.val (wD (hd w)))) := by
  obtain ⟨s', e⟩ := heads_loop (B := lb_HeadsKind_plain_1) (fun _ => rfl) (.frz (.obj c [] [])) (.frz (wD w)) .no w [] .no (by simpa using hw) (fun o z => by cases z)
  have hb := e_Kind_plain c (w.map .int)
  simp only [List.mem_cons, List.not_mem_nil, or_false] at hc
  simp only [wD, dcD, List.map_nil] at hb e
  simp [fn, start, sRet, sRetN, bS, eCB, bA, aCons, aNil, eSup, eCall, eVar, eC, frzs, R.frz, peeks, R.peek, Rv.r, retR, Own.d, eOp, eUn, bE, op2, op1, sSeq, sNil, sSet, put, sIf, bT, tE, tAnd, tOr, tNot, eAnd, eOr, eNot, eIf, eTup, eLst, sAsg, gTup, gsGo, gName, eCon, eSl, bO, oNone, oSome, eChain, tYes, sExpr, eFld, den_HeadsKind_plain, body_HeadsKind_plain, lp_HeadsKind_plain_1, sFor, iSeq, hb, fTuple, wD, hc, eDct, e, eKeys, own?, hd]
theorem e_Tails_plain {c : String} (hc : c ∈ ["TailsKind", "LastKind"]) (w : Wd) (hw : w.length ≤ 100000) : den_TailsKind_plain [.obj c [] [], wD w] = some (.ret (.val (wD (tl w)))) := by
  obtain ⟨s', e⟩ := heads_loop (B := lb_TailsKind_plain_1) (fun _ => rfl) (.frz (.obj c [] [])) (.frz (wD w)) .no w.reverse [] .no (by simpa using hw) (fun o z => by cases z)
  have hb := e_Kind_plain c (w.map .int)
  simp only [List.mem_cons, List.not_mem_nil, or_false] at hc
  simp only [wD, dcD, List.map_nil, List.map_reverse] at hb e
  show _ = some (Fo.ret (Rv.val (D.tup ((tl w).map D.int))))
  unfold tl
  simp [fn, start, sRet, sRetN, bS, eCB, bA, aCons, aNil, eSup, eCall, eVar, eC, frzs, R.frz, peeks, R.peek, Rv.r, retR, Own.d, eOp, eUn, bE, op2, op1, sSeq, sNil, sSet, put, sIf, bT, tE, tAnd, tOr, tNot, eAnd, eOr, eNot, eIf, eTup, eLst, sAsg, gTup, gsGo, gName, eCon, eSl, bO, oNone, oSome, eChain, tYes, sExpr, eFld, den_TailsKind_plain, body_TailsKind_plain, lp_TailsKind_plain_1, sFor, iSeq, hb, fTuple, wD, hc, eDct, e, eKeys, own?, opRevT, opRevL]
theorem cut_one (w : Wd) : cutD (w.map .int) none (some 1) = (w.take 1).map .int := by
  cases w with
  | nil => rfl
  | cons x w => simp [cutD, sIxD]
theorem cut_last (w : Wd) : cutD (w.map .int) (some (-1)) none = (w.drop (w.length - 1)).map .int := by
  rcases List.eq_nil_or_concat w with h | ⟨m, y, h⟩
  · subst h; rfl
  · subst h
    rw [List.concat_eq_append]
    have e1 : sIxD (((m ++ [y]).map D.int).length) 0 (some (-1)) = m.length := by simp [sIxD]; omega
    unfold cutD
    rw [e1]
    simp [sIxD]
theorem e_First_plain (w : Wd) (hw : w.length ≤ 100000) : den_FirstKind_plain [.obj "FirstKind" [] [], wD w] = some (.ret (.val (wD ((hd w).take 1)))) := by
  have hb := e_Heads_plain (c := "FirstKind") (by decide) w hw
  simp only [wD] at hb
  simp [fn, start, sRet, sRetN, bS, eCB, bA, aCons, aNil, eSup, eCall, eVar, eC, frzs, R.frz, peeks, R.peek, Rv.r, retR, Own.d, eOp, eUn, bE, op2, op1, sSeq, sNil, sSet, put, sIf, bT, tE, tAnd, tOr, tNot, eAnd, eOr, eNot, eIf, eTup, eLst, sAsg, gTup, gsGo, gName, eCon, eSl, bO, oNone, oSome, eChain, tYes, sExpr, eFld, den_FirstKind_plain, body_FirstKind_plain, hb, wD, slOp, cut_one]
theorem e_Last_plain (w : Wd) (hw : w.length ≤ 100000) : den_LastKind_plain [.obj "LastKind" [] [], wD w] = some (.ret (.val (wD ((tl w).drop ((tl w).length - 1))))) := by
  have hb := e_Tails_plain (c := "LastKind") (by decide) w hw
  simp only [wD] at hb
  simp [fn, start, sRet, sRetN, bS, eCB, bA, aCons, aNil, eSup, eCall, eVar, eC, frzs, R.frz, peeks, R.peek, Rv.r, retR, Own.d, eOp, eUn, bE, op2, op1, sSeq, sNil, sSet, put, sIf, bT, tE, tAnd, tOr, tNot, eAnd, eOr, eNot, eIf, eTup, eLst, sAsg, gTup, gsGo, gName, eCon, eSl, bO, oNone, oSome, eChain, tYes, sExpr, eFld, den_LastKind_plain, body_LastKind_plain, hb, wD, slOp, opNeg, cut_last]
theorem e_Ends_plain (w : Wd) (hw : w.length ≤ 100000) : den_EndsKind_plain [.obj "EndsKind" [] [], wD w] = some (.ret (.val (wD (w.take 1 ++ w.drop (w.length - 1))))) := by
  have hb := e_Kind_plain "EndsKind" (w.map .int)
  have hm : min 1 w.length + (w.length - (w.length - 1)) ≤ 1000000 := by omega
  simp [fn, start, sRet, sRetN, bS, eCB, bA, aCons, aNil, eSup, eCall, eVar, eC, frzs, R.frz, peeks, R.peek, Rv.r, retR, Own.d, eOp, eUn, bE, op2, op1, sSeq, sNil, sSet, put, sIf, bT, tE, tAnd, tOr, tNot, eAnd, eOr, eNot, eIf, eTup, eLst, sAsg, gTup, gsGo, gName, eCon, eSl, bO, oNone, oSome, eChain, tYes, sExpr, eFld, den_EndsKind_plain, body_EndsKind_plain, hb, wD, slOp, opNeg, cut_last, cut_one, opAdd, hm]
end SoR
end

section
set_option maxRecDepth 100000
set_option maxHeartbeats 1000000
namespace SoR
open DL
def pl : Kd → Wd → Wd
  | .list, w => w | .bag, w => sortI w | .set, w => (sortI w).foldl setGo [] | .first, w => (hd w).take 1 | .last, w => (tl w).drop ((tl w).length - 1)
  | .ends, w => w.take 1 ++ w.drop (w.length - 1) | .heads, w => hd w | .tails, w => tl w
theorem plainOf_ok (k : Kd) : ∃ F, plainOf k.cl = some F ∧ ∀ w : Wd, w.length ≤ 100000 → F [k.ob, wD w] = some (.ret (.val (wD (pl k w)))) := by
  cases k with
  | list => exact ⟨_, rfl, fun w _ => e_Kind_plain _ _⟩
  | bag => exact ⟨_, rfl, fun w _ => e_Bag_plain (by decide) w⟩
  | set => exact ⟨_, rfl, fun w h => e_Set_plain w h⟩
  | first => exact ⟨_, rfl, fun w h => e_First_plain w h⟩
  | last => exact ⟨_, rfl, fun w h => e_Last_plain w h⟩
  | ends => exact ⟨_, rfl, fun w h => e_Ends_plain w h⟩
  | heads => exact ⟨_, rfl, fun w h => e_Heads_plain (by decide) w h⟩
  | tails => exact ⟨_, rfl, fun w h => e_Tails_plain (by decide) w h⟩
theorem e_met {k : Kd} {o : DE} {a : DA} {ρ ρ1 ρ2 ρ3 : DL.Env} {r : R} {w : Wd} (ho : o ρ = some (.ok (.val k.ob) ρ1)) (ha : a ρ1 = some (.ok [r] ρ2)) (hf : r.frz ρ2 = some (wD w, ρ3)) (hw : w.length ≤ 100000) :
    eMet "plain" plainOf o a ρ = some (.ok (.val (wD (pl k w))) ρ3) := by
  obtain ⟨F, h1, h2⟩ := plainOf_ok k
  have h3 := h2 w hw
  simp [eMet, bE, ho, h1, eCall, bA, ha, frzs, hf, h3, Rv.r]
/-- a letter -/
def isL : D → Bool
  | .int i => decide (0 ≤ i ∧ i < 1000000000)
  | _ => false
theorem e_is_letter (d : D) (h : (tyN d).isSome) : den_is_letter [d] = some (.ret (.val (.bl (isL d)))) := by
  cases d with
  | non => rfl
  | bl b => cases b <;> rfl
  | int i =>
    by_cases h1 : 0 ≤ i
    · simp [fn, start, sRet, sRetN, bS, eCB, bA, aCons, aNil, eSup, eCall, eVar, eC, frzs, R.frz, peeks, R.peek, Rv.r, retR, Own.d, eOp, eUn, bE, op2, op1, sSeq, sNil, sSet, put, sIf, bT, tE, tAnd, tOr, tNot, eAnd, eOr, eNot, eIf, eTup, eLst, sAsg, gTup, gsGo, gName, eCon, eSl, bO, oNone, oSome, eChain, tYes, sExpr, eFld, den_is_letter, body_is_letter, isiD, tyN, isB, cLe, cLt, cI, d_LETTERS, isL, h1]
    · simp [fn, start, sRet, sRetN, bS, eCB, bA, aCons, aNil, eSup, eCall, eVar, eC, frzs, R.frz, peeks, R.peek, Rv.r, retR, Own.d, eOp, eUn, bE, op2, op1, sSeq, sNil, sSet, put, sIf, bT, tE, tAnd, tOr, tNot, eAnd, eOr, eNot, eIf, eTup, eLst, sAsg, gTup, gsGo, gName, eCon, eSl, bO, oNone, oSome, eChain, tYes, sExpr, eFld, den_is_letter, body_is_letter, isiD, tyN, isB, cLe, cLt, cI, d_LETTERS, isL, h1]
  | str s => rfl
  | tup l => rfl
  | lst l => rfl
  | scr l => cases h
  | obj c ns l => cases h
theorem bools_map {α : Type} (f : α → Bool) (l : List α) : bools (l.map fun x => .bl (f x)) = some (l.map f) := by
  induction l with
  | nil => rfl
  | cons x l ih => simp [bools, ih]
/-- a word -/
def isW : D → Bool
  | .tup l => l.all isL
  | _ => false
def tys : D → Bool
  | .tup l => l.all fun d => (tyN d).isSome
  | d => (tyN d).isSome
theorem lc_is_word {l : List D} (hl : l.length ≤ 1000000) (h : ∀ d ∈ l, (tyN d).isSome) : lc_is_word_1 [.frz (.tup l), .no] = some (.ok (.fre (.lst (l.map fun d => .bl (isL d)))) [.frz (.tup l), .no]) := by
  have z := eLc_all (it := iSeq (eVar 0)) (g := gName 1) (el := eCall den_is_letter (aCons (eVar 1) aNil)) (vs := [1]) (toD := id) (f := fun d => .bl (isL d)) (ρ := [.frz (.tup l), .no]) (ρ1 := [.frz (.tup l), .no]) [.frz (.tup l), .no] l
    (by simp [iSeq, eVar, R.frz]) hl rfl (fun x hx => ⟨[.frz (.tup l), .frz x], .val (.bl (isL x)), [.frz (.tup l), .frz x], [.frz (.tup l), .frz x], rfl, by simp [fn, start, sRet, sRetN, bS, eCB, bA, aCons, aNil, eSup, eCall, eVar, eC, frzs, R.frz, peeks, R.peek, Rv.r, retR, Own.d, eOp, eUn, bE, op2, op1, sSeq, sNil, sSet, put, sIf, bT, tE, tAnd, tOr, tNot, eAnd, eOr, eNot, eIf, eTup, eLst, sAsg, gTup, gsGo, gName, eCon, eSl, bO, oNone, oSome, eChain, tYes, sExpr, eFld, e_is_letter x (h x hx)], rfl, rfl⟩)
  exact z
theorem e_is_word (d : D) (h : tys d = true) (hl : ∀ l, d = .tup l → l.length ≤ 1000000) : den_is_word [d] = some (.ret (.val (.bl (isW d)))) := by
  cases d with
  | tup l =>
    have h1 : ∀ d ∈ l, (tyN d).isSome := fun d hd => List.all_eq_true.mp h d hd
    have z := lc_is_word (hl l rfl) h1
    simp [fn, start, sRet, sRetN, bS, eCB, bA, aCons, aNil, eSup, eCall, eVar, eC, frzs, R.frz, peeks, R.peek, Rv.r, retR, Own.d, eOp, eUn, bE, op2, op1, sSeq, sNil, sSet, put, sIf, bT, tE, tAnd, tOr, tNot, eAnd, eOr, eNot, eIf, eTup, eLst, sAsg, gTup, gsGo, gName, eCon, eSl, bO, oNone, oSome, eChain, tYes, sExpr, eFld, den_is_word, body_is_word, isiD, tyN, isB, z, fAll, bools_map, isW, List.all_map, Function.comp_def]
  | non => rfl
  | bl b => rfl
  | int i => rfl
  | str s => rfl
  | lst l => rfl
  | scr l => cases h
  | obj c ns l => cases h
theorem isW_wD (w : Wd) : isW (wD w) = w.all fun i => decide (0 ≤ i ∧ i < 1000000000) := by
  simp [isW, wD, List.all_map, Function.comp_def, isL]
theorem isW_iff {d : D} : isW d = true ↔ ∃ w : Wd, d = wD w ∧ ∀ i ∈ w, 0 ≤ i ∧ i < 1000000000 := by
  constructor
  · intro h
    cases d with
    | tup l =>
      have key : ∀ l : List D, l.all isL = true → ∃ w : Wd, l = w.map .int ∧ ∀ i ∈ w, 0 ≤ i ∧ i < 1000000000 := by
        intro l
        induction l with
        | nil => intro _; exact ⟨[], rfl, fun i h => by cases h⟩
        | cons d l ih =>
          intro h
          rw [List.all_cons, Bool.and_eq_true] at h
          obtain ⟨w, e, hw⟩ := ih h.2
          cases d with
          | int i => exact ⟨i :: w, by rw [e]; rfl, fun j hj => by
              rcases List.mem_cons.mp hj with q | q
              · subst q; exact of_decide_eq_true h.1
              · exact hw j q⟩
          | _ => exact absurd h.1 (by simp [isL])
      obtain ⟨w, e, hw⟩ := key l h
      exact ⟨w, by rw [e]; rfl, hw⟩
    | _ => simp [isW] at h
  · rintro ⟨w, e, hw⟩
    subst e
    rw [isW_wD, List.all_eq_true]
    intro i hi
    exact decide_eq_true (hw i hi)
theorem eqvs_ints : ∀ v w : Wd, D.eqvs (v.map .int) (w.map .int) = decide (v = w)
  | [], [] => rfl
  | [], _ :: _ => rfl
  | _ :: _, [] => rfl
  | x :: v, y :: w => by
    simp only [List.map_cons, D.eqvs, D.eqv, eqvs_ints v w]
    by_cases h : x = y <;> by_cases h2 : v = w <;> simp [h, h2]
theorem eqv_wD (v w : Wd) : D.eqv (wD v) (wD w) = decide (v = w) := by simp [wD, D.eqv, eqvs_ints]
theorem dat_wD (w : Wd) (n : Nat) : (wD w).dat (n + 1) = true := by simp [wD, D.dat, dats_ints]
/-- a word that is plain -/
def isP (k : Kd) (d : D) : Bool := match d with
  | .tup l => l.all isL && (match intsD l with | some w => decide (pl k w = w) | none => false)
  | _ => false
theorem isP_wD (k : Kd) (w : Wd) : isP k (wD w) = (isW (wD w) && decide (pl k w = w)) := by simp [isP, isW, wD, ints_map]
theorem e_is_plain (k : Kd) (d : D) (h : tys d = true) (hl : ∀ l, d = .tup l → l.length ≤ 100000) : den_is_plain [.str k.nm, d] = some (.ret (.val (.bl (isP k d)))) := by
  have h1 := e_is_word d h (fun l e => Nat.le_trans (hl l e) (by decide))
  cases hw : isW d with
  | false =>
    have e : isP k d = false := by
      cases d with
      | tup l => simp only [isW] at hw; simp [isP, hw]
      | _ => rfl
    rw [hw] at h1
    simp [fn, start, sRet, sRetN, bS, eCB, bA, aCons, aNil, eSup, eCall, eVar, eC, frzs, R.frz, peeks, R.peek, Rv.r, retR, Own.d, eOp, eUn, bE, op2, op1, sSeq, sNil, sSet, put, sIf, bT, tE, tAnd, tOr, tNot, eAnd, eOr, eNot, eIf, eTup, eLst, sAsg, gTup, gsGo, gName, eCon, eSl, bO, oNone, oSome, eChain, tYes, sExpr, eFld, den_is_plain, body_is_plain, e_kind_named, h1, e]
  | true =>
    obtain ⟨w, e, _⟩ := isW_iff.mp hw
    subst e
    rw [hw] at h1
    rw [isP_wD, hw]
    have h2 := e_met (k := k) (o := eVar 2) (a := aCons (eVar 1) aNil) (ρ := [.frz (.str k.nm), .frz (wD w), .frz k.ob]) (ρ1 := [.frz (.str k.nm), .frz (wD w), .frz k.ob]) (ρ2 := [.frz (.str k.nm), .frz (wD w), .frz k.ob]) (ρ3 := [.frz (.str k.nm), .frz (wD w), .frz k.ob]) (r := .val (wD w)) (w := w) rfl rfl rfl (by simpa using hl _ rfl)
    simp [fn, start, sRet, sRetN, bS, eCB, bA, aCons, aNil, eSup, eCall, eVar, eC, frzs, R.frz, peeks, R.peek, Rv.r, retR, Own.d, eOp, eUn, bE, op2, op1, sSeq, sNil, sSet, put, sIf, bT, tE, tAnd, tOr, tNot, eAnd, eOr, eNot, eIf, eTup, eLst, sAsg, gTup, gsGo, gName, eCon, eSl, bO, oNone, oSome, eChain, tYes, sExpr, eFld, den_is_plain, body_is_plain, e_kind_named, h1, ↓h2, cEq, dat_wD, eqv_wD]
end SoR
end

section
set_option maxRecDepth 100000
set_option maxHeartbeats 1000000
namespace SoR
open DL
def fm (k : Kd) (c : Bool) (w : Wd) : Ef := if k = .last ∧ w ≠ [] then (true, w) else (c, w)
theorem nameOf_cl (k : Kd) : nameOf k.cl = some (.str k.nm) := by cases k <;> rfl
theorem nm_last (k : Kd) : (k.nm == "last") = decide (k = .last) := by cases k <;> rfl
theorem nm_ends (k : Kd) : (k.nm == "ends") = decide (k = .ends) := by cases k <;> rfl
theorem e_formed (k : Kd) (c : Bool) (w : Wd) : den_formed [k.ob, .bl c, wD w] = some (.ret (.val (fD (fm k c w)))) := by
  have h1 := nameOf_cl k
  have h2 := nm_last k
  by_cases hk : k = .last
  · subst hk
    cases w with
    | nil => rfl
    | cons x w =>
      have hx : (0 : Int) < (w.length : Int) + 1 := by omega
      simp [fn, start, sRet, sRetN, bS, eCB, bA, aCons, aNil, eSup, eCall, eVar, eC, frzs, R.frz, peeks, R.peek, Rv.r, retR, Own.d, eOp, eUn, bE, op2, op1, sSeq, sNil, sSet, put, sIf, bT, tE, tAnd, tOr, tNot, eAnd, eOr, eNot, eIf, eTup, eLst, sAsg, gTup, gsGo, gName, eCon, eSl, bO, oNone, oSome, eChain, tYes, sExpr, eFld, den_formed, body_formed, wD, fD, fm, cEq, cGt, cI, fLenS, D.dat, D.eqv, nameOf_cl, Kd.nm, hx]
  · have h3 : (k.nm == "last") = false := by rw [h2]; simpa using hk
    simp [fn, start, sRet, sRetN, bS, eCB, bA, aCons, aNil, eSup, eCall, eVar, eC, frzs, R.frz, peeks, R.peek, Rv.r, retR, Own.d, eOp, eUn, bE, op2, op1, sSeq, sNil, sSet, put, sIf, bT, tE, tAnd, tOr, tNot, eAnd, eOr, eNot, eIf, eTup, eLst, sAsg, gTup, gsGo, gName, eCon, eSl, bO, oNone, oSome, eChain, tYes, sExpr, eFld, den_formed, body_formed, wD, fD, fm, cEq, cGt, cI, fLenS, D.dat, D.eqv, nameOf_cl, h3, hk]
def fl (k : Kd) (a b : Ef) : Ef := if b.1 then b else fm k a.1 (pl k (a.2 ++ b.2))
theorem e_followed (k : Kd) (a b : Ef) (hl : a.2.length + b.2.length ≤ 100000) : den_followed [k.ob, fD a, fD b] = some (.ret (.val (fD (fl k a b)))) := by
  obtain ⟨a1, a2⟩ := a
  obtain ⟨b1, b2⟩ := b
  simp only at hl
  cases b1 with
  | true => simp [fn, start, sRet, sRetN, bS, eCB, bA, aCons, aNil, eSup, eCall, eVar, eC, frzs, R.frz, peeks, R.peek, Rv.r, retR, Own.d, eOp, eUn, bE, op2, op1, sSeq, sNil, sSet, put, sIf, bT, tE, tAnd, tOr, tNot, eAnd, eOr, eNot, eIf, eTup, eLst, sAsg, gTup, gsGo, gName, eCon, eSl, bO, oNone, oSome, eChain, tYes, sExpr, eFld, den_followed, body_followed, fD, fl]
  | false =>
    have hw : a2.length + b2.length ≤ 1000000 := by omega
    have h2 := e_met (k := k) (o := eVar 0) (a := aCons (eOp opAdd (eVar 6) (eVar 4)) aNil) (ρ := [.frz k.ob, .frz (fD (a1, a2)), .frz (fD (false, b2)), .frz (.bl false), .frz (wD b2), .frz (.bl a1), .frz (wD a2)])
      (ρ1 := [.frz k.ob, .frz (fD (a1, a2)), .frz (fD (false, b2)), .frz (.bl false), .frz (wD b2), .frz (.bl a1), .frz (wD a2)]) (ρ2 := [.frz k.ob, .frz (fD (a1, a2)), .frz (fD (false, b2)), .frz (.bl false), .frz (wD b2), .frz (.bl a1), .frz (wD a2)])
      (ρ3 := [.frz k.ob, .frz (fD (a1, a2)), .frz (fD (false, b2)), .frz (.bl false), .frz (wD b2), .frz (.bl a1), .frz (wD a2)]) (r := .val (wD (a2 ++ b2))) (w := a2 ++ b2) rfl (by simp [fn, start, sRet, sRetN, bS, eCB, bA, aCons, aNil, eSup, eCall, eVar, eC, frzs, R.frz, peeks, R.peek, Rv.r, retR, Own.d, eOp, eUn, bE, op2, op1, sSeq, sNil, sSet, put, sIf, bT, tE, tAnd, tOr, tNot, eAnd, eOr, eNot, eIf, eTup, eLst, sAsg, gTup, gsGo, gName, eCon, eSl, bO, oNone, oSome, eChain, tYes, sExpr, eFld, opAdd, wD, hw]) rfl (by simpa using hl)
    have h3 := e_formed k a1 (pl k (a2 ++ b2))
    simp only [fD] at h2 h3
    simp [fn, start, sRet, sRetN, bS, eCB, bA, aCons, aNil, eSup, eCall, eVar, eC, frzs, R.frz, peeks, R.peek, Rv.r, retR, Own.d, eOp, eUn, bE, op2, op1, sSeq, sNil, sSet, put, sIf, bT, tE, tAnd, tOr, tNot, eAnd, eOr, eNot, eIf, eTup, eLst, sAsg, gTup, gsGo, gName, eCon, eSl, bO, oNone, oSome, eChain, tYes, sExpr, eFld, den_followed, body_followed, fD, fl, ↓h2, h3]
/-- an effect -/
def isE (k : Kd) (d : D) : Bool := match d with
  | .tup [.bl _, x] => isP k x
  | _ => false
structure OkT (d : D) : Prop where
  ty : (tyN d).isSome
  two : ∀ a b, d = .tup [a, b] → (tyN a).isSome ∧ tys b = true ∧ ∀ l, b = .tup l → l.length ≤ 100000
theorem e_is_effect (k : Kd) (d : D) (h : OkT d) : den_is_effect [.str k.nm, d] = some (.ret (.val (.bl (isE k d)))) := by
  have hn := e_kind_named k
  cases d with
  | tup l =>
    by_cases hl : l.length = 2
    · obtain ⟨a, b, e⟩ : ∃ a b, l = [a, b] := by
        match l, hl with
        | [a, b], _ => exact ⟨a, b, rfl⟩
      subst e
      obtain ⟨h1, h2, h3⟩ := h.two a b rfl
      have hp := e_is_plain k b h2 h3
      cases a with
      | bl x => simp [fn, start, sRet, sRetN, bS, eCB, bA, aCons, aNil, eSup, eCall, eVar, eC, frzs, R.frz, peeks, R.peek, Rv.r, retR, Own.d, eOp, eUn, bE, op2, op1, sSeq, sNil, sSet, put, sIf, bT, tE, tAnd, tOr, tNot, eAnd, eOr, eNot, eIf, eTup, eLst, sAsg, gTup, gsGo, gName, eCon, eSl, bO, oNone, oSome, eChain, tYes, sExpr, eFld, den_is_effect, body_is_effect, hn, isiD, tyN, isB, cNe, D.dat, D.eqv, fLenS, ixS, ixD, nameOf_cl, hp, isE]
      | non => simp [fn, start, sRet, sRetN, bS, eCB, bA, aCons, aNil, eSup, eCall, eVar, eC, frzs, R.frz, peeks, R.peek, Rv.r, retR, Own.d, eOp, eUn, bE, op2, op1, sSeq, sNil, sSet, put, sIf, bT, tE, tAnd, tOr, tNot, eAnd, eOr, eNot, eIf, eTup, eLst, sAsg, gTup, gsGo, gName, eCon, eSl, bO, oNone, oSome, eChain, tYes, sExpr, eFld, den_is_effect, body_is_effect, hn, isiD, tyN, isB, cNe, D.dat, D.eqv, fLenS, ixS, ixD, nameOf_cl, hp, isE]
      | int x => simp [fn, start, sRet, sRetN, bS, eCB, bA, aCons, aNil, eSup, eCall, eVar, eC, frzs, R.frz, peeks, R.peek, Rv.r, retR, Own.d, eOp, eUn, bE, op2, op1, sSeq, sNil, sSet, put, sIf, bT, tE, tAnd, tOr, tNot, eAnd, eOr, eNot, eIf, eTup, eLst, sAsg, gTup, gsGo, gName, eCon, eSl, bO, oNone, oSome, eChain, tYes, sExpr, eFld, den_is_effect, body_is_effect, hn, isiD, tyN, isB, cNe, D.dat, D.eqv, fLenS, ixS, ixD, nameOf_cl, hp, isE]
      | str x => simp [fn, start, sRet, sRetN, bS, eCB, bA, aCons, aNil, eSup, eCall, eVar, eC, frzs, R.frz, peeks, R.peek, Rv.r, retR, Own.d, eOp, eUn, bE, op2, op1, sSeq, sNil, sSet, put, sIf, bT, tE, tAnd, tOr, tNot, eAnd, eOr, eNot, eIf, eTup, eLst, sAsg, gTup, gsGo, gName, eCon, eSl, bO, oNone, oSome, eChain, tYes, sExpr, eFld, den_is_effect, body_is_effect, hn, isiD, tyN, isB, cNe, D.dat, D.eqv, fLenS, ixS, ixD, nameOf_cl, hp, isE]
      | tup x => simp [fn, start, sRet, sRetN, bS, eCB, bA, aCons, aNil, eSup, eCall, eVar, eC, frzs, R.frz, peeks, R.peek, Rv.r, retR, Own.d, eOp, eUn, bE, op2, op1, sSeq, sNil, sSet, put, sIf, bT, tE, tAnd, tOr, tNot, eAnd, eOr, eNot, eIf, eTup, eLst, sAsg, gTup, gsGo, gName, eCon, eSl, bO, oNone, oSome, eChain, tYes, sExpr, eFld, den_is_effect, body_is_effect, hn, isiD, tyN, isB, cNe, D.dat, D.eqv, fLenS, ixS, ixD, nameOf_cl, hp, isE]
      | lst x => simp [fn, start, sRet, sRetN, bS, eCB, bA, aCons, aNil, eSup, eCall, eVar, eC, frzs, R.frz, peeks, R.peek, Rv.r, retR, Own.d, eOp, eUn, bE, op2, op1, sSeq, sNil, sSet, put, sIf, bT, tE, tAnd, tOr, tNot, eAnd, eOr, eNot, eIf, eTup, eLst, sAsg, gTup, gsGo, gName, eCon, eSl, bO, oNone, oSome, eChain, tYes, sExpr, eFld, den_is_effect, body_is_effect, hn, isiD, tyN, isB, cNe, D.dat, D.eqv, fLenS, ixS, ixD, nameOf_cl, hp, isE]
      | scr x => cases h1
      | obj c ns x => cases h1
    · have hl2 : ((l.length : Int) == 2) = false := by
        rw [beq_eq_false_iff_ne]; omega
      have e : isE k (.tup l) = false := by
        unfold isE
        split
        · rename_i hh; cases hh; exact absurd rfl hl
        · rfl
      simp [fn, start, sRet, sRetN, bS, eCB, bA, aCons, aNil, eSup, eCall, eVar, eC, frzs, R.frz, peeks, R.peek, Rv.r, retR, Own.d, eOp, eUn, bE, op2, op1, sSeq, sNil, sSet, put, sIf, bT, tE, tAnd, tOr, tNot, eAnd, eOr, eNot, eIf, eTup, eLst, sAsg, gTup, gsGo, gName, eCon, eSl, bO, oNone, oSome, eChain, tYes, sExpr, eFld, den_is_effect, body_is_effect, hn, isiD, tyN, isB, cNe, D.dat, D.eqv, fLenS, hl2, e]
  | non => simp [fn, start, sRet, sRetN, bS, eCB, bA, aCons, aNil, eSup, eCall, eVar, eC, frzs, R.frz, peeks, R.peek, Rv.r, retR, Own.d, eOp, eUn, bE, op2, op1, sSeq, sNil, sSet, put, sIf, bT, tE, tAnd, tOr, tNot, eAnd, eOr, eNot, eIf, eTup, eLst, sAsg, gTup, gsGo, gName, eCon, eSl, bO, oNone, oSome, eChain, tYes, sExpr, eFld, den_is_effect, body_is_effect, hn, isiD, tyN, isB, isE]
  | bl b => simp [fn, start, sRet, sRetN, bS, eCB, bA, aCons, aNil, eSup, eCall, eVar, eC, frzs, R.frz, peeks, R.peek, Rv.r, retR, Own.d, eOp, eUn, bE, op2, op1, sSeq, sNil, sSet, put, sIf, bT, tE, tAnd, tOr, tNot, eAnd, eOr, eNot, eIf, eTup, eLst, sAsg, gTup, gsGo, gName, eCon, eSl, bO, oNone, oSome, eChain, tYes, sExpr, eFld, den_is_effect, body_is_effect, hn, isiD, tyN, isB, isE]
  | int i => simp [fn, start, sRet, sRetN, bS, eCB, bA, aCons, aNil, eSup, eCall, eVar, eC, frzs, R.frz, peeks, R.peek, Rv.r, retR, Own.d, eOp, eUn, bE, op2, op1, sSeq, sNil, sSet, put, sIf, bT, tE, tAnd, tOr, tNot, eAnd, eOr, eNot, eIf, eTup, eLst, sAsg, gTup, gsGo, gName, eCon, eSl, bO, oNone, oSome, eChain, tYes, sExpr, eFld, den_is_effect, body_is_effect, hn, isiD, tyN, isB, isE]
  | str s => simp [fn, start, sRet, sRetN, bS, eCB, bA, aCons, aNil, eSup, eCall, eVar, eC, frzs, R.frz, peeks, R.peek, Rv.r, retR, Own.d, eOp, eUn, bE, op2, op1, sSeq, sNil, sSet, put, sIf, bT, tE, tAnd, tOr, tNot, eAnd, eOr, eNot, eIf, eTup, eLst, sAsg, gTup, gsGo, gName, eCon, eSl, bO, oNone, oSome, eChain, tYes, sExpr, eFld, den_is_effect, body_is_effect, hn, isiD, tyN, isB, isE]
  | lst l => simp [fn, start, sRet, sRetN, bS, eCB, bA, aCons, aNil, eSup, eCall, eVar, eC, frzs, R.frz, peeks, R.peek, Rv.r, retR, Own.d, eOp, eUn, bE, op2, op1, sSeq, sNil, sSet, put, sIf, bT, tE, tAnd, tOr, tNot, eAnd, eOr, eNot, eIf, eTup, eLst, sAsg, gTup, gsGo, gName, eCon, eSl, bO, oNone, oSome, eChain, tYes, sExpr, eFld, den_is_effect, body_is_effect, hn, isiD, tyN, isB, isE]
  | scr l => cases h.ty
  | obj c ns l => cases h.ty
theorem e_normal (k : Kd) (a : Ef) : den_normal [.str k.nm, fD a] = some (.ret (.val (fD (fm k a.1 a.2)))) := by
  have h := e_formed k a.1 a.2
  simp only [fD] at h
  simp [fn, start, sRet, sRetN, bS, eCB, bA, aCons, aNil, eSup, eCall, eVar, eC, frzs, R.frz, peeks, R.peek, Rv.r, retR, Own.d, eOp, eUn, bE, op2, op1, sSeq, sNil, sSet, put, sIf, bT, tE, tAnd, tOr, tNot, eAnd, eOr, eNot, eIf, eTup, eLst, sAsg, gTup, gsGo, gName, eCon, eSl, bO, oNone, oSome, eChain, tYes, sExpr, eFld, den_normal, body_normal, e_kind_named, fD, h]
end SoR
end

section
set_option maxRecDepth 100000
set_option maxHeartbeats 1000000
namespace SoR
open DL
/-- a row, as a list or a tuple -/
def sq (b : Bool) (l : List D) : D := if b then .tup l else .lst l
theorem ix_at (b : Bool) (pre post : List D) (d : D) : ixS (sq b (pre ++ d :: post)) (.int pre.length) = some (.val d) := by
  have h : ixD (pre.length + (post.length + 1)) (pre.length : Int) = some pre.length := by
    unfold ixD
    rw [if_pos (by omega), if_pos (by omega)]
    simp
  cases b <;> simp [sq, ixS, h]
theorem len_sq (b : Bool) (l : List D) : fLenS [sq b l] = some (.val (.int l.length)) := by cases b <;> rfl
def nf (k : Kd) (e : Ef) : Ef := fm k e.1 e.2
structure OkE (k : Kd) (e : Ef) : Prop where
  pl : pl k e.2 = e.2
  le : ∀ i ∈ e.2, 0 ≤ i ∧ i < 1000000000
  ln : e.2.length ≤ 100000
theorem tys_wD (w : Wd) : tys (wD w) = true := by simp [tys, wD, tyN]
theorem okT_fD {e : Ef} (h : e.2.length ≤ 100000) : OkT (fD e) := ⟨rfl, fun a b q => by
  unfold fD at q
  cases q
  exact ⟨rfl, tys_wD _, fun l q => by unfold wD at q; cases q; simpa using h⟩⟩
theorem isE_fD {k : Kd} {e : Ef} (h : OkE k e) : isE k (fD e) = true := by
  show isP k (wD e.2) = true
  rw [isP_wD, isW_wD, h.pl]
  simp only [decide_true, Bool.and_true, List.all_eq_true]
  intro i hi
  exact decide_eq_true (h.le i hi)
def plcs (i n : Nat) : List D := (List.range' i n).map fun k => .int (k : Nat)
theorem rangeD_plcs (n : Nat) : rangeD 0 n = plcs 0 n := by
  unfold rangeD plcs
  rw [List.range_eq_range']
  apply List.map_congr_left
  intro a _
  simp
theorem plcs_succ (i n : Nat) : plcs i (n + 1) = .int i :: plcs (i + 1) n := by simp [plcs, List.range'_succ]
theorem chk_step (k : Kd) (b : Bool) (pre post : List D) (e : Ef) (h : OkE k e) (acc : List D) (s5 s6 : Sl) (ha : acc.length < 1000000) (h5 : ∀ o, s5 ≠ .ref o) (h6 : ∀ o, s6 ≠ .ref o) :
    lb_checked_row_1 [.frz (.str k.nm), .frz (sq b (pre ++ fD e :: post)), .frz k.ob, .own (.lst acc), .frz (.int pre.length), s5, s6] =
      some (.nx [.frz (.str k.nm), .frz (sq b (pre ++ fD e :: post)), .frz k.ob, .own (.lst (acc ++ [fD (nf k e)])), .frz (.int pre.length), .frz (.bl e.1), .frz (wD e.2)]) := by
  have h1 := ix_at b pre post (fD e)
  have h2 := e_is_effect k (fD e) (okT_fD h.ln)
  rw [isE_fD h] at h2
  have h3 := e_formed k e.1 e.2
  generalize sq b (pre ++ fD e :: post) = rw at h1 ⊢
  simp only [fD] at h1 h2 h3
  cases s5 with
  | ref o => exact absurd rfl (h5 o)
  | _ => cases s6 with
    | ref o => exact absurd rfl (h6 o)
    | _ => simp [fn, start, sRet, sRetN, bS, eCB, bA, aCons, aNil, eSup, eCall, eVar, eC, frzs, R.frz, peeks, R.peek, Rv.r, retR, Own.d, eOp, eUn, bE, op2, op1, sSeq, sNil, sSet, put, sIf, bT, tE, tAnd, tOr, tNot, eAnd, eOr, eNot, eIf, eTup, eLst, sAsg, gTup, gsGo, gName, eCon, eSl, bO, oNone, oSome, eChain, tYes, sExpr, eFld, lb_checked_row_1, h1, h2, h3, sApp, own?, ha, nf, fD]
theorem chk_loop (k : Kd) (b : Bool) (row : List D) : ∀ (es : List Ef) (pre post : List D) (acc : List D) (s4 s5 s6 : Sl), row = pre ++ es.map fD ++ post → (∀ e ∈ es, OkE k e) → acc.length + es.length ≤ 100000 → (∀ o, s4 ≠ .ref o) → (∀ o, s5 ≠ .ref o) → (∀ o, s6 ≠ .ref o) →
    ∀ m, ∃ s4' s5' s6', (∀ o, s4' ≠ .ref o) ∧ (∀ o, s5' ≠ .ref o) ∧ (∀ o, s6' ≠ .ref o) ∧ forGo (gName 4) lb_checked_row_1 (plcs pre.length (es.length + m)) [.frz (.str k.nm), .frz (sq b row), .frz k.ob, .own (.lst acc), s4, s5, s6] =
      forGo (gName 4) lb_checked_row_1 (plcs (pre.length + es.length) m) [.frz (.str k.nm), .frz (sq b row), .frz k.ob, .own (.lst (acc ++ (es.map (nf k)).map fD)), s4', s5', s6']
  | [], pre, post, acc, s4, s5, s6, _, _, _, h4, h5, h6, m => ⟨s4, s5, s6, h4, h5, h6, by simp⟩
  | e :: es, pre, post, acc, s4, s5, s6, hr, he, ha, h4, h5, h6, m => by
    have hs := chk_step k b pre (es.map fD ++ post) e (he e List.mem_cons_self) acc s5 s6 (by simp at ha; omega) h5 h6
    have hr2 : row = pre ++ fD e :: (es.map fD ++ post) := by rw [hr]; simp
    obtain ⟨t4, t5, t6, q4, q5, q6, ih⟩ := chk_loop k b row es (pre ++ [fD e]) post (acc ++ [fD (nf k e)]) (.frz (.int pre.length)) (.frz (.bl e.1)) (.frz (wD e.2)) (by rw [hr]; simp) (fun x hx => he x (List.mem_cons_of_mem _ hx)) (by simp at ha ⊢; omega)
      (fun o z => by cases z) (fun o z => by cases z) (fun o z => by cases z) m
    refine ⟨t4, t5, t6, q4, q5, q6, ?_⟩
    have en : (e :: es).length + m = (es.length + m) + 1 := by simp; omega
    rw [en, plcs_succ, forGo]
    have hp : gName 4 (.int pre.length) [.frz (.str k.nm), .frz (sq b row), .frz k.ob, .own (.lst acc), s4, s5, s6] = some [.frz (.str k.nm), .frz (sq b row), .frz k.ob, .own (.lst acc), .frz (.int pre.length), s5, s6] := by
      cases s4 with
      | ref o => exact absurd rfl (h4 o)
      | _ => rfl
    rw [hp]
    dsimp only
    rw [hr2, hs]
    dsimp only
    rw [← hr2]
    have e1 : (pre ++ [fD e]).length = pre.length + 1 := by simp
    rw [e1] at ih
    rw [ih]
    have e2 : pre.length + 1 + es.length = pre.length + (e :: es).length := by simp; omega
    rw [e2]
    simp
theorem e_checked_row (k : Kd) (b : Bool) (es : List Ef) (he : ∀ e ∈ es, OkE k e) (hl : es.length ≤ 100000) : den_checked_row [.str k.nm, sq b (es.map fD)] = some (.ret (.fre (.lst ((es.map (nf k)).map fD)))) := by
  obtain ⟨t4, t5, t6, q4, q5, q6, h⟩ := chk_loop k b (es.map fD) es [] [] [] .no .no .no (by simp) he (by simpa using hl) (fun o z => by cases z) (fun o z => by cases z) (fun o z => by cases z) 0
  have hlen := len_sq b (es.map fD)
  simp only [List.length_map] at hlen
  have h1 : ((es.length : Int)) ≤ 1000000000 := by omega
  have h2 : -1000000000 ≤ (es.length : Int) := by omega
  have hit : iRange (aCons (eCB fLenS (aCons (eVar 1) aNil)) aNil) [.frz (.str k.nm), .frz (sq b (es.map fD)), .frz k.ob, .own (.lst []), .no, .no, .no] = some (.ok (plcs 0 es.length) [.frz (.str k.nm), .frz (sq b (es.map fD)), .frz k.ob, .own (.lst []), .no, .no, .no]) := by
    simp [fn, start, sRet, sRetN, bS, eCB, bA, aCons, aNil, eSup, eCall, eVar, eC, frzs, R.frz, peeks, R.peek, Rv.r, retR, Own.d, eOp, eUn, bE, op2, op1, sSeq, sNil, sSet, put, sIf, bT, tE, tAnd, tOr, tNot, eAnd, eOr, eNot, eIf, eTup, eLst, sAsg, gTup, gsGo, gName, eCon, eSl, bO, oNone, oSome, eChain, tYes, sExpr, eFld, iRange, hlen, h1, h2, rangeD_plcs]
  have hlp : lp_checked_row_1 [.frz (.str k.nm), .frz (sq b (es.map fD)), .frz k.ob, .own (.lst []), .no, .no, .no] = some (.nx [.frz (.str k.nm), .frz (sq b (es.map fD)), .frz k.ob, .own (.lst ((es.map (nf k)).map fD)), t4, t5, t6]) := by
    unfold lp_checked_row_1 sFor
    rw [hit]
    dsimp only
    have h3 := h
    simp only [List.length_nil, Nat.add_zero, Nat.zero_add, List.nil_append] at h3
    rw [h3]
    rfl
  generalize sq b (es.map fD) = rw at hlp ⊢
  simp [fn, start, sRet, sRetN, bS, eCB, bA, aCons, aNil, eSup, eCall, eVar, eC, frzs, R.frz, peeks, R.peek, Rv.r, retR, Own.d, eOp, eUn, bE, op2, op1, sSeq, sNil, sSet, put, sIf, bT, tE, tAnd, tOr, tNot, eAnd, eOr, eNot, eIf, eTup, eLst, sAsg, gTup, gsGo, gName, eCon, eSl, bO, oNone, oSome, eChain, tYes, sExpr, eFld, den_checked_row, body_checked_row, e_kind_named, ↓hlp]
theorem e_checked_bad (k : Kd) (b : Bool) (es : List Ef) (bad : D) (rest : List D) (he : ∀ e ∈ es, OkE k e) (hl : es.length + rest.length ≤ 10000) (hb : OkT bad) (hn : isE k bad = false) :
    den_checked_row [.str k.nm, sq b (es.map fD ++ bad :: rest)] = some (.ex ⟨"BadEffect", ["place"], [.int es.length]⟩) := by
  obtain ⟨t4, t5, t6, q4, q5, q6, h⟩ := chk_loop k b (es.map fD ++ bad :: rest) es [] (bad :: rest) [] .no .no .no (by simp) he (by simp; omega) (fun o z => by cases z) (fun o z => by cases z) (fun o z => by cases z) (rest.length + 1)
  have hlen := len_sq b (es.map fD ++ bad :: rest)
  simp only [List.length_map, List.length_append, List.length_cons] at hlen
  have h1 : (((es.length + (rest.length + 1) : Nat) : Int)) ≤ 1000000000 := by omega
  have h2 : -1000000000 ≤ ((es.length + (rest.length + 1) : Nat) : Int) := by omega
  have hit : iRange (aCons (eCB fLenS (aCons (eVar 1) aNil)) aNil) [.frz (.str k.nm), .frz (sq b (es.map fD ++ bad :: rest)), .frz k.ob, .own (.lst []), .no, .no, .no] = some (.ok (plcs 0 (es.length + (rest.length + 1))) [.frz (.str k.nm), .frz (sq b (es.map fD ++ bad :: rest)), .frz k.ob, .own (.lst []), .no, .no, .no]) := by
    generalize es.length + (rest.length + 1) = n at hlen h1 h2 ⊢
    simp [fn, start, sRet, sRetN, bS, eCB, bA, aCons, aNil, eSup, eCall, eVar, eC, frzs, R.frz, peeks, R.peek, Rv.r, retR, Own.d, eOp, eUn, bE, op2, op1, sSeq, sNil, sSet, put, sIf, bT, tE, tAnd, tOr, tNot, eAnd, eOr, eNot, eIf, eTup, eLst, sAsg, gTup, gsGo, gName, eCon, eSl, bO, oNone, oSome, eChain, tYes, sExpr, eFld, iRange, hlen, h1, h2, rangeD_plcs]
  have hx := ix_at b (es.map fD) rest bad
  have h4 := e_is_effect k bad hb
  rw [hn] at h4
  simp only [List.length_map] at hx
  have hlp : ∃ ρ, lp_checked_row_1 [.frz (.str k.nm), .frz (sq b (es.map fD ++ bad :: rest)), .frz k.ob, .own (.lst []), .no, .no, .no] = some (.ex ⟨"BadEffect", ["place"], [.int es.length]⟩ ρ) := by
    unfold lp_checked_row_1 sFor
    rw [hit]
    dsimp only
    have h3 := h
    simp only [List.length_nil, Nat.zero_add, List.nil_append] at h3
    rw [h3, plcs_succ, forGo]
    generalize sq b (es.map fD ++ bad :: rest) = rw at hx ⊢
    have hp : gName 4 (.int es.length) [.frz (.str k.nm), .frz rw, .frz k.ob, .own (.lst ((es.map (nf k)).map fD)), t4, t5, t6] = some [.frz (.str k.nm), .frz rw, .frz k.ob, .own (.lst ((es.map (nf k)).map fD)), .frz (.int es.length), t5, t6] := by
      cases t4 with
      | ref o => exact absurd rfl (q4 o)
      | _ => rfl
    rw [hp]
    dsimp only
    refine ⟨[.frz (.str k.nm), .frz rw, .frz k.ob, .own (.lst ((es.map (nf k)).map fD)), .frz (.int es.length), t5, t6], ?_⟩
    have hb : lb_checked_row_1 [.frz (.str k.nm), .frz rw, .frz k.ob, .own (.lst ((es.map (nf k)).map fD)), .frz (.int es.length), t5, t6] = some (.ex ⟨"BadEffect", ["place"], [.int es.length]⟩ [.frz (.str k.nm), .frz rw, .frz k.ob, .own (.lst ((es.map (nf k)).map fD)), .frz (.int es.length), t5, t6]) := by
      simp [fn, start, sRet, sRetN, bS, eCB, bA, aCons, aNil, eSup, eCall, eVar, eC, frzs, R.frz, peeks, R.peek, Rv.r, retR, Own.d, eOp, eUn, bE, op2, op1, sSeq, sNil, sSet, put, sIf, bT, tE, tAnd, tOr, tNot, eAnd, eOr, eNot, eIf, eTup, eLst, sAsg, gTup, gsGo, gName, eCon, eSl, bO, oNone, oSome, eChain, tYes, sExpr, eFld, lb_checked_row_1, hx, h4, sRaise, mkExc]
    rw [hb]
  obtain ⟨ρ, hlp⟩ := hlp
  generalize sq b (es.map fD ++ bad :: rest) = rw at hlp ⊢
  simp [fn, start, sRet, sRetN, bS, eCB, bA, aCons, aNil, eSup, eCall, eVar, eC, frzs, R.frz, peeks, R.peek, Rv.r, retR, Own.d, eOp, eUn, bE, op2, op1, sSeq, sNil, sSet, put, sIf, bT, tE, tAnd, tOr, tNot, eAnd, eOr, eNot, eIf, eTup, eLst, sAsg, gTup, gsGo, gName, eCon, eSl, bO, oNone, oSome, eChain, tYes, sExpr, eFld, den_checked_row, body_checked_row, e_kind_named, ↓hlp]
end SoR
end

section
set_option maxRecDepth 100000
set_option maxHeartbeats 1000000
namespace SoR
open DL
theorem isIn_ints (x : Int) (w : Wd) : isIn (.int x) (w.map .int) = some (decide (x ∈ w)) := by
  have h1 : (w.map D.int).all D.flat = true := by simp [List.all_eq_true, D.flat]
  have h2 : ((w.map D.int).any fun y => y.eqv (.int x)) = decide (x ∈ w) := by
    induction w with
    | nil => rfl
    | cons y w ih =>
      have h3 : (w.map D.int).all D.flat = true := by simp [List.all_eq_true, D.flat]
      have h4 := ih h3
      rw [List.map_cons, List.any_cons, h4]
      by_cases h : y = x
      · subst h; simp [D.eqv]
      · have h5 : ¬ x = y := fun z => h z.symm
        simp [D.eqv, h, h5]
  unfold isIn
  rw [h1, h2]
  simp [D.flat]
theorem cIn_wD (x : Int) (w : Wd) : cIn (.int x) (wD w) = some (.val (.bl (decide (x ∈ w)))) := by simp [cIn, wD, isIn_ints]
theorem fAny_map {α : Type} (f : α → Bool) (l : List α) : fAny [.lst (l.map fun x => .bl (f x))] = some (.val (.bl (l.any f))) := by
  simp [fAny, bools_map, List.any_map, Function.comp_def]
theorem fAll_map {α : Type} (f : α → Bool) (l : List α) : fAll [.lst (l.map fun x => .bl (f x))] = some (.val (.bl (l.all f))) := by
  simp [fAll, bools_map, List.all_map, Function.comp_def]
def inAny (x : Int) (ws : List Wd) : Bool := ws.any fun w => decide (x ∈ w)
/-- bare_word -/
def bw (k : Kd) (w : Wd) (ws : List Wd) : Wd :=
  if k = .set ∨ k = .tails then w.filter (fun x => !(inAny x ws)) else if k = .ends ∧ (ws.any fun w => !w.isEmpty) = true then w.take 1 ++ w.take 1 else w
theorem lc_bw2 (a : Sl) (b : Sl) (x : Int) (ws : List Wd) (hl : ws.length ≤ 1000000) : lc_bare_word_2 [a, b, .frz (.lst (ws.map wD)), .frz (.int x), .no] = some (.ok (.fre (.lst (ws.map fun w => .bl (decide (x ∈ w))))) [a, b, .frz (.lst (ws.map wD)), .frz (.int x), .no]) :=
  eLc_all (toD := wD) [a, b, .frz (.lst (ws.map wD)), .frz (.int x), .no] ws (ρ1 := [a, b, .frz (.lst (ws.map wD)), .frz (.int x), .no]) (by simp [iSeq, eVar, R.frz]) hl rfl
    (fun w hw => ⟨[a, b, .frz (.lst (ws.map wD)), .frz (.int x), .frz (wD w)], .val (.bl (decide (x ∈ w))), [a, b, .frz (.lst (ws.map wD)), .frz (.int x), .frz (wD w)], [a, b, .frz (.lst (ws.map wD)), .frz (.int x), .frz (wD w)], rfl, by simp [fn, start, sRet, sRetN, bS, eCB, bA, aCons, aNil, eSup, eCall, eVar, eC, frzs, R.frz, peeks, R.peek, Rv.r, retR, Own.d, eOp, eUn, bE, op2, op1, sSeq, sNil, sSet, put, sIf, bT, tE, tAnd, tOr, tNot, eAnd, eOr, eNot, eIf, eTup, eLst, sAsg, gTup, gsGo, gName, eCon, eSl, bO, oNone, oSome, eChain, tYes, sExpr, eFld, cIn_wD], rfl, rfl⟩)
theorem lc_bw3 (a : Sl) (w : Wd) (ws : List Wd) (hl : ws.length ≤ 1000000) (hw : w.length ≤ 1000000) : lc_bare_word_3 [a, .frz (wD w), .frz (.lst (ws.map wD)), .no, .no] = some (.ok (.fre (.lst ((w.filter fun x => !(inAny x ws)).map .int))) [a, .frz (wD w), .frz (.lst (ws.map wD)), .no, .no]) :=
  eLc_map (toD := .int) [a, .frz (wD w), .frz (.lst (ws.map wD)), .no, .no] w (ρ1 := [a, .frz (wD w), .frz (.lst (ws.map wD)), .no, .no]) (by simp [iSeq, eVar, R.frz, wD]) hw rfl
    (fun x hx => ⟨[a, .frz (wD w), .frz (.lst (ws.map wD)), .frz (.int x), .no], [a, .frz (wD w), .frz (.lst (ws.map wD)), .frz (.int x), .no], rfl, by
      have h := lc_bw2 a (.frz (wD w)) x ws hl
      simp [fn, start, sRet, sRetN, bS, eCB, bA, aCons, aNil, eSup, eCall, eVar, eC, frzs, R.frz, peeks, R.peek, Rv.r, retR, Own.d, eOp, eUn, bE, op2, op1, sSeq, sNil, sSet, put, sIf, bT, tE, tAnd, tOr, tNot, eAnd, eOr, eNot, eIf, eTup, eLst, sAsg, gTup, gsGo, gName, eCon, eSl, bO, oNone, oSome, eChain, tYes, sExpr, eFld, h, fAny_map, inAny], fun _ => ⟨.val (.int x), [a, .frz (wD w), .frz (.lst (ws.map wD)), .frz (.int x), .no], [a, .frz (wD w), .frz (.lst (ws.map wD)), .frz (.int x), .no], by simp [fn, start, sRet, sRetN, bS, eCB, bA, aCons, aNil, eSup, eCall, eVar, eC, frzs, R.frz, peeks, R.peek, Rv.r, retR, Own.d, eOp, eUn, bE, op2, op1, sSeq, sNil, sSet, put, sIf, bT, tE, tAnd, tOr, tNot, eAnd, eOr, eNot, eIf, eTup, eLst, sAsg, gTup, gsGo, gName, eCon, eSl, bO, oNone, oSome, eChain, tYes, sExpr, eFld], rfl, rfl⟩, fun _ => rfl⟩)
theorem len_wD (w : Wd) : fLenS [wD w] = some (.val (.int w.length)) := by simp [fLenS, wD]
theorem lc_bw1 (a b : Sl) (ws : List Wd) (hl : ws.length ≤ 1000000) : lc_bare_word_1 [a, b, .frz (.lst (ws.map wD)), .no, .no] = some (.ok (.fre (.lst (ws.map fun w => .bl (!w.isEmpty)))) [a, b, .frz (.lst (ws.map wD)), .no, .no]) :=
  eLc_all (toD := wD) [a, b, .frz (.lst (ws.map wD)), .no, .no] ws (ρ1 := [a, b, .frz (.lst (ws.map wD)), .no, .no]) (by simp [iSeq, eVar, R.frz]) hl rfl
    (fun w hw => ⟨[a, b, .frz (.lst (ws.map wD)), .no, .frz (wD w)], .val (.bl (!w.isEmpty)), [a, b, .frz (.lst (ws.map wD)), .no, .frz (wD w)], [a, b, .frz (.lst (ws.map wD)), .no, .frz (wD w)], rfl, by
      have h : decide ((0 : Int) < (w.length : Int)) = !w.isEmpty := by
        cases w with
        | nil => rfl
        | cons x w => simp
      have h2 : decide (0 < w.length) = !w.isEmpty := by rw [← h]; simp
      simp [fn, start, sRet, sRetN, bS, eCB, bA, aCons, aNil, eSup, eCall, eVar, eC, frzs, R.frz, peeks, R.peek, Rv.r, retR, Own.d, eOp, eUn, bE, op2, op1, sSeq, sNil, sSet, put, sIf, bT, tE, tAnd, tOr, tNot, eAnd, eOr, eNot, eIf, eTup, eLst, sAsg, gTup, gsGo, gName, eCon, eSl, bO, oNone, oSome, eChain, tYes, sExpr, eFld, cGt, cI, len_wD, h2], rfl, rfl⟩)
theorem nm_setTails (k : Kd) : cIn (.str k.nm) (.tup [.str "set", .str "tails"]) = some (.val (.bl (decide (k = .set ∨ k = .tails)))) := by cases k <;> rfl
theorem cut_one' (w : Wd) : cutD (w.map .int) none (some 1) = (w.take 1).map .int := cut_one w
theorem e_bare_word (k : Kd) (w : Wd) (ws : List Wd) (hl : ws.length ≤ 1000000) (hw : w.length ≤ 1000000) : den_bare_word [.str k.nm, wD w, .lst (ws.map wD)] = some (.ret (.val (wD (bw k w ws)))) := by
  have h3 := lc_bw3 (.frz (.str k.nm)) w ws hl hw
  have h1 := lc_bw1 (.frz (.str k.nm)) (.frz (wD w)) ws hl
  have h0 := nm_setTails k
  have he := nm_ends k
  by_cases hk : k = .set ∨ k = .tails
  · simp only [hk, decide_true] at h0
    simp only [wD] at h3
    simp [fn, start, sRet, sRetN, bS, eCB, bA, aCons, aNil, eSup, eCall, eVar, eC, frzs, R.frz, peeks, R.peek, Rv.r, retR, Own.d, eOp, eUn, bE, op2, op1, sSeq, sNil, sSet, put, sIf, bT, tE, tAnd, tOr, tNot, eAnd, eOr, eNot, eIf, eTup, eLst, sAsg, gTup, gsGo, gName, eCon, eSl, bO, oNone, oSome, eChain, tYes, sExpr, eFld, den_bare_word, body_bare_word, h0, wD, h3, fTuple, bw, hk]
  · simp only [hk, decide_false] at h0
    by_cases hk2 : k = .ends
    · subst hk2
      have he2 : (Kd.ends.nm == "ends") = true := rfl
      cases hz : (ws.any fun w => !w.isEmpty) with
      | true =>
        have hm : min 1 w.length + min 1 w.length ≤ 1000000 := by omega
        simp only [wD] at h1
        simp [fn, start, sRet, sRetN, bS, eCB, bA, aCons, aNil, eSup, eCall, eVar, eC, frzs, R.frz, peeks, R.peek, Rv.r, retR, Own.d, eOp, eUn, bE, op2, op1, sSeq, sNil, sSet, put, sIf, bT, tE, tAnd, tOr, tNot, eAnd, eOr, eNot, eIf, eTup, eLst, sAsg, gTup, gsGo, gName, eCon, eSl, bO, oNone, oSome, eChain, tYes, sExpr, eFld, den_bare_word, body_bare_word, h0, wD, h1, fAny_map, bw, hk, hz, cEq, D.dat, D.eqv, he2, slOp, cut_one, opAdd, hm]
      | false =>
        simp only [wD] at h1
        simp [fn, start, sRet, sRetN, bS, eCB, bA, aCons, aNil, eSup, eCall, eVar, eC, frzs, R.frz, peeks, R.peek, Rv.r, retR, Own.d, eOp, eUn, bE, op2, op1, sSeq, sNil, sSet, put, sIf, bT, tE, tAnd, tOr, tNot, eAnd, eOr, eNot, eIf, eTup, eLst, sAsg, gTup, gsGo, gName, eCon, eSl, bO, oNone, oSome, eChain, tYes, sExpr, eFld, den_bare_word, body_bare_word, h0, wD, h1, fAny_map, bw, hk, hz, cEq, D.dat, D.eqv, he2]
    · have he2 : (k.nm == "ends") = false := by rw [he]; simpa using hk2
      simp [fn, start, sRet, sRetN, bS, eCB, bA, aCons, aNil, eSup, eCall, eVar, eC, frzs, R.frz, peeks, R.peek, Rv.r, retR, Own.d, eOp, eUn, bE, op2, op1, sSeq, sNil, sSet, put, sIf, bT, tE, tAnd, tOr, tNot, eAnd, eOr, eNot, eIf, eTup, eLst, sAsg, gTup, gsGo, gName, eCon, eSl, bO, oNone, oSome, eChain, tYes, sExpr, eFld, den_bare_word, body_bare_word, h0, wD, bw, hk, hk2, cEq, D.dat, D.eqv, he2]
end SoR
end

section
set_option maxRecDepth 100000
set_option maxHeartbeats 1000000
namespace SoR
open DL
/-- bare_effect -/
def be (k : Kd) (b : Ef) (r : List Ef) : Ef := if r.any (·.1) then (false, []) else (b.1, bw k b.2 (r.map (·.2)))
/-- bare_blocks -/
def bare (k : Kd) : List Ef → List Ef
  | [] => []
  | e :: r => be k e r :: bare k r
theorem lc_be2 (a b : Sl) (r : List Ef) (hl : r.length ≤ 1000000) : lc_bare_effect_2 [a, b, .frz (.lst (r.map fD)), .no, .no, .no, .no] = some (.ok (.fre (.lst (r.map fun e => .bl e.1))) [a, b, .frz (.lst (r.map fD)), .no, .no, .no, .no]) :=
  eLc_all (toD := fD) [a, b, .frz (.lst (r.map fD)), .no, .no, .no, .no] r (ρ1 := [a, b, .frz (.lst (r.map fD)), .no, .no, .no, .no]) (by simp [iSeq, eVar, R.frz]) hl rfl
    (fun e he => ⟨[a, b, .frz (.lst (r.map fD)), .frz (.bl e.1), .no, .frz (wD e.2), .no], .val (.bl e.1), [a, b, .frz (.lst (r.map fD)), .frz (.bl e.1), .no, .frz (wD e.2), .no], [a, b, .frz (.lst (r.map fD)), .frz (.bl e.1), .no, .frz (wD e.2), .no], rfl, by simp [fn, start, sRet, sRetN, bS, eCB, bA, aCons, aNil, eSup, eCall, eVar, eC, frzs, R.frz, peeks, R.peek, Rv.r, retR, Own.d, eOp, eUn, bE, op2, op1, sSeq, sNil, sSet, put, sIf, bT, tE, tAnd, tOr, tNot, eAnd, eOr, eNot, eIf, eTup, eLst, sAsg, gTup, gsGo, gName, eCon, eSl, bO, oNone, oSome, eChain, tYes, sExpr, eFld], rfl, rfl⟩)
theorem lc_be1 (a b c d : Sl) (r : List Ef) (hl : r.length ≤ 1000000) : lc_bare_effect_1 [a, b, .frz (.lst (r.map fD)), c, d, .no, .no] = some (.ok (.fre (.lst ((r.map (·.2)).map wD))) [a, b, .frz (.lst (r.map fD)), c, d, .no, .no]) := by
  have h := eLc_all (it := iSeq (eVar 2)) (g := gTup [(gName 5), (gName 6)]) (el := eVar 6) (vs := [5, 6]) (toD := fD) (f := fun e => wD e.2) (ρ := [a, b, .frz (.lst (r.map fD)), c, d, .no, .no]) [a, b, .frz (.lst (r.map fD)), c, d, .no, .no] r (ρ1 := [a, b, .frz (.lst (r.map fD)), c, d, .no, .no]) (by simp [iSeq, eVar, R.frz]) hl rfl
    (fun e he => ⟨[a, b, .frz (.lst (r.map fD)), c, d, .frz (.bl e.1), .frz (wD e.2)], .val (wD e.2), [a, b, .frz (.lst (r.map fD)), c, d, .frz (.bl e.1), .frz (wD e.2)], [a, b, .frz (.lst (r.map fD)), c, d, .frz (.bl e.1), .frz (wD e.2)], rfl, by simp [fn, start, sRet, sRetN, bS, eCB, bA, aCons, aNil, eSup, eCall, eVar, eC, frzs, R.frz, peeks, R.peek, Rv.r, retR, Own.d, eOp, eUn, bE, op2, op1, sSeq, sNil, sSet, put, sIf, bT, tE, tAnd, tOr, tNot, eAnd, eOr, eNot, eIf, eTup, eLst, sAsg, gTup, gsGo, gName, eCon, eSl, bO, oNone, oSome, eChain, tYes, sExpr, eFld], rfl, rfl⟩)
  rw [List.map_map]
  exact h
theorem e_bare_effect (k : Kd) (b : Ef) (r : List Ef) (hl : r.length ≤ 1000000) (hw : b.2.length ≤ 1000000) : den_bare_effect [.str k.nm, fD b, .lst (r.map fD)] = some (.ret (.val (fD (be k b r)))) := by
  have h2 := lc_be2 (.frz (.str k.nm)) (.frz (fD b)) r hl
  have h1 := lc_be1 (.frz (.str k.nm)) (.frz (fD b)) (.frz (.bl b.1)) (.frz (wD b.2)) r hl
  have h3 := e_bare_word k b.2 (r.map (·.2)) (by simpa using hl) hw
  cases hz : r.any (·.1) with
  | true =>
    have e : fD (be k b r) = d_IDLE := by simp only [be, hz]; rfl
    rw [e]
    simp [fn, start, sRet, sRetN, bS, eCB, bA, aCons, aNil, eSup, eCall, eVar, eC, frzs, R.frz, peeks, R.peek, Rv.r, retR, Own.d, eOp, eUn, bE, op2, op1, sSeq, sNil, sSet, put, sIf, bT, tE, tAnd, tOr, tNot, eAnd, eOr, eNot, eIf, eTup, eLst, sAsg, gTup, gsGo, gName, eCon, eSl, bO, oNone, oSome, eChain, tYes, sExpr, eFld, den_bare_effect, body_bare_effect, ↓h2, fAny_map, hz]
  | false =>
    have e : be k b r = (b.1, bw k b.2 (r.map (·.2))) := by simp only [be, hz]; rfl
    rw [e]
    generalize hr : r.map fD = rr at h1 h2 ⊢
    generalize hww : (r.map (·.2)).map wD = ww at h1 h3 ⊢
    simp only [fD] at h1 h2 ⊢
    simp [fn, start, sRet, sRetN, bS, eCB, bA, aCons, aNil, eSup, eCall, eVar, eC, frzs, R.frz, peeks, R.peek, Rv.r, retR, Own.d, eOp, eUn, bE, op2, op1, sSeq, sNil, sSet, put, sIf, bT, tE, tAnd, tOr, tNot, eAnd, eOr, eNot, eIf, eTup, eLst, sAsg, gTup, gsGo, gName, eCon, eSl, bO, oNone, oSome, eChain, tYes, sExpr, eFld, den_bare_effect, body_bare_effect, ↓h2, fAny_map, hz, ↓h1, h3]
theorem enumD_map (es : List Ef) : ∀ i : Nat, enumD i (es.map fD) = (es.zipIdx i).map fun p => .tup [.int (p.2 : Nat), fD p.1] := by
  induction es with
  | nil => intro i; rfl
  | cons e es ih => intro i; simp [enumD, ih]
theorem bare_zip (k : Kd) (all : List Ef) : ∀ (es : List Ef) (i : Nat), all.drop i = es → (es.zipIdx i).map (fun p => be k p.1 (all.drop (p.2 + 1))) = bare k es
  | [], _, _ => rfl
  | e :: es, i, h => by
    have h2 : all.drop (i + 1) = es := by
      have := congrArg (List.drop 1) h
      simpa [List.drop_drop, Nat.add_comm] using this
    rw [List.zipIdx_cons, List.map_cons, bare_zip k all es (i + 1) h2, bare]
    dsimp only
    rw [h2]
theorem cut_from (l : List D) (i : Nat) : cutD l (some ((i : Int) + 1)) none = l.drop (i + 1) := by
  unfold cutD sIxD
  have h1 : ¬ ((i : Int) + 1 < 0) := by omega
  have h2 : ((i : Int) + 1).toNat = i + 1 := by omega
  simp only [h1, if_false, h2]
  by_cases h : i + 1 ≤ l.length
  · rw [Nat.min_eq_left h, List.take_of_length_le (by simp)]
  · have h3 : l.drop (min (i + 1) l.length) = [] := List.drop_eq_nil_of_le (by omega)
    rw [h3, List.drop_eq_nil_of_le (by omega)]
    simp
theorem lc_bb (k : Kd) (a : Sl) (es : List Ef) (hl : es.length ≤ 1000000) (hw : ∀ e ∈ es, e.2.length ≤ 1000000) :
    lc_bare_blocks_1 [a, .frz (.lst (es.map fD)), .frz (.str k.nm), .no, .no] = some (.ok (.fre (.lst ((bare k es).map fD))) [a, .frz (.lst (es.map fD)), .frz (.str k.nm), .no, .no]) := by
  have h := eLc_all (it := iEnum (eVar 1)) (g := gTup [(gName 3), (gName 4)]) (el := eCall den_bare_effect (aCons (eVar 2) (aCons (eVar 4) (aCons (eSl slOp (eVar 1) (oSome (eOp opAdd (eVar 3) (eC (.int 1)))) oNone) aNil)))) (vs := [3, 4])
    (toD := fun p : Ef × Nat => .tup [.int (p.2 : Nat), fD p.1]) (f := fun p => fD (be k p.1 (es.drop (p.2 + 1)))) (ρ := [a, .frz (.lst (es.map fD)), .frz (.str k.nm), .no, .no]) [a, .frz (.lst (es.map fD)), .frz (.str k.nm), .no, .no] (es.zipIdx 0)
    (ρ1 := [a, .frz (.lst (es.map fD)), .frz (.str k.nm), .no, .no]) (by simp [iEnum, eVar, R.frz, enumD_map]) (by simpa using hl) rfl
    (fun p hp => ⟨[a, .frz (.lst (es.map fD)), .frz (.str k.nm), .frz (.int p.2), .frz (fD p.1)], .val (fD (be k p.1 (es.drop (p.2 + 1)))), [a, .frz (.lst (es.map fD)), .frz (.str k.nm), .frz (.int p.2), .frz (fD p.1)], [a, .frz (.lst (es.map fD)), .frz (.str k.nm), .frz (.int p.2), .frz (fD p.1)], rfl, by
      have hm : p.1 ∈ es := by
        have := List.mem_zipIdx hp
        rw [this.2.2]
        exact List.getElem_mem _
      have hb := e_bare_effect k p.1 (es.drop (p.2 + 1)) (by rw [List.length_drop]; omega) (hw p.1 hm)
      rw [List.map_drop] at hb
      simp [fn, start, sRet, sRetN, bS, eCB, bA, aCons, aNil, eSup, eCall, eVar, eC, frzs, R.frz, peeks, R.peek, Rv.r, retR, Own.d, eOp, eUn, bE, op2, op1, sSeq, sNil, sSet, put, sIf, bT, tE, tAnd, tOr, tNot, eAnd, eOr, eNot, eIf, eTup, eLst, sAsg, gTup, gsGo, gName, eCon, eSl, bO, oNone, oSome, eChain, tYes, sExpr, eFld, slOp, opAdd, cut_from, hb], rfl, rfl⟩)
  have e : ((es.zipIdx 0).map fun p => fD (be k p.1 (es.drop (p.2 + 1)))) = (bare k es).map fD := by
    rw [← bare_zip k es es 0 rfl, List.map_map]
    rfl
  rw [e] at h
  exact h
theorem e_bare_blocks (k : Kd) (es : List Ef) (hl : es.length ≤ 1000000) (hw : ∀ e ∈ es, e.2.length ≤ 1000000) : den_bare_blocks [.str k.nm, .lst (es.map fD)] = some (.ret (.fre (.lst ((bare k es).map fD)))) := by
  have h := lc_bb k (.frz (.str k.nm)) es hl hw
  generalize es.map fD = rr at h ⊢
  simp [fn, start, sRet, sRetN, bS, eCB, bA, aCons, aNil, eSup, eCall, eVar, eC, frzs, R.frz, peeks, R.peek, Rv.r, retR, Own.d, eOp, eUn, bE, op2, op1, sSeq, sNil, sSet, put, sIf, bT, tE, tAnd, tOr, tNot, eAnd, eOr, eNot, eIf, eTup, eLst, sAsg, gTup, gsGo, gName, eCon, eSl, bO, oNone, oSome, eChain, tYes, sExpr, eFld, den_bare_blocks, body_bare_blocks, e_kind_named, nameOf_cl, ↓h]
end SoR
end

section
set_option maxRecDepth 100000
set_option maxHeartbeats 1000000
namespace SoR
open DL
/-! filled rows -/
def fill (k : Kd) (w : Ef) : List Ef → List Ef → Ef
  | l :: ls, b :: bs => fill k (fl k (fl k w l) b) ls bs
  | _, _ => w
theorem zipD_map : ∀ (xs ys : List Ef), zipD (xs.map fD) (ys.map fD) = (xs.zip ys).map fun p => .tup [fD p.1, fD p.2]
  | [], _ => rfl
  | x :: xs, [] => rfl
  | x :: xs, y :: ys => by simp [zipD, zipD_map xs ys]
/-- lengths that stay small -/
def sz (l : List Ef) : Nat := (l.map fun e => e.2.length + 2).sum
theorem keyGo_fold_len : ∀ (w d : Wd), (w.foldl keyGo d).length ≤ d.length + w.length
  | [], d => by simp
  | x :: w, d => by
    have h1 := keyGo_fold_len w (keyGo d x)
    have h2 := keyGo_len d x
    simp only [List.foldl_cons, List.length_cons]
    omega
theorem setGo_fold_len : ∀ (w d : Wd), (w.foldl setGo d).length ≤ d.length + w.length
  | [], d => by simp
  | x :: w, d => by
    have h1 := setGo_fold_len w (setGo d x)
    have h2 : (setGo d x).length ≤ d.length + 1 := by unfold setGo; split <;> simp
    simp only [List.foldl_cons, List.length_cons]
    omega
theorem hd_len (w : Wd) : (hd w).length ≤ w.length := by
  have := keyGo_fold_len w []
  simpa [hd] using this
theorem tl_len (w : Wd) : (tl w).length ≤ w.length := by
  have := keyGo_fold_len w.reverse []
  rw [List.length_nil, Nat.zero_add, List.length_reverse] at this
  unfold tl
  rw [List.length_reverse]
  exact this
theorem pl_len (k : Kd) (w : Wd) : (pl k w).length ≤ w.length + 1 := by
  have h1 := hd_len w
  have h2 := tl_len w
  have h3 := setGo_fold_len (sortI w) []
  have h4 := sortI_len w
  simp only [List.length_nil, Nat.zero_add] at h3
  cases k <;> simp [pl, h4] <;> omega
theorem fm_snd (k : Kd) (c : Bool) (w : Wd) : (fm k c w).2 = w := by unfold fm; split <;> rfl
theorem fl_len (k : Kd) (a b : Ef) : (fl k a b).2.length ≤ a.2.length + b.2.length + 1 := by
  unfold fl
  split
  · omega
  · rw [fm_snd]
    have := pl_len k (a.2 ++ b.2)
    rw [List.length_append] at this
    exact this
theorem fr_step (k : Kd) (a b c : Sl) (w l e : Ef) (h1 : w.2.length + l.2.length + e.2.length + 1 ≤ 100000) :
    lb_filled_row_1 [a, b, c, .frz k.ob, .frz (fD w), .frz (fD l), .frz (fD e)] = some (.nx [a, b, c, .frz k.ob, .frz (fD (fl k (fl k w l) e)), .frz (fD l), .frz (fD e)]) := by
  have e1 := e_followed k w l (by omega)
  have hl := fl_len k w l
  have e2 := e_followed k (fl k w l) e (by omega)
  generalize fD w = dw at e1 ⊢
  generalize fD (fl k w l) = d1 at e1 e2
  generalize fD (fl k (fl k w l) e) = d2 at e2 ⊢
  generalize fD l = dl at e1 ⊢
  generalize fD e = de at e2 ⊢
  simp [fn, start, sRet, sRetN, bS, eCB, bA, aCons, aNil, eSup, eCall, eVar, eC, frzs, R.frz, peeks, R.peek, Rv.r, retR, Own.d, eOp, eUn, bE, op2, op1, sSeq, sNil, sSet, put, sIf, bT, tE, tAnd, tOr, tNot, eAnd, eOr, eNot, eIf, eTup, eLst, sAsg, gTup, gsGo, gName, eCon, eSl, bO, oNone, oSome, eChain, tYes, sExpr, eFld, lb_filled_row_1, e1, e2]
theorem fr_loop (k : Kd) (a b c : Sl) : ∀ (ls bs : List Ef) (w : Ef) (s5 s6 : Sl), w.2.length + sz ls + sz bs ≤ 100000 → (∀ o, s5 ≠ .ref o) → (∀ o, s6 ≠ .ref o) →
    ∃ s5' s6', forGo (gTup [gName 5, gName 6]) lb_filled_row_1 ((ls.zip bs).map fun p => .tup [fD p.1, fD p.2]) [a, b, c, .frz k.ob, .frz (fD w), s5, s6] = some (.nx [a, b, c, .frz k.ob, .frz (fD (fill k w ls bs)), s5', s6'])
  | [], bs, w, s5, s6, _, _, _ => ⟨s5, s6, rfl⟩
  | l :: ls, [], w, s5, s6, _, _, _ => ⟨s5, s6, rfl⟩
  | l :: ls, e :: bs, w, s5, s6, hs, h5, h6 => by
    have e1 : sz (l :: ls) = l.2.length + 2 + sz ls := by simp [sz]
    have e2 : sz (e :: bs) = e.2.length + 2 + sz bs := by simp [sz]
    have l1 := fl_len k w l
    have l2 := fl_len k (fl k w l) e
    obtain ⟨s5', s6', ih⟩ := fr_loop k a b c ls bs (fl k (fl k w l) e) (.frz (fD l)) (.frz (fD e)) (by omega) (fun o z => by cases z) (fun o z => by cases z)
    refine ⟨s5', s6', ?_⟩
    have st := fr_step k a b c w l e (by omega)
    rw [List.zip_cons_cons, List.map_cons, forGo]
    have hp : gTup [gName 5, gName 6] (.tup [fD l, fD e]) [a, b, c, .frz k.ob, .frz (fD w), s5, s6] = some [a, b, c, .frz k.ob, .frz (fD w), .frz (fD l), .frz (fD e)] := by
      cases s5 with
      | ref o => exact absurd rfl (h5 o)
      | _ => cases s6 with
        | ref o => exact absurd rfl (h6 o)
        | _ => rfl
    dsimp only
    rw [hp]
    dsimp only
    rw [st]
    exact ih
theorem e_filled_row (k : Kd) (e : Ef) (bs ls : List Ef) (hs : e.2.length + sz ls + sz bs ≤ 100000) : den_filled_row [.str k.nm, .lst ((e :: bs).map fD), .lst (ls.map fD)] = some (.ret (.val (fD (fill k e ls bs)))) := by
  obtain ⟨s5, s6, h⟩ := fr_loop k (.frz (.str k.nm)) (.frz (.lst ((e :: bs).map fD))) (.frz (.lst (ls.map fD))) ls bs e .no .no hs (fun o z => by cases z) (fun o z => by cases z)
  have hz := zipD_map ls bs
  have hc := cut_from (fD e :: bs.map fD) 0
  have hlp : lp_filled_row_1 [.frz (.str k.nm), .frz (.lst ((e :: bs).map fD)), .frz (.lst (ls.map fD)), .frz k.ob, .frz (fD e), .no, .no] = some (.nx [.frz (.str k.nm), .frz (.lst ((e :: bs).map fD)), .frz (.lst (ls.map fD)), .frz k.ob, .frz (fD (fill k e ls bs)), s5, s6]) := by
    unfold lp_filled_row_1 sFor
    have hit : iZip (aCons (eVar 2) (aCons (eSl slOp (eVar 1) (oSome (eC (.int 1))) oNone) aNil)) [.frz (.str k.nm), .frz (.lst ((e :: bs).map fD)), .frz (.lst (ls.map fD)), .frz k.ob, .frz (fD e), .no, .no] =
        some (.ok ((ls.zip bs).map fun p => .tup [fD p.1, fD p.2]) [.frz (.str k.nm), .frz (.lst ((e :: bs).map fD)), .frz (.lst (ls.map fD)), .frz k.ob, .frz (fD e), .no, .no]) := by
      have hc2 : cutD (fD e :: bs.map fD) (some 1) none = bs.map fD := by simpa using hc
      simp [fn, start, sRet, sRetN, bS, eCB, bA, aCons, aNil, eSup, eCall, eVar, eC, frzs, R.frz, peeks, R.peek, Rv.r, retR, Own.d, eOp, eUn, bE, op2, op1, sSeq, sNil, sSet, put, sIf, bT, tE, tAnd, tOr, tNot, eAnd, eOr, eNot, eIf, eTup, eLst, sAsg, gTup, gsGo, gName, eCon, eSl, bO, oNone, oSome, eChain, tYes, sExpr, eFld, iZip, slOp, hc2, hz]
    rw [hit]
    exact h
  have hx : ixS (.lst ((e :: bs).map fD)) (.int 0) = some (.val (fD e)) := ix_at false [] (bs.map fD) (fD e)
  generalize (e :: bs).map fD = rr at hlp hx ⊢
  generalize ls.map fD = rl at hlp ⊢
  generalize fD (fill k e ls bs) = rf at hlp ⊢
  simp [fn, start, sRet, sRetN, bS, eCB, bA, aCons, aNil, eSup, eCall, eVar, eC, frzs, R.frz, peeks, R.peek, Rv.r, retR, Own.d, eOp, eUn, bE, op2, op1, sSeq, sNil, sSet, put, sIf, bT, tE, tAnd, tOr, tNot, eAnd, eOr, eNot, eIf, eTup, eLst, sAsg, gTup, gsGo, gName, eCon, eSl, bO, oNone, oSome, eChain, tYes, sExpr, eFld, den_filled_row, body_filled_row, e_kind_named, hx, ↓hlp]
theorem e_idle_row (b : Bool) (es : List Ef) (hl : es.length ≤ 100000) : den_idle_row [sq b (es.map fD)] = some (.ret (.fre (.lst ((es.drop 1).map fun _ => d_IDLE)))) := by
  have hc := cut_from (es.map fD) 0
  have hc2 : cutD (es.map fD) (some 1) none = (es.drop 1).map fD := by simpa using hc
  have h := eLc_all (it := iSeq (eSl slOp (eVar 0) (oSome (eC (.int 1))) oNone)) (g := gName 1) (el := eC d_IDLE) (vs := [1]) (toD := fD) (f := fun _ => d_IDLE) (ρ := [.frz (sq b (es.map fD)), .no]) [.frz (sq b (es.map fD)), .no] (es.drop 1) (ρ1 := [.frz (sq b (es.map fD)), .no])
    (by cases b <;> simp [fn, start, sRet, sRetN, bS, eCB, bA, aCons, aNil, eSup, eCall, eVar, eC, frzs, R.frz, peeks, R.peek, Rv.r, retR, Own.d, eOp, eUn, bE, op2, op1, sSeq, sNil, sSet, put, sIf, bT, tE, tAnd, tOr, tNot, eAnd, eOr, eNot, eIf, eTup, eLst, sAsg, gTup, gsGo, gName, eCon, eSl, bO, oNone, oSome, eChain, tYes, sExpr, eFld, iSeq, slOp, sq, hc2]) (by rw [List.length_drop]; omega) rfl
    (fun e he => ⟨[.frz (sq b (es.map fD)), .frz (fD e)], .val d_IDLE, [.frz (sq b (es.map fD)), .frz (fD e)], [.frz (sq b (es.map fD)), .frz (fD e)], rfl, rfl, rfl, rfl⟩)
  have h2 : lc_idle_row_1 [.frz (sq b (es.map fD)), .no] = some (.ok (.fre (.lst ((es.drop 1).map fun _ => d_IDLE))) [.frz (sq b (es.map fD)), .no]) := h
  generalize sq b (es.map fD) = rr at h2 ⊢
  simp [fn, start, sRet, sRetN, bS, eCB, bA, aCons, aNil, eSup, eCall, eVar, eC, frzs, R.frz, peeks, R.peek, Rv.r, retR, Own.d, eOp, eUn, bE, op2, op1, sSeq, sNil, sSet, put, sIf, bT, tE, tAnd, tOr, tNot, eAnd, eOr, eNot, eIf, eTup, eLst, sAsg, gTup, gsGo, gName, eCon, eSl, bO, oNone, oSome, eChain, tYes, sExpr, eFld, den_idle_row, body_idle_row, ↓h2]
end SoR
end

section
set_option maxRecDepth 100000
set_option maxHeartbeats 1000000
namespace SoR
open DL
/-- the first number from i on that stands in no word -/
def frGo (ws : List Wd) : Nat → Int → Int
  | 0, i => i
  | n + 1, i => if inAny i ws then frGo ws n (i + 1) else i
def above (ws : List Wd) (i : Int) : Nat := (ws.flatten.filter fun x => decide (i ≤ x)).length
def frF (ws : List Wd) : Nat := (ws.map List.length).sum + 1
def fr (ws : List Wd) : Int := frGo ws (frF ws) 0
theorem inAny_iff (x : Int) (ws : List Wd) : inAny x ws = true ↔ x ∈ ws.flatten := by
  simp [inAny, List.mem_flatten]
theorem above_lt {ws : List Wd} {i : Int} (h : inAny i ws = true) : above ws (i + 1) < above ws i := by
  have hm := (inAny_iff i ws).mp h
  unfold above
  generalize ws.flatten = l at hm
  clear h
  induction l with
  | nil => cases hm
  | cons x l ih =>
    have mono : (l.filter fun y => decide (i + 1 ≤ y)).length ≤ (l.filter fun y => decide (i ≤ y)).length := by
      clear ih hm
      induction l with
      | nil => simp
      | cons y l ih =>
        rw [List.filter_cons, List.filter_cons]
        by_cases h1 : i + 1 ≤ y
        · have h2 : i ≤ y := by omega
          simp [h1, h2, ih]
        · by_cases h2 : i ≤ y
          · simp [h1, h2]; omega
          · simp [h1, h2, ih]
    rw [List.filter_cons, List.filter_cons]
    by_cases hx : x = i
    · subst hx
      have h1 : ¬ (x + 1 ≤ x) := by omega
      simp [h1]; omega
    · have hm2 : i ∈ l := by
        rcases List.mem_cons.mp hm with z | z
        · exact absurd z.symm hx
        · exact z
      have ih2 := ih hm2
      by_cases h1 : i + 1 ≤ x
      · have h2 : i ≤ x := by omega
        simp [h1, h2, ih2]
      · have h2 : ¬ i ≤ x := by omega
        simp [h1, h2, ih2]
theorem lc_fw (a c : Sl) (x : Int) (ws : List Wd) (hl : ws.length ≤ 1000000) : lc_fresh_word_1 [a, .frz (.tup (ws.map wD)), c, .frz (.int x), .no] = some (.ok (.fre (.lst (ws.map fun w => .bl (decide (x ∈ w))))) [a, .frz (.tup (ws.map wD)), c, .frz (.int x), .no]) :=
  eLc_all (toD := wD) [a, .frz (.tup (ws.map wD)), c, .frz (.int x), .no] ws (ρ1 := [a, .frz (.tup (ws.map wD)), c, .frz (.int x), .no]) (by simp [iSeq, eVar, R.frz]) hl rfl
    (fun w hw => ⟨[a, .frz (.tup (ws.map wD)), c, .frz (.int x), .frz (wD w)], .val (.bl (decide (x ∈ w))), [a, .frz (.tup (ws.map wD)), c, .frz (.int x), .frz (wD w)], [a, .frz (.tup (ws.map wD)), c, .frz (.int x), .frz (wD w)], rfl, by simp [fn, start, sRet, sRetN, bS, eCB, bA, aCons, aNil, eSup, eCall, eVar, eC, frzs, R.frz, peeks, R.peek, Rv.r, retR, Own.d, eOp, eUn, bE, op2, op1, sSeq, sNil, sSet, put, sIf, bT, tE, tAnd, tOr, tNot, eAnd, eOr, eNot, eIf, eTup, eLst, sAsg, gTup, gsGo, gName, eCon, eSl, bO, oNone, oSome, eChain, tYes, sExpr, eFld, cIn_wD], rfl, rfl⟩)
theorem fw_loop (a c : Sl) (ws : List Wd) (hl : ws.length ≤ 1000000) : ∀ (n m : Nat) (i : Int), above ws i < n → above ws i < m → whileGo (tE (eCB fAny (aCons lc_fresh_word_1 aNil))) lb_fresh_word_1 n [a, .frz (.tup (ws.map wD)), c, .frz (.int i), .no] =
      some (.nx [a, .frz (.tup (ws.map wD)), c, .frz (.int (frGo ws m i)), .no]) ∧ inAny (frGo ws m i) ws = false ∧ i ≤ frGo ws m i ∧ frGo ws m i ≤ i + above ws i
  | 0, _, _, h, _ => absurd h (Nat.not_lt_zero _)
  | _, 0, _, _, h => absurd h (Nat.not_lt_zero _)
  | n + 1, m + 1, i, h, h' => by
    have hc := lc_fw a c i ws hl
    have ht : tE (eCB fAny (aCons lc_fresh_word_1 aNil)) [a, .frz (.tup (ws.map wD)), c, .frz (.int i), .no] = some (.ok (inAny i ws) [a, .frz (.tup (ws.map wD)), c, .frz (.int i), .no]) := by
      simp [fn, start, sRet, sRetN, bS, eCB, bA, aCons, aNil, eSup, eCall, eVar, eC, frzs, R.frz, peeks, R.peek, Rv.r, retR, Own.d, eOp, eUn, bE, op2, op1, sSeq, sNil, sSet, put, sIf, bT, tE, tAnd, tOr, tNot, eAnd, eOr, eNot, eIf, eTup, eLst, sAsg, gTup, gsGo, gName, eCon, eSl, bO, oNone, oSome, eChain, tYes, sExpr, eFld, ↓hc, fAny_map, inAny]
    rw [whileGo, ht, frGo]
    cases hi : inAny i ws with
    | false => exact ⟨rfl, hi, by simp, by simp; omega⟩
    | true =>
      have hb : lb_fresh_word_1 [a, .frz (.tup (ws.map wD)), c, .frz (.int i), .no] = some (.nx [a, .frz (.tup (ws.map wD)), c, .frz (.int (i + 1)), .no]) := by
        simp [fn, start, sRet, sRetN, bS, eCB, bA, aCons, aNil, eSup, eCall, eVar, eC, frzs, R.frz, peeks, R.peek, Rv.r, retR, Own.d, eOp, eUn, bE, op2, op1, sSeq, sNil, sSet, put, sIf, bT, tE, tAnd, tOr, tNot, eAnd, eOr, eNot, eIf, eTup, eLst, sAsg, gTup, gsGo, gName, eCon, eSl, bO, oNone, oSome, eChain, tYes, sExpr, eFld, lb_fresh_word_1, sAugS, opAddI]
      have ha := above_lt hi
      obtain ⟨r1, r2, r3, r4⟩ := fw_loop a c ws hl n m (i + 1) (by omega) (by omega)
      dsimp only
      rw [hb]
      refine ⟨r1, r2, ?_, ?_⟩
      · simp only [if_true]; omega
      · simp only [if_true]; omega
theorem above_le (ws : List Wd) (i : Int) : above ws i ≤ (ws.map List.length).sum := by
  unfold above
  refine Nat.le_trans (List.length_filter_le _ _) ?_
  rw [List.length_flatten]
  exact Nat.le_refl _
theorem fr_ok (ws : List Wd) (hl : ws.length ≤ 1000000) : inAny (fr ws) ws = false ∧ 0 ≤ fr ws ∧ fr ws ≤ (ws.map List.length).sum := by
  have h := above_le ws 0
  obtain ⟨_, h1, h2, h3⟩ := fw_loop .no .no ws hl (frF ws) (frF ws) 0 (by unfold frF; omega) (by unfold frF; omega)
  exact ⟨h1, h2, by unfold fr; omega⟩
theorem e_fresh_word (k : Kd) (ws : List Wd) (hl : ws.length ≤ 1000000) : den_fresh_word (.str k.nm :: ws.map wD) = some (.ret (.val (wD (pl k [fr ws])))) := by
  have h := above_le ws 0
  obtain ⟨e, _⟩ := fw_loop (.frz (.str k.nm)) (.frz k.ob) ws hl ((ws.map List.length).sum + 2) (frF ws) 0 (by omega) (by unfold frF; omega)
  have hf : fuel_fresh_word [.frz (.str k.nm), .frz (.tup (ws.map wD)), .frz k.ob, .frz (.int 0), .no] = (ws.map List.length).sum + 2 := by
    simp [fuel_fresh_word, wD, Function.comp_def]
  have hlp : lp_fresh_word_1 [.frz (.str k.nm), .frz (.tup (ws.map wD)), .frz k.ob, .frz (.int 0), .no] = some (.nx [.frz (.str k.nm), .frz (.tup (ws.map wD)), .frz k.ob, .frz (.int (fr ws)), .no]) := by
    unfold lp_fresh_word_1 sWhile
    rw [hf]
    exact e
  have hm := e_met (k := k) (o := eVar 2) (a := aCons (eTup (aCons (eVar 3) aNil)) aNil) (ρ := [.frz (.str k.nm), .frz (.tup (ws.map wD)), .frz k.ob, .frz (.int (fr ws)), .no]) (ρ1 := [.frz (.str k.nm), .frz (.tup (ws.map wD)), .frz k.ob, .frz (.int (fr ws)), .no])
    (ρ2 := [.frz (.str k.nm), .frz (.tup (ws.map wD)), .frz k.ob, .frz (.int (fr ws)), .no]) (ρ3 := [.frz (.str k.nm), .frz (.tup (ws.map wD)), .frz k.ob, .frz (.int (fr ws)), .no]) (r := .val (wD [fr ws])) (w := [fr ws]) rfl (by simp [fn, start, sRet, sRetN, bS, eCB, bA, aCons, aNil, eSup, eCall, eVar, eC, frzs, R.frz, peeks, R.peek, Rv.r, retR, Own.d, eOp, eUn, bE, op2, op1, sSeq, sNil, sSet, put, sIf, bT, tE, tAnd, tOr, tNot, eAnd, eOr, eNot, eIf, eTup, eLst, sAsg, gTup, gsGo, gName, eCon, eSl, bO, oNone, oSome, eChain, tYes, sExpr, eFld, wD]) rfl (by simp)
  have hlen : (ws.map wD).length ≤ 1000000 := by simpa using hl
  generalize ws.map wD = ww at hlp hm hlen ⊢
  generalize wD (pl k [fr ws]) = res at hm ⊢
  simp [fn, start, sRet, sRetN, bS, eCB, bA, aCons, aNil, eSup, eCall, eVar, eC, frzs, R.frz, peeks, R.peek, Rv.r, retR, Own.d, eOp, eUn, bE, op2, op1, sSeq, sNil, sSet, put, sIf, bT, tE, tAnd, tOr, tNot, eAnd, eOr, eNot, eIf, eTup, eLst, sAsg, gTup, gsGo, gName, eCon, eSl, bO, oNone, oSome, eChain, tYes, sExpr, eFld, den_fresh_word, fnS, body_fresh_word, e_kind_named, hlen, ↓hlp, ↓hm]
theorem e_joined (k : Kd) (e : Ef) (bs : List Ef) (hs : e.2.length + 3 * sz bs ≤ 100000) : den_joined_blocks [.str k.nm, .lst ((e :: bs).map fD)] = some (.ret (.val (fD (fill k e (bs.map fun _ => (false, [])) bs)))) := by
  have hlen : bs.length ≤ sz bs := by
    clear hs
    induction bs with
    | nil => simp [sz]
    | cons b bs ih => simp [sz] at ih ⊢; omega
  have h1 := e_idle_row false (e :: bs) (by simp; omega)
  have hsz : sz (bs.map fun _ => ((false, []) : Ef)) ≤ 2 * sz bs := by
    clear hs h1 hlen
    induction bs with
    | nil => simp [sz]
    | cons b bs ih => simp [sz] at ih ⊢; omega
  have h2 := e_filled_row k e bs (bs.map fun _ => (false, [])) (by omega)
  have e1 : ((bs.map fun _ => ((false, []) : Ef)).map fD) = ((e :: bs).drop 1).map fun _ => d_IDLE := by
    simp only [List.map_map, List.drop_succ_cons, List.drop_zero]
    rfl
  rw [e1] at h2
  have e2 : sq false ((e :: bs).map fD) = .lst ((e :: bs).map fD) := rfl
  rw [e2] at h1
  generalize (e :: bs).map fD = rr at h1 h2 ⊢
  generalize ((e :: bs).drop 1).map (fun _ => d_IDLE) = ri at h1 h2
  simp [fn, start, sRet, sRetN, bS, eCB, bA, aCons, aNil, eSup, eCall, eVar, eC, frzs, R.frz, peeks, R.peek, Rv.r, retR, Own.d, eOp, eUn, bE, op2, op1, sSeq, sNil, sSet, put, sIf, bT, tE, tAnd, tOr, tNot, eAnd, eOr, eNot, eIf, eTup, eLst, sAsg, gTup, gsGo, gName, eCon, eSl, bO, oNone, oSome, eChain, tYes, sExpr, eFld, den_joined_blocks, body_joined_blocks, h1, h2]
end SoR
end

section
set_option maxRecDepth 100000
set_option maxHeartbeats 1000000
namespace SoR
open DL
theorem eqv_fD (a b : Ef) : D.eqv (fD a) (fD b) = decide (a = b) := by
  obtain ⟨a1, a2⟩ := a
  obtain ⟨b1, b2⟩ := b
  simp only [fD, D.eqv, D.eqvs, Bool.and_true, eqv_wD]
  by_cases h1 : a1 = b1 <;> by_cases h2 : a2 = b2 <;> simp [h1, h2]
theorem dat_fD (a : Ef) (n : Nat) : (fD a).dat (n + 2) = true := by simp [fD, D.dat, D.dats, dat_wD]
/-- the last place at which two rows differ -/
def lastU (i : Nat) : List Ef → List Ef → Option Nat → Option Nat
  | a :: as, b :: bs, f => lastU (i + 1) as bs (if a = b then f else some i)
  | _, _, f => f
def oN : Option Nat → D
  | none => .non
  | some i => .int i
theorem lu_step (a b c : Sl) (l1 l2 : List D) (x y : Ef) (i : Nat) (f : Option Nat) (h1 : ixS (.lst l1) (.int i) = some (.val (fD x))) (h2 : ixS (.lst l2) (.int i) = some (.val (fD y))) :
    lb_last_unlike_1 [a, b, c, .frz (oN f), .own (.lst l1), .own (.lst l2), .frz (.int i)] = some (.nx [a, b, c, .frz (oN (if x = y then f else some i)), .own (.lst l1), .own (.lst l2), .frz (.int i)]) := by
  have h3 := eqv_fD x y
  have d1 := dat_fD x 58
  have d2 := dat_fD y 58
  by_cases h : x = y
  · subst h
    simp only [decide_true] at h3
    simp [fn, start, sRet, sRetN, bS, eCB, bA, aCons, aNil, eSup, eCall, eVar, eC, frzs, R.frz, peeks, R.peek, Rv.r, retR, Own.d, eOp, eUn, bE, op2, op1, sSeq, sNil, sSet, put, sIf, bT, tE, tAnd, tOr, tNot, eAnd, eOr, eNot, eIf, eTup, eLst, sAsg, gTup, gsGo, gName, eCon, eSl, bO, oNone, oSome, eChain, tYes, sExpr, eFld, lb_last_unlike_1, h1, h2, cNe, d1, h3]
  · simp only [h, decide_false] at h3
    simp [fn, start, sRet, sRetN, bS, eCB, bA, aCons, aNil, eSup, eCall, eVar, eC, frzs, R.frz, peeks, R.peek, Rv.r, retR, Own.d, eOp, eUn, bE, op2, op1, sSeq, sNil, sSet, put, sIf, bT, tE, tAnd, tOr, tNot, eAnd, eOr, eNot, eIf, eTup, eLst, sAsg, gTup, gsGo, gName, eCon, eSl, bO, oNone, oSome, eChain, tYes, sExpr, eFld, lb_last_unlike_1, h1, h2, cNe, d1, d2, h3, h, oN]
theorem lu_loop (a b c : Sl) (l1 l2 : List D) : ∀ (xs ys : List Ef) (p1 p2 : List D) (f : Option Nat) (s : Sl), xs.length = ys.length → p1.length = p2.length → l1 = p1 ++ xs.map fD → l2 = p2 ++ ys.map fD → (∀ o, s ≠ .ref o) →
    ∃ s', forGo (gName 6) lb_last_unlike_1 (plcs p1.length xs.length) [a, b, c, .frz (oN f), .own (.lst l1), .own (.lst l2), s] = some (.nx [a, b, c, .frz (oN (lastU p1.length xs ys f)), .own (.lst l1), .own (.lst l2), s'])
  | [], [], p1, p2, f, s, _, _, _, _, _ => ⟨s, rfl⟩
  | [], _ :: _, _, _, _, _, h, _, _, _, _ => by cases h
  | _ :: _, [], _, _, _, _, h, _, _, _, _ => by cases h
  | x :: xs, y :: ys, p1, p2, f, s, hl, hp, e1, e2, hs => by
    have h1 : ixS (.lst l1) (.int p1.length) = some (.val (fD x)) := by rw [e1]; exact ix_at false p1 (xs.map fD) (fD x)
    have h2 : ixS (.lst l2) (.int p1.length) = some (.val (fD y)) := by rw [e2, hp]; exact ix_at false p2 (ys.map fD) (fD y)
    have st := lu_step a b c l1 l2 x y p1.length f h1 h2
    obtain ⟨s', ih⟩ := lu_loop a b c l1 l2 xs ys (p1 ++ [fD x]) (p2 ++ [fD y]) (if x = y then f else some p1.length) (.frz (.int p1.length)) (by simpa using hl) (by simp [hp]) (by rw [e1]; simp) (by rw [e2]; simp) (fun o z => by cases z)
    refine ⟨s', ?_⟩
    rw [List.length_cons, plcs_succ, forGo]
    have hg : gName 6 (.int p1.length) [a, b, c, .frz (oN f), .own (.lst l1), .own (.lst l2), s] = some [a, b, c, .frz (oN f), .own (.lst l1), .own (.lst l2), .frz (.int p1.length)] := by
      cases s with
      | ref o => exact absurd rfl (hs o)
      | _ => rfl
    rw [hg]
    dsimp only
    rw [st]
    dsimp only
    rw [List.length_append, List.length_singleton] at ih
    exact ih
theorem bare_len (k : Kd) : ∀ es : List Ef, (bare k es).length = es.length
  | [] => rfl
  | e :: es => by simp [bare, bare_len k es]
/-- last_unlike -/
def lu (k : Kd) (xs ys : List Ef) : Option Nat := lastU 0 (bare k xs) (bare k ys) none
theorem e_last_unlike (k : Kd) (xs ys : List Ef) (hl : xs.length = ys.length) (hs : xs.length ≤ 100000) (hx : ∀ e ∈ xs, e.2.length ≤ 1000000) (hy : ∀ e ∈ ys, e.2.length ≤ 1000000) :
    den_last_unlike [.str k.nm, .lst (xs.map fD), .lst (ys.map fD)] = some (.ret (.val (oN (lu k xs ys)))) := by
  have b1 := e_bare_blocks k xs (by omega) hx
  have b2 := e_bare_blocks k ys (by omega) hy
  obtain ⟨s', h⟩ := lu_loop (.frz (.str k.nm)) (.frz (.lst (xs.map fD))) (.frz (.lst (ys.map fD))) ((bare k xs).map fD) ((bare k ys).map fD) (bare k xs) (bare k ys) [] [] none .no (by rw [bare_len, bare_len, hl]) rfl rfl rfl (fun o z => by cases z)
  have hn : ((bare k xs).map fD).length ≤ 100000 := by rw [List.length_map, bare_len]; exact hs
  have hn2 : ((bare k xs).map fD).length = (bare k xs).length := List.length_map ..
  have hlp : lp_last_unlike_1 [.frz (.str k.nm), .frz (.lst (xs.map fD)), .frz (.lst (ys.map fD)), .frz .non, .own (.lst ((bare k xs).map fD)), .own (.lst ((bare k ys).map fD)), .no] =
      some (.nx [.frz (.str k.nm), .frz (.lst (xs.map fD)), .frz (.lst (ys.map fD)), .frz (oN (lu k xs ys)), .own (.lst ((bare k xs).map fD)), .own (.lst ((bare k ys).map fD)), s']) := by
    unfold lp_last_unlike_1 sFor
    have hit : iRange (aCons (eCB fLenS (aCons (eVar 4) aNil)) aNil) [.frz (.str k.nm), .frz (.lst (xs.map fD)), .frz (.lst (ys.map fD)), .frz .non, .own (.lst ((bare k xs).map fD)), .own (.lst ((bare k ys).map fD)), .no] =
        some (.ok (plcs 0 (bare k xs).length) [.frz (.str k.nm), .frz (.lst (xs.map fD)), .frz (.lst (ys.map fD)), .frz .non, .own (.lst ((bare k xs).map fD)), .own (.lst ((bare k ys).map fD)), .no]) := by
      rw [← hn2]
      generalize (bare k xs).map fD = r1 at hn ⊢
      have q1 : ((r1.length : Int)) ≤ 1000000000 := by omega
      have q2 : -1000000000 ≤ (r1.length : Int) := by omega
      simp [fn, start, sRet, sRetN, bS, eCB, bA, aCons, aNil, eSup, eCall, eVar, eC, frzs, R.frz, peeks, R.peek, Rv.r, retR, Own.d, eOp, eUn, bE, op2, op1, sSeq, sNil, sSet, put, sIf, bT, tE, tAnd, tOr, tNot, eAnd, eOr, eNot, eIf, eTup, eLst, sAsg, gTup, gsGo, gName, eCon, eSl, bO, oNone, oSome, eChain, tYes, sExpr, eFld, iRange, fLenS, q1, q2, rangeD_plcs]
    rw [hit]
    exact h
  generalize (bare k xs).map fD = r1 at b1 hlp
  generalize (bare k ys).map fD = r2 at b2 hlp
  generalize xs.map fD = r3 at b1 hlp ⊢
  generalize ys.map fD = r4 at b2 hlp ⊢
  generalize oN (lu k xs ys) = r5 at hlp ⊢
  simp [fn, start, sRet, sRetN, bS, eCB, bA, aCons, aNil, eSup, eCall, eVar, eC, frzs, R.frz, peeks, R.peek, Rv.r, retR, Own.d, eOp, eUn, bE, op2, op1, sSeq, sNil, sSet, put, sIf, bT, tE, tAnd, tOr, tNot, eAnd, eOr, eNot, eIf, eTup, eLst, sAsg, gTup, gsGo, gName, eCon, eSl, bO, oNone, oSome, eChain, tYes, sExpr, eFld, den_last_unlike, body_last_unlike, b1, b2, ↓hlp]
end SoR
end

section
set_option maxRecDepth 100000
set_option maxHeartbeats 1000000
namespace SoR
open DL
/-- parting_state -/
def pst (k : Kd) (a b : Ef) : Option Wd := if nf k a = nf k b then none else if a.2 ≠ b.2 then some [] else some (pl k [fr [a.2]])
def oW : Option Wd → D
  | none => .non
  | some w => wD w
theorem e_parting_state (k : Kd) (a b : Ef) : den_parting_state [.str k.nm, fD a, fD b] = some (.ret (.val (oW (pst k a b)))) := by
  have n1 := e_normal k a
  have n2 := e_normal k b
  have q := eqv_fD (fm k a.1 a.2) (fm k b.1 b.2)
  have d1 := dat_fD (fm k a.1 a.2) 58
  have d2 := dat_fD (fm k b.1 b.2) 58
  have qw := eqv_wD a.2 b.2
  have w1 := dat_wD a.2 59
  have w2 := dat_wD b.2 59
  have f := e_fresh_word k [a.2] (by simp)
  have x1 : ixS (fD a) (.int 1) = some (.val (wD a.2)) := by simp [fD, ixS, ixD]
  have x2 : ixS (fD b) (.int 1) = some (.val (wD b.2)) := by simp [fD, ixS, ixD]
  simp only [List.map_cons, List.map_nil] at f
  by_cases h : nf k a = nf k b
  · have h' : fm k a.1 a.2 = fm k b.1 b.2 := h
    have e : pst k a b = none := by unfold pst; rw [if_pos h]
    rw [e]
    rw [h'] at q n1 d1
    simp only [decide_true] at q
    generalize fD (fm k b.1 b.2) = m at q n1 n2 d1
    generalize fD a = da at n1 x1 ⊢
    generalize fD b = db at n2 x2 ⊢
    simp [fn, start, sRet, sRetN, bS, eCB, bA, aCons, aNil, eSup, eCall, eVar, eC, frzs, R.frz, peeks, R.peek, Rv.r, retR, Own.d, eOp, eUn, bE, op2, op1, sSeq, sNil, sSet, put, sIf, bT, tE, tAnd, tOr, tNot, eAnd, eOr, eNot, eIf, eTup, eLst, sAsg, gTup, gsGo, gName, eCon, eSl, bO, oNone, oSome, eChain, tYes, sExpr, eFld, den_parting_state, body_parting_state, n1, n2, cEq, d1, q, oW]
  · have h' : ¬ fm k a.1 a.2 = fm k b.1 b.2 := h
    simp only [h', decide_false] at q
    generalize fD (fm k a.1 a.2) = m1 at q n1 d1
    generalize fD (fm k b.1 b.2) = m2 at q n2 d2
    generalize fD a = da at n1 x1 ⊢
    generalize fD b = db at n2 x2 ⊢
    by_cases h2 : a.2 = b.2
    · have e : pst k a b = some (pl k [fr [a.2]]) := by unfold pst; rw [if_neg h, if_neg (by simp [h2])]
      have er : oW (some (pl k [fr [a.2]])) = wD (pl k [fr [a.2]]) := rfl
      rw [e, er]
      have qw2 : D.eqv (wD a.2) (wD b.2) = true := by rw [qw]; exact decide_eq_true h2
      generalize wD (pl k [fr [a.2]]) = res at f ⊢
      generalize wD a.2 = wa at qw2 x1 w1 f
      generalize wD b.2 = wb at qw2 x2 w2
      simp [fn, start, sRet, sRetN, bS, eCB, bA, aCons, aNil, eSup, eCall, eVar, eC, frzs, R.frz, peeks, R.peek, Rv.r, retR, Own.d, eOp, eUn, bE, op2, op1, sSeq, sNil, sSet, put, sIf, bT, tE, tAnd, tOr, tNot, eAnd, eOr, eNot, eIf, eTup, eLst, sAsg, gTup, gsGo, gName, eCon, eSl, bO, oNone, oSome, eChain, tYes, sExpr, eFld, den_parting_state, body_parting_state, n1, n2, cEq, cNe, d1, d2, q, x1, x2, qw2, w1, w2, f]
    · have e : pst k a b = some [] := by unfold pst; rw [if_neg h, if_pos h2]
      rw [e]
      simp only [h2, decide_false] at qw
      have er : oW (some []) = .tup [] := rfl
      rw [er]
      generalize wD a.2 = wa at qw x1 w1
      generalize wD b.2 = wb at qw x2 w2
      simp [fn, start, sRet, sRetN, bS, eCB, bA, aCons, aNil, eSup, eCall, eVar, eC, frzs, R.frz, peeks, R.peek, Rv.r, retR, Own.d, eOp, eUn, bE, op2, op1, sSeq, sNil, sSet, put, sIf, bT, tE, tAnd, tOr, tNot, eAnd, eOr, eNot, eIf, eTup, eLst, sAsg, gTup, gsGo, gName, eCon, eSl, bO, oNone, oSome, eChain, tYes, sExpr, eFld, den_parting_state, body_parting_state, n1, n2, cEq, cNe, d1, d2, q, x1, x2, qw, w1, w2]
/-- joined_blocks -/
def jn (k : Kd) : List Ef → Ef
  | [] => (false, [])
  | e :: bs => fill k e (bs.map fun _ => (false, [])) bs
theorem e_joined' (k : Kd) (es : List Ef) (hne : es ≠ []) (hs : 3 * sz es ≤ 100000) : den_joined_blocks [.str k.nm, .lst (es.map fD)] = some (.ret (.val (fD (jn k es)))) := by
  cases es with
  | nil => exact absurd rfl hne
  | cons e bs =>
    have e1 : sz (e :: bs) = e.2.length + 2 + sz bs := by simp [sz]
    exact e_joined k e bs (by omega)
/-- none_filled -/
theorem oW_dat (o : Option Wd) : cIsN (oW o) .non = some (.val (.bl o.isNone)) := by cases o <;> rfl
theorem e_none_filled (k : Kd) (xs ys : List Ef) (hx : xs ≠ []) (hy : ys ≠ []) (sx : 3 * sz xs ≤ 100000) (sy : 3 * sz ys ≤ 100000) (hl : xs.length ≤ 100000) :
    den_none_filled [.str k.nm, .lst (xs.map fD), .lst (ys.map fD)] = some (.ret (.val (match pst k (jn k xs) (jn k ys) with | none => .non | some w => .tup [wD w, .lst ((xs.drop 1).map fun _ => d_IDLE)]))) := by
  have j1 := e_joined' k xs hx sx
  have j2 := e_joined' k ys hy sy
  have p := e_parting_state k (jn k xs) (jn k ys)
  have i1 := e_idle_row false xs hl
  have e2 : sq false (xs.map fD) = .lst (xs.map fD) := rfl
  rw [e2] at i1
  generalize (xs.drop 1).map (fun _ => d_IDLE) = ri at i1 ⊢
  generalize xs.map fD = r1 at j1 i1 ⊢
  generalize ys.map fD = r2 at j2 ⊢
  generalize fD (jn k xs) = f1 at j1 p
  generalize fD (jn k ys) = f2 at j2 p
  cases hp : pst k (jn k xs) (jn k ys) with
  | none =>
    rw [hp] at p
    simp [fn, start, sRet, sRetN, bS, eCB, bA, aCons, aNil, eSup, eCall, eVar, eC, frzs, R.frz, peeks, R.peek, Rv.r, retR, Own.d, eOp, eUn, bE, op2, op1, sSeq, sNil, sSet, put, sIf, bT, tE, tAnd, tOr, tNot, eAnd, eOr, eNot, eIf, eTup, eLst, sAsg, gTup, gsGo, gName, eCon, eSl, bO, oNone, oSome, eChain, tYes, sExpr, eFld, den_none_filled, body_none_filled, j1, j2, p, oW, cIsN, isNon]
  | some w =>
    rw [hp] at p
    have er : oW (some w) = wD w := rfl
    rw [er] at p
    have en : isNon (wD w) = false := rfl
    show _ = some (Fo.ret (Rv.val (.tup [wD w, .lst ri])))
    generalize wD w = ww at p en ⊢
    simp [fn, start, sRet, sRetN, bS, eCB, bA, aCons, aNil, eSup, eCall, eVar, eC, frzs, R.frz, peeks, R.peek, Rv.r, retR, Own.d, eOp, eUn, bE, op2, op1, sSeq, sNil, sSet, put, sIf, bT, tE, tAnd, tOr, tNot, eAnd, eOr, eNot, eIf, eTup, eLst, sAsg, gTup, gsGo, gName, eCon, eSl, bO, oNone, oSome, eChain, tYes, sExpr, eFld, den_none_filled, body_none_filled, j1, j2, p, cIsN, en, i1]
end SoR
end

section
set_option maxRecDepth 100000
set_option maxHeartbeats 1000000
namespace SoR
open DL
theorem fp_inner (a b c d r : Sl) : ∀ (row : List Ef) (s5 s6 : Sl), ∃ t5 t6, lcGo (gTup [gName 5, gName 6]) tYes (eVar 6) [5, 6] (row.map fD) [a, b, c, d, r, s5, s6] = some (row.map fun e => wD e.2, [a, b, c, d, r, t5, t6])
  | [], s5, s6 => ⟨s5, s6, rfl⟩
  | e :: row, s5, s6 => by
    obtain ⟨t5, t6, ih⟩ := fp_inner a b c d r row (.frz (.bl e.1)) (.frz (wD e.2))
    refine ⟨t5, t6, ?_⟩
    rw [List.map_cons, lcGo]
    have hw : wipeE [a, b, c, d, r, s5, s6] [5, 6] = [a, b, c, d, r, .no, .no] := rfl
    have hg : gTup [gName 5, gName 6] (fD e) [a, b, c, d, r, .no, .no] = some [a, b, c, d, r, .frz (.bl e.1), .frz (wD e.2)] := rfl
    have hv : eVar 6 [a, b, c, d, r, .frz (.bl e.1), .frz (wD e.2)] = some (.ok (.val (wD e.2)) [a, b, c, d, r, .frz (.bl e.1), .frz (wD e.2)]) := rfl
    rw [hw, hg]
    dsimp only [tYes]
    rw [hv]
    dsimp only [R.frz]
    rw [ih]
    rfl
def rwD (r : List Ef) : D := .lst (r.map fD)
theorem fp_outer (a b c d : Sl) : ∀ (rows : List (List Ef)) (s4 s5 s6 : Sl), ∃ t4 t5 t6, lcGo2 (gName 4) tYes (iSeq (eVar 4)) (gTup [gName 5, gName 6]) tYes (eVar 6) [4, 5, 6] [5, 6] (rows.map rwD) [a, b, c, d, s4, s5, s6] =
      some (rows.flatten.map fun e => wD e.2, [a, b, c, d, t4, t5, t6])
  | [], s4, s5, s6 => ⟨s4, s5, s6, rfl⟩
  | r :: rows, s4, s5, s6 => by
    obtain ⟨u5, u6, hi⟩ := fp_inner a b c d (.frz (rwD r)) r .no .no
    obtain ⟨t4, t5, t6, ih⟩ := fp_outer a b c d rows (.frz (rwD r)) u5 u6
    refine ⟨t4, t5, t6, ?_⟩
    rw [List.map_cons, lcGo2]
    have hw : wipeE [a, b, c, d, s4, s5, s6] [4, 5, 6] = [a, b, c, d, .no, .no, .no] := rfl
    have hg : gName 4 (rwD r) [a, b, c, d, .no, .no, .no] = some [a, b, c, d, .frz (rwD r), .no, .no] := rfl
    have hv : iSeq (eVar 4) [a, b, c, d, .frz (rwD r), .no, .no] = some (.ok (r.map fD) [a, b, c, d, .frz (rwD r), .no, .no]) := rfl
    rw [hw, hg]
    dsimp only [tYes]
    rw [hv]
    dsimp only
    rw [hi]
    dsimp only
    rw [ih]
    simp
/-- fresh_part -/
def fpt (k : Kd) (rows : List (List Ef)) : Ef := (decide (k = .last), pl k [fr (rows.flatten.map (·.2))])
theorem e_fresh_part (k : Kd) (xs ys : List Ef) (hl : xs.length + ys.length ≤ 100000) : den_fresh_part [.str k.nm, rwD xs, rwD ys] = some (.ret (.val (fD (fpt k [xs, ys])))) := by
  obtain ⟨t4, t5, t6, h⟩ := fp_outer (.frz (.str k.nm)) (.frz (.tup [rwD xs, rwD ys])) .no .no [xs, ys] .no .no .no
  have hn : ([xs, ys].flatten.map fun e : Ef => wD e.2).length ≤ 1000000 := by simp; omega
  have f := e_fresh_word k ([xs, ys].flatten.map (·.2)) (by simp; omega)
  rw [List.map_map] at f
  have fe : ([xs, ys].flatten.map (wD ∘ fun x : Ef => x.2)) = [xs, ys].flatten.map fun e : Ef => wD e.2 := rfl
  rw [fe] at f
  have hlc : lc_fresh_part_1 [.frz (.str k.nm), .frz (.tup [rwD xs, rwD ys]), .no, .no, .no, .no, .no] = some (.ok (.fre (.lst ([xs, ys].flatten.map fun e => wD e.2))) [.frz (.str k.nm), .frz (.tup [rwD xs, rwD ys]), .no, .no, .no, .no, .no]) := by
    unfold lc_fresh_part_1 eLc2
    have hit : iSeq (eVar 1) [.frz (.str k.nm), .frz (.tup [rwD xs, rwD ys]), .no, .no, .no, .no, .no] = some (.ok ([xs, ys].map rwD) [.frz (.str k.nm), .frz (.tup [rwD xs, rwD ys]), .no, .no, .no, .no, .no]) := rfl
    rw [hit]
    dsimp only
    rw [h]
    dsimp only
    rw [if_pos hn]
    rfl
  have hz : (fpt k [xs, ys]) = (decide (k = .last), pl k [fr ([xs, ys].flatten.map (·.2))]) := rfl
  have nl := nm_last k
  rw [hz]
  simp only [fD]
  generalize wD (pl k [fr ([xs, ys].flatten.map (·.2))]) = res at f ⊢
  generalize ([xs, ys].flatten.map fun e : Ef => wD e.2) = ww at f hlc hn
  generalize rwD xs = r1 at hlc ⊢
  generalize rwD ys = r2 at hlc ⊢
  have hmm : (List.map R.val ww).length ≤ 1000000 := by simpa using hn
  have hfz : ∀ (l : List D) (ρ : DL.Env), frzs ρ (l.map .val) = some (l, ρ) := by
    intro l ρ
    induction l with
    | nil => rfl
    | cons x l ih => simp [frzs, R.frz, ih]
  simp [fn, start, sRet, sRetN, bS, eCB, bA, aCons, aNil, eSup, eCall, eVar, eC, frzs, R.frz, peeks, R.peek, Rv.r, retR, Own.d, eOp, eUn, bE, op2, op1, sSeq, sNil, sSet, put, sIf, bT, tE, tAnd, tOr, tNot, eAnd, eOr, eNot, eIf, eTup, eLst, sAsg, gTup, gsGo, gName, eCon, eSl, bO, oNone, oSome, eChain, tYes, sExpr, eFld, den_fresh_part, fnS, body_fresh_part, ↓hlc, aStar, hfz, f, e_kind_named, nameOf_cl, cEq, D.dat, D.eqv, nl]
end SoR
end

section
set_option maxRecDepth 100000
set_option maxHeartbeats 1000000
namespace SoR
open DL
def idl (xs : List Ef) : List Ef := (xs.drop 1).map fun _ => (false, [])
theorem idl_D (xs : List Ef) : ((xs.drop 1).map fun _ => d_IDLE) = (idl xs).map fD := by
  unfold idl
  rw [List.map_map]
  rfl
/-- what is found: a state and late effects -/
def pD (p : Wd × List Ef) : D := .tup [wD p.1, .lst (p.2.map fD)]
theorem ixD_in {n i : Nat} (h : i < n) : ixD n (i : Int) = some i := by
  unfold ixD
  rw [if_pos (by omega), if_pos (by omega)]
  simp
def twoF (k : Kd) (xs ys : List Ef) (p : Nat) : Wd × List Ef := ([], ((idl xs).set (p - 1) (true, [])).set p (fpt k [xs, ys]))
theorem e_two_filled (k : Kd) (xs ys : List Ef) (p : Nat) (hp : lu k xs ys = some p) (h1 : 1 ≤ p) (h2 : p + 1 < xs.length) (hl : xs.length = ys.length) (hs : xs.length ≤ 40000) (hx : ∀ e ∈ xs, e.2.length ≤ 1000000) (hy : ∀ e ∈ ys, e.2.length ≤ 1000000) :
    den_two_filled [.str k.nm, .lst (xs.map fD), .lst (ys.map fD)] = some (.ret (.val (pD (twoF k xs ys p)))) := by
  have l := e_last_unlike k xs ys hl (by omega) hx hy
  rw [hp] at l
  have i1 := e_idle_row false xs (by omega)
  have e2 : sq false (xs.map fD) = .lst (xs.map fD) := rfl
  rw [e2, idl_D] at i1
  have f := e_fresh_part k xs ys (by omega)
  have er : pD (twoF k xs ys p) = .tup [.tup [], .lst ((((idl xs).map fD).set (p - 1) d_STONE).set p (fD (fpt k [xs, ys])))] := by
    simp only [pD, twoF, List.map_set]
    rfl
  rw [er]
  have ln : ((idl xs).map fD).length = xs.length - 1 := by simp [idl]
  simp only [rwD] at f
  generalize fD (fpt k [xs, ys]) = fd at f ⊢
  generalize (idl xs).map fD = ii at i1 ln ⊢
  have hn := ln
  have q1 : ixD ii.length ((p : Int) - 1) = some (p - 1) := by
    have := ixD_in (n := ii.length) (i := p - 1) (by omega)
    rw [← this]
    congr 1
    omega
  have q2 : ixD ii.length (p : Int) = some p := ixD_in (by omega)
  generalize xs.map fD = r1 at l i1 f ⊢
  generalize ys.map fD = r2 at l f ⊢
  simp [fn, start, sRet, sRetN, bS, eCB, bA, aCons, aNil, eSup, eCall, eVar, eC, frzs, R.frz, peeks, R.peek, Rv.r, retR, Own.d, eOp, eUn, bE, op2, op1, sSeq, sNil, sSet, put, sIf, bT, tE, tAnd, tOr, tNot, eAnd, eOr, eNot, eIf, eTup, eLst, sAsg, gTup, gsGo, gName, eCon, eSl, bO, oNone, oSome, eChain, tYes, sExpr, eFld, den_two_filled, body_two_filled, l, oN, i1, sPut, own?, opSub, q1, q2, f]
end SoR
end

section
set_option maxRecDepth 100000
set_option maxHeartbeats 2000000
namespace SoR
open DL
theorem cut_to (l : List D) (p : Nat) : cutD l none (some (p : Int)) = l.take p := by
  unfold cutD sIxD
  have h1 : ¬ ((p : Int) < 0) := by omega
  simp only [h1, if_false, Int.toNat_natCast, List.drop_zero, Nat.sub_zero]
  by_cases h : p ≤ l.length
  · rw [Nat.min_eq_left h]
  · rw [Nat.min_eq_right (by omega), List.take_of_length_le (Nat.le_refl _), List.take_of_length_le (by omega)]
theorem cut_fro (l : List D) (p : Nat) : cutD l (some (p : Int)) none = l.drop p := by
  cases p with
  | zero => simp [cutD, sIxD]
  | succ p => exact cut_from l p
/-- what a return hands back -/
def rtOf : Option Fl → Option Rv
  | some (.rt r _) => some r
  | _ => none
/-- what one_filled asks at a place -/
def pair (k : Kd) (p : Nat) (xs : List Ef) : List Ef := [jn k (xs.take p), jn k (xs.drop p)]
def onE (k : Kd) (xs ys : List Ef) (p q : Nat) : Ef := if q = 0 then fpt k [xs, ys] else if (jn k (xs.drop p)).1 ≠ (jn k (ys.drop p)).1 then (true, (fpt k [xs, ys]).2) else (true, [])
def onR (k : Kd) (xs ys : List Ef) (p q : Nat) : Wd × List Ef := ([], (idl xs).set (p - 1) (onE k xs ys p q))
def oneGo (k : Kd) (xs ys : List Ef) : Nat → Nat → Option (Wd × List Ef)
  | _, 0 => none
  | p, n + 1 => match lu k (pair k p xs) (pair k p ys) with
    | none => oneGo k xs ys (p + 1) n
    | some q => some (onR k xs ys p q)
theorem sz_app (xs ys : List Ef) : sz (xs ++ ys) = sz xs + sz ys := by simp [sz]
theorem sz_take (xs : List Ef) (p : Nat) : sz (xs.take p) ≤ sz xs := by
  have h := sz_app (xs.take p) (xs.drop p)
  rw [List.take_append_drop] at h
  omega
theorem sz_drop (xs : List Ef) (p : Nat) : sz (xs.drop p) ≤ sz xs := by
  have h := sz_app (xs.take p) (xs.drop p)
  rw [List.take_append_drop] at h
  omega
theorem fill_len (k : Kd) : ∀ (ls bs : List Ef) (w : Ef), (fill k w ls bs).2.length ≤ w.2.length + sz ls + sz bs
  | [], bs, w => by simp [fill]; omega
  | l :: ls, [], w => by simp [fill]; omega
  | l :: ls, b :: bs, w => by
    have e1 : sz (l :: ls) = l.2.length + 2 + sz ls := by simp [sz]
    have e2 : sz (b :: bs) = b.2.length + 2 + sz bs := by simp [sz]
    have l1 := fl_len k w l
    have l2 := fl_len k (fl k w l) b
    have ih := fill_len k ls bs (fl k (fl k w l) b)
    simp only [fill]
    omega
theorem sz_idl (bs : List Ef) : sz (bs.map fun _ => ((false, []) : Ef)) ≤ sz bs := by
  induction bs with
  | nil => simp [sz]
  | cons b bs ih => simp [sz] at ih ⊢; omega
theorem jn_len (k : Kd) (xs : List Ef) : (jn k xs).2.length ≤ 2 * sz xs := by
  cases xs with
  | nil => simp [jn]
  | cons e bs =>
    have h := fill_len k (bs.map fun _ => (false, [])) bs e
    have h2 := sz_idl bs
    have e1 : sz (e :: bs) = e.2.length + 2 + sz bs := by simp [sz]
    simp only [jn]
    omega
theorem of_step (k : Kd) (xs ys : List Ef) (p : Nat) (s4 s5 s6 : Sl) (h1 : 1 ≤ p) (h2 : p < xs.length) (hl : xs.length = ys.length) (sx : 3 * sz xs ≤ 100000) (sy : 3 * sz ys ≤ 100000) (hs : xs.length ≤ 40000) (h4 : ∀ o, s4 ≠ .ref o) (h5 : ∀ o, s5 ≠ .ref o) (h6 : ∀ o, s6 ≠ .ref o) :
    match lu k (pair k p xs) (pair k p ys) with
    | none => lb_one_filled_1 [.frz (.str k.nm), .frz (.lst (xs.map fD)), .frz (.lst (ys.map fD)), .frz (.int p), s4, s5, s6, .no, .no, .no] =
        some (.ct [.frz (.str k.nm), .frz (.lst (xs.map fD)), .frz (.lst (ys.map fD)), .frz (.int p), .frz (.lst ((pair k p xs).map fD)), .frz (.lst ((pair k p ys).map fD)), .frz .non, .no, .no, .no])
    | some q => rtOf (lb_one_filled_1 [.frz (.str k.nm), .frz (.lst (xs.map fD)), .frz (.lst (ys.map fD)), .frz (.int p), s4, s5, s6, .no, .no, .no]) = some (.val (pD (onR k xs ys p q))) := by
  have nx1 : xs.take p ≠ [] := by intro z; have := congrArg List.length z; rw [List.length_take, List.length_nil] at this; omega
  have nx2 : xs.drop p ≠ [] := by intro z; have := congrArg List.length z; rw [List.length_drop, List.length_nil] at this; omega
  have ny1 : ys.take p ≠ [] := by intro z; have := congrArg List.length z; rw [List.length_take, List.length_nil] at this; omega
  have ny2 : ys.drop p ≠ [] := by intro z; have := congrArg List.length z; rw [List.length_drop, List.length_nil] at this; omega
  have t1 := sz_take xs p
  have t2 := sz_drop xs p
  have t3 := sz_take ys p
  have t4 := sz_drop ys p
  have a1 := e_joined' k (xs.take p) nx1 (by omega)
  have a2 := e_joined' k (xs.drop p) nx2 (by omega)
  have b1 := e_joined' k (ys.take p) ny1 (by omega)
  have b2 := e_joined' k (ys.drop p) ny2 (by omega)
  rw [List.map_take, ← cut_to] at a1 b1
  rw [List.map_drop, ← cut_fro] at a2 b2
  have l := e_last_unlike k (pair k p xs) (pair k p ys) rfl (by simp [pair]) (fun e he => by
      simp only [pair, List.mem_cons, List.not_mem_nil, or_false] at he
      rcases he with z | z <;> subst z
      · have := jn_len k (xs.take p); omega
      · have := jn_len k (xs.drop p); omega) (fun e he => by
      simp only [pair, List.mem_cons, List.not_mem_nil, or_false] at he
      rcases he with z | z <;> subst z
      · have := jn_len k (ys.take p); omega
      · have := jn_len k (ys.drop p); omega)
  have ep : ∀ zs : List Ef, (pair k p zs).map fD = [fD (jn k (zs.take p)), fD (jn k (zs.drop p))] := fun zs => rfl
  rw [ep xs, ep ys] at l
  rw [ep xs, ep ys]
  cases hq : lu k (pair k p xs) (pair k p ys) with
  | none =>
    rw [hq] at l
    dsimp only
    generalize fD (jn k (xs.take p)) = x1 at a1 l ⊢
    generalize fD (jn k (xs.drop p)) = x2 at a2 l ⊢
    generalize fD (jn k (ys.take p)) = y1 at b1 l ⊢
    generalize fD (jn k (ys.drop p)) = y2 at b2 l ⊢
    generalize xs.map fD = r1 at a1 a2 ⊢
    generalize ys.map fD = r2 at b1 b2 ⊢
    cases s4 with
    | ref o => exact absurd rfl (h4 o)
    | _ => cases s5 with
      | ref o => exact absurd rfl (h5 o)
      | _ => cases s6 with
        | ref o => exact absurd rfl (h6 o)
        | _ => simp [fn, start, sRet, sRetN, bS, eCB, bA, aCons, aNil, eSup, eCall, eVar, eC, frzs, R.frz, peeks, R.peek, Rv.r, retR, Own.d, eOp, eUn, bE, op2, op1, sSeq, sNil, sSet, put, sIf, bT, tE, tAnd, tOr, tNot, eAnd, eOr, eNot, eIf, eTup, eLst, sAsg, gTup, gsGo, gName, eCon, eSl, bO, oNone, oSome, eChain, tYes, sExpr, eFld, lb_one_filled_1, slOp, a1, a2, b1, b2, l, oN, cIsN, isNon, sCont]
  | some q =>
    rw [hq] at l
    dsimp only
    have f := e_fresh_part k xs ys (by omega)
    have i1 := e_idle_row false xs (by omega)
    have e2 : sq false (xs.map fD) = .lst (xs.map fD) := rfl
    rw [e2, idl_D] at i1
    have ln : ((idl xs).map fD).length = xs.length - 1 := by simp [idl]
    have er : pD (onR k xs ys p q) = .tup [.tup [], .lst (((idl xs).map fD).set (p - 1) (fD (onE k xs ys p q)))] := by
      simp only [pD, onR, List.map_set]
      rfl
    have g1 : ixS (fD (jn k (xs.drop p))) (.int 0) = some (.val (.bl (jn k (xs.drop p)).1)) := by simp [fD, ixS, ixD]
    have g2 : ixS (fD (jn k (ys.drop p))) (.int 0) = some (.val (.bl (jn k (ys.drop p)).1)) := by simp [fD, ixS, ixD]
    have g3 : ixS (fD (fpt k [xs, ys])) (.int 1) = some (.val (wD (fpt k [xs, ys]).2)) := by simp [fD, ixS, ixD]
    have eE : fD (onE k xs ys p q) = if q = 0 then fD (fpt k [xs, ys]) else if (jn k (xs.drop p)).1 ≠ (jn k (ys.drop p)).1 then .tup [.bl true, wD (fpt k [xs, ys]).2] else d_STONE := by
      unfold onE
      split
      · rfl
      · split <;> rfl
    rw [er, eE]
    simp only [rwD] at f
    generalize wD (fpt k [xs, ys]).2 = wf at g3 ⊢
    generalize fD (fpt k [xs, ys]) = ff at f g3 ⊢
    generalize (jn k (xs.drop p)).1 = c1 at g1 ⊢
    generalize (jn k (ys.drop p)).1 = c2 at g2 ⊢
    generalize fD (jn k (xs.take p)) = x1 at a1 l ⊢
    generalize fD (jn k (xs.drop p)) = x2 at a2 l g1 ⊢
    generalize fD (jn k (ys.take p)) = y1 at b1 l ⊢
    generalize fD (jn k (ys.drop p)) = y2 at b2 l g2 ⊢
    generalize (idl xs).map fD = ii at i1 ln ⊢
    have q1 : ixD ii.length ((p : Int) - 1) = some (p - 1) := by
      have := ixD_in (n := ii.length) (i := p - 1) (by omega)
      rw [← this]
      congr 1
      omega
    generalize xs.map fD = r1 at a1 a2 i1 f ⊢
    generalize ys.map fD = r2 at b1 b2 f ⊢
    have i0 : ∀ z1 z2 : D, ixS (.lst [z1, z2]) (.int 1) = some (.val z2) := fun z1 z2 => by simp [ixS, ixD]
    have hz : ((q : Int) == 0) = decide (q = 0) := by
      by_cases h : q = 0 <;> simp [h]
    cases s4 with
    | ref o => exact absurd rfl (h4 o)
    | _ => cases s5 with
      | ref o => exact absurd rfl (h5 o)
      | _ => cases s6 with
        | ref o => exact absurd rfl (h6 o)
        | _ =>
          by_cases hq0 : q = 0
          · subst hq0
            simp [fn, start, sRet, sRetN, bS, eCB, bA, aCons, aNil, eSup, eCall, eVar, eC, frzs, R.frz, peeks, R.peek, Rv.r, retR, Own.d, eOp, eUn, bE, op2, op1, sSeq, sNil, sSet, put, sIf, bT, tE, tAnd, tOr, tNot, eAnd, eOr, eNot, eIf, eTup, eLst, sAsg, gTup, gsGo, gName, eCon, eSl, bO, oNone, oSome, eChain, tYes, sExpr, eFld, rtOf, lb_one_filled_1, slOp, a1, a2, b1, b2, l, oN, cIsN, isNon, f, cEq, D.dat, D.eqv, i1, sPut, own?, opSub, q1]
          · by_cases hc : c1 = c2
            · subst hc
              simp [fn, start, sRet, sRetN, bS, eCB, bA, aCons, aNil, eSup, eCall, eVar, eC, frzs, R.frz, peeks, R.peek, Rv.r, retR, Own.d, eOp, eUn, bE, op2, op1, sSeq, sNil, sSet, put, sIf, bT, tE, tAnd, tOr, tNot, eAnd, eOr, eNot, eIf, eTup, eLst, sAsg, gTup, gsGo, gName, eCon, eSl, bO, oNone, oSome, eChain, tYes, sExpr, eFld, rtOf, lb_one_filled_1, slOp, a1, a2, b1, b2, l, oN, cIsN, isNon, f, cEq, cNe, D.dat, D.eqv, hz, hq0, i0, g1, g2, i1, sPut, own?, opSub, q1]
            · simp [fn, start, sRet, sRetN, bS, eCB, bA, aCons, aNil, eSup, eCall, eVar, eC, frzs, R.frz, peeks, R.peek, Rv.r, retR, Own.d, eOp, eUn, bE, op2, op1, sSeq, sNil, sSet, put, sIf, bT, tE, tAnd, tOr, tNot, eAnd, eOr, eNot, eIf, eTup, eLst, sAsg, gTup, gsGo, gName, eCon, eSl, bO, oNone, oSome, eChain, tYes, sExpr, eFld, rtOf, lb_one_filled_1, slOp, a1, a2, b1, b2, l, oN, cIsN, isNon, f, cEq, cNe, D.dat, D.eqv, hz, hq0, i0, g1, g2, g3, hc, i1, sPut, own?, opSub, q1]
end SoR
end

section
set_option maxRecDepth 100000
set_option maxHeartbeats 2000000
namespace SoR
open DL
theorem rangeD_from (i n : Nat) : rangeD (i : Int) n = plcs i n := by
  unfold rangeD plcs
  rw [List.range_eq_range', List.range'_eq_map_range, List.range'_eq_map_range (s := i)]
  rw [List.map_map, List.map_map]
  apply List.map_congr_left
  intro a _
  simp
theorem of_loop (k : Kd) (xs ys : List Ef) (hl : xs.length = ys.length) (sx : 3 * sz xs ≤ 100000) (sy : 3 * sz ys ≤ 100000) (hs : xs.length ≤ 40000) : ∀ (n p : Nat) (s3 s4 s5 s6 : Sl), 1 ≤ p → p + n = xs.length →
    (∀ o, s3 ≠ .ref o) → (∀ o, s4 ≠ .ref o) → (∀ o, s5 ≠ .ref o) → (∀ o, s6 ≠ .ref o) →
    match oneGo k xs ys p n with
    | none => ∃ ρ, forGo (gName 3) lb_one_filled_1 (plcs p n) [.frz (.str k.nm), .frz (.lst (xs.map fD)), .frz (.lst (ys.map fD)), s3, s4, s5, s6, .no, .no, .no] = some (.nx ρ)
    | some r => rtOf (forGo (gName 3) lb_one_filled_1 (plcs p n) [.frz (.str k.nm), .frz (.lst (xs.map fD)), .frz (.lst (ys.map fD)), s3, s4, s5, s6, .no, .no, .no]) = some (.val (pD r))
  | 0, p, s3, s4, s5, s6, _, _, _, _, _, _ => ⟨_, rfl⟩
  | n + 1, p, s3, s4, s5, s6, h1, hn, h3, h4, h5, h6 => by
    have st := of_step k xs ys p s4 s5 s6 h1 (by omega) hl sx sy hs h4 h5 h6
    have hg : gName 3 (.int p) [.frz (.str k.nm), .frz (.lst (xs.map fD)), .frz (.lst (ys.map fD)), s3, s4, s5, s6, .no, .no, .no] = some [.frz (.str k.nm), .frz (.lst (xs.map fD)), .frz (.lst (ys.map fD)), .frz (.int p), s4, s5, s6, .no, .no, .no] := by
      cases s3 with
      | ref o => exact absurd rfl (h3 o)
      | _ => rfl
    rw [plcs_succ, forGo, hg, oneGo]
    dsimp only
    cases hq : lu k (pair k p xs) (pair k p ys) with
    | none =>
      rw [hq] at st
      dsimp only at st ⊢
      rw [st]
      exact of_loop k xs ys hl sx sy hs n (p + 1) _ _ _ _ (by omega) (by omega) (fun o z => by cases z) (fun o z => by cases z) (fun o z => by cases z) (fun o z => by cases z)
    | some q =>
      rw [hq] at st
      dsimp only at st ⊢
      cases z : lb_one_filled_1 [.frz (.str k.nm), .frz (.lst (xs.map fD)), .frz (.lst (ys.map fD)), .frz (.int p), s4, s5, s6, .no, .no, .no] with
      | none => rw [z] at st; cases st
      | some f =>
        rw [z] at st
        cases f with
        | rt r ρ => exact st
        | _ => cases st
def oP : Option (Wd × List Ef) → D
  | none => .non
  | some r => pD r
theorem e_one_filled (k : Kd) (xs ys : List Ef) (hne : 1 ≤ xs.length) (hl : xs.length = ys.length) (sx : 3 * sz xs ≤ 100000) (sy : 3 * sz ys ≤ 100000) (hs : xs.length ≤ 40000) :
    den_one_filled [.str k.nm, .lst (xs.map fD), .lst (ys.map fD)] = some (.ret (.val (oP (oneGo k xs ys 1 (xs.length - 1))))) := by
  have lp := of_loop k xs ys hl sx sy hs (xs.length - 1) 1 .no .no .no .no (by omega) (by omega) (fun o z => by cases z) (fun o z => by cases z) (fun o z => by cases z) (fun o z => by cases z)
  have hit : iRange (aCons (eC (.int 1)) (aCons (eCB fLenS (aCons (eVar 1) aNil)) aNil)) [.frz (.str k.nm), .frz (.lst (xs.map fD)), .frz (.lst (ys.map fD)), .no, .no, .no, .no, .no, .no, .no] =
      some (.ok (plcs 1 (xs.length - 1)) [.frz (.str k.nm), .frz (.lst (xs.map fD)), .frz (.lst (ys.map fD)), .no, .no, .no, .no, .no, .no, .no]) := by
    have ln : (xs.map fD).length = xs.length := List.length_map ..
    generalize xs.map fD = r1 at ln ⊢
    generalize ys.map fD = r2
    have q1 : ((r1.length : Int)) ≤ 1000000000 := by omega
    have q2 : -1000000000 ≤ (r1.length : Int) := by omega
    have q3 : ((r1.length : Int) - 1).toNat = xs.length - 1 := by omega
    have q4 := rangeD_from 1 (xs.length - 1)
    have q5 : rangeD 1 (r1.length - 1) = plcs 1 (xs.length - 1) := by rw [ln]; exact q4
    simp [fn, start, sRet, sRetN, bS, eCB, bA, aCons, aNil, eSup, eCall, eVar, eC, frzs, R.frz, peeks, R.peek, Rv.r, retR, Own.d, eOp, eUn, bE, op2, op1, sSeq, sNil, sSet, put, sIf, bT, tE, tAnd, tOr, tNot, eAnd, eOr, eNot, eIf, eTup, eLst, sAsg, gTup, gsGo, gName, eCon, eSl, bO, oNone, oSome, eChain, tYes, sExpr, eFld, iRange, fLenS, q1, q2, q5]
  have hlp : lp_one_filled_1 [.frz (.str k.nm), .frz (.lst (xs.map fD)), .frz (.lst (ys.map fD)), .no, .no, .no, .no, .no, .no, .no] =
      forGo (gName 3) lb_one_filled_1 (plcs 1 (xs.length - 1)) [.frz (.str k.nm), .frz (.lst (xs.map fD)), .frz (.lst (ys.map fD)), .no, .no, .no, .no, .no, .no, .no] := by
    unfold lp_one_filled_1 sFor
    rw [hit]
  rw [← hlp] at lp
  generalize xs.map fD = r1 at lp ⊢
  generalize ys.map fD = r2 at lp ⊢
  cases ho : oneGo k xs ys 1 (xs.length - 1) with
  | none =>
    rw [ho] at lp
    obtain ⟨ρ, e⟩ := lp
    simp [fn, start, sRet, sRetN, bS, eCB, bA, aCons, aNil, eSup, eCall, eVar, eC, frzs, R.frz, peeks, R.peek, Rv.r, retR, Own.d, eOp, eUn, bE, op2, op1, sSeq, sNil, sSet, put, sIf, bT, tE, tAnd, tOr, tNot, eAnd, eOr, eNot, eIf, eTup, eLst, sAsg, gTup, gsGo, gName, eCon, eSl, bO, oNone, oSome, eChain, tYes, sExpr, eFld, den_one_filled, body_one_filled, ↓e, oP]
  | some r =>
    rw [ho] at lp
    dsimp only at lp
    have er : oP (some r) = pD r := rfl
    rw [er]
    cases z : lp_one_filled_1 [.frz (.str k.nm), .frz (.lst r1), .frz (.lst r2), .no, .no, .no, .no, .no, .no, .no] with
    | none => rw [z] at lp; cases lp
    | some f =>
      rw [z] at lp
      cases f with
      | rt v ρ =>
        cases lp
        simp [fn, start, sRet, sRetN, bS, eCB, bA, aCons, aNil, eSup, eCall, eVar, eC, frzs, R.frz, peeks, R.peek, Rv.r, retR, Own.d, eOp, eUn, bE, op2, op1, sSeq, sNil, sSet, put, sIf, bT, tE, tAnd, tOr, tNot, eAnd, eOr, eNot, eIf, eTup, eLst, sAsg, gTup, gsGo, gName, eCon, eSl, bO, oNone, oSome, eChain, tYes, sExpr, eFld, den_one_filled, body_one_filled, ↓z]
      | _ => cases lp
end SoR
end

section
set_option maxRecDepth 100000
set_option maxHeartbeats 2000000
namespace SoR
open DL
theorem in0 (i : Int) : isNon (.int i) = false := rfl
theorem in1 : isNon .non = true := rfl
/-- parting_row_of -/
def prt (k : Kd) (xs ys : List Ef) : Option (Wd × List Ef) := match lu k xs ys with
  | none => none
  | some p => match pst k (jn k xs) (jn k ys) with
    | some w => some (w, idl xs)
    | none => match oneGo k xs ys 1 (xs.length - 1) with
      | some r => some r
      | none => some (twoF k xs ys p)
theorem e_parting_row (k : Kd) (xs ys : List Ef) (hne : 1 ≤ xs.length) (hl : xs.length = ys.length) (sx : 3 * sz xs ≤ 100000) (sy : 3 * sz ys ≤ 100000) (hs : xs.length ≤ 40000) (hx : ∀ e ∈ xs, e.2.length ≤ 1000000) (hy : ∀ e ∈ ys, e.2.length ≤ 1000000)
    (ht : ∀ p, lu k xs ys = some p → pst k (jn k xs) (jn k ys) = none → oneGo k xs ys 1 (xs.length - 1) = none → 1 ≤ p ∧ p + 1 < xs.length) :
    den_parting_row_of [.str k.nm, .lst (xs.map fD), .lst (ys.map fD)] = some (.ret (.val (oP (prt k xs ys)))) := by
  have nx : xs ≠ [] := by intro z; subst z; simp at hne
  have ny : ys ≠ [] := by intro z; rw [z, List.length_nil] at hl; omega
  have l := e_last_unlike k xs ys hl (by omega) hx hy
  have n := e_none_filled k xs ys nx ny sx sy (by omega)
  have o := e_one_filled k xs ys hne hl sx sy hs
  rw [idl_D] at n
  unfold prt
  cases hp : lu k xs ys with
  | none =>
    rw [hp] at l
    generalize xs.map fD = r1 at l ⊢
    generalize ys.map fD = r2 at l ⊢
    simp [fn, start, sRet, sRetN, bS, eCB, bA, aCons, aNil, eSup, eCall, eVar, eC, frzs, R.frz, peeks, R.peek, Rv.r, retR, Own.d, eOp, eUn, bE, op2, op1, sSeq, sNil, sSet, put, sIf, bT, tE, tAnd, tOr, tNot, eAnd, eOr, eNot, eIf, eTup, eLst, sAsg, gTup, gsGo, gName, eCon, eSl, bO, oNone, oSome, eChain, tYes, sExpr, eFld, den_parting_row_of, body_parting_row_of, l, oN, cIsN, in0, in1, oP]
  | some p =>
    have t := fun a b => ht p hp a b
    rw [hp] at l
    cases hq : pst k (jn k xs) (jn k ys) with
    | some w =>
      rw [hq] at n
      have en : isNon (D.tup [wD w, .lst ((idl xs).map fD)]) = false := rfl
      have er : oP (some (w, idl xs)) = .tup [wD w, .lst ((idl xs).map fD)] := rfl
      dsimp only at n ⊢
      rw [er]
      generalize D.tup [wD w, .lst ((idl xs).map fD)] = res at n en ⊢
      generalize xs.map fD = r1 at l n ⊢
      generalize ys.map fD = r2 at l n ⊢
      simp [fn, start, sRet, sRetN, bS, eCB, bA, aCons, aNil, eSup, eCall, eVar, eC, frzs, R.frz, peeks, R.peek, Rv.r, retR, Own.d, eOp, eUn, bE, op2, op1, sSeq, sNil, sSet, put, sIf, bT, tE, tAnd, tOr, tNot, eAnd, eOr, eNot, eIf, eTup, eLst, sAsg, gTup, gsGo, gName, eCon, eSl, bO, oNone, oSome, eChain, tYes, sExpr, eFld, den_parting_row_of, body_parting_row_of, l, oN, cIsN, in0, in1, n, en]
    | none =>
      rw [hq] at n
      dsimp only at n ⊢
      cases ho : oneGo k xs ys 1 (xs.length - 1) with
      | some r =>
        rw [ho] at o
        have er : oP (some r) = pD r := rfl
        have en : isNon (pD r) = false := rfl
        dsimp only
        rw [er] at o ⊢
        generalize pD r = res at o en ⊢
        generalize xs.map fD = r1 at l n o ⊢
        generalize ys.map fD = r2 at l n o ⊢
        simp [fn, start, sRet, sRetN, bS, eCB, bA, aCons, aNil, eSup, eCall, eVar, eC, frzs, R.frz, peeks, R.peek, Rv.r, retR, Own.d, eOp, eUn, bE, op2, op1, sSeq, sNil, sSet, put, sIf, bT, tE, tAnd, tOr, tNot, eAnd, eOr, eNot, eIf, eTup, eLst, sAsg, gTup, gsGo, gName, eCon, eSl, bO, oNone, oSome, eChain, tYes, sExpr, eFld, den_parting_row_of, body_parting_row_of, l, oN, cIsN, in0, in1, n, o, en]
      | none =>
        rw [ho] at o
        obtain ⟨t1, t2⟩ := t hq ho
        have w := e_two_filled k xs ys p hp t1 t2 hl hs hx hy
        have er : oP (some (twoF k xs ys p)) = pD (twoF k xs ys p) := rfl
        have eo : oP none = .non := rfl
        dsimp only
        rw [er]
        rw [eo] at o
        generalize pD (twoF k xs ys p) = res at w ⊢
        generalize xs.map fD = r1 at l n o w ⊢
        generalize ys.map fD = r2 at l n o w ⊢
        simp [fn, start, sRet, sRetN, bS, eCB, bA, aCons, aNil, eSup, eCall, eVar, eC, frzs, R.frz, peeks, R.peek, Rv.r, retR, Own.d, eOp, eUn, bE, op2, op1, sSeq, sNil, sSet, put, sIf, bT, tE, tAnd, tOr, tNot, eAnd, eOr, eNot, eIf, eTup, eLst, sAsg, gTup, gsGo, gName, eCon, eSl, bO, oNone, oSome, eChain, tYes, sExpr, eFld, den_parting_row_of, body_parting_row_of, l, oN, cIsN, in0, in1, n, o, w]
end SoR
end

section
set_option maxRecDepth 100000
set_option maxHeartbeats 2000000
namespace SoR
open DL
theorem e_parting_blocks (k : Kd) (a b : Bool) (xs ys : List Ef) (ox : ∀ e ∈ xs, OkE k e) (oy : ∀ e ∈ ys, OkE k e) (hl : xs.length = ys.length) (hs : xs.length ≤ 40000) {res : D}
    (h : den_parting_row_of [.str k.nm, .lst ((xs.map (nf k)).map fD), .lst ((ys.map (nf k)).map fD)] = some (.ret (.val res))) :
    den_parting_blocks [.str k.nm, sq a (xs.map fD), sq b (ys.map fD)] = some (.ret (.val res)) := by
  have c1 := e_checked_row k a xs ox (by omega)
  have c2 := e_checked_row k b ys oy (by omega)
  generalize (xs.map (nf k)).map fD = r1 at c1 h
  generalize (ys.map (nf k)).map fD = r2 at c2 h
  generalize sq a (xs.map fD) = s1 at c1 ⊢
  generalize sq b (ys.map fD) = s2 at c2 ⊢
  simp [fn, start, sRet, sRetN, bS, eCB, bA, aCons, aNil, eSup, eCall, eVar, eC, frzs, R.frz, peeks, R.peek, Rv.r, retR, Own.d, eOp, eUn, bE, op2, op1, sSeq, sNil, sSet, put, sIf, bT, tE, tAnd, tOr, tNot, eAnd, eOr, eNot, eIf, eTup, eLst, sAsg, gTup, gsGo, gName, eCon, eSl, bO, oNone, oSome, eChain, tYes, sExpr, eFld, den_parting_blocks, body_parting_blocks, c1, c2, h]
theorem e_parting_bad1 (k : Kd) (s1 s2 : D) (x : Exc) (h : den_checked_row [.str k.nm, s1] = some (.ex x)) : den_parting_blocks [.str k.nm, s1, s2] = some (.ex x) := by
  simp [fn, start, sRet, sRetN, bS, eCB, bA, aCons, aNil, eSup, eCall, eVar, eC, frzs, R.frz, peeks, R.peek, Rv.r, retR, Own.d, eOp, eUn, bE, op2, op1, sSeq, sNil, sSet, put, sIf, bT, tE, tAnd, tOr, tNot, eAnd, eOr, eNot, eIf, eTup, eLst, sAsg, gTup, gsGo, gName, eCon, eSl, bO, oNone, oSome, eChain, tYes, sExpr, eFld, den_parting_blocks, body_parting_blocks, h]
theorem e_parting_bad2 (k : Kd) (s1 s2 : D) (l : List D) (x : Exc) (h1 : den_checked_row [.str k.nm, s1] = some (.ret (.fre (.lst l)))) (h : den_checked_row [.str k.nm, s2] = some (.ex x)) : den_parting_blocks [.str k.nm, s1, s2] = some (.ex x) := by
  simp [fn, start, sRet, sRetN, bS, eCB, bA, aCons, aNil, eSup, eCall, eVar, eC, frzs, R.frz, peeks, R.peek, Rv.r, retR, Own.d, eOp, eUn, bE, op2, op1, sSeq, sNil, sSet, put, sIf, bT, tE, tAnd, tOr, tNot, eAnd, eOr, eNot, eIf, eTup, eLst, sAsg, gTup, gsGo, gName, eCon, eSl, bO, oNone, oSome, eChain, tYes, sExpr, eFld, den_parting_blocks, body_parting_blocks, h1, h]
end SoR
end

section
set_option maxRecDepth 100000
set_option maxHeartbeats 2000000
namespace SoR
open DL
theorem eqv_nil (w : Wd) : D.eqv (wD w) (.tup []) = decide (w = []) := eqv_wD w []
theorem el_normal (k : Kd) (e : Ef) : den__law_normal [.str k.nm, fD e] = some (.ret (.val (fD (nf k e)))) := by
  have x0 : ixS (fD e) (.int 0) = some (.val (.bl e.1)) := by simp [fD, ixS, ixD]
  have x1 : ixS (fD e) (.int 1) = some (.val (wD e.2)) := by simp [fD, ixS, ixD]
  have q := eqv_nil e.2
  have w := dat_wD e.2 59
  have nl := nm_last k
  have er : fD (nf k e) = if k = .last ∧ e.2 ≠ [] then .tup [.bl true, wD e.2] else .tup [.bl e.1, wD e.2] := by
    unfold nf fm
    split <;> rfl
  rw [er]
  generalize e.1 = c at x0 ⊢
  generalize hw : wD e.2 = ww at x1 q w ⊢
  generalize fD e = d at x0 x1 ⊢
  by_cases hk : k = .last
  · subst hk
    have nl2 : (Kd.last.nm == "last") = true := rfl
    by_cases he : e.2 = []
    · have q2 : ww.eqv (.tup []) = true := by rw [q]; exact decide_eq_true he
      have w2 : ww.dat 60 = true := w
      simp [fn, start, sRet, sRetN, bS, eCB, bA, aCons, aNil, eSup, eCall, eVar, eC, frzs, R.frz, peeks, R.peek, Rv.r, retR, Own.d, eOp, eUn, bE, op2, op1, sSeq, sNil, sSet, put, sIf, bT, tE, tAnd, tOr, tNot, eAnd, eOr, eNot, eIf, eTup, eLst, sAsg, gTup, gsGo, gName, eCon, eSl, bO, oNone, oSome, eChain, tYes, sExpr, eFld, den__law_normal, body__law_normal, cEq, cNe, D.dat, D.dats, D.eqv, nl2, x0, x1, q2, w2, he]
    · have q2 : ww.eqv (.tup []) = false := by rw [q]; exact decide_eq_false he
      have w2 : ww.dat 60 = true := w
      simp [fn, start, sRet, sRetN, bS, eCB, bA, aCons, aNil, eSup, eCall, eVar, eC, frzs, R.frz, peeks, R.peek, Rv.r, retR, Own.d, eOp, eUn, bE, op2, op1, sSeq, sNil, sSet, put, sIf, bT, tE, tAnd, tOr, tNot, eAnd, eOr, eNot, eIf, eTup, eLst, sAsg, gTup, gsGo, gName, eCon, eSl, bO, oNone, oSome, eChain, tYes, sExpr, eFld, den__law_normal, body__law_normal, cEq, cNe, D.dat, D.dats, D.eqv, nl2, x0, x1, q2, w2, he]
  · have nl2 : (k.nm == "last") = false := by rw [nl]; simpa using hk
    simp [fn, start, sRet, sRetN, bS, eCB, bA, aCons, aNil, eSup, eCall, eVar, eC, frzs, R.frz, peeks, R.peek, Rv.r, retR, Own.d, eOp, eUn, bE, op2, op1, sSeq, sNil, sSet, put, sIf, bT, tE, tAnd, tOr, tNot, eAnd, eOr, eNot, eIf, eTup, eLst, sAsg, gTup, gsGo, gName, eCon, eSl, bO, oNone, oSome, eChain, tYes, sExpr, eFld, den__law_normal, body__law_normal, cEq, cNe, D.dat, D.dats, D.eqv, nl2, x0, x1, hk]
end SoR
end

section
set_option maxRecDepth 100000
set_option maxHeartbeats 2000000
namespace SoR
open DL
/-! the law's own checks of a word, an effect -/
def isN : D → Bool
  | .int _ => true
  | _ => false
theorem el_is_number (d : D) (h : (tyN d).isSome) : den__law_is_number [d] = some (.ret (.val (.bl (isN d)))) := by
  cases d with
  | bl b => cases b <;> rfl
  | scr l => cases h
  | obj c ns l => cases h
  | _ => rfl
theorem lc_law_is_word {l : List D} (hl : l.length ≤ 1000000) (h : ∀ d ∈ l, (tyN d).isSome) : lc__law_is_word_1 [.frz (.tup l), .no] = some (.ok (.fre (.lst (l.map fun d => .bl (isN d)))) [.frz (.tup l), .no]) := by
  have z := eLc_all (it := iSeq (eVar 0)) (g := gName 1) (el := eCall den__law_is_number (aCons (eVar 1) aNil)) (vs := [1]) (toD := id) (f := fun d => .bl (isN d)) (ρ := [.frz (.tup l), .no]) (ρ1 := [.frz (.tup l), .no]) [.frz (.tup l), .no] l
    (by simp [iSeq, eVar, R.frz]) hl rfl (fun x hx => ⟨[.frz (.tup l), .frz x], .val (.bl (isN x)), [.frz (.tup l), .frz x], [.frz (.tup l), .frz x], rfl, by simp [fn, start, sRet, sRetN, bS, eCB, bA, aCons, aNil, eSup, eCall, eVar, eC, frzs, R.frz, peeks, R.peek, Rv.r, retR, Own.d, eOp, eUn, bE, op2, op1, sSeq, sNil, sSet, put, sIf, bT, tE, tAnd, tOr, tNot, eAnd, eOr, eNot, eIf, eTup, eLst, sAsg, gTup, gsGo, gName, eCon, eSl, bO, oNone, oSome, eChain, tYes, sExpr, eFld, el_is_number x (h x hx)], rfl, rfl⟩)
  exact z
theorem el_is_word (w : Wd) (hl : w.length ≤ 1000000) : den__law_is_word [wD w] = some (.ret (.val (.bl true))) := by
  have z := lc_law_is_word (l := w.map .int) (by simpa using hl) (fun d hd => by
    obtain ⟨i, _, e⟩ := List.mem_map.mp hd
    subst e
    rfl)
  have a := fAll_map isN (w.map .int)
  have t : (w.map D.int).all isN = true := by simp [isN]
  rw [t] at a
  simp only [wD]
  generalize w.map D.int = l at z a ⊢
  generalize (l.map fun d => D.bl (isN d)) = bs at z a
  simp [fn, start, sRet, sRetN, bS, eCB, bA, aCons, aNil, eSup, eCall, eVar, eC, frzs, R.frz, peeks, R.peek, Rv.r, retR, Own.d, eOp, eUn, bE, op2, op1, sSeq, sNil, sSet, put, sIf, bT, tE, tAnd, tOr, tNot, eAnd, eOr, eNot, eIf, eTup, eLst, sAsg, gTup, gsGo, gName, eCon, eSl, bO, oNone, oSome, eChain, tYes, sExpr, eFld, den__law_is_word, body__law_is_word, isiD, tyN, isB, ↓z, a]
theorem el_is_effect (e : Ef) (hl : e.2.length ≤ 1000000) : den__law_is_effect [fD e] = some (.ret (.val (.bl true))) := by
  have w := el_is_word e.2 hl
  simp only [fD]
  generalize wD e.2 = ww at w ⊢
  simp [fn, start, sRet, sRetN, bS, eCB, bA, aCons, aNil, eSup, eCall, eVar, eC, frzs, R.frz, peeks, R.peek, Rv.r, retR, Own.d, eOp, eUn, bE, op2, op1, sSeq, sNil, sSet, put, sIf, bT, tE, tAnd, tOr, tNot, eAnd, eOr, eNot, eIf, eTup, eLst, sAsg, gTup, gsGo, gName, eCon, eSl, bO, oNone, oSome, eChain, tYes, sExpr, eFld, den__law_is_effect, body__law_is_effect, isiD, tyN, isB, fLenS, cNe, D.dat, D.eqv, ixS, ixD, w]
end SoR
end

section
set_option maxRecDepth 100000
set_option maxHeartbeats 2000000
namespace SoR
open DL
theorem setGo_ded : ∀ (l d : Wd) (x : Int), l.foldl setGo (d ++ [x]) = d ++ dedI (x :: l)
  | [], d, x => rfl
  | y :: r, d, x => by
    rw [List.foldl_cons]
    by_cases h : x = y
    · subst h
      have e : setGo (d ++ [x]) x = d ++ [x] := by unfold setGo; simp
      rw [e, setGo_ded r d x]
      simp [dedI]
    · have e : setGo (d ++ [x]) y = (d ++ [x]) ++ [y] := by unfold setGo; simp [h]
      rw [e, setGo_ded r (d ++ [x]) y]
      simp [dedI, h]
theorem setGo_all (l : Wd) : l.foldl setGo [] = dedI l := by
  cases l with
  | nil => rfl
  | cons x r =>
    have e : setGo [] x = [] ++ [x] := rfl
    rw [List.foldl_cons, e, setGo_ded]
    rfl
theorem hd_snoc (w : Wd) (x : Int) : hd (w ++ [x]) = keyGo (hd w) x := by unfold hd; rw [List.foldl_append]; rfl
theorem mem_keyGo (d : Wd) (x y : Int) : y ∈ keyGo d x ↔ y ∈ d ∨ y = x := by
  unfold keyGo
  split
  · rename_i h
    constructor
    · exact .inl
    · rintro (h1 | h1)
      · exact h1
      · subst h1; exact h
  · simp
theorem mem_fold (l : Wd) : ∀ (d : Wd) (y : Int), y ∈ l.foldl keyGo d ↔ y ∈ d ∨ y ∈ l := by
  induction l with
  | nil => intro d y; simp
  | cons x l ih =>
    intro d y
    rw [List.foldl_cons, ih, mem_keyGo, List.mem_cons, or_assoc]
theorem mem_hd (w : Wd) (y : Int) : y ∈ hd w ↔ y ∈ w := by
  unfold hd
  rw [mem_fold]
  simp
theorem hd_head (x : Int) (l : Wd) : ∀ (d : Wd), ∃ r, l.foldl keyGo (x :: d) = x :: r := by
  induction l with
  | nil => intro d; exact ⟨d, rfl⟩
  | cons y l ih =>
    intro d
    rw [List.foldl_cons]
    unfold keyGo
    split
    · exact ih d
    · exact ih (d ++ [y])
theorem hd_take (w : Wd) : (hd w).take 1 = w.take 1 := by
  cases w with
  | nil => rfl
  | cons x w =>
    obtain ⟨r, e⟩ := hd_head x w []
    have e2 : hd (x :: w) = w.foldl keyGo (x :: []) := rfl
    rw [e2, e]
    rfl
theorem tl_def (w : Wd) : tl w = (hd w.reverse).reverse := rfl
theorem tl_cons (x : Int) (w : Wd) : tl (x :: w) = if x ∈ w then tl w else x :: tl w := by
  rw [tl_def, List.reverse_cons, hd_snoc, tl_def]
  unfold keyGo
  have h : x ∈ hd w.reverse ↔ x ∈ w := by rw [mem_hd, List.mem_reverse]
  by_cases hx : x ∈ w
  · rw [if_pos (h.mpr hx), if_pos hx]
  · rw [if_neg (fun z => hx (h.mp z)), if_neg hx]
    simp
theorem mem_tl (w : Wd) (y : Int) : y ∈ tl w ↔ y ∈ w := by rw [tl_def, List.mem_reverse, mem_hd, List.mem_reverse]
theorem drop_last (w : Wd) : w.drop (w.length - 1) = (w.reverse.take 1).reverse := by
  rcases List.eq_nil_or_concat w with h | ⟨m, y, h⟩
  · subst h; rfl
  · subst h
    rw [List.concat_eq_append]
    simp
theorem tl_last (w : Wd) : (tl w).drop ((tl w).length - 1) = w.drop (w.length - 1) := by
  rw [drop_last, drop_last, tl_def, List.reverse_reverse, hd_take]
/-! the law's forms -/
def headsL (w : Wd) : Wd := ((List.range w.length).filter fun i => !decide (w.getD i 0 ∈ w.take i)).map fun i => w.getD i 0
def tailsL (w : Wd) : Wd := ((List.range w.length).filter fun i => !decide (w.getD i 0 ∈ w.drop (i + 1))).map fun i => w.getD i 0
theorem headsL_eq (w : Wd) : headsL w = hd w := by
  have key : ∀ (r w : Wd), r.reverse = w → headsL w = hd w := by
    intro r
    induction r with
    | nil => intro w h; subst h; rfl
    | cons x r ih =>
      intro w h
      have ih2 := ih r.reverse rfl
      rw [List.reverse_cons] at h
      subst h
      rw [hd_snoc, ← ih2]
      generalize r.reverse = v at ih2 ⊢
      have hm0 : x ∈ headsL v ↔ x ∈ v := by rw [ih2, mem_hd]
      unfold headsL
      rw [List.length_append, List.length_singleton, List.range_succ, List.filter_append, List.map_append]
      have e1 : (List.range v.length).filter (fun i => !decide ((v ++ [x]).getD i 0 ∈ (v ++ [x]).take i)) = (List.range v.length).filter (fun i => !decide (v.getD i 0 ∈ v.take i)) := by
        apply List.filter_congr
        intro i hi
        have hi := List.mem_range.mp hi
        have a : (v ++ [x]).getD i 0 = v.getD i 0 := by simp [List.getD, List.getElem?_append_left hi]
        have b : (v ++ [x]).take i = v.take i := by rw [List.take_append_of_le_length (by omega)]
        rw [a, b]
      have e2 : ((List.range v.length).filter (fun i => !decide (v.getD i 0 ∈ v.take i))).map (fun i => (v ++ [x]).getD i 0) = ((List.range v.length).filter (fun i => !decide (v.getD i 0 ∈ v.take i))).map fun i => v.getD i 0 := by
        apply List.map_congr_left
        intro i hi
        have hi := List.mem_range.mp (List.mem_filter.mp hi).1
        simp [List.getD, List.getElem?_append_left hi]
      rw [e1, e2]
      have hx : (v ++ [x]).getD v.length 0 = x := by simp [List.getD]
      have ht : (v ++ [x]).take v.length = v := by simp
      have hm : x ∈ ((List.range v.length).filter (fun i => !decide (v.getD i 0 ∈ v.take i))).map (fun i => v.getD i 0) ↔ x ∈ v := by
        have : ((List.range v.length).filter (fun i => !decide (v.getD i 0 ∈ v.take i))).map (fun i => v.getD i 0) = headsL v := rfl
        rw [this]
        exact hm0
      unfold keyGo
      by_cases hv : x ∈ v
      · rw [if_pos (hm.mpr hv)]
        simp [List.filter_cons, hx, ht, hv]
      · rw [if_neg (fun z => hv (hm.mp z))]
        simp [List.filter_cons, hx, ht, hv]
  exact key w.reverse w (List.reverse_reverse w)
theorem tailsL_eq : ∀ w : Wd, tailsL w = tl w
  | [] => rfl
  | x :: w => by
    have ih := tailsL_eq w
    rw [tl_cons, ← ih]
    unfold tailsL
    rw [List.length_cons, List.range_succ_eq_map, List.filter_cons, List.filter_map, List.getD_cons_zero]
    have e : ((fun i => !decide ((x :: w).getD i 0 ∈ (x :: w).drop (i + 1))) ∘ Nat.succ) = fun i => !decide (w.getD i 0 ∈ w.drop (i + 1)) := by
      funext i
      simp only [Function.comp, List.getD, List.getElem?_cons_succ, List.drop_succ_cons]
      exact congrArg (fun b => !b) (decide_eq_decide.mpr Iff.rfl)
    rw [e]
    by_cases hx : x ∈ w
    · simp [hx, Function.comp_def]
    · simp [hx, Function.comp_def]
end SoR
end

section
set_option maxRecDepth 100000
set_option maxHeartbeats 2000000
namespace SoR
open DL
theorem nm_bag (k : Kd) : (k.nm == "bag") = decide (k = .bag) := by cases k <;> rfl
theorem nm_set (k : Kd) : (k.nm == "set") = decide (k = .set) := by cases k <;> rfl
theorem nm_first (k : Kd) : (k.nm == "first") = decide (k = .first) := by cases k <;> rfl
theorem nm_heads (k : Kd) : (k.nm == "heads") = decide (k = .heads) := by cases k <;> rfl
theorem nm_tails (k : Kd) : (k.nm == "tails") = decide (k = .tails) := by cases k <;> rfl
theorem ixL (w : Wd) (i : Nat) (h : i < w.length) : ixS (.lst (w.map .int)) (.int i) = some (.val (.int (w.getD i 0))) := by
  have e := ixD_in (n := w.length) (i := i) h
  simp [ixS, e, List.getElem?_map, List.getElem?_eq_getElem h]
theorem cNotIn_ints (x : Int) (v : Wd) : cNotIn (.int x) (.lst (v.map .int)) = some (.val (.bl (!decide (x ∈ v)))) := by simp [cNotIn, isIn_ints]
theorem plcs_range (n : Nat) : plcs 0 n = (List.range n).map fun i => D.int (i : Nat) := by unfold plcs; rw [List.range_eq_range']
theorem it_row (a b : Sl) (w : Wd) (hw : w.length ≤ 100000) (s : Sl) : iRange (aCons (eCB fLenS (aCons (eVar 2) aNil)) aNil) [a, b, .own (.lst (w.map .int)), s] = some (.ok ((List.range w.length).map fun i => D.int (i : Nat)) [a, b, .own (.lst (w.map .int)), s]) := by
  have q1 : ((w.length : Int)) ≤ 1000000000 := by omega
  have q2 : -1000000000 ≤ (w.length : Int) := by omega
  rw [← plcs_range]
  simp [fn, start, sRet, sRetN, bS, eCB, bA, aCons, aNil, eSup, eCall, eVar, eC, frzs, R.frz, peeks, R.peek, Rv.r, retR, Own.d, eOp, eUn, bE, op2, op1, sSeq, sNil, sSet, put, sIf, bT, tE, tAnd, tOr, tNot, eAnd, eOr, eNot, eIf, eTup, eLst, sAsg, gTup, gsGo, gName, eCon, eSl, bO, oNone, oSome, eChain, tYes, sExpr, eFld, iRange, fLenS, q1, q2, rangeD_plcs]
theorem lc_heads (a b : Sl) (w : Wd) (hw : w.length ≤ 100000) : lc__law_plain_2 [a, b, .own (.lst (w.map .int)), .no] = some (.ok (.fre (.lst ((hd w).map .int))) [a, b, .own (.lst (w.map .int)), .no]) := by
  have z := eLc_map (it := iRange (aCons (eCB fLenS (aCons (eVar 2) aNil)) aNil)) (g := gName 3) (tt := tE (eOp cNotIn (eOp ixS (eVar 2) (eVar 3)) (eSl slOp (eVar 2) oNone (oSome (eVar 3))))) (el := eOp ixS (eVar 2) (eVar 3)) (vs := [3])
    (toD := fun i : Nat => D.int (i : Nat)) (f := fun i => .int (w.getD i 0)) (p := fun i => !decide (w.getD i 0 ∈ w.take i)) (ρ := [a, b, .own (.lst (w.map .int)), .no]) [a, b, .own (.lst (w.map .int)), .no] (List.range w.length) (it_row a b w hw .no) (by rw [List.length_range]; omega) rfl
    (fun i hi => by
      have hi := List.mem_range.mp hi
      have x := ixL w i hi
      have c := cut_to (w.map .int) i
      rw [← List.map_take] at c
      have n := cNotIn_ints (w.getD i 0) (w.take i)
      have n2 : slOp (.lst (w.map .int)) none (some (i : Int)) = some (.fre (.lst ((w.take i).map .int))) := by simp only [slOp]; rw [c]
      generalize w.getD i 0 = y at x n ⊢
      generalize (w.take i).map D.int = tk at n n2
      generalize w.map D.int = l at x n2 ⊢
      refine ⟨[a, b, .own (.lst l), .frz (.int i)], [a, b, .own (.lst l), .frz (.int i)], rfl, by simp [fn, start, sRet, sRetN, bS, eCB, bA, aCons, aNil, eSup, eCall, eVar, eC, frzs, R.frz, peeks, R.peek, Rv.r, retR, Own.d, eOp, eUn, bE, op2, op1, sSeq, sNil, sSet, put, sIf, bT, tE, tAnd, tOr, tNot, eAnd, eOr, eNot, eIf, eTup, eLst, sAsg, gTup, gsGo, gName, eCon, eSl, bO, oNone, oSome, eChain, tYes, sExpr, eFld, x, n, n2], fun _ => ⟨.val (.int y), [a, b, .own (.lst l), .frz (.int i)], [a, b, .own (.lst l), .frz (.int i)], by simp [fn, start, sRet, sRetN, bS, eCB, bA, aCons, aNil, eSup, eCall, eVar, eC, frzs, R.frz, peeks, R.peek, Rv.r, retR, Own.d, eOp, eUn, bE, op2, op1, sSeq, sNil, sSet, put, sIf, bT, tE, tAnd, tOr, tNot, eAnd, eOr, eNot, eIf, eTup, eLst, sAsg, gTup, gsGo, gName, eCon, eSl, bO, oNone, oSome, eChain, tYes, sExpr, eFld, x], rfl, rfl⟩, fun _ => rfl⟩)
  rw [← headsL_eq]
  unfold headsL
  rw [List.map_map]
  exact z
theorem lc_tails (a b : Sl) (w : Wd) (hw : w.length ≤ 100000) : lc__law_plain_1 [a, b, .own (.lst (w.map .int)), .no] = some (.ok (.fre (.lst ((tl w).map .int))) [a, b, .own (.lst (w.map .int)), .no]) := by
  have z := eLc_map (it := iRange (aCons (eCB fLenS (aCons (eVar 2) aNil)) aNil)) (g := gName 3) (tt := tE (eOp cNotIn (eOp ixS (eVar 2) (eVar 3)) (eSl slOp (eVar 2) (oSome (eOp opAdd (eVar 3) (eC (.int 1)))) oNone))) (el := eOp ixS (eVar 2) (eVar 3)) (vs := [3])
    (toD := fun i : Nat => D.int (i : Nat)) (f := fun i => .int (w.getD i 0)) (p := fun i => !decide (w.getD i 0 ∈ w.drop (i + 1))) (ρ := [a, b, .own (.lst (w.map .int)), .no]) [a, b, .own (.lst (w.map .int)), .no] (List.range w.length) (it_row a b w hw .no) (by rw [List.length_range]; omega) rfl
    (fun i hi => by
      have hi := List.mem_range.mp hi
      have x := ixL w i hi
      have c := cut_from (w.map .int) i
      rw [← List.map_drop] at c
      have n := cNotIn_ints (w.getD i 0) (w.drop (i + 1))
      have n2 : slOp (.lst (w.map .int)) (some ((i : Int) + 1)) none = some (.fre (.lst ((w.drop (i + 1)).map .int))) := by simp only [slOp]; rw [c]
      generalize w.getD i 0 = y at x n ⊢
      generalize (w.drop (i + 1)).map D.int = tk at n n2
      generalize w.map D.int = l at x n2 ⊢
      refine ⟨[a, b, .own (.lst l), .frz (.int i)], [a, b, .own (.lst l), .frz (.int i)], rfl, by simp [fn, start, sRet, sRetN, bS, eCB, bA, aCons, aNil, eSup, eCall, eVar, eC, frzs, R.frz, peeks, R.peek, Rv.r, retR, Own.d, eOp, eUn, bE, op2, op1, sSeq, sNil, sSet, put, sIf, bT, tE, tAnd, tOr, tNot, eAnd, eOr, eNot, eIf, eTup, eLst, sAsg, gTup, gsGo, gName, eCon, eSl, bO, oNone, oSome, eChain, tYes, sExpr, eFld, x, n, n2, opAdd], fun _ => ⟨.val (.int y), [a, b, .own (.lst l), .frz (.int i)], [a, b, .own (.lst l), .frz (.int i)], by simp [fn, start, sRet, sRetN, bS, eCB, bA, aCons, aNil, eSup, eCall, eVar, eC, frzs, R.frz, peeks, R.peek, Rv.r, retR, Own.d, eOp, eUn, bE, op2, op1, sSeq, sNil, sSet, put, sIf, bT, tE, tAnd, tOr, tNot, eAnd, eOr, eNot, eIf, eTup, eLst, sAsg, gTup, gsGo, gName, eCon, eSl, bO, oNone, oSome, eChain, tYes, sExpr, eFld, x], rfl, rfl⟩, fun _ => rfl⟩)
  rw [← tailsL_eq]
  unfold tailsL
  rw [List.map_map]
  exact z
end SoR
end

section
set_option maxRecDepth 100000
set_option maxHeartbeats 2000000
namespace SoR
open DL
/-- few different letters -/
def few (w : Wd) : Prop := w.length ≤ 4000 ∧ (dedI (sortI w)).length < 64
theorem el_plain (k : Kd) (w : Wd) (hw : w.length ≤ 100000) (hs : k = .set → few w) : den__law_plain [.str k.nm, wD w] = some (.ret (.val (wD (pl k w)))) := by
  have i := ints_map w
  cases k with
  | list => simp [fn, start, sRet, sRetN, bS, eCB, bA, aCons, aNil, eSup, eCall, eVar, eC, frzs, R.frz, peeks, R.peek, Rv.r, retR, Own.d, eOp, eUn, bE, op2, op1, sSeq, sNil, sSet, put, sIf, bT, tE, tAnd, tOr, tNot, eAnd, eOr, eNot, eIf, eTup, eLst, sAsg, gTup, gsGo, gName, eCon, eSl, bO, oNone, oSome, eChain, tYes, sExpr, eFld, den__law_plain, body__law_plain, Kd.nm, wD, pl, fList, fTuple, cEq, D.dat, D.eqv]
  | bag => simp [fn, start, sRet, sRetN, bS, eCB, bA, aCons, aNil, eSup, eCall, eVar, eC, frzs, R.frz, peeks, R.peek, Rv.r, retR, Own.d, eOp, eUn, bE, op2, op1, sSeq, sNil, sSet, put, sIf, bT, tE, tAnd, tOr, tNot, eAnd, eOr, eNot, eIf, eTup, eLst, sAsg, gTup, gsGo, gName, eCon, eSl, bO, oNone, oSome, eChain, tYes, sExpr, eFld, den__law_plain, body__law_plain, Kd.nm, wD, pl, fList, fTuple, cEq, D.dat, D.eqv, fSorted, i]
  | set =>
    obtain ⟨h1, h2⟩ := hs rfl
    have e := setGo_all (sortI w)
    simp [fn, start, sRet, sRetN, bS, eCB, bA, aCons, aNil, eSup, eCall, eVar, eC, frzs, R.frz, peeks, R.peek, Rv.r, retR, Own.d, eOp, eUn, bE, op2, op1, sSeq, sNil, sSet, put, sIf, bT, tE, tAnd, tOr, tNot, eAnd, eOr, eNot, eIf, eTup, eLst, sAsg, gTup, gsGo, gName, eCon, eSl, bO, oNone, oSome, eChain, tYes, sExpr, eFld, den__law_plain, body__law_plain, Kd.nm, wD, pl, fList, fTuple, cEq, D.dat, D.eqv, fSetSorted, i, h1, h2, e]
  | first =>
    have e := hd_take w
    simp [fn, start, sRet, sRetN, bS, eCB, bA, aCons, aNil, eSup, eCall, eVar, eC, frzs, R.frz, peeks, R.peek, Rv.r, retR, Own.d, eOp, eUn, bE, op2, op1, sSeq, sNil, sSet, put, sIf, bT, tE, tAnd, tOr, tNot, eAnd, eOr, eNot, eIf, eTup, eLst, sAsg, gTup, gsGo, gName, eCon, eSl, bO, oNone, oSome, eChain, tYes, sExpr, eFld, den__law_plain, body__law_plain, Kd.nm, wD, pl, fList, fTuple, cEq, D.dat, D.eqv, slOp, cut_one, e]
  | heads =>
    have z := lc_heads (.frz (.str "heads")) (.frz (wD w)) w hw
    simp only [wD] at z
    simp [fn, start, sRet, sRetN, bS, eCB, bA, aCons, aNil, eSup, eCall, eVar, eC, frzs, R.frz, peeks, R.peek, Rv.r, retR, Own.d, eOp, eUn, bE, op2, op1, sSeq, sNil, sSet, put, sIf, bT, tE, tAnd, tOr, tNot, eAnd, eOr, eNot, eIf, eTup, eLst, sAsg, gTup, gsGo, gName, eCon, eSl, bO, oNone, oSome, eChain, tYes, sExpr, eFld, den__law_plain, body__law_plain, Kd.nm, wD, pl, fList, fTuple, cEq, D.dat, D.eqv, ↓z]
  | tails =>
    have z := lc_tails (.frz (.str "tails")) (.frz (wD w)) w hw
    simp only [wD] at z
    simp [fn, start, sRet, sRetN, bS, eCB, bA, aCons, aNil, eSup, eCall, eVar, eC, frzs, R.frz, peeks, R.peek, Rv.r, retR, Own.d, eOp, eUn, bE, op2, op1, sSeq, sNil, sSet, put, sIf, bT, tE, tAnd, tOr, tNot, eAnd, eOr, eNot, eIf, eTup, eLst, sAsg, gTup, gsGo, gName, eCon, eSl, bO, oNone, oSome, eChain, tYes, sExpr, eFld, den__law_plain, body__law_plain, Kd.nm, wD, pl, fList, fTuple, cEq, D.dat, D.eqv, ↓z]
  | last =>
    have e := tl_last w
    rcases List.eq_nil_or_concat w with h | ⟨m, y, h⟩
    · subst h; rfl
    · rw [List.concat_eq_append] at h
      have hn : w.length = m.length + 1 := by rw [h]; simp
      have x := ixL w m.length (by omega)
      have gy : w.getD m.length 0 = y := by rw [h]; simp [List.getD]
      have dl : w.drop (w.length - 1) = [y] := by rw [h]; simp
      rw [gy] at x
      have hl : ((w.map D.int).length : Int) - 1 = (m.length : Int) := by rw [List.length_map, hn]; omega
      have hp : (0 : Int) < ((w.map D.int).length : Int) := by rw [List.length_map, hn]; omega
      have hp2 : 0 < (w.map D.int).length := by rw [List.length_map, hn]; omega
      have er : pl .last w = [y] := by simp only [pl]; rw [e, dl]
      rw [er]
      simp only [wD]
      generalize w.map D.int = l at x hl hp hp2 ⊢
      simp [fn, start, sRet, sRetN, bS, eCB, bA, aCons, aNil, eSup, eCall, eVar, eC, frzs, R.frz, peeks, R.peek, Rv.r, retR, Own.d, eOp, eUn, bE, op2, op1, sSeq, sNil, sSet, put, sIf, bT, tE, tAnd, tOr, tNot, eAnd, eOr, eNot, eIf, eTup, eLst, sAsg, gTup, gsGo, gName, eCon, eSl, bO, oNone, oSome, eChain, tYes, sExpr, eFld, den__law_plain, body__law_plain, Kd.nm, fList, fTuple, cEq, D.dat, D.eqv, cGt, cI, fLenS, hp2, opSub, hl, x]
  | ends =>
    rcases List.eq_nil_or_concat w with h | ⟨m, y, h⟩
    · subst h; rfl
    · rw [List.concat_eq_append] at h
      have hn : w.length = m.length + 1 := by rw [h]; simp
      have x := ixL w m.length (by omega)
      have x0 := ixL w 0 (by omega)
      have gy : w.getD m.length 0 = y := by rw [h]; simp [List.getD]
      have dl : w.drop (w.length - 1) = [y] := by rw [h]; simp
      have tk : w.take 1 = [w.getD 0 0] := by
        cases w with
        | nil => simp at hn
        | cons a w => rfl
      rw [gy] at x
      have hl : ((w.map D.int).length : Int) - 1 = (m.length : Int) := by rw [List.length_map, hn]; omega
      have hp2 : 0 < (w.map D.int).length := by rw [List.length_map, hn]; omega
      have er : pl .ends w = [w.getD 0 0, y] := by simp only [pl]; rw [dl, tk]; rfl
      rw [er]
      simp only [wD]
      generalize w.getD 0 0 = z at x0 ⊢
      generalize w.map D.int = l at x x0 hl hp2 ⊢
      simp only [Int.ofNat_zero, Int.natCast_zero] at x0
      simp [fn, start, sRet, sRetN, bS, eCB, bA, aCons, aNil, eSup, eCall, eVar, eC, frzs, R.frz, peeks, R.peek, Rv.r, retR, Own.d, eOp, eUn, bE, op2, op1, sSeq, sNil, sSet, put, sIf, bT, tE, tAnd, tOr, tNot, eAnd, eOr, eNot, eIf, eTup, eLst, sAsg, gTup, gsGo, gName, eCon, eSl, bO, oNone, oSome, eChain, tYes, sExpr, eFld, den__law_plain, body__law_plain, Kd.nm, fList, fTuple, cEq, D.dat, D.eqv, cGt, cI, fLenS, hp2, opSub, hl, x, x0]
end SoR
end

section
set_option maxRecDepth 100000
set_option maxHeartbeats 2000000
namespace SoR
open DL
theorem el_joined (k : Kd) (a b : Wd) (hw : a.length + b.length ≤ 100000) (hs : k = .set → few (a ++ b)) : den__law_joined [.str k.nm, wD a, wD b] = some (.ret (.val (wD (pl k (a ++ b))))) := by
  have h := el_plain k (a ++ b) (by rw [List.length_append]; exact hw) hs
  have o : opAdd (wD a) (wD b) = some (.val (wD (a ++ b))) := by
    have : a.length + b.length ≤ 1000000 := by omega
    simp [opAdd, wD, this]
  generalize wD (pl k (a ++ b)) = r at h ⊢
  generalize wD (a ++ b) = ab at h o
  generalize wD a = da at o ⊢
  generalize wD b = db at o ⊢
  simp [fn, start, sRet, sRetN, bS, eCB, bA, aCons, aNil, eSup, eCall, eVar, eC, frzs, R.frz, peeks, R.peek, Rv.r, retR, Own.d, eOp, eUn, bE, op2, op1, sSeq, sNil, sSet, put, sIf, bT, tE, tAnd, tOr, tNot, eAnd, eOr, eNot, eIf, eTup, eLst, sAsg, gTup, gsGo, gName, eCon, eSl, bO, oNone, oSome, eChain, tYes, sExpr, eFld, den__law_joined, body__law_joined, o, h]
/-- an effect on a state -/
def on (k : Kd) (e : Ef) (s : Wd) : Wd := if e.1 then e.2 else pl k (s ++ e.2)
theorem el_on (k : Kd) (e : Ef) (s : Wd) (hw : s.length + e.2.length ≤ 100000) (hs : k = .set → few (s ++ e.2)) : den__law_on [.str k.nm, fD e, wD s] = some (.ret (.val (wD (on k e s)))) := by
  have h := el_joined k s e.2 hw hs
  have x0 : ixS (fD e) (.int 0) = some (.val (.bl e.1)) := by simp [fD, ixS, ixD]
  have x1 : ixS (fD e) (.int 1) = some (.val (wD e.2)) := by simp [fD, ixS, ixD]
  unfold on
  generalize fD e = d at x0 x1 ⊢
  cases hc : e.1 with
  | true =>
    rw [hc] at x0
    simp only [if_true]
    generalize wD e.2 = w2 at x1 h ⊢
    simp [fn, start, sRet, sRetN, bS, eCB, bA, aCons, aNil, eSup, eCall, eVar, eC, frzs, R.frz, peeks, R.peek, Rv.r, retR, Own.d, eOp, eUn, bE, op2, op1, sSeq, sNil, sSet, put, sIf, bT, tE, tAnd, tOr, tNot, eAnd, eOr, eNot, eIf, eTup, eLst, sAsg, gTup, gsGo, gName, eCon, eSl, bO, oNone, oSome, eChain, tYes, sExpr, eFld, den__law_on, body__law_on, x0, x1]
  | false =>
    rw [hc] at x0
    simp only [Bool.false_eq_true, if_false]
    generalize wD (pl k (s ++ e.2)) = r at h ⊢
    generalize wD e.2 = w2 at x1 h
    generalize wD s = ds at h ⊢
    simp [fn, start, sRet, sRetN, bS, eCB, bA, aCons, aNil, eSup, eCall, eVar, eC, frzs, R.frz, peeks, R.peek, Rv.r, retR, Own.d, eOp, eUn, bE, op2, op1, sSeq, sNil, sSet, put, sIf, bT, tE, tAnd, tOr, tNot, eAnd, eOr, eNot, eIf, eTup, eLst, sAsg, gTup, gsGo, gName, eCon, eSl, bO, oNone, oSome, eChain, tYes, sExpr, eFld, den__law_on, body__law_on, x0, x1, h]
end SoR
end

section
set_option maxRecDepth 100000
namespace SoR
open DL
/-! the mathematics of plain words -/
theorem insI_perm (x : Int) : ∀ l : Wd, (insI x l).Perm (x :: l)
  | [] => by simp [insI]
  | y :: r => by
    unfold insI
    split
    · exact .refl _
    · exact ((insI_perm x r).cons y).trans (.swap x y r)
theorem sortI_perm : ∀ l : Wd, (sortI l).Perm l
  | [] => .refl _
  | x :: r => by unfold sortI; exact (insI_perm x _).trans ((sortI_perm r).cons x)
theorem insI_sorted (x : Int) : ∀ l : Wd, l.Pairwise (· ≤ ·) → (insI x l).Pairwise (· ≤ ·)
  | [], _ => by simp [insI]
  | y :: r, h => by
    unfold insI
    rw [List.pairwise_cons] at h
    split
    · rename_i q
      rw [List.pairwise_cons, List.pairwise_cons]
      refine ⟨fun a ha => ?_, h⟩
      rcases List.mem_cons.mp ha with z | z
      · subst z; exact q
      · exact Int.le_trans q (h.1 a z)
    · rename_i q
      rw [List.pairwise_cons]
      refine ⟨fun a ha => ?_, insI_sorted x r h.2⟩
      rcases List.mem_cons.mp ((insI_perm x r).mem_iff.mp ha) with z | z
      · subst z; omega
      · exact h.1 a z
theorem sortI_sorted : ∀ l : Wd, (sortI l).Pairwise (· ≤ ·)
  | [] => List.Pairwise.nil
  | x :: r => by unfold sortI; exact insI_sorted x _ (sortI_sorted r)
theorem sortI_congr {u v : Wd} (h : u.Perm v) : sortI u = sortI v :=
  List.Perm.eq_of_pairwise (le := (· ≤ ·)) (fun a b _ _ h1 h2 => Int.le_antisymm h1 h2) (sortI_sorted u) (sortI_sorted v) ((sortI_perm u).trans (h.trans (sortI_perm v).symm))
theorem sortI_iff {u v : Wd} : sortI u = sortI v ↔ u.Perm v :=
  ⟨fun h => (sortI_perm u).symm.trans ((List.Perm.of_eq h).trans (sortI_perm v)), sortI_congr⟩
theorem sortI_idem (u : Wd) : sortI (sortI u) = sortI u := sortI_congr (sortI_perm u)
theorem mem_dedI (y : Int) : ∀ l : Wd, y ∈ dedI l ↔ y ∈ l
  | [] => by simp [dedI]
  | [x] => by simp [dedI]
  | x :: z :: r => by
    have ih := mem_dedI y (z :: r)
    unfold dedI
    dsimp only
    split
    · rename_i q
      subst q
      rw [ih]
      simp
    · rw [List.mem_cons, ih, List.mem_cons (a := y) (b := x)]
theorem dedI_sorted : ∀ l : Wd, l.Pairwise (· ≤ ·) → (dedI l).Pairwise (· < ·)
  | [], _ => by simp [dedI]
  | [x], _ => by simp [dedI]
  | x :: z :: r, h => by
    rw [List.pairwise_cons] at h
    have ih := dedI_sorted (z :: r) h.2
    unfold dedI
    dsimp only
    split
    · exact ih
    · rename_i q
      rw [List.pairwise_cons]
      refine ⟨fun a ha => ?_, ih⟩
      rw [mem_dedI] at ha
      have h1 := h.1 z List.mem_cons_self
      have h2 : z ≤ a := by
        rcases List.mem_cons.mp ha with t | t
        · subst t; omega
        · exact (List.pairwise_cons.mp h.2).1 a t
      omega
def setW (w : Wd) : Wd := dedI (sortI w)
theorem mem_setW (w : Wd) (y : Int) : y ∈ setW w ↔ y ∈ w := by unfold setW; rw [mem_dedI, (sortI_perm w).mem_iff]
theorem setW_sorted (w : Wd) : (setW w).Pairwise (· < ·) := dedI_sorted _ (sortI_sorted w)
theorem setW_nodup (w : Wd) : (setW w).Nodup := (setW_sorted w).imp fun h => by omega
theorem lt_ext {u v : Wd} (hu : u.Pairwise (· < ·)) (hv : v.Pairwise (· < ·)) (h : ∀ y, y ∈ u ↔ y ∈ v) : u = v := by
  have nu : u.Nodup := hu.imp fun h => by omega
  have nv : v.Nodup := hv.imp fun h => by omega
  exact List.Perm.eq_of_pairwise (le := (· < ·)) (fun a b _ _ h1 h2 => by omega) hu hv ((List.perm_ext_iff_of_nodup nu nv).mpr h)
theorem setW_congr {u v : Wd} (h : ∀ y, y ∈ u ↔ y ∈ v) : setW u = setW v := lt_ext (setW_sorted u) (setW_sorted v) fun y => by rw [mem_setW, mem_setW, h y]
theorem setW_iff {u v : Wd} : setW u = setW v ↔ ∀ y, y ∈ u ↔ y ∈ v := ⟨fun h y => by rw [← mem_setW u, h, mem_setW], setW_congr⟩
def lo (w : Wd) : Wd := w.drop (w.length - 1)
theorem lo_snoc (w : Wd) (x : Int) : lo (w ++ [x]) = [x] := by unfold lo; simp
theorem snoc_of {w : Wd} (h : w ≠ []) : ∃ m x, w = m ++ [x] := by
  rcases List.eq_nil_or_concat w with e | ⟨m, y, e⟩
  · exact absurd e h
  · exact ⟨m, y, by rw [e, List.concat_eq_append]⟩
theorem lo_app (u : Wd) {v : Wd} (h : v ≠ []) : lo (u ++ v) = lo v := by
  obtain ⟨m, x, e⟩ := snoc_of h
  subst e
  rw [← List.append_assoc, lo_snoc, lo_snoc]
theorem lo_nil {w : Wd} : lo w = [] ↔ w = [] := by
  constructor
  · intro h
    rcases List.eq_nil_or_concat w with e | ⟨m, y, e⟩
    · exact e
    · rw [e, List.concat_eq_append, lo_snoc] at h; cases h
  · intro h; subst h; rfl
theorem lo_lo (w : Wd) : lo (lo w) = lo w := by
  rcases List.eq_nil_or_concat w with e | ⟨m, y, e⟩
  · subst e; rfl
  · rw [e, List.concat_eq_append, lo_snoc]; rfl
theorem tk_app {u : Wd} (h : u ≠ []) (v : Wd) : (u ++ v).take 1 = u.take 1 := by
  cases u with
  | nil => exact absurd rfl h
  | cons x u => rfl
theorem tk_nil {w : Wd} : w.take 1 = [] ↔ w = [] := by cases w <;> simp
theorem lo_tk (w : Wd) : lo (w.take 1) = w.take 1 := by cases w <;> rfl
theorem tk_lo (w : Wd) : (lo w).take 1 = lo w := by
  rcases List.eq_nil_or_concat w with e | ⟨m, y, e⟩
  · subst e; rfl
  · rw [e, List.concat_eq_append, lo_snoc]; rfl
/-- two words are one under a kind -/
def same : Kd → Wd → Wd → Prop
  | .list, u, v => u = v
  | .bag, u, v => u.Perm v
  | .set, u, v => ∀ y, y ∈ u ↔ y ∈ v
  | .first, u, v => u.take 1 = v.take 1
  | .last, u, v => lo u = lo v
  | .ends, u, v => u.take 1 = v.take 1 ∧ lo u = lo v
  | .heads, u, v => hd u = hd v
  | .tails, u, v => tl u = tl v
theorem pl_set (w : Wd) : pl .set w = setW w := setGo_all (sortI w)
theorem pl_first (w : Wd) : pl .first w = w.take 1 := hd_take w
theorem pl_last (w : Wd) : pl .last w = lo w := tl_last w
theorem pl_ends (w : Wd) : pl .ends w = w.take 1 ++ lo w := rfl
theorem ends_inj {u v : Wd} (h : u.take 1 ++ lo u = v.take 1 ++ lo v) : u.take 1 = v.take 1 ∧ lo u = lo v := by
  cases u with
  | nil =>
    cases v with
    | nil => exact ⟨rfl, rfl⟩
    | cons y v => simp [lo] at h
  | cons x u =>
    cases v with
    | nil => simp [lo] at h
    | cons y v =>
      simp only [List.take_succ_cons, List.take_zero, List.cons_append, List.nil_append, List.cons.injEq] at h
      exact ⟨by rw [List.take_succ_cons, List.take_succ_cons, h.1]; rfl, h.2⟩
theorem same_iff {k : Kd} {u v : Wd} : pl k u = pl k v ↔ same k u v := by
  cases k with
  | list => exact Iff.rfl
  | bag => exact sortI_iff
  | set => rw [pl_set, pl_set]; exact setW_iff
  | first => rw [pl_first, pl_first]; exact Iff.rfl
  | last => rw [pl_last, pl_last]; exact Iff.rfl
  | ends => rw [pl_ends, pl_ends]; exact ⟨ends_inj, fun h => by rw [h.1, h.2]⟩
  | heads => exact Iff.rfl
  | tails => exact Iff.rfl
theorem hd_fold (v : Wd) : ∀ d : Wd, v.foldl keyGo d = d ++ (hd v).filter (fun y => !decide (y ∈ d)) := by
  have key : ∀ (r v : Wd), r.reverse = v → ∀ d : Wd, v.foldl keyGo d = d ++ (hd v).filter (fun y => !decide (y ∈ d)) := by
    intro r
    induction r with
    | nil => intro v h d; subst h; simp [hd]
    | cons x r ih =>
      intro v h d
      rw [List.reverse_cons] at h
      subst h
      rw [List.foldl_append, ih _ rfl d, hd_snoc]
      have m := mem_hd r.reverse x
      simp only [List.foldl_cons, List.foldl_nil]
      unfold keyGo
      by_cases h1 : x ∈ hd r.reverse
      · rw [if_pos h1]
        by_cases h2 : x ∈ d
        · rw [if_pos (by simp [h2])]
        · rw [if_pos (by simp [h1, h2])]
      · rw [if_neg h1]
        by_cases h2 : x ∈ d
        · rw [if_pos (by simp [h2]), List.filter_append]; simp [h2]
        · rw [if_neg (by simp [h1, h2]), List.filter_append]; simp [h2]
  exact key v.reverse v (List.reverse_reverse v)
theorem hd_app (u v : Wd) : hd (u ++ v) = hd u ++ (hd v).filter (fun y => !decide (y ∈ u)) := by
  unfold hd
  rw [List.foldl_append, hd_fold]
  congr 1
  apply List.filter_congr
  intro y _
  have := mem_hd u y
  unfold hd at this
  simp [this]
theorem hd_nodup (w : Wd) : (hd w).Nodup := by
  have key : ∀ (v d : Wd), d.Nodup → (v.foldl keyGo d).Nodup := by
    intro v
    induction v with
    | nil => intro d h; exact h
    | cons x v ih =>
      intro d h
      rw [List.foldl_cons]
      apply ih
      unfold keyGo
      split
      · exact h
      · rename_i q
        rw [List.nodup_append]
        exact ⟨h, by simp, fun a ha b hb e => by simp at hb; subst hb; subst e; exact q ha⟩
  exact key w [] List.nodup_nil
theorem hd_of_nodup {w : Wd} (h : w.Nodup) : hd w = w := by
  have key : ∀ (v d : Wd), (d ++ v).Nodup → v.foldl keyGo d = d ++ v := by
    intro v
    induction v with
    | nil => intro d _; simp
    | cons x v ih =>
      intro d hn
      rw [List.foldl_cons]
      have hx : x ∉ d := by
        rw [List.nodup_append] at hn
        exact fun z => hn.2.2 x z x List.mem_cons_self rfl
      have ek : keyGo d x = d ++ [x] := if_neg hx
      rw [ek, ih (d ++ [x]) (by simpa using hn)]
      simp
  have := key w [] (by simpa using h)
  simpa [hd] using this
theorem hd_idem (w : Wd) : hd (hd w) = hd w := hd_of_nodup (hd_nodup w)
theorem tl_idem (w : Wd) : tl (tl w) = tl w := by rw [tl_def, tl_def, List.reverse_reverse, hd_idem]
theorem tl_app (u v : Wd) : tl (u ++ v) = (tl u).filter (fun y => !decide (y ∈ v)) ++ tl v := by
  rw [tl_def, List.reverse_append, hd_app, List.reverse_append, tl_def, tl_def, List.filter_reverse]
  congr 2
  apply List.filter_congr
  intro y _
  simp
theorem nodup_rev {w : Wd} (h : w.Nodup) : w.reverse.Nodup := (List.reverse_perm w).symm.nodup h
theorem tl_nodup (w : Wd) : (tl w).Nodup := by rw [tl_def]; exact nodup_rev (hd_nodup _)
theorem tl_of_nodup {w : Wd} (h : w.Nodup) : tl w = w := by rw [tl_def, hd_of_nodup (nodup_rev h), List.reverse_reverse]
theorem mem_of_hd {u v : Wd} (h : hd u = hd v) (y : Int) : y ∈ u ↔ y ∈ v := by rw [← mem_hd u, h, mem_hd]
theorem mem_of_tl {u v : Wd} (h : tl u = tl v) (y : Int) : y ∈ u ↔ y ∈ v := by rw [← mem_tl u, h, mem_tl]
theorem same_app {k : Kd} {u u' v v' : Wd} (h1 : same k u u') (h2 : same k v v') : same k (u ++ v) (u' ++ v') := by
  cases k with
  | list => simp only [same] at *; rw [h1, h2]
  | bag => exact h1.append h2
  | set => intro y; rw [List.mem_append, List.mem_append, h1 y, h2 y]
  | first =>
    simp only [same] at *
    by_cases e : u = []
    · subst e
      have e2 : u' = [] := tk_nil.mp h1.symm
      subst e2
      exact h2
    · have e2 : u' ≠ [] := fun z => e (tk_nil.mp (by rw [h1, z]; rfl))
      rw [tk_app e, tk_app e2, h1]
  | last =>
    simp only [same] at *
    by_cases e : v = []
    · subst e
      have e2 : v' = [] := lo_nil.mp h2.symm
      subst e2
      simpa using h1
    · have e2 : v' ≠ [] := fun z => e (lo_nil.mp (by rw [h2, z]; rfl))
      rw [lo_app _ e, lo_app _ e2, h2]
  | ends =>
    simp only [same] at *
    refine ⟨?_, ?_⟩
    · by_cases e : u = []
      · subst e
        have e2 : u' = [] := tk_nil.mp h1.1.symm
        subst e2
        exact h2.1
      · have e2 : u' ≠ [] := fun z => e (tk_nil.mp (by rw [h1.1, z]; rfl))
        rw [tk_app e, tk_app e2, h1.1]
    · by_cases e : v = []
      · subst e
        have e2 : v' = [] := lo_nil.mp h2.2.symm
        subst e2
        simpa using h1.2
      · have e2 : v' ≠ [] := fun z => e (lo_nil.mp (by rw [h2.2, z]; rfl))
        rw [lo_app _ e, lo_app _ e2, h2.2]
  | heads =>
    simp only [same] at *
    rw [hd_app, hd_app, h1, h2]
    congr 1
    apply List.filter_congr
    intro y _
    simp [mem_of_hd h1 y]
  | tails =>
    simp only [same] at *
    rw [tl_app, tl_app, h1, h2]
    congr 1
    apply List.filter_congr
    intro y _
    simp [mem_of_tl h2 y]
theorem pl_idem (k : Kd) (w : Wd) : pl k (pl k w) = pl k w := by
  cases k with
  | list => rfl
  | bag => exact sortI_idem w
  | set => rw [pl_set, pl_set]; exact setW_congr fun y => mem_setW w y
  | first => rw [pl_first, pl_first]; cases w <;> rfl
  | last => rw [pl_last, pl_last]; exact lo_lo w
  | ends =>
    rw [pl_ends, pl_ends]
    cases w with
    | nil => rfl
    | cons x w =>
      have h : lo (x :: w) ≠ [] := fun z => by cases lo_nil.mp z
      rw [tk_app (by simp), lo_app _ h, lo_lo]
      rfl
  | heads => exact hd_idem w
  | tails => exact tl_idem w
theorem same_pl (k : Kd) (w : Wd) : same k (pl k w) w := same_iff.mp (pl_idem k w)
theorem same_refl (k : Kd) (w : Wd) : same k w w := same_iff.mp rfl
theorem same_symm {k : Kd} {u v : Wd} (h : same k u v) : same k v u := same_iff.mp (same_iff.mpr h).symm
theorem same_trans {k : Kd} {u v w : Wd} (h : same k u v) (h2 : same k v w) : same k u w := same_iff.mp ((same_iff.mpr h).trans (same_iff.mpr h2))
theorem pl_l (k : Kd) (u v : Wd) : pl k (pl k u ++ v) = pl k (u ++ v) := same_iff.mpr (same_app (same_pl k u) (same_refl k v))
theorem pl_r (k : Kd) (u v : Wd) : pl k (u ++ pl k v) = pl k (u ++ v) := same_iff.mpr (same_app (same_refl k u) (same_pl k v))
theorem pl_nil (k : Kd) : pl k [] = [] := by cases k <;> rfl
theorem pl_mem {k : Kd} {w : Wd} {y : Int} (h : y ∈ pl k w) : y ∈ w := by
  cases k with
  | list => exact h
  | bag => exact (sortI_perm w).mem_iff.mp h
  | set => rw [pl_set] at h; exact (mem_setW w y).mp h
  | first => rw [pl_first] at h; exact List.mem_of_mem_take h
  | last => rw [pl_last] at h; exact List.mem_of_mem_drop h
  | ends =>
    rw [pl_ends] at h
    rcases List.mem_append.mp h with z | z
    · exact List.mem_of_mem_take z
    · exact List.mem_of_mem_drop z
  | heads => exact (mem_hd w y).mp h
  | tails => exact (mem_tl w y).mp h
theorem pl_ne {k : Kd} {w : Wd} (h : w ≠ []) : pl k w ≠ [] := by
  intro e
  have : same k w [] := same_iff.mp (by rw [e, pl_nil])
  cases k with
  | list => exact h this
  | bag => exact h (List.Perm.eq_nil this)
  | set =>
    cases w with
    | nil => exact h rfl
    | cons x w => have := (this x).mp List.mem_cons_self; cases this
  | first => exact h (tk_nil.mp this)
  | last => exact h (lo_nil.mp this)
  | ends => exact h (tk_nil.mp this.1)
  | heads =>
    cases w with
    | nil => exact h rfl
    | cons x w => have := (mem_of_hd this x).mp List.mem_cons_self; cases this
  | tails =>
    cases w with
    | nil => exact h rfl
    | cons x w => have := (mem_of_tl this x).mp List.mem_cons_self; cases this
end SoR
end

section
set_option maxRecDepth 100000
namespace SoR
open DL
/-! what effects make of states -/
structure NE (k : Kd) (e : Ef) : Prop where
  nf : nf k e = e
  pl : pl k e.2 = e.2
theorem NE.idle (k : Kd) : NE k (false, []) := ⟨by simp [SoR.nf, fm], pl_nil k⟩
theorem NE.stone (k : Kd) : NE k (true, []) := ⟨by simp [SoR.nf, fm], pl_nil k⟩
theorem on_pl {k : Kd} {e : Ef} (h : pl k e.2 = e.2) (s : Wd) : pl k (on k e s) = on k e s := by
  unfold on
  split
  · exact h
  · exact pl_idem k _
theorem on_fm {k : Kd} {c : Bool} {w : Wd} (h : pl k w = w) (s : Wd) : on k (fm k c w) s = on k (c, w) s := by
  unfold fm
  split
  · rename_i q
    obtain ⟨q1, q2⟩ := q
    subst q1
    rw [pl_last] at h
    unfold on
    cases c with
    | true => rfl
    | false => simp only [if_true]; rw [pl_last, if_neg (by simp), lo_app _ q2, h]
  · rfl
theorem on_fl {k : Kd} {a b : Ef} (s : Wd) : on k (fl k a b) s = on k b (on k a s) := by
  unfold fl
  by_cases h : b.1 = true
  · rw [if_pos h]
    unfold on
    rw [if_pos h, if_pos h]
  · rw [if_neg h, on_fm (pl_idem k _)]
    unfold on
    rw [if_neg h]
    by_cases g : a.1 = true
    · rw [if_pos g, if_pos g]
    · rw [if_neg g, if_neg g]
      rw [pl_r, pl_l, List.append_assoc]
theorem nf_fm (k : Kd) (c : Bool) (w : Wd) : nf k (fm k c w) = fm k c w := by
  unfold nf fm
  by_cases h : k = .last ∧ w ≠ []
  · simp [h]
  · simp [h]
theorem NE.fl {k : Kd} {a b : Ef} (hb : NE k b) : NE k (fl k a b) := by
  unfold SoR.fl
  by_cases h : b.1 = true
  · rw [if_pos h]; exact hb
  · rw [if_neg h]
    exact ⟨nf_fm _ _ _, by rw [fm_snd]; exact pl_idem k _⟩
/-- blocks and late effects, one by one -/
def cg (k : Kd) : List Ef → List Ef → Wd → Wd
  | b :: bs, l :: ls, s => cg k bs ls (on k b (on k l s))
  | _, _, s => s
theorem on_fill {k : Kd} : ∀ (ls bs : List Ef) (w : Ef) (s : Wd), on k (fill k w ls bs) s = cg k bs ls (on k w s)
  | [], [], w, s => rfl
  | [], _ :: _, w, s => rfl
  | _ :: _, [], w, s => rfl
  | l :: ls, b :: bs, w, s => by
    rw [fill, on_fill ls bs, on_fl, on_fl, cg]
theorem NE.fill {k : Kd} : ∀ (ls bs : List Ef) (w : Ef), NE k w → (∀ b ∈ bs, NE k b) → NE k (fill k w ls bs)
  | [], [], w, h, _ => h
  | [], _ :: _, w, h, _ => h
  | _ :: _, [], w, h, _ => h
  | l :: ls, b :: bs, w, h, hb => by
    rw [SoR.fill]
    exact NE.fill ls bs _ (NE.fl (hb b List.mem_cons_self)) fun x hx => hb x (List.mem_cons_of_mem _ hx)
theorem cg_pl {k : Kd} : ∀ (bs ls : List Ef) (s : Wd), (∀ b ∈ bs, pl k b.2 = b.2) → pl k s = s → pl k (cg k bs ls s) = cg k bs ls s
  | b :: bs, l :: ls, s, h, hs => by
    rw [cg]
    exact cg_pl bs ls _ (fun x hx => h x (List.mem_cons_of_mem _ hx)) (on_pl (h b List.mem_cons_self) _)
  | [], _, s, _, hs => by rw [cg]; exact hs; all_goals simp
  | _ :: _, [], s, _, hs => hs
/-! what later blocks hide -/
def vis (bs : List Ef) (y : Int) : Bool := !(inAny y (bs.map (·.2)))
theorem vis_cons (b : Ef) (bs : List Ef) (y : Int) : vis (b :: bs) y = (!decide (y ∈ b.2) && vis bs y) := by
  unfold vis inAny
  rw [List.map_cons, List.any_cons, Bool.not_or]
def sT (k : Kd) : Prop := k = .set ∨ k = .tails
theorem tl_filter (P : Int → Bool) : ∀ w : Wd, tl (w.filter P) = (tl w).filter P
  | [] => rfl
  | x :: w => by
    rw [tl_cons, List.filter_cons]
    by_cases h : P x = true
    · rw [if_pos h, tl_cons, tl_filter P w]
      by_cases h2 : x ∈ w
      · rw [if_pos h2, if_pos (by rw [List.mem_filter]; exact ⟨h2, h⟩)]
      · rw [if_neg h2, if_neg (by rw [List.mem_filter]; exact fun z => h2 z.1), List.filter_cons, if_pos h]
    · rw [if_neg h, tl_filter P w]
      by_cases h2 : x ∈ w
      · rw [if_pos h2]
      · rw [if_neg h2, List.filter_cons, if_neg h]
theorem sf {k : Kd} (hk : sT k) (P : Int → Bool) {u v : Wd} (h : same k u v) : same k (u.filter P) (v.filter P) := by
  rcases hk with e | e <;> subst e
  · intro y; rw [List.mem_filter, List.mem_filter, h y]
  · show tl _ = tl _
    rw [tl_filter, tl_filter, show tl u = tl v from h]
theorem absorb {k : Kd} (hk : sT k) (Q : Int → Bool) {u v : Wd} (h : ∀ y ∈ u, Q y = false → y ∈ v) : same k (u.filter Q ++ v) (u ++ v) := by
  rcases hk with e | e <;> subst e
  · intro y
    rw [List.mem_append, List.mem_append, List.mem_filter]
    constructor
    · rintro (z | z)
      · exact .inl z.1
      · exact .inr z
    · rintro (z | z)
      · cases q : Q y with
        | true => exact .inl ⟨z, rfl⟩
        | false => exact .inr (h y z q)
      · exact .inr z
  · show tl _ = tl _
    rw [tl_app, tl_app, tl_filter, List.filter_filter]
    congr 1
    apply List.filter_congr
    intro y hy
    rw [mem_tl] at hy
    cases q : Q y with
    | true => simp
    | false => simp [h y hy q]
theorem on_filter {k : Kd} (hk : sT k) (P : Int → Bool) (e : Ef) {s t : Wd} (h : same k (s.filter P) (t.filter P)) : same k ((on k e s).filter P) ((on k e t).filter P) := by
  unfold on
  split
  · exact same_refl k _
  · refine same_trans (sf hk P (same_pl k _)) (same_trans ?_ (same_symm (sf hk P (same_pl k _))))
    rw [List.filter_append, List.filter_append]
    exact same_app h (same_refl k _)
theorem cg_hide {k : Kd} (hk : sT k) : ∀ (bs ls : List Ef) (s t : Wd), ls.length = bs.length → same k (s.filter (vis bs)) (t.filter (vis bs)) → same k (cg k bs ls s) (cg k bs ls t)
  | [], ls, s, t, _, h => by
    have e : ∀ w : Wd, w.filter (vis []) = w := fun w => List.filter_eq_self.mpr fun _ _ => rfl
    rw [e, e] at h
    cases ls <;> exact h
  | b :: bs, [], s, t, hl, h => by cases hl
  | b :: bs, l :: ls, s, t, hl, h => by
    rw [cg, cg]
    refine cg_hide hk bs ls _ _ (by simpa using hl) ?_
    have h1 := on_filter hk (vis (b :: bs)) l h
    generalize on k l s = u at h1
    generalize on k l t = v at h1
    unfold on
    split
    · exact same_refl k _
    · refine same_trans (sf hk _ (same_pl k _)) (same_trans ?_ (same_symm (sf hk _ (same_pl k _))))
      rw [List.filter_append, List.filter_append]
      have e : ∀ w : Wd, same k (w.filter (vis (b :: bs)) ++ b.2.filter (vis bs)) (w.filter (vis bs) ++ b.2.filter (vis bs)) := fun w => by
        have e1 : w.filter (vis (b :: bs)) = (w.filter (vis bs)).filter fun y => !decide (y ∈ b.2) := by
          rw [List.filter_filter]
          apply List.filter_congr
          intro y _
          rw [vis_cons]
        rw [e1]
        refine absorb hk _ fun y hy q => ?_
        rw [List.mem_filter] at hy ⊢
        exact ⟨by simpa using q, hy.2⟩
      exact same_trans (same_symm (e u)) (same_trans (same_app h1 (same_refl k _)) (e v))
theorem cg_clear {k : Kd} : ∀ (bs ls : List Ef) (s t : Wd), ls.length = bs.length → bs.any (·.1) = true → cg k bs ls s = cg k bs ls t
  | [], ls, s, t, _, h => by cases h
  | b :: bs, [], s, t, hl, h => by cases hl
  | b :: bs, l :: ls, s, t, hl, h => by
    rw [cg, cg]
    by_cases hb : b.1 = true
    · have e : ∀ u v, on k b u = on k b v := fun u v => by unfold on; rw [if_pos hb, if_pos hb]
      rw [e]
    · rw [List.any_cons] at h
      have hb2 : b.1 = false := by simpa using hb
      rw [hb2, Bool.false_or] at h
      exact cg_clear bs ls _ _ (by simpa using hl) h
theorem on_tk (e : Ef) {s t : Wd} (h : s.take 1 = t.take 1) : (on .ends e s).take 1 = (on .ends e t).take 1 ∧ (e.2 ≠ [] → on .ends e s = on .ends e t) := by
  unfold on
  split
  · exact ⟨rfl, fun _ => rfl⟩
  · have key : (s ++ e.2).take 1 = (t ++ e.2).take 1 := by
      by_cases q : s = []
      · subst q
        have q2 : t = [] := tk_nil.mp h.symm
        rw [q2]
      · have q2 : t ≠ [] := fun z => q (tk_nil.mp (by rw [h, z]; rfl))
        rw [tk_app q, tk_app q2, h]
    rw [pl_ends, pl_ends]
    constructor
    · have g : ∀ w : Wd, (w.take 1 ++ lo w).take 1 = w.take 1 := fun w => by cases w <;> rfl
      rw [g, g, key]
    · intro q
      rw [key, lo_app _ q, lo_app _ q]
theorem cg_ends : ∀ (bs ls : List Ef) (s t : Wd), ls.length = bs.length → s.take 1 = t.take 1 → (bs.any fun b => !b.2.isEmpty) = true → cg .ends bs ls s = cg .ends bs ls t
  | [], ls, s, t, _, _, h => by cases h
  | b :: bs, [], s, t, hl, _, h => by cases hl
  | b :: bs, l :: ls, s, t, hl, h, hn => by
    rw [cg, cg]
    have h1 := (on_tk l h).1
    obtain ⟨h2, h3⟩ := on_tk b h1
    by_cases q : b.2 = []
    · rw [List.any_cons, q] at hn
      exact cg_ends bs ls _ _ (by simpa using hl) h2 (by simpa using hn)
    · rw [h3 q]
theorem any_ne (bs : List Ef) : ((bs.map (·.2)).any fun w => !w.isEmpty) = bs.any fun b => !b.2.isEmpty := by rw [List.any_map]; rfl
theorem bw_st {k : Kd} (hk : sT k) (w : Wd) (bs : List Ef) : bw k w (bs.map (·.2)) = w.filter (vis bs) := by
  have hk' : k = .set ∨ k = .tails := hk
  unfold bw
  rw [if_pos hk']
  rfl
/-- one block's bare effect does as it does -/
theorem cg_be {k : Kd} (b : Ef) (bs ls : List Ef) (s : Wd) (hb : pl k b.2 = b.2) (hbs : ∀ b ∈ bs, pl k b.2 = b.2) (hl : ls.length = bs.length) : cg k bs ls (on k (be k b bs) s) = cg k bs ls (on k b s) := by
  cases hc : bs.any (·.1) with
  | true => exact cg_clear bs ls _ _ hl hc
  | false =>
    have e : be k b bs = (b.1, bw k b.2 (bs.map (·.2))) := by simp only [be, hc]; rfl
    rw [e]
    by_cases hk : sT k
    · rw [bw_st hk]
      have key : same k ((on k (b.1, b.2.filter (vis bs)) s).filter (vis bs)) ((on k b s).filter (vis bs)) := by
        unfold on
        split
        · rw [List.filter_filter]; simp only [Bool.and_self]; exact same_refl k _
        · refine same_trans (sf hk _ (same_pl k _)) (same_trans ?_ (same_symm (sf hk _ (same_pl k _))))
          rw [List.filter_append, List.filter_append, List.filter_filter]
          simp only [Bool.and_self]
          exact same_refl k _
      have pw : pl k (b.2.filter (vis bs)) = b.2.filter (vis bs) := by
        rcases hk with e | e <;> subst e
        · have h2 : (b.2).Pairwise (· < ·) := by rw [← hb, pl_set]; exact setW_sorted _
          rw [pl_set]
          exact lt_ext (setW_sorted _) (h2.filter _) fun y => mem_setW _ y
        · show tl _ = _
          rw [tl_filter, show tl b.2 = b.2 from hb]
      have z := cg_hide hk bs ls _ _ hl key
      have z2 := same_iff.mpr z
      rw [cg_pl bs ls _ hbs (on_pl (by exact pw) s), cg_pl bs ls _ hbs (on_pl hb s)] at z2
      exact z2
    · unfold bw
      have hk' : ¬ (k = .set ∨ k = .tails) := hk
      rw [if_neg hk']
      by_cases he : k = .ends ∧ ((bs.map (·.2)).any fun w => !w.isEmpty) = true
      · rw [if_pos he]
        obtain ⟨e1, e2⟩ := he
        subst e1
        rw [any_ne] at e2
        refine cg_ends bs ls _ _ hl ?_ e2
        unfold on
        split
        · cases b.2 <;> rfl
        · rw [pl_ends, pl_ends]
          have g : ∀ w : Wd, (w.take 1 ++ lo w).take 1 = w.take 1 := fun w => by cases w <;> rfl
          rw [g, g]
          by_cases q : s = []
          · subst q; cases b.2 <;> rfl
          · rw [tk_app q, tk_app q]
      · rw [if_neg he]
theorem cg_bare {k : Kd} : ∀ (bs ls : List Ef) (s : Wd), (∀ b ∈ bs, pl k b.2 = b.2) → ls.length = bs.length → cg k (bare k bs) ls s = cg k bs ls s
  | [], ls, s, _, _ => rfl
  | b :: bs, [], s, _, hl => by cases hl
  | b :: bs, l :: ls, s, h, hl => by
    have hl2 : ls.length = bs.length := by simpa using hl
    have h2 : ∀ b ∈ bs, pl k b.2 = b.2 := fun x hx => h x (List.mem_cons_of_mem _ hx)
    rw [bare, cg, cg_bare bs ls _ h2 hl2, cg_be b bs ls _ (h b List.mem_cons_self) h2 hl2, cg]
/-- the whole row -/
def ch (k : Kd) (xs ls : List Ef) (s : Wd) : Wd := match xs with
  | [] => s
  | b :: bs => cg k bs ls (on k b s)
theorem ch_bare {k : Kd} (xs ls : List Ef) (s : Wd) (h : ∀ b ∈ xs, pl k b.2 = b.2) (hl : ls.length + 1 = xs.length) : ch k (bare k xs) ls s = ch k xs ls s := by
  cases xs with
  | nil => rfl
  | cons b bs =>
    have hl2 : ls.length = bs.length := by simpa using hl
    have h2 : ∀ b ∈ bs, pl k b.2 = b.2 := fun x hx => h x (List.mem_cons_of_mem _ hx)
    show cg k (bare k bs) ls (on k (be k b bs) s) = cg k bs ls (on k b s)
    rw [cg_bare bs ls _ h2 hl2, cg_be b bs ls _ (h b List.mem_cons_self) h2 hl2]
theorem ch_alike {k : Kd} {xs ys ls : List Ef} (s : Wd) (hx : ∀ b ∈ xs, pl k b.2 = b.2) (hy : ∀ b ∈ ys, pl k b.2 = b.2) (hl : ls.length + 1 = xs.length) (hl2 : ls.length + 1 = ys.length) (h : bare k xs = bare k ys) : ch k xs ls s = ch k ys ls s := by
  rw [← ch_bare xs ls s hx hl, h, ch_bare ys ls s hy hl2]
end SoR
end

section
set_option maxRecDepth 100000
namespace SoR
open DL
/-! bare rows once more; what parts two effects -/
theorem bare_any (k : Kd) : ∀ bs : List Ef, (bare k bs).any (·.1) = bs.any (·.1)
  | [] => rfl
  | b :: bs => by
    rw [bare, List.any_cons, List.any_cons, bare_any k bs]
    cases h : bs.any (·.1) with
    | true => simp
    | false => simp only [be, h]; simp
theorem bw_mem {k : Kd} {w : Wd} {ws : List Wd} {y : Int} (h : y ∈ bw k w ws) : y ∈ w := by
  unfold bw at h
  split at h
  · exact (List.mem_filter.mp h).1
  · split at h
    · rcases List.mem_append.mp h with z | z <;> exact List.mem_of_mem_take z
    · exact h
theorem be_mem {k : Kd} {b : Ef} {bs : List Ef} {y : Int} (h : y ∈ (be k b bs).2) : y ∈ b.2 := by
  unfold be at h
  split at h
  · cases h
  · exact bw_mem h
theorem bw_plain {k : Kd} {w : Wd} (ws : List Wd) (h : pl k w = w) : pl k (bw k w ws) = bw k w ws := by
  unfold bw
  split
  · rename_i hk
    rcases hk with e | e <;> subst e
    · have h2 : w.Pairwise (· < ·) := by rw [← h, pl_set]; exact setW_sorted _
      rw [pl_set]
      exact lt_ext (setW_sorted _) (h2.filter _) fun y => mem_setW _ y
    · show tl _ = _
      rw [tl_filter, show tl w = w from h]
  · split
    · rename_i _ hk
      obtain ⟨e, _⟩ := hk
      subst e
      rw [pl_ends]
      cases w <;> rfl
    · exact h
theorem NE.be {k : Kd} {b : Ef} (h : NE k b) (bs : List Ef) : NE k (be k b bs) := by
  unfold SoR.be
  split
  · exact NE.idle k
  · refine ⟨?_, bw_plain _ h.pl⟩
    by_cases hk : k = .last
    · subst hk
      have e : bw .last b.2 (bs.map (·.2)) = b.2 := by unfold bw; simp
      rw [e]
      exact h.nf
    · simp [SoR.nf, fm, hk]
theorem inAny_bare {k : Kd} {bs : List Ef} {y : Int} (h : inAny y ((bare k bs).map (·.2)) = true) : inAny y (bs.map (·.2)) = true := by
  induction bs with
  | nil => exact h
  | cons b bs ih =>
    rw [bare] at h
    simp only [inAny, List.map_cons, List.any_cons, Bool.or_eq_true, decide_eq_true_eq] at h ih ⊢
    rcases h with h | h
    · exact .inl (be_mem h)
    · exact .inr (ih h)
theorem ends_bare {bs : List Ef} (hc : bs.any (·.1) = false) : ((bare .ends bs).map (·.2)).any (fun w => !w.isEmpty) = (bs.map (·.2)).any fun w => !w.isEmpty := by
  induction bs with
  | nil => rfl
  | cons b bs ih =>
    rw [List.any_cons, Bool.or_eq_false_iff] at hc
    rw [bare, List.map_cons, List.map_cons, List.any_cons, List.any_cons, ih hc.2]
    have e : SoR.be .ends b bs = (b.1, bw .ends b.2 (bs.map (·.2))) := by simp only [SoR.be, hc.2]; rfl
    rw [e]
    congr 1
    unfold bw
    simp only [reduceCtorEq, or_self, if_false, true_and]
    split
    · cases b.2 <;> rfl
    · rfl
theorem be_idem (k : Kd) (b : Ef) (bs : List Ef) : be k (be k b bs) (bare k bs) = be k b bs := by
  cases hc : bs.any (·.1) with
  | true =>
    have h2 := bare_any k bs
    rw [hc] at h2
    simp only [be, hc, h2, if_true]
  | false =>
    have h2 := bare_any k bs
    rw [hc] at h2
    have e : be k b bs = (b.1, bw k b.2 (bs.map (·.2))) := by simp only [be, hc]; rfl
    have e2 : ∀ c : Ef, be k c (bare k bs) = (c.1, bw k c.2 ((bare k bs).map (·.2))) := fun c => by simp only [be, h2]; rfl
    rw [e2, e]
    congr 1
    show bw k (bw k b.2 (bs.map (·.2))) _ = _
    by_cases hk : sT k
    · rw [bw_st hk, bw_st hk]
      apply List.filter_eq_self.mpr
      intro y hy
      rw [List.mem_filter] at hy
      have h3 := hy.2
      unfold vis at h3 ⊢
      cases q : inAny y ((bare k bs).map (·.2)) with
      | false => rfl
      | true => rw [inAny_bare q] at h3; cases h3
    · have hk' : ¬ (k = .set ∨ k = .tails) := hk
      unfold bw
      rw [if_neg hk', if_neg hk']
      by_cases he : k = .ends
      · subst he
        rw [ends_bare hc]
        by_cases q : ((bs.map (·.2)).any fun w => !w.isEmpty) = true
        · rw [if_pos ⟨rfl, q⟩, if_pos ⟨rfl, q⟩]
          cases b.2 <;> rfl
        · rw [if_neg (fun z => q z.2), if_neg (fun z => q z.2)]
      · rw [if_neg (fun z => he z.1), if_neg (fun z => he z.1)]
theorem bare_idem (k : Kd) : ∀ bs : List Ef, bare k (bare k bs) = bare k bs
  | [] => rfl
  | b :: bs => by rw [bare, bare, be_idem, bare_idem k bs]
theorem bare_NE {k : Kd} : ∀ {bs : List Ef}, (∀ b ∈ bs, NE k b) → ∀ e ∈ bare k bs, NE k e
  | [], _, e, h => by cases h
  | b :: bs, hb, e, h => by
    rw [bare] at h
    rcases List.mem_cons.mp h with z | z
    · subst z; exact NE.be (hb b List.mem_cons_self) bs
    · exact bare_NE (fun x hx => hb x (List.mem_cons_of_mem _ hx)) e z
/-! what parts two effects -/
theorem NE.cl {e : Ef} (h : NE .last e) (h1 : e.1 = false) : e.2 = [] := by
  have q := h.nf
  unfold SoR.nf fm at q
  by_cases z : e.2 = []
  · exact z
  · rw [if_pos ⟨rfl, z⟩] at q
    rw [← q] at h1
    cases h1
theorem fresh_in {k : Kd} {x : Int} {w : Wd} (h : k = .last → w = []) : x ∈ pl k (pl k [x] ++ w) := by
  rw [pl_l]
  cases k with
  | list => simp [pl]
  | bag => show x ∈ sortI _; rw [(sortI_perm _).mem_iff]; simp
  | set => rw [pl_set, mem_setW]; simp
  | first => rw [pl_first]; simp
  | last => rw [h rfl, pl_last]; simp [lo]
  | ends => rw [pl_ends]; simp
  | heads => show x ∈ hd _; rw [mem_hd]; simp
  | tails => show x ∈ tl _; rw [mem_tl]; simp
theorem on_nil {k : Kd} {e : Ef} (h : pl k e.2 = e.2) : on k e [] = e.2 := by
  unfold on
  split
  · rfl
  · rw [List.nil_append, h]
theorem part_flag {k : Kd} {a b : Ef} {x : Int} (ha : NE k a) (hb : NE k b) (h : a.1 ≠ b.1) (xa : x ∉ a.2) (xb : x ∉ b.2) : on k a (pl k [x]) ≠ on k b (pl k [x]) := by
  have key : ∀ {a b : Ef}, NE k b → a.1 = true → b.1 = false → x ∉ a.2 → on k a (pl k [x]) ≠ on k b (pl k [x]) := by
    intro a b hb h1 h2 xa e
    unfold on at e
    rw [if_pos h1, if_neg (by simp [h2])] at e
    apply xa
    rw [e]
    exact fresh_in fun z => by subst z; exact hb.cl h2
  cases h1 : a.1 <;> cases h2 : b.1
  · rw [h1, h2] at h; exact absurd rfl h
  · exact fun e => key ha h2 h1 xb e.symm
  · exact key hb h1 h2 xa
  · rw [h1, h2] at h; exact absurd rfl h
theorem part_word {k : Kd} {a b : Ef} (ha : NE k a) (hb : NE k b) (h : a.2 ≠ b.2) : on k a [] ≠ on k b [] := by
  rw [on_nil ha.pl, on_nil hb.pl]
  exact h
theorem fr_not {ws : List Wd} (hl : ws.length ≤ 1000000) {w : Wd} (h : w ∈ ws) : fr ws ∉ w := by
  have := (fr_ok ws hl).1
  intro z
  have h2 : inAny (fr ws) ws = true := (inAny_iff _ _).mpr (List.mem_flatten.mpr ⟨w, h, z⟩)
  rw [h2] at this
  cases this
theorem ne_ext {k : Kd} {a b : Ef} (ha : NE k a) (hb : NE k b) (h : ∀ s, on k a s = on k b s) : a = b := by
  by_cases q : a.2 = b.2
  · by_cases q2 : a.1 = b.1
    · exact Prod.ext q2 q
    · have f := fr_not (ws := [a.2]) (by simp) (w := a.2) (by simp)
      exact absurd (h _) (part_flag ha hb q2 f (by rw [← q]; exact f))
  · exact absurd (h []) (part_word ha hb q)
theorem first_split {x : Int} : ∀ {u v : Wd} {r r' : Wd}, x ∉ u → x ∉ v → u ++ x :: r = v ++ x :: r' → u = v
  | [], [], _, _, _, _, _ => rfl
  | [], y :: v, _, _, _, h, e => by
    simp only [List.nil_append, List.cons_append, List.cons.injEq] at e
    exact absurd (by rw [e.1]; simp) h
  | y :: u, [], _, _, h, _, e => by
    simp only [List.nil_append, List.cons_append, List.cons.injEq] at e
    exact absurd (by rw [← e.1]; simp) h
  | y :: u, z :: v, _, _, h, h2, e => by
    simp only [List.cons_append, List.cons.injEq] at e
    rw [e.1, first_split (fun q => h (List.mem_cons_of_mem _ q)) (fun q => h2 (List.mem_cons_of_mem _ q)) e.2]
theorem tk_fresh {x : Int} {u v r : Wd} (hu : x ∉ u) (hv : x ∉ v) (e : (u ++ x :: r).take 1 = (v ++ x :: r).take 1) : u.take 1 = v.take 1 := by
  cases u with
  | nil =>
    cases v with
    | nil => rfl
    | cons y v => simp at e; exact absurd (by rw [e]; simp) hv
  | cons y u =>
    cases v with
    | nil => simp at e; exact absurd (by rw [e]; simp) hu
    | cons z v => simpa using e
/-- a fresh part between parts two blocks of unlike bare effects -/
theorem part_mid {k : Kd} {A A' B : Ef} {x : Int} (hA : NE k A) (hA' : NE k A') (hB : NE k B) (h : ∀ s, on k B (on k A s) = on k B (on k A' s)) (hne : be k A [B] ≠ be k A' [B])
    (xA : x ∉ A.2) (xA' : x ∉ A'.2) (xB : x ∉ B.2) : on k B (on k (decide (k = .last), pl k [x]) A.2) ≠ on k B (on k (decide (k = .last), pl k [x]) A'.2) := by
  have hB1 : B.1 = false := by
    cases q : B.1 with
    | false => rfl
    | true => exact absurd (by simp [be, q]) hne
  have eb : ∀ C : Ef, be k C [B] = (C.1, bw k C.2 [B.2]) := fun C => by simp [be, hB1]
  rw [eb, eb] at hne
  have onB : ∀ s, on k B s = pl k (s ++ B.2) := fun s => by unfold on; rw [if_neg (by simp [hB1])]
  have hf : fl k A B = fl k A' B := ne_ext (NE.fl hB) (NE.fl hB) fun s => by rw [on_fl, on_fl, h]
  have fe : ∀ C : Ef, fl k C B = fm k C.1 (pl k (C.2 ++ B.2)) := fun C => by unfold fl; rw [if_neg (by simp [hB1])]
  rw [fe, fe] at hf
  by_cases hk : k = .last
  · subst hk
    have hb := hB.cl hB1
    rw [hb, List.append_nil, List.append_nil, hA.pl, hA'.pl] at hf
    have e1 : fm .last A.1 A.2 = A := hA.nf
    have e2 : fm .last A'.1 A'.2 = A' := hA'.nf
    rw [e1, e2] at hf
    rw [hf] at hne
    exact absurd rfl hne
  · have fk : ∀ c w, fm k c w = (c, w) := fun c w => by unfold fm; rw [if_neg (fun z => hk z.1)]
    rw [fk, fk, Prod.mk.injEq] at hf
    obtain ⟨f1, f2⟩ := hf
    rw [f1] at hne
    have hw : bw k A.2 [B.2] ≠ bw k A'.2 [B.2] := fun z => hne (by rw [z])
    rw [onB, onB]
    unfold on
    rw [if_neg (by simp [hk]), if_neg (by simp [hk])]
    simp only
    rw [pl_r, pl_r, pl_l, pl_l]
    intro e
    have e2 := same_iff.mp e
    have f3 := same_iff.mp f2
    rw [List.append_assoc, List.append_assoc] at e2
    apply hw
    by_cases hs : sT k
    · have hs' : k = .set ∨ k = .tails := hs
      have q := sf hs (fun y => !decide (y ∈ B.2)) f3
      have z : B.2.filter (fun y => !decide (y ∈ B.2)) = [] := List.filter_eq_nil_iff.mpr fun y hy => by simp [hy]
      rw [List.filter_append, List.filter_append, z, List.append_nil, List.append_nil] at q
      have p1 := bw_plain [B.2] hA.pl
      have p2 := bw_plain [B.2] hA'.pl
      have ew : ∀ w : Wd, bw k w [B.2] = w.filter (fun y => !decide (y ∈ B.2)) := fun w => by
        unfold bw
        rw [if_pos hs']
        apply List.filter_congr
        intro y _
        simp [inAny]
      rw [ew] at p1 p2 ⊢
      rw [ew]
      rw [← p1, ← p2]
      exact same_iff.mpr q
    · have hs' : ¬ (k = .set ∨ k = .tails) := hs
      unfold bw
      rw [if_neg hs', if_neg hs']
      cases k with
      | list => simp only [same] at f3; have := List.append_cancel_right f3; simp [this]
      | bag =>
        have g := (List.perm_append_right_iff B.2).mp f3
        have : A.2 = A'.2 := by rw [← hA.pl, ← hA'.pl]; exact sortI_congr g
        simp [this]
      | set => exact absurd (.inl rfl) hs
      | first =>
        have g := tk_fresh xA xA' e2
        have g1 := hA.pl; have g2 := hA'.pl
        rw [pl_first] at g1 g2
        have : A.2 = A'.2 := by rw [← g1, ← g2, g]
        simp [this]
      | last => exact absurd rfl hk
      | ends =>
        by_cases q : B.2 = []
        · rw [q, List.append_nil, List.append_nil] at f3
          have : A.2 = A'.2 := by rw [← hA.pl, ← hA'.pl]; exact same_iff.mpr f3
          simp [this]
        · have g := tk_fresh xA xA' e2.1
          have q2 : ([B.2].any fun w => !w.isEmpty) = true := by simpa using q
          rw [if_pos ⟨rfl, q2⟩, if_pos ⟨rfl, q2⟩, g]
      | heads =>
        have e3 : hd (A.2 ++ ([x] ++ B.2)) = hd (A'.2 ++ ([x] ++ B.2)) := e2
        have nx : ∀ w : Wd, x ∉ w → ∃ r, hd (w ++ ([x] ++ B.2)) = hd w ++ x :: r := fun w hw => by
          obtain ⟨r, hr⟩ := hd_head x B.2 []
          have hr2 : hd ([x] ++ B.2) = x :: r := hr
          rw [hd_app, hr2, List.filter_cons, if_pos (by simp [hw])]
          exact ⟨_, rfl⟩
        obtain ⟨r1, h1⟩ := nx A.2 xA
        obtain ⟨r2, h2⟩ := nx A'.2 xA'
        have p1 : hd A.2 = A.2 := hA.pl
        have p2 : hd A'.2 = A'.2 := hA'.pl
        rw [h1, h2, p1, p2] at e3
        have := first_split xA xA' e3
        simp [this]
      | tails => exact absurd (.inr rfl) hs
end SoR
end

section
set_option maxRecDepth 100000
namespace SoR
open DL
/-! joined blocks -/
def ids (bs : List Ef) : List Ef := bs.map fun _ => (false, [])
theorem ids_len (bs : List Ef) : (ids bs).length = bs.length := List.length_map ..
theorem idl_cons (x : Ef) (xs : List Ef) : idl (x :: xs) = ids xs := rfl
theorem jn_cons (k : Kd) (x : Ef) (xs : List Ef) : jn k (x :: xs) = fill k x (ids xs) xs := rfl
theorem on_jn (k : Kd) (x : Ef) (xs : List Ef) (s : Wd) : on k (jn k (x :: xs)) s = cg k xs (ids xs) (on k x s) := by rw [jn_cons, on_fill]
theorem on_jn_ch (k : Kd) (xs : List Ef) (h : xs ≠ []) (s : Wd) : on k (jn k xs) s = ch k xs (idl xs) s := by
  cases xs with
  | nil => exact absurd rfl h
  | cons x xs => rw [on_jn]; rfl
theorem NE.jn {k : Kd} {xs : List Ef} (h : ∀ x ∈ xs, NE k x) : NE k (jn k xs) := by
  cases xs with
  | nil => exact NE.idle k
  | cons x xs => rw [jn_cons]; exact NE.fill _ _ _ (h x List.mem_cons_self) fun y hy => h y (List.mem_cons_of_mem _ hy)
theorem on_idle {k : Kd} {s : Wd} (h : pl k s = s) : on k (false, []) s = s := by
  unfold on
  rw [if_neg (by simp), List.append_nil, h]
theorem jn_one (k : Kd) (x : Ef) : jn k [x] = x := rfl
theorem jn_two {k : Kd} {x : Ef} {xs : List Ef} (h : xs ≠ []) (hx : NE k x) (hxs : ∀ y ∈ xs, NE k y) : jn k (x :: xs) = fl k x (jn k xs) := by
  have h1 : NE k (jn k (x :: xs)) := NE.jn fun y hy => by
    rcases List.mem_cons.mp hy with z | z
    · subst z; exact hx
    · exact hxs y z
  refine ne_ext h1 (NE.fl (NE.jn hxs)) fun s => ?_
  cases xs with
  | nil => exact absurd rfl h
  | cons y ys => rw [on_fl, on_jn, on_jn, ids, List.map_cons, cg, on_idle (on_pl hx.pl s)]; rfl
theorem fl_clear {k : Kd} {a b : Ef} (ha : NE k a) (hb : NE k b) : (fl k a b).1 = (a.1 || b.1) := by
  unfold fl
  by_cases h : b.1 = true
  · rw [if_pos h, h, Bool.or_true]
  · rw [if_neg h]
    have h2 : b.1 = false := by simpa using h
    rw [h2, Bool.or_false]
    unfold fm
    split
    · rename_i q
      obtain ⟨q1, q2⟩ := q
      subst q1
      rw [hb.cl h2, List.append_nil, ha.pl] at q2
      cases q3 : a.1 with
      | true => rfl
      | false => exact absurd (ha.cl q3) q2
    · rfl
theorem jn_clear {k : Kd} : ∀ {xs : List Ef}, xs ≠ [] → (∀ y ∈ xs, NE k y) → (jn k xs).1 = xs.any (·.1)
  | [], h, _ => absurd rfl h
  | [x], _, _ => by rw [jn_one]; simp
  | x :: y :: ys, _, h => by
    have h2 : ∀ z ∈ y :: ys, NE k z := fun z hz => h z (List.mem_cons_of_mem _ hz)
    rw [jn_two (by simp) (h x List.mem_cons_self) h2, fl_clear (h x List.mem_cons_self) (NE.jn h2), jn_clear (by simp) h2, List.any_cons (a := x)]
theorem fl_word {k : Kd} {a b : Ef} (h : b.1 = false) : (fl k a b).2 = pl k (a.2 ++ b.2) := by
  unfold fl
  rw [if_neg (by simp [h]), fm_snd]
theorem fl_mem {k : Kd} {a b : Ef} {y : Int} (h : y ∈ (fl k a b).2) : y ∈ a.2 ∨ y ∈ b.2 := by
  unfold fl at h
  split at h
  · exact .inr h
  · rw [fm_snd] at h
    exact List.mem_append.mp (pl_mem h)
theorem fill_mem {k : Kd} {y : Int} : ∀ (ls bs : List Ef) (w : Ef), y ∈ (fill k w ls bs).2 → y ∈ w.2 ∨ (∃ l ∈ ls, y ∈ l.2) ∨ ∃ b ∈ bs, y ∈ b.2
  | [], [], w, h => .inl h
  | [], _ :: _, w, h => .inl h
  | _ :: _, [], w, h => .inl h
  | l :: ls, b :: bs, w, h => by
    rcases fill_mem ls bs _ h with z | ⟨z, h1, h2⟩ | ⟨z, h1, h2⟩
    · rcases fl_mem z with z | z
      · rcases fl_mem z with z | z
        · exact .inl z
        · exact .inr (.inl ⟨l, List.mem_cons_self, z⟩)
      · exact .inr (.inr ⟨b, List.mem_cons_self, z⟩)
    · exact .inr (.inl ⟨z, List.mem_cons_of_mem _ h1, h2⟩)
    · exact .inr (.inr ⟨z, List.mem_cons_of_mem _ h1, h2⟩)
theorem jn_mem {k : Kd} {y : Int} {xs : List Ef} (h : y ∈ (jn k xs).2) : ∃ b ∈ xs, y ∈ b.2 := by
  cases xs with
  | nil => cases h
  | cons x xs =>
    rw [jn_cons] at h
    rcases fill_mem _ _ _ h with z | ⟨z, h1, h2⟩ | ⟨z, h1, h2⟩
    · exact ⟨x, List.mem_cons_self, z⟩
    · unfold ids at h1
      obtain ⟨_, _, e⟩ := List.mem_map.mp h1
      subst e
      cases h2
    · exact ⟨z, List.mem_cons_of_mem _ h1, h2⟩
theorem st_mem {k : Kd} (hk : sT k) (w : Wd) (y : Int) : y ∈ pl k w ↔ y ∈ w := by
  rcases hk with e | e <;> subst e
  · rw [pl_set, mem_setW]
  · exact mem_tl w y
theorem jn_vis {k : Kd} (hk : sT k) (y : Int) : ∀ {xs : List Ef}, xs ≠ [] → (∀ y ∈ xs, NE k y) → xs.any (·.1) = false → (y ∈ (jn k xs).2 ↔ inAny y (xs.map (·.2)) = true)
  | [], h, _, _ => absurd rfl h
  | [x], _, _, _ => by rw [jn_one]; simp [inAny]
  | x :: z :: ys, _, h, hc => by
    have h2 : ∀ w ∈ z :: ys, NE k w := fun w hw => h w (List.mem_cons_of_mem _ hw)
    rw [List.any_cons, Bool.or_eq_false_iff] at hc
    have ih := jn_vis hk y (xs := z :: ys) (by simp) h2 hc.2
    rw [jn_two (by simp) (h x List.mem_cons_self) h2, fl_word (by rw [jn_clear (by simp) h2]; exact hc.2), st_mem hk, List.mem_append, ih]
    rw [List.map_cons (a := x)]
    simp only [inAny, List.any_cons (a := x.2), Bool.or_eq_true, decide_eq_true_eq]
theorem jn_ne : ∀ {xs : List Ef}, xs ≠ [] → (∀ y ∈ xs, NE .ends y) → xs.any (·.1) = false → (!(jn .ends xs).2.isEmpty) = xs.any fun b => !b.2.isEmpty
  | [], h, _, _ => absurd rfl h
  | [x], _, _, _ => by rw [jn_one]; simp
  | x :: z :: ys, _, h, hc => by
    have h2 : ∀ w ∈ z :: ys, NE .ends w := fun w hw => h w (List.mem_cons_of_mem _ hw)
    rw [List.any_cons, Bool.or_eq_false_iff] at hc
    have ih := jn_ne (xs := z :: ys) (by simp) h2 hc.2
    rw [jn_two (by simp) (h x List.mem_cons_self) h2, fl_word (by rw [jn_clear (by simp) h2]; exact hc.2), List.any_cons (a := x), ← ih]
    generalize (jn .ends (z :: ys)).2 = v
    cases hx : x.2 with
    | nil => cases v with
      | nil => rfl
      | cons a v => rfl
    | cons a u => rfl
/-- a bare effect sees just what the blocks behind make together -/
theorem be_jn {k : Kd} (b : Ef) {bs : List Ef} (hn : bs ≠ []) (h : ∀ y ∈ bs, NE k y) : be k b [jn k bs] = be k b bs := by
  have c := jn_clear hn h
  cases hc : bs.any (·.1) with
  | true => rw [hc] at c; simp [be, hc, c]
  | false =>
    rw [hc] at c
    have e1 : be k b bs = (b.1, bw k b.2 (bs.map (·.2))) := by simp only [be, hc]; rfl
    have e2 : be k b [jn k bs] = (b.1, bw k b.2 [(jn k bs).2]) := by simp [be, c]
    rw [e1, e2]
    congr 1
    by_cases hk : sT k
    · have hk' : k = .set ∨ k = .tails := hk
      rw [bw_st hk]
      unfold bw
      rw [if_pos hk']
      apply List.filter_congr
      intro y _
      have v := jn_vis hk y hn h hc
      unfold vis
      cases q : inAny y (bs.map (·.2)) with
      | true => have := v.mpr q; simp [inAny, this]
      | false =>
        have : y ∉ (jn k bs).2 := fun z => by have := v.mp z; rw [q] at this; cases this
        simp [inAny, this]
    · have hk' : ¬ (k = .set ∨ k = .tails) := hk
      unfold bw
      rw [if_neg hk', if_neg hk']
      by_cases he : k = .ends
      · subst he
        have v := jn_ne hn h hc
        rw [any_ne, ← v]
        simp only [List.any_cons, List.any_nil, Bool.or_false]
      · rw [if_neg (fun z => he z.1), if_neg (fun z => he z.1)]
/-! late effects among idle ones -/
theorem cg_app {k : Kd} : ∀ (b1 l1 b2 l2 : List Ef) (s : Wd), l1.length = b1.length → cg k (b1 ++ b2) (l1 ++ l2) s = cg k b2 l2 (cg k b1 l1 s)
  | [], [], b2, l2, s, _ => rfl
  | [], _ :: _, _, _, _, h => by cases h
  | _ :: _, [], _, _, _, h => by cases h
  | b :: b1, l :: l1, b2, l2, s, h => by
    rw [List.cons_append, List.cons_append, cg, cg_app b1 l1 b2 l2 _ (by simpa using h), cg]
theorem idl_set (x : Ef) (t1 : List Ef) (y : Ef) (t2 : List Ef) (e : Ef) : (idl (x :: t1 ++ y :: t2)).set t1.length e = ids t1 ++ e :: ids t2 := by
  rw [List.cons_append, idl_cons]
  unfold ids
  rw [List.map_append, List.set_append]
  simp
theorem ch_one {k : Kd} (x : Ef) (t1 : List Ef) (y : Ef) (t2 : List Ef) (e : Ef) (s : Wd) :
    ch k (x :: t1 ++ y :: t2) (ids t1 ++ e :: ids t2) s = on k (jn k (y :: t2)) (on k e (on k (jn k (x :: t1)) s)) := by
  rw [on_jn, on_jn]
  show cg k (t1 ++ y :: t2) _ _ = _
  rw [cg_app _ _ _ _ _ (ids_len t1), cg]
theorem ch_two {k : Kd} (x : Ef) (t1 : List Ef) (m y : Ef) (t2 : List Ef) (f : Ef) (s : Wd) (hm : pl k m.2 = m.2) :
    ch k (x :: t1 ++ m :: y :: t2) (ids t1 ++ (true, []) :: f :: ids t2) s = on k (jn k (y :: t2)) (on k f m.2) := by
  rw [on_jn]
  show cg k (t1 ++ m :: y :: t2) _ _ = _
  rw [cg_app _ _ _ _ _ (ids_len t1), cg, cg]
  have e : ∀ u, on k m (on k (true, []) u) = m.2 := fun u => by
    have : on k (true, []) u = [] := rfl
    rw [this, on_nil hm]
  rw [e]
/-! the last place at which rows are unlike -/
theorem lastU_spec : ∀ (xs ys : List Ef) (i : Nat) (f : Option Nat), xs.length = ys.length → (xs = ys ∧ lastU i xs ys f = f) ∨ ∃ u u' a b w, xs = u ++ a :: w ∧ ys = u' ++ b :: w ∧ u.length = u'.length ∧ a ≠ b ∧ lastU i xs ys f = some (i + u.length)
  | [], [], i, f, _ => .inl ⟨rfl, rfl⟩
  | [], _ :: _, _, _, h => by cases h
  | _ :: _, [], _, _, h => by cases h
  | x :: xs, y :: ys, i, f, h => by
    rw [lastU]
    rcases lastU_spec xs ys (i + 1) (if x = y then f else some i) (by simpa using h) with ⟨e, e2⟩ | ⟨u, u', a, b, w, e1, e2, e3, e4, e5⟩
    · by_cases q : x = y
      · exact .inl ⟨by rw [q, e], by rw [e2, if_pos q]⟩
      · exact .inr ⟨[], [], x, y, xs, rfl, by rw [e]; rfl, rfl, q, by rw [e2, if_neg q]; rfl⟩
    · exact .inr ⟨x :: u, y :: u', a, b, w, by rw [e1]; rfl, by rw [e2]; rfl, by simp [e3], e4, by rw [e5, List.length_cons]; congr 1; omega⟩
theorem lu_none {k : Kd} {xs ys : List Ef} (hl : xs.length = ys.length) : lu k xs ys = none ↔ bare k xs = bare k ys := by
  unfold lu
  rcases lastU_spec (bare k xs) (bare k ys) 0 none (by rw [bare_len, bare_len, hl]) with ⟨e, e2⟩ | ⟨u, u', a, b, w, e1, e2, e3, e4, e5⟩
  · exact ⟨fun _ => e, fun _ => e2⟩
  · constructor
    · intro h; rw [e5] at h; cases h
    · intro h
      rw [e1, e2] at h
      have := (List.append_inj h e3).2
      simp only [List.cons.injEq] at this
      exact absurd this.1 e4
theorem bare_drop (k : Kd) : ∀ (xs : List Ef) (p : Nat), (bare k xs).drop p = bare k (xs.drop p)
  | [], p => by cases p <;> rfl
  | x :: xs, 0 => rfl
  | x :: xs, p + 1 => by rw [bare, List.drop_succ_cons, List.drop_succ_cons, bare_drop k xs p]
theorem lu_some {k : Kd} {xs ys : List Ef} {p : Nat} (hl : xs.length = ys.length) (h : lu k xs ys = some p) : ∃ u u' a b w w', xs = u ++ a :: w ∧ ys = u' ++ b :: w' ∧ u.length = p ∧ u'.length = p ∧ be k a w ≠ be k b w' ∧ bare k w = bare k w' := by
  unfold lu at h
  rcases lastU_spec (bare k xs) (bare k ys) 0 none (by rw [bare_len, bare_len, hl]) with ⟨e, e2⟩ | ⟨u, u', a, b, w, e1, e2, e3, e4, e5⟩
  · rw [e2] at h; cases h
  · rw [e5] at h
    have hp : u.length = p := by simpa using h
    have hx : p < xs.length := by rw [← bare_len k xs, e1]; simp; omega
    have hy : p < ys.length := by omega
    have d1 := bare_drop k xs p
    have d2 := bare_drop k ys p
    rw [e1, ← hp, List.drop_left, hp, List.drop_eq_getElem_cons hx, bare] at d1
    rw [e2, ← hp, e3, List.drop_left, ← e3, hp, List.drop_eq_getElem_cons hy, bare] at d2
    simp only [List.cons.injEq] at d1 d2
    refine ⟨xs.take p, ys.take p, xs[p], ys[p], xs.drop (p + 1), ys.drop (p + 1), ?_, ?_, by rw [List.length_take]; omega, by rw [List.length_take]; omega, ?_, by rw [← d1.2, ← d2.2]⟩
    · rw [← List.drop_eq_getElem_cons hx, List.take_append_drop]
    · rw [← List.drop_eq_getElem_cons hy, List.take_append_drop]
    · rw [← d1.1, ← d2.1]; exact e4
theorem be_nil (k : Kd) (b : Ef) : be k b [] = b := by
  have e : (b.2.filter fun _ => true) = b.2 := List.filter_eq_self.mpr fun _ _ => rfl
  unfold be bw
  simp [inAny, e]
theorem lu_pair {k : Kd} (A B A' B' : Ef) : (lu k [A, B] [A', B'] = none ∧ B = B' ∧ be k A [B] = be k A' [B']) ∨ (lu k [A, B] [A', B'] = some 0 ∧ B = B' ∧ be k A [B] ≠ be k A' [B']) ∨ (lu k [A, B] [A', B'] = some 1 ∧ B ≠ B') := by
  have e : lu k [A, B] [A', B'] = if be k B [] = be k B' [] then (if be k A [B] = be k A' [B'] then none else some 0) else some 1 := rfl
  rw [be_nil, be_nil] at e
  by_cases h : B = B'
  · rw [if_pos h] at e
    by_cases h2 : be k A [B] = be k A' [B']
    · rw [if_pos h2] at e; exact .inl ⟨e, h, h2⟩
    · rw [if_neg h2] at e; exact .inr (.inl ⟨e, h, h2⟩)
  · rw [if_neg h] at e; exact .inr (.inr ⟨e, h⟩)
end SoR
end

section
set_option maxRecDepth 100000
namespace SoR
open DL
theorem oneGo_none {k : Kd} {xs ys : List Ef} : ∀ {n p : Nat}, oneGo k xs ys p n = none → ∀ q, p ≤ q → q < p + n → lu k (pair k q xs) (pair k q ys) = none
  | 0, p, _, q, h1, h2 => by omega
  | n + 1, p, h, q, h1, h2 => by
    rw [oneGo] at h
    cases hq : lu k (pair k p xs) (pair k p ys) with
    | some c => rw [hq] at h; cases h
    | none =>
      rw [hq] at h
      by_cases e : q = p
      · subst e; exact hq
      · exact oneGo_none (n := n) (p := p + 1) h q (by omega) (by omega)
theorem oneGo_some {k : Kd} {xs ys : List Ef} {r : Wd × List Ef} : ∀ {n p : Nat}, oneGo k xs ys p n = some r → ∃ q c, p ≤ q ∧ q < p + n ∧ lu k (pair k q xs) (pair k q ys) = some c ∧ r = onR k xs ys q c
  | 0, p, h => by cases h
  | n + 1, p, h => by
    rw [oneGo] at h
    cases hq : lu k (pair k p xs) (pair k p ys) with
    | some c =>
      rw [hq] at h
      simp only [Option.some.injEq] at h
      exact ⟨p, c, Nat.le_refl _, by omega, hq, h.symm⟩
    | none =>
      rw [hq] at h
      obtain ⟨q, c, h1, h2, h3, h4⟩ := oneGo_some (n := n) (p := p + 1) h
      exact ⟨q, c, by omega, by omega, h3, h4⟩
structure Parts (k : Kd) (xs ys : List Ef) (r : Wd × List Ef) : Prop where
  st : pl k r.1 = r.1
  len : r.2.length + 1 = xs.length
  ne : ∀ l ∈ r.2, NE k l
  both : xs.any (·.1) = true → ys.any (·.1) = true → r.1 = []
  part : ch k xs r.2 r.1 ≠ ch k ys r.2 r.1
  lets : ∃ x : Int, (0 ≤ x ∧ x ≤ 1000000) ∧ (∀ l ∈ r.2, ∀ y ∈ l.2, y = x) ∧ (∀ y ∈ r.1, y = x)
  sh : (∀ l ∈ r.2, l.2.length ≤ 2) ∧ r.1.length ≤ 2
theorem cut_at {xs : List Ef} {p : Nat} (h1 : 1 ≤ p) (h2 : p < xs.length) : ∃ x t1 y t2, xs = x :: t1 ++ y :: t2 ∧ t1.length + 1 = p ∧ xs.take p = x :: t1 ∧ xs.drop p = y :: t2 := by
  cases xs with
  | nil => simp at h2
  | cons x xs =>
    obtain ⟨p, rfl⟩ : ∃ q, p = q + 1 := ⟨p - 1, by omega⟩
    rw [List.length_cons] at h2
    have h3 : p < xs.length := by omega
    refine ⟨x, xs.take p, xs[p], xs.drop (p + 1), ?_, by rw [List.length_take]; omega, rfl, ?_⟩
    · rw [← List.drop_eq_getElem_cons h3, List.cons_append, List.take_append_drop]
    · rw [List.drop_succ_cons, ← List.drop_eq_getElem_cons h3]
theorem pl_one_len (k : Kd) (x : Int) : (pl k [x]).length ≤ 2 := by have := pl_len k [x]; simpa using this
theorem pl_one_mem {k : Kd} {x y : Int} (h : y ∈ pl k [x]) : y = x := by simpa using pl_mem h
theorem idl_mem {xs : List Ef} {l : Ef} (h : l ∈ idl xs) : l = (false, []) := by
  unfold idl at h
  obtain ⟨_, _, e⟩ := List.mem_map.mp h
  exact e.symm
theorem ids_mem {xs : List Ef} {l : Ef} (h : l ∈ ids xs) : l = (false, []) := by
  unfold ids at h
  obtain ⟨_, _, e⟩ := List.mem_map.mp h
  exact e.symm
theorem ne_fresh (k : Kd) (x : Int) : NE k (decide (k = .last), pl k [x]) := by
  refine ⟨?_, pl_idem k _⟩
  unfold nf fm
  by_cases h : k = .last
  · subst h; simp [pl_last, lo]
  · simp [h]
theorem ne_clears {k : Kd} {w : Wd} (h : pl k w = w) : NE k (true, w) := by
  refine ⟨?_, h⟩
  unfold nf fm
  split <;> rfl
theorem oneR_len {xs : List Ef} (h : 1 ≤ xs.length) : (idl xs).length + 1 = xs.length := by
  unfold idl
  rw [List.length_map, List.length_drop]
  omega
theorem words_len (xs : List Ef) : ((xs.map (·.2)).map List.length).sum ≤ sz xs := by
  induction xs with
  | nil => simp [sz]
  | cons b bs ih => simp [sz] at ih ⊢; omega
section
variable {k : Kd} {xs ys : List Ef} (hx : ∀ x ∈ xs, NE k x) (hy : ∀ y ∈ ys, NE k y) (hl : xs.length = ys.length) (hn : 1 ≤ xs.length) (hs : xs.length ≤ 40000) (sx : 3 * sz xs ≤ 100000) (sy : 3 * sz ys ≤ 100000)
include hx hy hl hn hs sx sy
theorem ne_lists : xs ≠ [] ∧ ys ≠ [] := ⟨fun z => by subst z; simp at hn, fun z => by subst z; rw [List.length_nil] at hl; omega⟩
theorem pst_none (h : pst k (jn k xs) (jn k ys) = none) : jn k xs = jn k ys := by
  unfold pst at h
  split at h
  · rename_i q
    rw [(NE.jn hx).nf, (NE.jn hy).nf] at q
    exact q
  · split at h <;> cases h
theorem none_parts {s : Wd} (h : pst k (jn k xs) (jn k ys) = some s) : Parts k xs ys (s, idl xs) := by
  obtain ⟨nx, ny⟩ := ne_lists hx hy hl hn hs sx sy
  have jx := NE.jn hx
  have jy := NE.jn hy
  have e : idl ys = idl xs := by
    unfold idl
    rw [List.map_const', List.map_const', List.length_drop, List.length_drop, hl]
  unfold pst at h
  rw [jx.nf, jy.nf] at h
  split at h
  · cases h
  · rename_i q
    have lets0 : ∀ z : Int, (∀ l ∈ idl xs, ∀ y ∈ l.2, y = z) := fun z l hl2 y hy2 => by rw [idl_mem hl2] at hy2; cases hy2
    have sh0 : ∀ l ∈ idl xs, l.2.length ≤ 2 := fun l hl2 => by rw [idl_mem hl2]; simp
    have ne0 : ∀ l ∈ idl xs, NE k l := fun l hl2 => by rw [idl_mem hl2]; exact NE.idle k
    split at h
    · rename_i q2
      simp only [Option.some.injEq] at h
      subst h
      refine ⟨pl_nil k, oneR_len hn, ne0, fun _ _ => rfl, ?_, ⟨0, by omega, lets0 0, by simp⟩, ⟨sh0, by simp⟩⟩
      have w := part_word jx jy q2
      rw [on_jn_ch k xs nx, on_jn_ch k ys ny, e] at w
      exact w
    · rename_i q2
      have q2 : (jn k xs).2 = (jn k ys).2 := by simpa using q2
      simp only [Option.some.injEq] at h
      subst h
      have q3 : (jn k xs).1 ≠ (jn k ys).1 := fun z => q (Prod.ext z q2)
      have f := fr_not (ws := [(jn k xs).2]) (by simp) (w := (jn k xs).2) (by simp)
      have fo := fr_ok [(jn k xs).2] (by simp)
      have jl := jn_len k xs
      refine ⟨pl_idem k _, oneR_len hn, ne0, fun c1 c2 => ?_, ?_, ?_, ⟨sh0, pl_one_len k _⟩⟩
      · exact absurd (by rw [jn_clear nx hx, jn_clear ny hy, c1, c2]) q3
      · have w := part_flag jx jy q3 f (by rw [← q2]; exact f)
        rw [on_jn_ch k xs nx, on_jn_ch k ys ny, e] at w
        exact w
      · have f3 : fr [(jn k xs).2] ≤ 1000000 := by
          have := fo.2.2
          simp at this
          omega
        exact ⟨fr [(jn k xs).2], ⟨fo.2.1, f3⟩, lets0 _, fun y hy2 => pl_one_mem hy2⟩
/-- the fresh letter -/
theorem fx_ok : ∃ x : Int, fpt k [xs, ys] = (decide (k = .last), pl k [x]) ∧ (0 ≤ x ∧ x ≤ 1000000) ∧ (∀ e ∈ xs, x ∉ e.2) ∧ ∀ e ∈ ys, x ∉ e.2 := by
  have w1 := words_len xs
  have w2 := words_len ys
  have z1 : xs.length ≤ sz xs := by
    clear hx hl hn hs sx sy w1 w2
    induction xs with
    | nil => simp
    | cons b bs ih => simp [sz] at ih ⊢; omega
  have hll : ([xs, ys].flatten.map (·.2)).length ≤ 1000000 := by simp; omega
  have fo := fr_ok _ hll
  refine ⟨fr ([xs, ys].flatten.map (·.2)), rfl, ⟨fo.2.1, ?_⟩, fun e he => fr_not hll (List.mem_map.mpr ⟨e, by simp [he], rfl⟩), fun e he => fr_not hll (List.mem_map.mpr ⟨e, by simp [he], rfl⟩)⟩
  have h3 := fo.2.2
  have h4 : (([xs, ys].flatten.map (·.2)).map List.length).sum = ((xs.map (·.2)).map List.length).sum + ((ys.map (·.2)).map List.length).sum := by simp
  omega
theorem one_parts (hj : jn k xs = jn k ys) {r : Wd × List Ef} (h : oneGo k xs ys 1 (xs.length - 1) = some r) : Parts k xs ys r := by
  obtain ⟨p, c, p1, p2, hc, e⟩ := oneGo_some h
  obtain ⟨x, t1, y, t2, ex, lx, tx, dx⟩ := cut_at (xs := xs) p1 (by omega)
  obtain ⟨x', t1', y', t2', ey, ly, ty, dy⟩ := cut_at (xs := ys) p1 (by omega)
  obtain ⟨z, fz, z01, fzx, fzy⟩ := fx_ok hx hy hl hn hs sx sy
  have hjs : ∀ s, on k (jn k (y :: t2)) (on k (jn k (x :: t1)) s) = on k (jn k (y' :: t2')) (on k (jn k (x' :: t1')) s) := fun s => by
    have a : ∀ (x : Ef) t1 y t2, NE k x → (∀ b ∈ t1, NE k b) → on k (jn k (x :: t1 ++ y :: t2)) s = on k (jn k (y :: t2)) (on k (jn k (x :: t1)) s) := fun x t1 y t2 nx nt => by
      have e1 := ch_one (k := k) x t1 y t2 (false, []) s
      have e2 : ids t1 ++ (false, []) :: ids t2 = idl (x :: t1 ++ y :: t2) := by
        rw [List.cons_append, idl_cons]; unfold ids; rw [List.map_append, List.map_cons]
      rw [e2, ← on_jn_ch k _ (by simp)] at e1
      rw [e1, on_idle]
      exact on_pl (NE.jn fun b hb => by
        rcases List.mem_cons.mp hb with q | q
        · subst q; exact nx
        · exact nt b q).pl s
    rw [← a x t1 y t2 (hx x (by rw [ex]; simp)) (fun b hb => hx b (by rw [ex]; simp [hb])), ← a x' t1' y' t2' (hy x' (by rw [ey]; simp)) (fun b hb => hy b (by rw [ey]; simp [hb])), ← ex, ← ey, hj]
  have nA : NE k (jn k (x :: t1)) := NE.jn fun b hb => hx b (by rw [← List.take_append_drop p xs, tx]; exact List.mem_append_left _ hb)
  have nA' : NE k (jn k (x' :: t1')) := NE.jn fun b hb => hy b (by rw [← List.take_append_drop p ys, ty]; exact List.mem_append_left _ hb)
  have nB : NE k (jn k (y :: t2)) := NE.jn fun b hb => hx b (by rw [← List.take_append_drop p xs, dx]; exact List.mem_append_right _ hb)
  have nB' : NE k (jn k (y' :: t2')) := NE.jn fun b hb => hy b (by rw [← List.take_append_drop p ys, dy]; exact List.mem_append_right _ hb)
  have fA : z ∉ (jn k (x :: t1)).2 := fun q => by
    obtain ⟨b, h1, h2⟩ := jn_mem q
    exact fzx b (by rw [← List.take_append_drop p xs, tx]; exact List.mem_append_left _ h1) h2
  have fA' : z ∉ (jn k (x' :: t1')).2 := fun q => by
    obtain ⟨b, h1, h2⟩ := jn_mem q
    exact fzy b (by rw [← List.take_append_drop p ys, ty]; exact List.mem_append_left _ h1) h2
  have fB : z ∉ (jn k (y :: t2)).2 := fun q => by
    obtain ⟨b, h1, h2⟩ := jn_mem q
    exact fzx b (by rw [← List.take_append_drop p xs, dx]; exact List.mem_append_right _ h1) h2
  have fB' : z ∉ (jn k (y' :: t2')).2 := fun q => by
    obtain ⟨b, h1, h2⟩ := jn_mem q
    exact fzy b (by rw [← List.take_append_drop p ys, dy]; exact List.mem_append_right _ h1) h2
  unfold onR at e
  have pl1 : p - 1 = t1.length := by omega
  have pl2 : t1.length = t1'.length := by omega
  have lt2 : t2.length = t2'.length := by
    have := hl
    rw [ex, ey] at this
    simp at this
    omega
  have ei : ids t1' = ids t1 := by unfold ids; rw [List.map_const', List.map_const', pl2]
  have ei2 : ids t2' = ids t2 := by unfold ids; rw [List.map_const', List.map_const', lt2]
  have es : (idl xs).set (p - 1) (onE k xs ys p c) = ids t1 ++ onE k xs ys p c :: ids t2 := by rw [pl1, ex, idl_set]
  rw [es] at e
  subst e
  have hE : NE k (onE k xs ys p c) ∧ (∀ u ∈ (onE k xs ys p c).2, u = z) ∧ (onE k xs ys p c).2.length ≤ 2 := by
    unfold onE
    rw [fz]
    split
    · exact ⟨ne_fresh k z, fun u hu => pl_one_mem hu, pl_one_len k z⟩
    · split
      · exact ⟨ne_clears (pl_idem k _), fun u hu => pl_one_mem hu, pl_one_len k z⟩
      · exact ⟨NE.stone k, by simp, by simp⟩
  have hm : ∀ l ∈ ids t1 ++ onE k xs ys p c :: ids t2, l = (false, []) ∨ l = onE k xs ys p c := fun l h => by
    rcases List.mem_append.mp h with q | q
    · exact .inl (ids_mem q)
    · rcases List.mem_cons.mp q with q | q
      · exact .inr q
      · exact .inl (ids_mem q)
  refine ⟨pl_nil k, ?_, fun l h => ?_, fun _ _ => rfl, ?_, ⟨z, z01, fun l h u hu => ?_, by simp⟩, ⟨fun l h => ?_, by simp⟩⟩
  · rw [ex]; simp [ids]; try omega
  · rcases hm l h with q | q <;> subst q
    · exact NE.idle k
    · exact hE.1
  · show ch k xs (ids t1 ++ onE k xs ys p c :: ids t2) [] ≠ ch k ys (ids t1 ++ onE k xs ys p c :: ids t2) []
    have c1 := ch_one (k := k) x t1 y t2 (onE k xs ys p c) []
    have c2 := ch_one (k := k) x' t1' y' t2' (onE k xs ys p c) []
    rw [← ex] at c1
    rw [← ey, ei, ei2] at c2
    rw [c1, c2, on_nil nA.pl, on_nil nA'.pl]
    have hpx : pair k p xs = [jn k (x :: t1), jn k (y :: t2)] := by unfold pair; rw [tx, dx]
    have hpy : pair k p ys = [jn k (x' :: t1'), jn k (y' :: t2')] := by unfold pair; rw [ty, dy]
    rw [hpx, hpy] at hc
    unfold onE
    rw [fz, dx, dy]
    rcases lu_pair (k := k) (jn k (x :: t1)) (jn k (y :: t2)) (jn k (x' :: t1')) (jn k (y' :: t2')) with ⟨q1, q2, q3⟩ | ⟨q1, q2, q3⟩ | ⟨q1, q2⟩
    · rw [q1] at hc; cases hc
    · rw [q1] at hc
      simp only [Option.some.injEq] at hc
      rw [if_pos hc.symm]
      rw [← q2] at q3 hjs ⊢
      exact part_mid nA nA' nB hjs q3 fA fA' fB
    · rw [q1] at hc
      simp only [Option.some.injEq] at hc
      rw [if_neg (by omega)]
      by_cases q3 : (jn k (y :: t2)).1 = (jn k (y' :: t2')).1
      · rw [if_neg (by simp [q3])]
        have : ∀ u, on k (true, []) u = ([] : Wd) := fun u => rfl
        rw [this, this]
        exact part_word nB nB' fun q => q2 (Prod.ext q3 q)
      · rw [if_pos q3]
        have : ∀ u, on k (true, pl k [z]) u = pl k [z] := fun u => rfl
        rw [this, this]
        exact part_flag nB nB' q3 fB fB'
  · rcases hm l h with q | q <;> subst q
    · cases hu
    · exact hE.2.1 u hu
  · rcases hm l h with q | q <;> subst q
    · simp
    · exact hE.2.2
/-- where two late effects are asked -/
theorem two_at (hj : jn k xs = jn k ys) (ho : oneGo k xs ys 1 (xs.length - 1) = none) {p : Nat} (hp : lu k xs ys = some p) : 1 ≤ p ∧ p + 1 < xs.length := by
  obtain ⟨u, u', a, b, w, w', ex, ey, hu, hu', hne, hbe⟩ := lu_some hl hp
  have og := fun q h1 h2 => oneGo_none ho q h1 h2
  have lw : w.length = w'.length := by rw [ex, ey] at hl; simp at hl; omega
  have lx : xs.length = p + 1 + w.length := by rw [ex]; simp; omega
  have pr : ∀ q, 1 ≤ q → q < xs.length → jn k (xs.drop q) = jn k (ys.drop q) ∧ be k (jn k (xs.take q)) [jn k (xs.drop q)] = be k (jn k (ys.take q)) [jn k (ys.drop q)] := fun q h1 h2 => by
    have g := og q h1 (by omega)
    unfold pair at g
    rcases lu_pair (k := k) (jn k (xs.take q)) (jn k (xs.drop q)) (jn k (ys.take q)) (jn k (ys.drop q)) with ⟨q1, q2, q3⟩ | ⟨q1, q2, q3⟩ | ⟨q1, q2⟩
    · exact ⟨q2, q3⟩
    · rw [q1] at g; cases g
    · rw [q1] at g; cases g
  have nw : ∀ y ∈ w, NE k y := fun y hy => hx y (by rw [ex]; simp [hy])
  have nw' : ∀ y ∈ w', NE k y := fun y hy2 => hy y (by rw [ey]; simp [hy2])
  by_cases hw : w = []
  · subst hw
    have hw' : w' = [] := List.eq_nil_of_length_eq_zero (by rw [← lw]; rfl)
    subst hw'
    rw [be_nil, be_nil] at hne
    by_cases h0 : p = 0
    · subst h0
      have e1 := List.eq_nil_of_length_eq_zero hu
      have e2 := List.eq_nil_of_length_eq_zero hu'
      subst e1; subst e2
      rw [ex, ey] at hj
      exact absurd hj hne
    · have g := (pr p (by omega) (by rw [lx]; simp)).1
      rw [ex, ey, List.drop_left' hu, List.drop_left' hu'] at g
      exact absurd g hne
  · have lw0 : 1 ≤ w.length := by cases w with
      | nil => exact absurd rfl hw
      | cons _ _ => simp
    have hw' : w' ≠ [] := fun z => by rw [z, List.length_nil] at lw; omega
    by_cases h0 : p = 0
    · subst h0
      have e1 := List.eq_nil_of_length_eq_zero hu
      have e2 := List.eq_nil_of_length_eq_zero hu'
      subst e1; subst e2
      have g := (pr 1 (by omega) (by omega)).2
      rw [ex, ey] at g
      simp only [List.nil_append, List.take_succ_cons, List.take_zero, List.drop_succ_cons, List.drop_zero, jn_one] at g
      rw [be_jn a hw nw, be_jn b hw' nw'] at g
      exact absurd g hne
    · omega
theorem two_parts (hj : jn k xs = jn k ys) (ho : oneGo k xs ys 1 (xs.length - 1) = none) {p : Nat} (hp : lu k xs ys = some p) : Parts k xs ys (twoF k xs ys p) := by
  obtain ⟨h1, h2⟩ := two_at hx hy hl hn hs sx sy hj ho hp
  obtain ⟨u, u', a, b, w, w', ex, ey, hu, hu', hne, hbe⟩ := lu_some hl hp
  have og := fun q h1 h2 => oneGo_none ho q h1 h2
  have lw : w.length = w'.length := by rw [ex, ey] at hl; simp at hl; omega
  have lx : xs.length = p + 1 + w.length := by rw [ex]; simp; omega
  have pr : ∀ q, 1 ≤ q → q < xs.length → jn k (xs.drop q) = jn k (ys.drop q) := fun q h1 h2 => by
    have g := og q h1 (by omega)
    unfold pair at g
    rcases lu_pair (k := k) (jn k (xs.take q)) (jn k (xs.drop q)) (jn k (ys.take q)) (jn k (ys.drop q)) with ⟨q1, q2, q3⟩ | ⟨q1, q2, q3⟩ | ⟨q1, q2⟩
    · exact q2
    · rw [q1] at g; cases g
    · rw [q1] at g; cases g
  have nw : ∀ y ∈ w, NE k y := fun y hy => hx y (by rw [ex]; simp [hy])
  have nw' : ∀ y ∈ w', NE k y := fun y hy2 => hy y (by rw [ey]; simp [hy2])
  have na : NE k a := hx a (by rw [ex]; simp)
  have nb : NE k b := hy b (by rw [ey]; simp)
  obtain ⟨z, fz, z01, fzx, fzy⟩ := fx_ok hx hy hl hn hs sx sy
  -- the shapes
  obtain ⟨x, t1, rfl⟩ : ∃ x t1, u = x :: t1 := by
    cases u with
    | nil => rw [List.length_nil] at hu; omega
    | cons x t1 => exact ⟨x, t1, rfl⟩
  obtain ⟨x', t1', rfl⟩ : ∃ x t1, u' = x :: t1 := by
    cases u' with
    | nil => rw [List.length_nil] at hu'; omega
    | cons x t1 => exact ⟨x, t1, rfl⟩
  obtain ⟨y, t2, rfl⟩ : ∃ y t2, w = y :: t2 := by
    cases w with
    | nil => rw [List.length_nil] at lx; omega
    | cons y t2 => exact ⟨y, t2, rfl⟩
  obtain ⟨y', t2', rfl⟩ : ∃ y t2, w' = y :: t2 := by
    cases w' with
    | nil => rw [List.length_nil] at lw; omega
    | cons y t2 => exact ⟨y, t2, rfl⟩
  have hB := pr (p + 1) (by omega) (by omega)
  have hC := pr p h1 (by omega)
  have c1 : xs.drop p = a :: y :: t2 := by rw [ex, List.drop_left' hu]
  have c2 : ys.drop p = b :: y' :: t2' := by rw [ey, List.drop_left' hu']
  have d1 : xs.drop (p + 1) = y :: t2 := by rw [← List.drop_drop, c1]; rfl
  have d2 : ys.drop (p + 1) = y' :: t2' := by rw [← List.drop_drop, c2]; rfl
  rw [d1, d2] at hB
  rw [c1, c2, jn_two (by simp) na nw, jn_two (by simp) nb nw', ← hB] at hC
  rw [← be_jn a (by simp) nw, ← be_jn b (by simp) nw', ← hB] at hne
  have fB : z ∉ (jn k (y :: t2)).2 := fun q => by
    obtain ⟨c, q1, q2⟩ := jn_mem q
    exact fzx c (by rw [ex]; simp only [List.mem_append, List.mem_cons] at q1 ⊢; exact .inr (.inr q1)) q2
  have key := part_mid na nb (NE.jn nw) (fun s => by rw [← on_fl, ← on_fl, hC]) hne (fzx a (by rw [ex]; simp)) (fzy b (by rw [ey]; simp)) fB
  have l1 : t1.length = p - 1 := by simp at hu; omega
  have l1' : t1'.length = p - 1 := by simp at hu'; omega
  have ei : ids t1' = ids t1 := by unfold ids; rw [List.map_const', List.map_const', l1, l1']
  have ei2 : ids t2' = ids t2 := by
    have : t2.length = t2'.length := by simpa using lw
    unfold ids; rw [List.map_const', List.map_const', this]
  have er : twoF k xs ys p = ([], ids t1 ++ (true, []) :: (decide (k = .last), pl k [z]) :: ids t2) := by
    unfold twoF
    rw [fz, ex, ← l1, idl_set]
    have e3 : ids (y :: t2) = (false, []) :: ids t2 := rfl
    have e4 : p = (ids t1).length + 1 := by rw [ids_len]; omega
    rw [e3, e4, List.set_append]
    simp
    intro z0
    exact absurd z0 (by omega)
  rw [er]
  have hm : ∀ l ∈ ids t1 ++ (true, []) :: (decide (k = .last), pl k [z]) :: ids t2, l = (false, []) ∨ l = (true, []) ∨ l = (decide (k = .last), pl k [z]) := fun l h => by
    rcases List.mem_append.mp h with q | q
    · exact .inl (ids_mem q)
    · rcases List.mem_cons.mp q with q | q
      · exact .inr (.inl q)
      · rcases List.mem_cons.mp q with q | q
        · exact .inr (.inr q)
        · exact .inl (ids_mem q)
  refine ⟨pl_nil k, ?_, fun l h => ?_, fun _ _ => rfl, ?_, ⟨z, z01, fun l h v hv => ?_, by simp⟩, ⟨fun l h => ?_, by simp⟩⟩
  · rw [ex]; simp [ids]; try omega
  · rcases hm l h with q | q | q <;> subst q
    · exact NE.idle k
    · exact NE.stone k
    · exact ne_fresh k z
  · have e1 := ch_two (k := k) x t1 a y t2 (decide (k = .last), pl k [z]) [] na.pl
    have e2 := ch_two (k := k) x' t1' b y' t2' (decide (k = .last), pl k [z]) [] nb.pl
    rw [← ex] at e1
    rw [← ey, ei, ei2, ← hB] at e2
    rw [e1, e2]
    exact key
  · rcases hm l h with q | q | q <;> subst q
    · cases hv
    · cases hv
    · exact pl_one_mem hv
  · rcases hm l h with q | q | q <;> subst q
    · simp
    · simp
    · exact pl_one_len k z
theorem prt_none : prt k xs ys = none ↔ bare k xs = bare k ys := by
  rw [← lu_none hl]
  unfold prt
  cases lu k xs ys with
  | none => simp
  | some p =>
    simp only [reduceCtorEq, iff_false]
    cases pst k (jn k xs) (jn k ys) with
    | some s => simp
    | none =>
      cases oneGo k xs ys 1 (xs.length - 1) <;> simp
theorem prt_parts {r : Wd × List Ef} (h : prt k xs ys = some r) : Parts k xs ys r := by
  unfold prt at h
  cases hp : lu k xs ys with
  | none => rw [hp] at h; cases h
  | some p =>
    rw [hp] at h
    dsimp only at h
    cases hq : pst k (jn k xs) (jn k ys) with
    | some s =>
      rw [hq] at h
      simp only [Option.some.injEq] at h
      subst h
      exact none_parts hx hy hl hn hs sx sy hq
    | none =>
      rw [hq] at h
      dsimp only at h
      have hj := pst_none hx hy hl hn hs sx sy hq
      cases ho : oneGo k xs ys 1 (xs.length - 1) with
      | some r' =>
        rw [ho] at h
        simp only [Option.some.injEq] at h
        subst h
        exact one_parts hx hy hl hn hs sx sy hj ho
      | none =>
        rw [ho] at h
        simp only [Option.some.injEq] at h
        subst h
        exact two_parts hx hy hl hn hs sx sy hj ho hp
theorem prt_asks : ∀ p, lu k xs ys = some p → pst k (jn k xs) (jn k ys) = none → oneGo k xs ys 1 (xs.length - 1) = none → 1 ≤ p ∧ p + 1 < xs.length :=
  fun p hp hq ho => two_at hx hy hl hn hs sx sy (pst_none hx hy hl hn hs sx sy hq) ho hp
end
end SoR
end

section
set_option maxRecDepth 100000
set_option maxHeartbeats 2000000
namespace SoR
open DL
/-! the stream that a law draws from -/
theorem el_mixed (c p : Int) (h1 : -1000000000000000000 < c) (h2 : c < 1000000000000000000) (h3 : 0 ≤ p) (h4 : p ≤ 63) : ∃ v : Int, 0 ≤ v ∧ den__law_mixed [.int c, .int p] = some (.ret (.val (.int v))) := by
  have m1 : (0:Int) ≤ (c * (314159265358979323 + 271828182845 * p)) % 1000000000000000003 := Int.emod_nonneg _ (by decide)
  have m2 : (c * (314159265358979323 + 271828182845 * p)) % 1000000000000000003 < 1000000000000000003 := Int.emod_lt_of_pos _ (by decide)
  generalize he : (c * (314159265358979323 + 271828182845 * p)) % 1000000000000000003 = e at m1 m2
  have m3 : (0:Int) ≤ (e * (e + 57721566490153 * p)) % 1000000000000000009 := Int.emod_nonneg _ (by decide)
  refine ⟨_, m3, ?_⟩
  have a1 : -18446744073709551616 < c := by omega
  have a2 : c < 18446744073709551616 := by omega
  have a3 : -18446744073709551616 < e := by omega
  have a4 : e < 18446744073709551616 := by omega
  simp [fn, start, sRet, sRetN, bS, eCB, bA, aCons, aNil, eSup, eCall, eVar, eC, frzs, R.frz, peeks, R.peek, Rv.r, retR, Own.d, eOp, eUn, bE, op2, op1, sSeq, sNil, sSet, put, sIf, bT, tE, tAnd, tOr, tNot, eAnd, eOr, eNot, eIf, eTup, eLst, sAsg, gTup, gsGo, gName, eCon, eSl, bO, oNone, oSome, eChain, tYes, sExpr, eFld, den__law_mixed, body__law_mixed, opMul, opMod, opAdd, fInt, a1, a2, he, a3, a4]
/-- a stream -/
def stO (c : Wd) (p : Nat) (v : Int) : Own := .lst [.lst (c.map .int), .int p, .int v]
def IsSt (o : Own) : Prop := ∃ c p v, o = stO c p v ∧ c.length ≤ 63 ∧ p ≤ c.length ∧ (0:Int) ≤ v
theorem el_draw {o : Own} (h : IsSt o) (m : Int) (h1 : 0 < m) (h2 : m < 1073741824) : ∃ x o', den__law_draw o [.int m] = some (.ret (.val (.int x)), o') ∧ IsSt o' ∧ 0 ≤ x ∧ x < m := by
  obtain ⟨c, p, v, e, hc, hp, hv⟩ := h
  subst e
  have fin : ∀ (p' : Nat) (v' : Int), p' ≤ c.length → (0:Int) ≤ v' → IsSt (stO c p' (v' / m)) ∧ 0 ≤ v' % m ∧ v' % m < m := fun p' v' hp' hv' =>
    ⟨⟨c, p', v' / m, rfl, hc, hp', Int.ediv_nonneg hv' (by omega)⟩, Int.emod_nonneg v' (by omega), Int.emod_lt_of_pos v' h1⟩
  by_cases hz : v = 0 ∧ p < c.length
  · obtain ⟨hv0, hpl⟩ := hz
    subst hv0
    have q1 : ((p : Int) < (c.length : Int)) := by omega
    have x := ixL c p hpl
    generalize c.getD p 0 = y at x
    have xa : ∃ ya : Int, (if y < 0 then -y else y) = ya ∧ 0 ≤ ya := by
      by_cases g : y < 0
      · exact ⟨-y, if_pos g, by omega⟩
      · exact ⟨y, if_neg g, by omega⟩
    obtain ⟨ya, hya, hy0⟩ := xa
    have hw : ∃ p' v', p' ≤ c.length ∧ (0:Int) ≤ v' ∧ (if ya < 1000000000000000000 then den__law_mixed [.int y, .int ((p : Int) + 1)] = some (.ret (.val (.int v'))) else v' = ya) ∧ p' = p + 1 := by
      by_cases g : ya < 1000000000000000000
      · have g2 : -1000000000000000000 < y ∧ y < 1000000000000000000 := by
          by_cases z : y < 0
          · rw [if_pos z] at hya; omega
          · rw [if_neg z] at hya; omega
        obtain ⟨w, w0, ew⟩ := el_mixed y ((p : Int) + 1) g2.1 g2.2 (by omega) (by omega)
        exact ⟨p + 1, w, by omega, w0, by rw [if_pos g]; exact ew, rfl⟩
      · exact ⟨p + 1, ya, by omega, hy0, by rw [if_neg g], rfl⟩
    obtain ⟨p', v', hp', hv', ev, ep⟩ := hw
    subst ep
    obtain ⟨f1, f2, f3⟩ := fin (p + 1) v' hp' hv'
    refine ⟨v' % m, stO c (p + 1) (v' / m), ?_, f1, f2, f3⟩
    have hl : (c.map D.int).length = c.length := List.length_map ..
    unfold stO
    rw [← hl] at q1 hpl
    generalize c.map D.int = l at hl x q1 hpl
    have x2 : l[p]? = some (.int y) := by
      have e := ixD_in (n := l.length) (i := p) (by omega)
      simp only [ixS, e] at x
      cases z : l[p]? with
      | none => rw [z] at x; cases x
      | some d => rw [z] at x; simp only [Option.some.injEq, Rv.val.injEq] at x; rw [x]
    have x3 : l[p] = .int y := by rw [List.getElem?_eq_getElem hpl] at x2; exact Option.some.inj x2
    have hp1 : ((p + 1 : Nat) : Int) = (p : Int) + 1 := by omega
    have P18 : ((10 : Int) ^ 18) = 1000000000000000000 := by decide
    by_cases g : ya < 1000000000000000000
    · rw [if_pos g] at ev
      simp [fn, start, sRet, sRetN, bS, eCB, bA, aCons, aNil, eSup, eCall, eVar, eC, frzs, R.frz, peeks, R.peek, Rv.r, retR, Own.d, eOp, eUn, bE, op2, op1, sSeq, sNil, sSet, put, sIf, bT, tE, tAnd, tOr, tNot, eAnd, eOr, eNot, eIf, eTup, eLst, sAsg, gTup, gsGo, gName, eCon, eSl, bO, oNone, oSome, eChain, tYes, sExpr, eFld, den__law_draw, fnM, body__law_draw, stO, ixS, ixD, cEq, D.dat, D.eqv, cLt, cI, fLenS, fInt, fAbs, opAdd, opPow, opMod, opFdiv, sPut, own?, DL.fin, h1, h2, hpl, x3, hya, g, ev, hp1, Own.d]
    · rw [if_neg g] at ev
      subst ev
      simp [fn, start, sRet, sRetN, bS, eCB, bA, aCons, aNil, eSup, eCall, eVar, eC, frzs, R.frz, peeks, R.peek, Rv.r, retR, Own.d, eOp, eUn, bE, op2, op1, sSeq, sNil, sSet, put, sIf, bT, tE, tAnd, tOr, tNot, eAnd, eOr, eNot, eIf, eTup, eLst, sAsg, gTup, gsGo, gName, eCon, eSl, bO, oNone, oSome, eChain, tYes, sExpr, eFld, den__law_draw, fnM, body__law_draw, stO, ixS, ixD, cEq, D.dat, D.eqv, cLt, cI, fLenS, fInt, fAbs, opAdd, opPow, opMod, opFdiv, sPut, own?, DL.fin, h1, h2, hpl, x3, hya, g, hp1, Own.d]
  · obtain ⟨f1, f2, f3⟩ := fin p v hp hv
    have t : ((v == 0) && decide ((p : Int) < (c.length : Int))) = false := by
      by_cases g : v = 0
      · have : ¬ p < c.length := fun z => hz ⟨g, z⟩
        simp; intro _; omega
      · simp [g]
    refine ⟨v % m, stO c p (v / m), ?_, f1, f2, f3⟩
    have hl : (c.map D.int).length = c.length := List.length_map ..
    unfold stO
    generalize c.map D.int = l at hl
    by_cases g : v = 0
    · have : ¬ p < l.length := by rw [hl]; exact fun z => hz ⟨g, z⟩
      have q : l.length ≤ p := by omega
      subst g
      simp [fn, start, sRet, sRetN, bS, eCB, bA, aCons, aNil, eSup, eCall, eVar, eC, frzs, R.frz, peeks, R.peek, Rv.r, retR, Own.d, eOp, eUn, bE, op2, op1, sSeq, sNil, sSet, put, sIf, bT, tE, tAnd, tOr, tNot, eAnd, eOr, eNot, eIf, eTup, eLst, sAsg, gTup, gsGo, gName, eCon, eSl, bO, oNone, oSome, eChain, tYes, sExpr, eFld, den__law_draw, fnM, body__law_draw, stO, ixS, ixD, cEq, D.dat, D.eqv, cLt, cI, fLenS, fInt, opMod, opFdiv, sPut, own?, DL.fin, h1, h2, this, Own.d]
    · simp [fn, start, sRet, sRetN, bS, eCB, bA, aCons, aNil, eSup, eCall, eVar, eC, frzs, R.frz, peeks, R.peek, Rv.r, retR, Own.d, eOp, eUn, bE, op2, op1, sSeq, sNil, sSet, put, sIf, bT, tE, tAnd, tOr, tNot, eAnd, eOr, eNot, eIf, eTup, eLst, sAsg, gTup, gsGo, gName, eCon, eSl, bO, oNone, oSome, eChain, tYes, sExpr, eFld, den__law_draw, fnM, body__law_draw, stO, ixS, ixD, cEq, D.dat, D.eqv, cLt, cI, fLenS, fInt, opMod, opFdiv, sPut, own?, DL.fin, h1, h2, g, Own.d]
end SoR
end

section
set_option maxRecDepth 100000
set_option maxHeartbeats 2000000
namespace DL
/-! loops and comprehensions that keep a promise -/
theorem lcGo_inv {g : DG} {el : DE} {vs : List Nat} {I : Env → Prop} {Q : D → Prop} : ∀ (ds : List D),
    (∀ d ∈ ds, ∀ ρ, I ρ → ∃ ρ1 r ρ3 ρ4 x, g d ρ = some ρ1 ∧ el ρ1 = some (.ok r ρ3) ∧ r.frz ρ3 = some (x, ρ4) ∧ Q x ∧ I (wipeE ρ4 vs)) →
    ∀ ρ, I (wipeE ρ vs) → ∃ xs ρ', lcGo g tYes el vs ds ρ = some (xs, ρ') ∧ xs.length = ds.length ∧ (∀ x ∈ xs, Q x) ∧ I (wipeE ρ' vs)
  | [], _, ρ, hi => ⟨[], ρ, rfl, rfl, by simp, hi⟩
  | d :: ds, h, ρ, hi => by
    obtain ⟨ρ1, r, ρ3, ρ4, x, h1, h2, h3, h4, h5⟩ := h d List.mem_cons_self _ hi
    obtain ⟨xs, ρ', e1, e2, e3, e4⟩ := lcGo_inv ds (fun y hy => h y (List.mem_cons_of_mem _ hy)) ρ4 h5
    refine ⟨x :: xs, ρ', ?_, by simp [e2], fun y hy => ?_, e4⟩
    · rw [lcGo, h1]
      dsimp only [tYes]
      rw [h2]
      dsimp only
      rw [h3]
      dsimp only
      rw [e1]
    · rcases List.mem_cons.mp hy with z | z
      · subst z; exact h4
      · exact e3 y z
theorem wipeE_wipe {ρ : Env} {vs : List Nat} : wipeE (wipeE ρ vs) vs = wipeE ρ vs := by
  apply List.ext_getElem?
  intro j
  rw [wipeE_get, wipeE_get]
  by_cases h : j ∈ vs
  · simp [h, Function.comp_def]
  · simp [h]
theorem backE_wiped {ρ0 ρ : Env} {vs : List Nat} : backE ρ0 ρ vs = backE ρ0 (wipeE ρ vs) vs := backE_wipe wipeE_wipe.symm
theorem eLc_inv {it : DI} {g : DG} {el : DE} {vs : List Nat} {I : Env → Prop} {Q : D → Prop} {ρ ρ1 : Env} {ds : List D} (hit : it ρ = some (.ok ds ρ1)) (hl : ds.length ≤ 1000000) (hi : I (wipeE ρ1 vs))
    (h : ∀ d ∈ ds, ∀ ρ, I ρ → ∃ ρ1 r ρ3 ρ4 x, g d ρ = some ρ1 ∧ el ρ1 = some (.ok r ρ3) ∧ r.frz ρ3 = some (x, ρ4) ∧ Q x ∧ I (wipeE ρ4 vs)) :
    ∃ xs ρ', eLc it g tYes el vs ρ = some (.ok (.fre (.lst xs)) (backE ρ1 ρ' vs)) ∧ xs.length = ds.length ∧ (∀ x ∈ xs, Q x) ∧ I ρ' := by
  obtain ⟨xs, ρ', e1, e2, e3, e4⟩ := lcGo_inv ds h ρ1 hi
  refine ⟨xs, wipeE ρ' vs, ?_, e2, e3, e4⟩
  unfold eLc
  rw [hit]
  dsimp only
  rw [if_pos hl, e1]
  dsimp only
  rw [backE_wiped]
theorem forGo_inv {g : DG} {bd : DS} {I : Nat → Env → Prop} : ∀ (ds : List D) (i : Nat) (ρ : Env), I i ρ →
    (∀ d ∈ ds, ∀ j ρ, j < i + ds.length → I j ρ → ∃ ρ1 ρ2, g d ρ = some ρ1 ∧ (bd ρ1 = some (.nx ρ2) ∨ bd ρ1 = some (.ct ρ2)) ∧ I (j + 1) ρ2) →
    ∃ ρ', forGo g bd ds ρ = some (.nx ρ') ∧ I (i + ds.length) ρ'
  | [], i, ρ, hi, _ => ⟨ρ, rfl, hi⟩
  | d :: ds, i, ρ, hi, h => by
    obtain ⟨ρ1, ρ2, h1, h2, h3⟩ := h d List.mem_cons_self i ρ (by simp) hi
    obtain ⟨ρ', e1, e2⟩ := forGo_inv ds (i + 1) ρ2 h3 (fun x hx j ρ hj => h x (List.mem_cons_of_mem _ hx) j ρ (by rw [List.length_cons]; omega))
    refine ⟨ρ', ?_, by rw [List.length_cons, show i + (ds.length + 1) = i + 1 + ds.length by omega]; exact e2⟩
    rw [forGo, h1]
    dsimp only
    rcases h2 with h2 | h2
    · rw [h2]; exact e1
    · rw [h2]; exact e1
end DL
namespace SoR
open DL
theorem el_pick {o : Own} (h : IsSt o) (m : Int) (h1 : 0 < m) : ∃ x o', den__law_pick o [.int m] = some (.ret (.val (.int x)), o') ∧ IsSt o' ∧ 0 ≤ x ∧ x < m ∧ x < 10 := by
  obtain ⟨x, o', e, h2, h3, h4⟩ := el_draw h 10 (by decide) (by decide)
  have m1 := Int.emod_nonneg x (show m ≠ 0 by omega)
  have m2 := Int.emod_lt_of_pos x h1
  have m3 : x % m ≤ x := by
    have a := Int.emod_add_mul_ediv x m
    have b := Int.mul_nonneg (show 0 ≤ m by omega) (Int.ediv_nonneg h3 (show 0 ≤ m by omega))
    generalize m * (x / m) = q at a b
    omega
  refine ⟨x % m, o', ?_, h2, m1, m2, by omega⟩
  simp [fn, start, sRet, sRetN, bS, eCB, bA, aCons, aNil, eSup, eCall, eVar, eC, frzs, R.frz, peeks, R.peek, Rv.r, retR, Own.d, eOp, eUn, bE, op2, op1, sSeq, sNil, sSet, put, sIf, bT, tE, tAnd, tOr, tNot, eAnd, eOr, eNot, eIf, eTup, eLst, sAsg, gTup, gsGo, gName, eCon, eSl, bO, oNone, oSome, eChain, tYes, sExpr, eFld, den__law_pick, fnM, body__law_pick, eCallM, left, e, fInt, opMod, h1, DL.fin]
theorem el_kind {o : Own} (h : IsSt o) : ∃ (k : Kd) (o' : Own), den__law_kind o [] = some (.ret (.val (.str k.nm)), o') ∧ IsSt o' := by
  obtain ⟨x, o', e, h2, h3, h4, h5⟩ := el_pick h 8 (by decide)
  have key : ∃ k : Kd, ixS (.tup [.str "list", .str "bag", .str "set", .str "first", .str "last", .str "ends", .str "heads", .str "tails"]) (.int x) = some (.val (.str k.nm)) := by
    have : x = 0 ∨ x = 1 ∨ x = 2 ∨ x = 3 ∨ x = 4 ∨ x = 5 ∨ x = 6 ∨ x = 7 := by omega
    rcases this with z | z | z | z | z | z | z | z <;> subst z
    · exact ⟨.list, rfl⟩
    · exact ⟨.bag, rfl⟩
    · exact ⟨.set, rfl⟩
    · exact ⟨.first, rfl⟩
    · exact ⟨.last, rfl⟩
    · exact ⟨.ends, rfl⟩
    · exact ⟨.heads, rfl⟩
    · exact ⟨.tails, rfl⟩
  obtain ⟨k, ek⟩ := key
  refine ⟨k, o', ?_, h2⟩
  simp [fn, start, sRet, sRetN, bS, eCB, bA, aCons, aNil, eSup, eCall, eVar, eC, frzs, R.frz, peeks, R.peek, Rv.r, retR, Own.d, eOp, eUn, bE, op2, op1, sSeq, sNil, sSet, put, sIf, bT, tE, tAnd, tOr, tNot, eAnd, eOr, eNot, eIf, eTup, eLst, sAsg, gTup, gsGo, gName, eCon, eSl, bO, oNone, oSome, eChain, tYes, sExpr, eFld, den__law_kind, fnM, body__law_kind, eCallM, left, e, ek, DL.fin]
theorem el_stream (ns : List Int) : ∃ o, den__law_stream [.scr ns] = some (.ret (.fre o)) ∧ IsSt o := by
  have z := eLc_all (it := iSeq (eSl slOp (eVar 0) oNone (oSome (eC (.int 63))))) (g := gName 1) (el := eCB fInt (aCons (eVar 1) aNil)) (vs := [1]) (toD := .int) (f := .int) (ρ := [.frz (.scr ns), .no]) (ρ1 := [.frz (.scr ns), .no]) [.frz (.scr ns), .no] (ns.take 63)
    (by
      have c : cutI ns none (some 63) = ns.take 63 := by
        unfold cutI sIxD
        simp
      simp [fn, start, sRet, sRetN, bS, eCB, bA, aCons, aNil, eSup, eCall, eVar, eC, frzs, R.frz, peeks, R.peek, Rv.r, retR, Own.d, eOp, eUn, bE, op2, op1, sSeq, sNil, sSet, put, sIf, bT, tE, tAnd, tOr, tNot, eAnd, eOr, eNot, eIf, eTup, eLst, sAsg, gTup, gsGo, gName, eCon, eSl, bO, oNone, oSome, eChain, tYes, sExpr, eFld, iSeq, slOp, c]) (by rw [List.length_take]; omega) rfl
    (fun x hx => ⟨[.frz (.scr ns), .frz (.int x)], .val (.int x), [.frz (.scr ns), .frz (.int x)], [.frz (.scr ns), .frz (.int x)], rfl, by simp [fn, start, sRet, sRetN, bS, eCB, bA, aCons, aNil, eSup, eCall, eVar, eC, frzs, R.frz, peeks, R.peek, Rv.r, retR, Own.d, eOp, eUn, bE, op2, op1, sSeq, sNil, sSet, put, sIf, bT, tE, tAnd, tOr, tNot, eAnd, eOr, eNot, eIf, eTup, eLst, sAsg, gTup, gsGo, gName, eCon, eSl, bO, oNone, oSome, eChain, tYes, sExpr, eFld, fInt], rfl, rfl⟩)
  have z2 : lc__law_stream_1 [.frz (.scr ns), .no] = some (.ok (.fre (.lst ((ns.take 63).map .int))) [.frz (.scr ns), .no]) := z
  refine ⟨stO (ns.take 63) 0 0, ?_, ⟨ns.take 63, 0, 0, rfl, by rw [List.length_take]; omega, by omega, by omega⟩⟩
  unfold stO
  generalize (ns.take 63).map D.int = l at z2 ⊢
  simp [fn, start, sRet, sRetN, bS, eCB, bA, aCons, aNil, eSup, eCall, eVar, eC, frzs, R.frz, peeks, R.peek, Rv.r, retR, Own.d, eOp, eUn, bE, op2, op1, sSeq, sNil, sSet, put, sIf, bT, tE, tAnd, tOr, tNot, eAnd, eOr, eNot, eIf, eTup, eLst, sAsg, gTup, gsGo, gName, eCon, eSl, bO, oNone, oSome, eChain, tYes, sExpr, eFld, den__law_stream, body__law_stream, ↓z2]
end SoR
end

section
set_option maxRecDepth 100000
set_option maxHeartbeats 2000000
namespace SoR
open DL
def isLt (x : Int) : Prop := 0 ≤ x ∧ x < 1000000000
theorem mem_plcs {d : D} {i n : Nat} (h : d ∈ plcs i n) : ∃ j : Nat, d = .int j ∧ i ≤ j ∧ j < i + n := by
  unfold plcs at h
  obtain ⟨j, hj, e⟩ := List.mem_map.mp h
  have := List.mem_range'_1.mp hj
  exact ⟨j, e.symm, this.1, this.2⟩
def nr (s : Sl) : Prop := ∀ o, s ≠ .ref o
theorem nr_no : nr .no := fun o z => by cases z
theorem nr_frz (d : D) : nr (.frz d) := fun o z => by cases z
theorem nr_own (o : Own) : nr (.own o) := fun o z => by cases z
def fz (s : Sl) : Prop := s = .no ∨ ∃ d, s = .frz d
theorem fz_no : fz .no := .inl rfl
theorem fz_frz (d : D) : fz (.frz d) := .inr ⟨d, rfl⟩
theorem fz.nr {s : Sl} (h : fz s) : nr s := by
  rcases h with rfl | ⟨d, rfl⟩
  · exact nr_no
  · exact nr_frz d
theorem put_nr {ρ : DL.Env} {i : Nat} {s t : Sl} (h : ρ[i]? = some t) (hn : nr t) : put ρ i s = some (ρ.set i s) := by
  unfold put
  rw [h]
  cases t with
  | ref o => exact absurd rfl (hn o)
  | _ => rfl
def IsLs (L : Wd) : Prop := 1 ≤ L.length ∧ L.length ≤ 10 ∧ ∀ x ∈ L, isLt x
theorem el_letters_step (o : Own) (ho : IsSt o) (many : Int) (wide : Bool) (w : Wd) (j : Nat) (hj : j < 10) (hw : w.length < 1000000) (hl : ∀ x ∈ w, isLt x) (s5 : Sl) (h5 : nr s5) :
    ∃ o' x, lb__law_letters_1 [.ref o, .frz (.int many), .frz (.bl wide), .own (.lst (w.map .int)), .frz (.int j), s5] = some (.nx [.ref o', .frz (.int many), .frz (.bl wide), .own (.lst ((w ++ [x]).map .int)), .frz (.int j), .frz (.int x)]) ∧ IsSt o' ∧ isLt x := by
  have hln : ∀ l : List D, l = w.map .int → l.length < 1000000 := fun l e => by rw [e, List.length_map]; omega
  have p5 : ∀ (a b c d e s : Sl), put [a, b, c, d, e, s5] 5 s = some [a, b, c, d, e, s] := fun a b c d e s => put_nr (i := 5) (ρ := [a, b, c, d, e, s5]) rfl h5
  have P8 : ((10 : Int) ^ 8) = 100000000 := by decide
  cases wide with
  | false =>
    refine ⟨o, j, ?_, ho, by unfold isLt; omega⟩
    rw [List.map_append]
    have hl2 := hln _ rfl
    generalize w.map D.int = l at hl2 ⊢
    simp only [lb__law_letters_1, sSeq, sSet, bS, eVar, R.frz, p5, List.getElem?_cons_zero, List.getElem?_cons_succ]
    simp [fn, start, sRet, sRetN, bS, eCB, bA, aCons, aNil, eSup, eCall, eVar, eC, frzs, R.frz, peeks, R.peek, Rv.r, retR, Own.d, eOp, eUn, bE, op2, op1, sSeq, sNil, sSet, put, sIf, bT, tE, tAnd, tOr, tNot, eAnd, eOr, eNot, eIf, eTup, eLst, sAsg, gTup, gsGo, gName, eCon, eSl, bO, oNone, oSome, eChain, tYes, sExpr, eFld, sApp, own?, hl2, p5]
  | true =>
    by_cases h3 : j < 3
    · obtain ⟨x, o', e, i1, i2, i3⟩ := el_draw ho 100000000 (by decide) (by decide)
      refine ⟨o', 9 - (j : Int) + 10 * x, ?_, i1, by unfold isLt; omega⟩
      rw [List.map_append]
      have hl2 := hln _ rfl
      have h3' : (j : Int) < 3 := by omega
      generalize w.map D.int = l at hl2 ⊢
      simp only [lb__law_letters_1, sSeq, sSet, bS, eVar, R.frz, p5, List.getElem?_cons_zero, List.getElem?_cons_succ]
      simp [fn, start, sRet, sRetN, bS, eCB, bA, aCons, aNil, eSup, eCall, eVar, eC, frzs, R.frz, peeks, R.peek, Rv.r, retR, Own.d, eOp, eUn, bE, op2, op1, sSeq, sNil, sSet, put, sIf, bT, tE, tAnd, tOr, tNot, eAnd, eOr, eNot, eIf, eTup, eLst, sAsg, gTup, gsGo, gName, eCon, eSl, bO, oNone, oSome, eChain, tYes, sExpr, eFld, sApp, own?, hl2, opSub, opAdd, opMul, opPow, cLt, cI, h3', eCallM, left, e]
    · refine ⟨o, 9 - (j : Int), ?_, ho, by unfold isLt; omega⟩
      rw [List.map_append]
      have hl2 := hln _ rfl
      have h3' : ¬ (j : Int) < 3 := by omega
      generalize w.map D.int = l at hl2 ⊢
      simp only [lb__law_letters_1, sSeq, sSet, bS, eVar, R.frz, p5, List.getElem?_cons_zero, List.getElem?_cons_succ]
      simp [fn, start, sRet, sRetN, bS, eCB, bA, aCons, aNil, eSup, eCall, eVar, eC, frzs, R.frz, peeks, R.peek, Rv.r, retR, Own.d, eOp, eUn, bE, op2, op1, sSeq, sNil, sSet, put, sIf, bT, tE, tAnd, tOr, tNot, eAnd, eOr, eNot, eIf, eTup, eLst, sAsg, gTup, gsGo, gName, eCon, eSl, bO, oNone, oSome, eChain, tYes, sExpr, eFld, sApp, own?, hl2, opSub, opAdd, opMul, opPow, cLt, cI, h3']
theorem el_letters {o : Own} (h : IsSt o) : ∃ L o', den__law_letters o [] = some (.ret (.fre (.lst (L.map .int))), o') ∧ IsSt o' ∧ IsLs L := by
  obtain ⟨x1, o1, e1, i1, a1, b1, c1⟩ := el_pick h 10 (by decide)
  obtain ⟨x2, o2, e2, i2, a2, b2, c2⟩ := el_pick i1 10 (by decide)
  obtain ⟨n, hn, n1, n2⟩ : ∃ n : Nat, 1 + x1 = n ∧ 1 ≤ n ∧ n ≤ 10 := ⟨(1 + x1).toNat, by omega, by omega, by omega⟩
  have lp := forGo_inv (g := gName 4) (bd := lb__law_letters_1) (I := fun j ρ => ∃ o s4 s5 w, ρ = [.ref o, .frz (.int n), .frz (.bl (decide (7 < x2))), .own (.lst ((w : Wd).map .int)), s4, s5] ∧ IsSt o ∧ nr s4 ∧ nr s5 ∧ w.length = j ∧ ∀ x ∈ w, isLt x)
    (plcs 0 n) 0 [.ref o2, .frz (.int n), .frz (.bl (decide (7 < x2))), .own (.lst []), .no, .no] ⟨o2, .no, .no, [], rfl, i2, nr_no, nr_no, rfl, by simp⟩ (by
    rintro d hd j ρ hj ⟨o, s4, s5, w, rfl, ho, h4, h5, hw, hl⟩
    obtain ⟨i, rfl, _, hi⟩ := mem_plcs hd
    obtain ⟨o', x, e, ho', hx⟩ := el_letters_step o ho n (decide (7 < x2)) w i (by omega) (by simp [plcs] at hj; omega) hl s5 h5
    exact ⟨_, _, put_nr (i := 4) rfl h4, .inl e, o', _, _, w ++ [x], rfl, ho', nr_frz _, nr_frz _, by simp [hw], by
      intro y hy
      rcases List.mem_append.mp hy with z | z
      · exact hl y z
      · simp at z; subst z; exact hx⟩)
  obtain ⟨ρ', e3, o3, s4, s5, w, rfl, i3, _, _, hw, hl⟩ := lp
  have hlen : (plcs 0 n).length = n := by simp [plcs]
  rw [hlen] at hw
  refine ⟨w, o3, ?_, i3, by omega, by omega, hl⟩
  have hit : iRange (aCons (eVar 1) aNil) [.ref o2, .frz (.int n), .frz (.bl (decide (7 < x2))), .own (.lst []), .no, .no] = some (.ok (plcs 0 n) [.ref o2, .frz (.int n), .frz (.bl (decide (7 < x2))), .own (.lst []), .no, .no]) := by
    have q1 : (n : Int) ≤ 1000000000 := by omega
    have q2 : -1000000000 ≤ (n : Int) := by omega
    rw [← rangeD_plcs]
    simp [fn, start, sRet, sRetN, bS, eCB, bA, aCons, aNil, eSup, eCall, eVar, eC, frzs, R.frz, peeks, R.peek, Rv.r, retR, Own.d, eOp, eUn, bE, op2, op1, sSeq, sNil, sSet, put, sIf, bT, tE, tAnd, tOr, tNot, eAnd, eOr, eNot, eIf, eTup, eLst, sAsg, gTup, gsGo, gName, eCon, eSl, bO, oNone, oSome, eChain, tYes, sExpr, eFld, iRange, q1, q2]
  have hlp : lp__law_letters_1 [.ref o2, .frz (.int n), .frz (.bl (decide (7 < x2))), .own (.lst []), .no, .no] = some (.nx [.ref o3, .frz (.int n), .frz (.bl (decide (7 < x2))), .own (.lst (w.map .int)), s4, s5]) := by
    unfold lp__law_letters_1 sFor
    rw [hit]
    exact e3
  generalize w.map D.int = l at hlp ⊢
  simp [fn, start, sRet, sRetN, bS, eCB, bA, aCons, aNil, eSup, eCall, eVar, eC, frzs, R.frz, peeks, R.peek, Rv.r, retR, Own.d, eOp, eUn, bE, op2, op1, sSeq, sNil, sSet, put, sIf, bT, tE, tAnd, tOr, tNot, eAnd, eOr, eNot, eIf, eTup, eLst, sAsg, gTup, gsGo, gName, eCon, eSl, bO, oNone, oSome, eChain, tYes, sExpr, eFld, den__law_letters, fnM, body__law_letters, eCallM, left, e1, e2, opAdd, cGt, cI, hn, ↓hlp, DL.fin]
end SoR
end

section
set_option maxRecDepth 100000
set_option maxHeartbeats 2000000
namespace SoR
open DL
/-- a block or a late effect of the law's making -/
structure GE (k : Kd) (L : Wd) (e : Ef) : Prop where
  ne : NE k e
  mem : ∀ y ∈ e.2, y ∈ L
  ln : e.2.length ≤ 12
theorem ixS_tab {l : List D} {x : Int} (h1 : 0 ≤ x) (h2 : x < l.length) : ∃ d, d ∈ l ∧ ixS (.tup l) (.int x) = some (.val d) ∧ ixS (.lst l) (.int x) = some (.val d) := by
  obtain ⟨n, rfl⟩ : ∃ n : Nat, x = n := ⟨x.toNat, by omega⟩
  have h3 : n < l.length := by omega
  have e := ixD_in h3
  refine ⟨l[n], List.getElem_mem h3, ?_, ?_⟩
  · simp only [ixS, e, List.getElem?_eq_getElem h3]
  · simp only [ixS, e, List.getElem?_eq_getElem h3]
theorem lc_raw {o : Own} (ho : IsSt o) (L : Wd) (hL : IsLs L) (n : Nat) (hn : n ≤ 7) : ∃ (w : Wd) (o' : Own), lc__law_raw_1 [.ref o, .frz (.lst (L.map .int)), .frz (.int n), .no] = some (.ok (.fre (.lst (w.map .int))) [.ref o', .frz (.lst (L.map .int)), .frz (.int n), .no]) ∧ IsSt o' ∧ w.length = n ∧ ∀ y ∈ w, y ∈ L := by
  have hit : iRange (aCons (eVar 2) aNil) [.ref o, .frz (.lst (L.map .int)), .frz (.int n), .no] = some (.ok (plcs 0 n) [.ref o, .frz (.lst (L.map .int)), .frz (.int n), .no]) := by
    have q1 : (n : Int) ≤ 1000000000 := by omega
    have q2 : -1000000000 ≤ (n : Int) := by omega
    rw [← rangeD_plcs]
    generalize L.map D.int = l
    simp [fn, start, sRet, sRetN, bS, eCB, bA, aCons, aNil, eSup, eCall, eVar, eC, frzs, R.frz, peeks, R.peek, Rv.r, retR, Own.d, eOp, eUn, bE, op2, op1, sSeq, sNil, sSet, put, sIf, bT, tE, tAnd, tOr, tNot, eAnd, eOr, eNot, eIf, eTup, eLst, sAsg, gTup, gsGo, gName, eCon, eSl, bO, oNone, oSome, eChain, tYes, sExpr, eFld, iRange, q1, q2]
  have lenp : (plcs 0 n).length = n := by simp [plcs]
  obtain ⟨xs, ρ', e, e2, e3, o', ho', rfl⟩ := eLc_inv (it := iRange (aCons (eVar 2) aNil)) (g := gName 3) (el := eOp ixS (eVar 1) (eCallM den__law_pick (aCons (eVar 0) (aCons (eCB fLenS (aCons (eVar 1) aNil)) aNil)))) (vs := [3])
    (I := fun ρ => ∃ o, IsSt o ∧ ρ = [.ref o, .frz (.lst (L.map .int)), .frz (.int n), .no]) (Q := fun d => ∃ y ∈ L, d = .int y) hit (by rw [lenp]; omega) ⟨o, ho, rfl⟩ (by
      rintro d hd ρ ⟨o, ho, rfl⟩
      have hl : (L.map D.int).length = L.length := List.length_map ..
      obtain ⟨h1, h2, h3⟩ := hL
      obtain ⟨x, o1, ep, ho1, p1, p2, p3⟩ := el_pick ho (L.length : Int) (by omega)
      obtain ⟨y, hy, _, hx⟩ := ixS_tab (l := L.map D.int) p1 (by rw [hl]; exact p2)
      obtain ⟨y, hy2, rfl⟩ := List.mem_map.mp hy
      rw [← hl] at ep
      generalize L.map D.int = l at hx ep ⊢
      exact ⟨_, .val (.int y), [.ref o1, .frz (.lst l), .frz (.int n), .frz d], _, .int y, rfl, by simp [fn, start, sRet, sRetN, bS, eCB, bA, aCons, aNil, eSup, eCall, eVar, eC, frzs, R.frz, peeks, R.peek, Rv.r, retR, Own.d, eOp, eUn, bE, op2, op1, sSeq, sNil, sSet, put, sIf, bT, tE, tAnd, tOr, tNot, eAnd, eOr, eNot, eIf, eTup, eLst, sAsg, gTup, gsGo, gName, eCon, eSl, bO, oNone, oSome, eChain, tYes, sExpr, eFld, eCallM, left, fLenS, ep, hx], rfl, ⟨y, hy2, rfl⟩, o1, ho1, rfl⟩)
  have key : ∀ xs : List D, (∀ x ∈ xs, ∃ y ∈ L, x = .int y) → ∃ w : Wd, xs = w.map .int ∧ ∀ y ∈ w, y ∈ L := by
    intro xs
    induction xs with
    | nil => intro _; exact ⟨[], rfl, by simp⟩
    | cons d ds ih =>
      intro h
      obtain ⟨y, hy, rfl⟩ := h d List.mem_cons_self
      obtain ⟨w, rfl, hw⟩ := ih fun x hx => h x (List.mem_cons_of_mem _ hx)
      exact ⟨y :: w, rfl, fun z hz => by
        rcases List.mem_cons.mp hz with q | q
        · subst q; exact hy
        · exact hw z q⟩
  obtain ⟨w, rfl, hw⟩ := key xs e3
  exact ⟨w, o', e, ho', by rw [lenp, List.length_map] at e2; exact e2, hw⟩
theorem el_raw {o : Own} (ho : IsSt o) (L : Wd) (hL : IsLs L) : ∃ w o', den__law_raw o [.lst (L.map .int)] = some (.ret (.val (wD w)), o') ∧ IsSt o' ∧ w.length ≤ 7 ∧ ∀ y ∈ w, y ∈ L := by
  obtain ⟨x, o1, e1, ho1, p1, p2, p3⟩ := el_pick ho 10 (by decide)
  have key : ∃ n : Nat, n ≤ 7 ∧ ixS (.tup [.int 0, .int 1, .int 2, .int 3, .int 4, .int 5, .int 0, .int 1, .int 2, .int 7]) (.int x) = some (.val (.int n)) := by
    have : x = 0 ∨ x = 1 ∨ x = 2 ∨ x = 3 ∨ x = 4 ∨ x = 5 ∨ x = 6 ∨ x = 7 ∨ x = 8 ∨ x = 9 := by omega
    rcases this with z | z | z | z | z | z | z | z | z | z <;> subst z
    · exact ⟨0, by omega, rfl⟩
    · exact ⟨1, by omega, rfl⟩
    · exact ⟨2, by omega, rfl⟩
    · exact ⟨3, by omega, rfl⟩
    · exact ⟨4, by omega, rfl⟩
    · exact ⟨5, by omega, rfl⟩
    · exact ⟨0, by omega, rfl⟩
    · exact ⟨1, by omega, rfl⟩
    · exact ⟨2, by omega, rfl⟩
    · exact ⟨7, by omega, rfl⟩
  obtain ⟨n, hn, en⟩ := key
  obtain ⟨w, o2, e2, ho2, hw, hm⟩ := lc_raw ho1 L hL n hn
  refine ⟨w, o2, ?_, ho2, by omega, hm⟩
  unfold wD
  generalize L.map D.int = l at e2 ⊢
  generalize w.map D.int = wl at e2 ⊢
  simp [fn, start, sRet, sRetN, bS, eCB, bA, aCons, aNil, eSup, eCall, eVar, eC, frzs, R.frz, peeks, R.peek, Rv.r, retR, Own.d, eOp, eUn, bE, op2, op1, sSeq, sNil, sSet, put, sIf, bT, tE, tAnd, tOr, tNot, eAnd, eOr, eNot, eIf, eTup, eLst, sAsg, gTup, gsGo, gName, eCon, eSl, bO, oNone, oSome, eChain, tYes, sExpr, eFld, den__law_raw, fnM, body__law_raw, eCallM, left, e1, en, ↓e2, fTuple, DL.fin]
theorem setW_len {w M : Wd} (h : ∀ y ∈ w, y ∈ M) : (setW w).length ≤ M.length := (setW_nodup w).length_le_of_subset fun y hy => h y ((mem_setW w y).mp hy)
theorem few_of {w M : Wd} (h : ∀ y ∈ w, y ∈ M) (hM : M.length < 64) (hw : w.length ≤ 4000) : few w := ⟨hw, Nat.lt_of_le_of_lt (setW_len h) hM⟩
theorem el_some_word {o : Own} (ho : IsSt o) (k : Kd) (L : Wd) (hL : IsLs L) : ∃ w o', den__law_some_word o [.str k.nm, .lst (L.map .int)] = some (.ret (.val (wD w)), o') ∧ IsSt o' ∧ w.length ≤ 5 ∧ (∀ y ∈ w, y ∈ L) ∧ pl k w = w := by
  obtain ⟨w, o1, e1, ho1, hw, hm⟩ := el_raw ho L hL
  have hL2 := hL
  obtain ⟨h1, h2, h3⟩ := hL
  have c4 : cutD (w.map D.int) none (some 4) = (w.take 4).map .int := by rw [List.map_take]; exact cut_to (w.map .int) 4
  have q : D.eqv (wD (w.take 4)) (.tup []) = decide (w.take 4 = []) := eqv_nil _
  have dq := dat_wD (w.take 4) 59
  obtain ⟨a, L', rfl⟩ : ∃ a L', L = a :: L' := by
    cases L with
    | nil => simp at h1
    | cons a L' => exact ⟨a, L', rfl⟩
  have ix0 : ixS (.lst ((a :: L').map .int)) (.int 0) = some (.val (.int a)) := by
    have := ixL (a :: L') 0 (by simp)
    simpa using this
  by_cases hz : w.take 4 = []
  · have pw := el_plain k [a] (by simp) fun _ => few_of (M := a :: L') (by simp) (by omega) (by simp)
    refine ⟨pl k [a], o1, ?_, ho1, by have := pl_one_len k a; omega, fun y hy => by rw [pl_one_mem hy]; simp, pl_idem k _⟩
    have ea : wD [a] = .tup [.int a] := rfl
    rw [ea] at pw
    generalize (a :: L').map D.int = l at e1 ix0 ⊢
    generalize wD (pl k [a]) = res at pw ⊢
    simp only [hz, decide_true] at q dq
    have q2 : D.eqv (.tup ((w.take 4).map .int)) (.tup []) = true := by rw [hz]; rfl
    rw [hz] at c4
    simp only [wD, List.map_nil] at e1 q dq c4
    generalize w.map D.int = wl at e1 c4
    simp [fn, start, sRet, sRetN, bS, eCB, bA, aCons, aNil, eSup, eCall, eVar, eC, frzs, R.frz, peeks, R.peek, Rv.r, retR, Own.d, eOp, eUn, bE, op2, op1, sSeq, sNil, sSet, put, sIf, bT, tE, tAnd, tOr, tNot, eAnd, eOr, eNot, eIf, eTup, eLst, sAsg, gTup, gsGo, gName, eCon, eSl, bO, oNone, oSome, eChain, tYes, sExpr, eFld, den__law_some_word, fnM, body__law_some_word, eCallM, left, e1, slOp, c4, cEq, q, dq, ix0, pw, DL.fin]
  · have l4 : (w.take 4).length ≤ 4 := by rw [List.length_take]; omega
    have pw := el_plain k (w.take 4) (by omega) fun _ => few_of (M := a :: L') (fun y hy => hm y (List.mem_of_mem_take hy)) (by omega) (by omega)
    refine ⟨pl k (w.take 4), o1, ?_, ho1, by have := pl_len k (w.take 4); omega, fun y hy => hm y (List.mem_of_mem_take (pl_mem hy)), pl_idem k _⟩
    have q2 : D.eqv (wD (w.take 4)) (.tup []) = false := by rw [q]; exact decide_eq_false hz
    generalize wD (pl k (w.take 4)) = res at pw ⊢
    generalize (a :: L').map D.int = l at e1 ix0 ⊢
    clear q
    simp only [wD] at e1 q2 dq pw
    rw [← c4] at q2 dq pw
    generalize w.map D.int = wl at e1 c4 q2 dq pw
    have dn0 : D.dat (.tup []) 60 = true := rfl
    simp [fn, start, sRet, sRetN, bS, eCB, bA, aCons, aNil, eSup, eCall, eVar, eC, frzs, R.frz, peeks, R.peek, Rv.r, retR, Own.d, eOp, eUn, bE, op2, op1, sSeq, sNil, sSet, put, sIf, bT, tE, tAnd, tOr, tNot, eAnd, eOr, eNot, eIf, eTup, eLst, sAsg, gTup, gsGo, gName, eCon, eSl, bO, oNone, oSome, eChain, tYes, sExpr, eFld, den__law_some_word, fnM, body__law_some_word, eCallM, left, e1, slOp, cEq, q2, dq, dn0, ix0, pw, DL.fin]
end SoR
end

section
set_option maxRecDepth 100000
set_option maxHeartbeats 2000000
namespace SoR
open DL
theorem GE.nf {k : Kd} {L : Wd} {c : Bool} {w : Wd} (h1 : pl k w = w) (h2 : ∀ y ∈ w, y ∈ L) (h3 : w.length ≤ 12) : GE k L (nf k (c, w)) := by
  have e : (SoR.nf k (c, w)).2 = w := fm_snd _ _ _
  exact ⟨⟨nf_fm _ _ _, by rw [e]; exact h1⟩, by rw [e]; exact h2, by rw [e]; exact h3⟩
theorem el_late {o : Own} (ho : IsSt o) (k : Kd) (L : Wd) (hL : IsLs L) : ∃ (e : Ef) (o' : Own), den__law_late_effect o [.str k.nm, .lst (L.map .int)] = some (.ret (.val (fD e)), o') ∧ IsSt o' ∧ GE k L e := by
  obtain ⟨x, o1, e1, ho1, p1, p2, p3⟩ := el_pick ho 10 (by decide)
  obtain ⟨w, o2, e2, ho2, hw, hm, hp⟩ := el_some_word ho1 k L hL
  by_cases g : x = 0 ∨ 3 < x
  · have n := el_normal k (decide (x = 3) || decide (7 < x), w)
    refine ⟨nf k (decide (x = 3) || decide (7 < x), w), o2, ?_, ho2, GE.nf hp hm (by omega)⟩
    generalize fD (nf k (decide (x = 3) || decide (7 < x), w)) = res at n ⊢
    simp only [fD] at n
    generalize wD w = ww at n e2
    generalize L.map D.int = l at e2 ⊢
    rcases g with g | g
    · subst g
      have n2 : den__law_normal [.str k.nm, .tup [.bl false, ww]] = some (.ret (.val res)) := n
      simp [fn, start, sRet, sRetN, bS, eCB, bA, aCons, aNil, eSup, eCall, eVar, eC, frzs, R.frz, peeks, R.peek, Rv.r, retR, Own.d, eOp, eUn, bE, op2, op1, sSeq, sNil, sSet, put, sIf, bT, tE, tAnd, tOr, tNot, eAnd, eOr, eNot, eIf, eTup, eLst, sAsg, gTup, gsGo, gName, eCon, eSl, bO, oNone, oSome, eChain, tYes, sExpr, eFld, den__law_late_effect, fnM, body__law_late_effect, eCallM, left, e1, e2, cEq, cGt, cI, D.dat, D.eqv, n2, DL.fin]
    · have g0 : ¬ x = 0 := by omega
      have b0 : (x == 0) = false := by rw [beq_eq_false_iff_ne]; omega
      have g3 : ¬ x = 3 := by omega
      have b3 : (x == 3) = false := by rw [beq_eq_false_iff_ne]; omega
      by_cases g7 : 7 < x
      · simp [g3, g7] at n
        simp [fn, start, sRet, sRetN, bS, eCB, bA, aCons, aNil, eSup, eCall, eVar, eC, frzs, R.frz, peeks, R.peek, Rv.r, retR, Own.d, eOp, eUn, bE, op2, op1, sSeq, sNil, sSet, put, sIf, bT, tE, tAnd, tOr, tNot, eAnd, eOr, eNot, eIf, eTup, eLst, sAsg, gTup, gsGo, gName, eCon, eSl, bO, oNone, oSome, eChain, tYes, sExpr, eFld, den__law_late_effect, fnM, body__law_late_effect, eCallM, left, e1, e2, cEq, cGt, cI, D.dat, D.eqv, g, g0, b0, g3, b3, g7, n, DL.fin]
      · simp [g3, g7] at n
        simp [fn, start, sRet, sRetN, bS, eCB, bA, aCons, aNil, eSup, eCall, eVar, eC, frzs, R.frz, peeks, R.peek, Rv.r, retR, Own.d, eOp, eUn, bE, op2, op1, sSeq, sNil, sSet, put, sIf, bT, tE, tAnd, tOr, tNot, eAnd, eOr, eNot, eIf, eTup, eLst, sAsg, gTup, gsGo, gName, eCon, eSl, bO, oNone, oSome, eChain, tYes, sExpr, eFld, den__law_late_effect, fnM, body__law_late_effect, eCallM, left, e1, e2, cEq, cGt, cI, D.dat, D.eqv, g, g0, b0, g3, b3, g7, n, DL.fin]
  · have g0 : ¬ x = 0 := fun z => g (.inl z)
    have b0 : (x == 0) = false := by rw [beq_eq_false_iff_ne]; omega
    have g1 : ¬ 3 < x := fun z => g (.inr z)
    have g7 : ¬ 7 < x := by omega
    have n := el_normal k (decide (x = 3), [])
    refine ⟨nf k (decide (x = 3), []), o1, ?_, ho1, GE.nf (pl_nil k) (by simp) (by simp)⟩
    generalize fD (nf k (decide (x = 3), [])) = res at n ⊢
    simp only [fD, wD, List.map_nil] at n
    generalize L.map D.int = l
    by_cases g3 : x = 3
    · simp [g3] at n
      subst g3
      simp [fn, start, sRet, sRetN, bS, eCB, bA, aCons, aNil, eSup, eCall, eVar, eC, frzs, R.frz, peeks, R.peek, Rv.r, retR, Own.d, eOp, eUn, bE, op2, op1, sSeq, sNil, sSet, put, sIf, bT, tE, tAnd, tOr, tNot, eAnd, eOr, eNot, eIf, eTup, eLst, sAsg, gTup, gsGo, gName, eCon, eSl, bO, oNone, oSome, eChain, tYes, sExpr, eFld, den__law_late_effect, fnM, body__law_late_effect, eCallM, left, e1, e2, cEq, cGt, cI, D.dat, D.eqv, n, DL.fin]
    · simp [g3] at n
      have b3 : (x == 3) = false := by rw [beq_eq_false_iff_ne]; omega
      simp [fn, start, sRet, sRetN, bS, eCB, bA, aCons, aNil, eSup, eCall, eVar, eC, frzs, R.frz, peeks, R.peek, Rv.r, retR, Own.d, eOp, eUn, bE, op2, op1, sSeq, sNil, sSet, put, sIf, bT, tE, tAnd, tOr, tNot, eAnd, eOr, eNot, eIf, eTup, eLst, sAsg, gTup, gsGo, gName, eCon, eSl, bO, oNone, oSome, eChain, tYes, sExpr, eFld, den__law_late_effect, fnM, body__law_late_effect, eCallM, left, e1, e2, cEq, cGt, cI, D.dat, D.eqv, g0, b0, g1, g3, b3, g7, n, DL.fin]
end SoR
end

section
set_option maxRecDepth 100000
set_option maxHeartbeats 2000000
namespace SoR
open DL
theorem put_z {t s : Sl} {ρ : DL.Env} (h : nr t) : put (t :: ρ) 0 s = some (s :: ρ) := put_nr (ρ := t :: ρ) (i := 0) rfl h
theorem put_s {t s : Sl} {ρ : DL.Env} {i : Nat} : put (t :: ρ) (i + 1) s = match put ρ i s with | some ρ1 => some (t :: ρ1) | none => none := by
  unfold put
  rw [List.getElem?_cons_succ]
  cases ρ[i]? with
  | none => rfl
  | some x => cases x <;> rfl
def hw (bs : List Ef) : Wd := (bs.map (·.2)).flatten
theorem hw_cons (b : Ef) (bs : List Ef) : hw (b :: bs) = b.2 ++ hw bs := rfl
theorem hw_len (bs : List Ef) : (hw bs).length ≤ sz bs := by
  induction bs with
  | nil => simp [hw, sz]
  | cons b bs ih => rw [hw_cons, List.length_append]; have : sz (b :: bs) = b.2.length + 2 + sz bs := by simp [sz]
                    omega
theorem hw_mem (bs : List Ef) (y : Int) : decide (y ∈ hw bs) = inAny y (bs.map (·.2)) := by
  cases h : inAny y (bs.map (·.2)) with
  | true => exact decide_eq_true ((inAny_iff _ _).mp h)
  | false => exact decide_eq_false fun z => by rw [(inAny_iff _ _).mpr z] at h; cases h
theorem hw_ne (bs : List Ef) : decide (0 < (hw bs).length) = (bs.map (·.2)).any fun w => !w.isEmpty := by
  induction bs with
  | nil => rfl
  | cons b bs ih =>
    rw [List.map_cons, List.any_cons, ← ih, hw_cons]
    cases hb : b.2 with
    | nil => simp
    | cons x w => simp
theorem ix1_fD (e : Ef) : ixS (fD e) (.int 1) = some (.val (wD e.2)) := by simp [fD, ixS, ixD]
theorem ix0_fD (e : Ef) : ixS (fD e) (.int 0) = some (.val (.bl e.1)) := by simp [fD, ixS, ixD]
theorem hid_loop (a b c d e f g j : Sl) : ∀ (post : List Ef) (acc : Wd) (s8 : Sl), fz s8 → acc.length + sz post ≤ 100000 → ∃ t8, fz t8 ∧ forGo (gName 8) lb__law_bare_1 (post.map fD) [a, b, c, d, e, f, g, .own (.lst (acc.map .int)), s8, j] =
    some (.nx [a, b, c, d, e, f, g, .own (.lst ((acc ++ hw post).map .int)), t8, j])
  | [], acc, s8, h8, _ => ⟨s8, h8, by simp [forGo, hw]⟩
  | p :: post, acc, s8, h8, hl => by
    have e1 : sz (p :: post) = p.2.length + 2 + sz post := by simp [sz]
    obtain ⟨t8, h8', ih⟩ := hid_loop a b c d e f g j post (acc ++ p.2) (.frz (fD p)) (fz_frz _) (by rw [List.length_append]; omega)
    refine ⟨t8, h8', ?_⟩
    rw [List.map_cons, forGo]
    have hg : gName 8 (fD p) [a, b, c, d, e, f, g, .own (.lst (acc.map .int)), s8, j] = some [a, b, c, d, e, f, g, .own (.lst (acc.map .int)), .frz (fD p), j] := put_nr (i := 8) rfl h8.nr
    rw [hg]
    dsimp only
    have st : lb__law_bare_1 [a, b, c, d, e, f, g, .own (.lst (acc.map .int)), .frz (fD p), j] = some (.nx [a, b, c, d, e, f, g, .own (.lst ((acc ++ p.2).map .int)), .frz (fD p), j]) := by
      have x1 := ix1_fD p
      have hm : (acc.map D.int).length + (p.2.map D.int).length ≤ 1000000 := by rw [List.length_map, List.length_map]; omega
      rw [List.map_append]
      generalize fD p = dp at x1 ⊢
      unfold wD at x1
      generalize acc.map D.int = la at hm ⊢
      generalize p.2.map D.int = lp at x1 hm ⊢
      simp [fn, start, sRet, sRetN, bS, eCB, bA, aCons, aNil, eSup, eCall, eVar, eC, frzs, R.frz, peeks, R.peek, Rv.r, retR, Own.d, eOp, eUn, bE, op2, op1, sSeq, sNil, sSet, put, sIf, bT, tE, tAnd, tOr, tNot, eAnd, eOr, eNot, eIf, eTup, eLst, sAsg, gTup, gsGo, gName, eCon, eSl, bO, oNone, oSome, eChain, tYes, sExpr, eFld, lb__law_bare_1, x1, fList, opAdd, hm]
    rw [st]
    dsimp only
    rw [hw_cons, ← List.append_assoc]
    exact ih
theorem bare_lp1' (a b c d e f j s8 : Sl) (h8 : fz s8) (post : List Ef) (hl : sz post ≤ 100000) : ∃ t8, fz t8 ∧ lp__law_bare_1 [a, b, c, d, e, f, .own (.lst (post.map fD)), .own (.lst []), s8, j] =
    some (.nx [a, b, c, d, e, f, .frz (.lst (post.map fD)), .own (.lst ((hw post).map .int)), t8, j]) := by
  obtain ⟨t8, h8, eq⟩ := hid_loop a b c d e f (.frz (.lst (post.map fD))) j post [] s8 h8 (by simpa using hl)
  refine ⟨t8, h8, ?_⟩
  have hit : iSeq (eVar 6) [a, b, c, d, e, f, .own (.lst (post.map fD)), .own (.lst []), s8, j] = some (.ok (post.map fD) [a, b, c, d, e, f, .frz (.lst (post.map fD)), .own (.lst []), s8, j]) := rfl
  unfold lp__law_bare_1 sFor
  rw [hit]
  exact eq
theorem bare_lc1 (a b c d e f h j : Sl) (s8 : Sl) (h8 : fz s8) (post : List Ef) (hl : post.length ≤ 1000000) : lc__law_bare_1 [a, b, c, d, e, f, .frz (.lst (post.map fD)), h, s8, j] =
    some (.ok (.fre (.lst (post.map fun e => .bl e.1))) [a, b, c, d, e, f, .frz (.lst (post.map fD)), h, s8, j]) := by
  have z := eLc_all (it := iSeq (eVar 6)) (g := gName 8) (el := eOp ixS (eVar 8) (eC (.int 0))) (vs := [8]) (toD := fD) (f := fun e => .bl e.1) (ρ := [a, b, c, d, e, f, .frz (.lst (post.map fD)), h, s8, j]) [a, b, c, d, e, f, .frz (.lst (post.map fD)), h, .no, j] post
    (ρ1 := [a, b, c, d, e, f, .frz (.lst (post.map fD)), h, s8, j]) rfl hl rfl
    (fun x hx => by
      have x0 := ix0_fD x
      generalize post.map fD = pp
      generalize fD x = dx at x0 ⊢
      exact ⟨_, .val (.bl x.1), [a, b, c, d, e, f, .frz (.lst pp), h, .frz dx, j], _, rfl, by simp [fn, start, sRet, sRetN, bS, eCB, bA, aCons, aNil, eSup, eCall, eVar, eC, frzs, R.frz, peeks, R.peek, Rv.r, retR, Own.d, eOp, eUn, bE, op2, op1, sSeq, sNil, sSet, put, sIf, bT, tE, tAnd, tOr, tNot, eAnd, eOr, eNot, eIf, eTup, eLst, sAsg, gTup, gsGo, gName, eCon, eSl, bO, oNone, oSome, eChain, tYes, sExpr, eFld, x0], rfl, rfl⟩)
  have z2 : lc__law_bare_1 [a, b, c, d, e, f, .frz (.lst (post.map fD)), h, s8, j] = some (.ok (.fre (.lst (post.map fun e => .bl e.1))) (backE [a, b, c, d, e, f, .frz (.lst (post.map fD)), h, s8, j] [a, b, c, d, e, f, .frz (.lst (post.map fD)), h, s8, j] [8])) := z
  rw [z2]
  rcases h8 with rfl | ⟨d8, rfl⟩ <;> rfl
theorem bare_lc2 (a b c d e g s8 : Sl) (w v : Wd) (s9 : Sl) (h9 : fz s9) (hl : w.length ≤ 1000000) : lc__law_bare_2 [a, b, c, d, e, .frz (wD w), g, .own (.lst (v.map .int)), s8, s9] =
    some (.ok (.fre (.lst ((w.filter fun y => !decide (y ∈ v)).map .int))) [a, b, c, d, e, .frz (wD w), g, .own (.lst (v.map .int)), s8, s9]) := by
  have z := eLc_map (it := iSeq (eVar 5)) (g := gName 9) (tt := tE (eOp cNotIn (eVar 9) (eVar 7))) (el := eVar 9) (vs := [9]) (toD := .int) (f := .int) (p := fun y => !decide (y ∈ v)) (ρ := [a, b, c, d, e, .frz (wD w), g, .own (.lst (v.map .int)), s8, s9]) [a, b, c, d, e, .frz (wD w), g, .own (.lst (v.map .int)), s8, .no] w
    (ρ1 := [a, b, c, d, e, .frz (wD w), g, .own (.lst (v.map .int)), s8, s9]) rfl hl rfl
    (fun y hy => by
      have n := cNotIn_ints y v
      generalize v.map D.int = vv at n ⊢
      generalize wD w = ww
      refine ⟨[a, b, c, d, e, .frz ww, g, .own (.lst vv), s8, .frz (.int y)], [a, b, c, d, e, .frz ww, g, .own (.lst vv), s8, .frz (.int y)], rfl, by simp [fn, start, sRet, sRetN, bS, eCB, bA, aCons, aNil, eSup, eCall, eVar, eC, frzs, R.frz, peeks, R.peek, Rv.r, retR, Own.d, eOp, eUn, bE, op2, op1, sSeq, sNil, sSet, put, sIf, bT, tE, tAnd, tOr, tNot, eAnd, eOr, eNot, eIf, eTup, eLst, sAsg, gTup, gsGo, gName, eCon, eSl, bO, oNone, oSome, eChain, tYes, sExpr, eFld, n], fun _ => ⟨.val (.int y), [a, b, c, d, e, .frz ww, g, .own (.lst vv), s8, .frz (.int y)], [a, b, c, d, e, .frz ww, g, .own (.lst vv), s8, .frz (.int y)], by simp [fn, start, sRet, sRetN, bS, eCB, bA, aCons, aNil, eSup, eCall, eVar, eC, frzs, R.frz, peeks, R.peek, Rv.r, retR, Own.d, eOp, eUn, bE, op2, op1, sSeq, sNil, sSet, put, sIf, bT, tE, tAnd, tOr, tNot, eAnd, eOr, eNot, eIf, eTup, eLst, sAsg, gTup, gsGo, gName, eCon, eSl, bO, oNone, oSome, eChain, tYes, sExpr, eFld], rfl, rfl⟩, fun _ => rfl⟩)
  have z2 : lc__law_bare_2 [a, b, c, d, e, .frz (wD w), g, .own (.lst (v.map .int)), s8, s9] = some (.ok (.fre (.lst ((w.filter fun y => !decide (y ∈ v)).map .int))) (backE [a, b, c, d, e, .frz (wD w), g, .own (.lst (v.map .int)), s8, s9] [a, b, c, d, e, .frz (wD w), g, .own (.lst (v.map .int)), s8, s9] [9])) := z
  rw [z2]
  rcases h9 with rfl | ⟨d9, rfl⟩ <;> rfl
theorem len_map_fD (es : List Ef) : (es.map fD).length = es.length := List.length_map ..
theorem bw_word (k : Kd) (w : Wd) (bs : List Ef) : bw k w (bs.map (·.2)) = if k = .set ∨ k = .tails then w.filter (fun y => !decide (y ∈ hw bs)) else if k = .ends ∧ 0 < (hw bs).length then w.take 1 ++ w.take 1 else w := by
  unfold bw
  have h := hw_ne bs
  by_cases hk : k = .set ∨ k = .tails
  · rw [if_pos hk, if_pos hk]
    apply List.filter_congr
    intro y _
    rw [hw_mem]
  · rw [if_neg hk, if_neg hk]
    by_cases q : 0 < (hw bs).length
    · simp only [q, decide_true] at h
      simp only [← h, q, and_true]
    · simp only [q, decide_false] at h
      simp only [← h, q, and_false, Bool.false_eq_true]
theorem drop_at {α : Type} (a : α) (post : List α) : ∀ pre : List α, (pre ++ a :: post).drop (pre.length + 1) = post
  | [] => rfl
  | _ :: pre => drop_at a post pre
theorem sl_at (pre post : List Ef) (e : Ef) : slOp (.lst ((pre ++ e :: post).map fD)) (some ((pre.length : Int) + 1)) none = some (.fre (.lst (post.map fD))) := by
  have c := cut_from ((pre ++ e :: post).map fD) pre.length
  rw [← List.map_drop, drop_at] at c
  simp only [slOp]
  rw [c]
theorem ix_lst (pre post : List Ef) (e : Ef) : ixS (.lst ((pre ++ e :: post).map fD)) (.int pre.length) = some (.val (fD e)) := by
  have x := ix_at false (pre.map fD) (post.map fD) (fD e)
  rw [len_map_fD] at x
  rw [List.map_append, List.map_cons]
  exact x
theorem set_eq (k : Kd) : D.eqv (.str k.nm) (.str "set") = decide (k = .set) := by cases k <;> rfl
theorem tails_eq (k : Kd) : D.eqv (.str k.nm) (.str "tails") = decide (k = .tails) := by cases k <;> rfl
theorem ends_eq (k : Kd) : D.eqv (.str k.nm) (.str "ends") = decide (k = .ends) := by cases k <;> rfl
theorem dat_str (s : String) (n : Nat) : D.dat (.str s) n = true := rfl
theorem lbare_step (k : Kd) (pre post : List Ef) (e : Ef) (acc : List D) (ha : acc.length < 1000000) (hl : sz (pre ++ e :: post) ≤ 90000) (hn : (pre ++ e :: post).length ≤ 90000)
    (s4 s5 s6 s7 s8 s9 : Sl) (h4 : fz s4) (h5 : fz s5) (h6 : fz s6) (h7 : nr s7) (h8 : fz s8) (h9 : fz s9) :
    ∃ t4 t5 t6 t7 t8 t9, lb__law_bare_2 [.frz (.str k.nm), .frz (.lst ((pre ++ e :: post).map fD)), .own (.lst acc), .frz (.int pre.length), s4, s5, s6, s7, s8, s9] =
      some (.nx [.frz (.str k.nm), .frz (.lst ((pre ++ e :: post).map fD)), .own (.lst (acc ++ [fD (be k e post)])), .frz (.int pre.length), t4, t5, t6, t7, t8, t9]) ∧ fz t4 ∧ fz t5 ∧ fz t6 ∧ nr t7 ∧ fz t8 ∧ fz t9 := by
  have esz := sz_app pre (e :: post)
  have esz2 : sz (e :: post) = e.2.length + 2 + sz post := by simp [sz]
  have eln : (pre ++ e :: post).length = pre.length + post.length + 1 := by simp; omega
  obtain ⟨t8, h8', lp⟩ := bare_lp1' (.frz (.str k.nm)) (.frz (.lst ((pre ++ e :: post).map fD))) (.own (.lst acc)) (.frz (.int pre.length)) (.frz (.bl e.1)) (.frz (wD e.2)) s9 s8 h8 post (by omega)
  have l1 := bare_lc1 (.frz (.str k.nm)) (.frz (.lst ((pre ++ e :: post).map fD))) (.own (.lst acc)) (.frz (.int pre.length)) (.frz (.bl e.1)) (.frz (wD e.2)) (.own (.lst ((hw post).map .int))) s9 t8 h8' post (by omega)
  have l2 := bare_lc2 (.frz (.str k.nm)) (.frz (.lst ((pre ++ e :: post).map fD))) (.own (.lst acc)) (.frz (.int pre.length)) (.frz (.bl e.1)) (.frz (.lst (post.map fD))) t8 e.2 (hw post) s9 h9 (by omega)
  have x := ix_lst pre post e
  have sl := sl_at pre post e
  have any1 := fAny_map (fun e : Ef => e.1) post
  have eb : fD (be k e post) = if post.any (·.1) = true then .tup [.bl false, .tup []] else .tup [.bl e.1, wD (bw k e.2 (post.map (·.2)))] := by
    unfold be
    split <;> rfl
  rw [eb, bw_word]
  have cut1 := cut_one e.2
  have hlen : ((hw post).map D.int).length = (hw post).length := List.length_map ..
  have htk : ((e.2.take 1).map D.int).length + ((e.2.take 1).map D.int).length ≤ 1000000 := by rw [List.length_map, List.length_take]; omega
  generalize (pre ++ e :: post).map fD = row at lp l1 l2 x sl ⊢
  simp only [fD] at x
  generalize post.map fD = pp at lp l1 l2 sl
  generalize (post.map fun e => D.bl e.1) = bs at l1 any1
  by_cases hc : post.any (·.1) = true
  · rw [if_pos hc]
    rw [hc] at any1
    generalize (hw post).map D.int = hh at lp l1
    generalize wD e.2 = ww at x lp l1
    exact ⟨.frz (.bl false), .frz (.tup []), .frz (.lst pp), .own (.lst hh), t8, s9, by simp [fn, start, sRet, sRetN, bS, eCB, bA, aCons, aNil, eSup, eCall, eVar, eC, frzs, R.frz, peeks, R.peek, Rv.r, retR, Own.d, eOp, eUn, bE, op2, op1, sSeq, sNil, sSet, put_z, put_s, nr_no, nr_frz, nr_own, sIf, bT, tE, tAnd, tOr, tNot, eAnd, eOr, eNot, eIf, eTup, eLst, sAsg, gTup, gsGo, gName, eCon, eSl, bO, oNone, oSome, eChain, tYes, sExpr, eFld, lb__law_bare_2, x, sl, ↓lp, ↓l1, any1, opAdd, h4.nr, h5.nr, h6.nr, h7, h8.nr, h9.nr, sApp, own?, ha], fz_frz _, fz_frz _, fz_frz _, nr_own _, h8', h9⟩
  · rw [if_neg hc]
    have hc2 : post.any (·.1) = false := by simpa using hc
    rw [hc2] at any1
    have q1 := set_eq k
    have q2 := tails_eq k
    have q3 := ends_eq k
    by_cases hk : k = .set ∨ k = .tails
    · rw [if_pos hk]
      refine ⟨.frz (.bl e.1), .frz (wD (e.2.filter fun y => !decide (y ∈ hw post))), .frz (.lst pp), .own (.lst ((hw post).map .int)), t8, s9, ?_, fz_frz _, fz_frz _, fz_frz _, nr_own _, h8', h9⟩
      have er : wD (e.2.filter fun y => !decide (y ∈ hw post)) = .tup ((e.2.filter fun y => !decide (y ∈ hw post)).map .int) := rfl
      rw [er]
      generalize (e.2.filter fun y => !decide (y ∈ hw post)).map D.int = fl at l2 ⊢
      generalize (hw post).map D.int = hh at lp l1 l2 ⊢
      generalize wD e.2 = ww at x lp l1 l2
      rcases hk with rfl | rfl
      · simp only [reduceCtorEq, decide_true, decide_false] at q1 q2
        simp [fn, start, sRet, sRetN, bS, eCB, bA, aCons, aNil, eSup, eCall, eVar, eC, frzs, R.frz, peeks, R.peek, Rv.r, retR, Own.d, eOp, eUn, bE, op2, op1, sSeq, sNil, sSet, put_z, put_s, nr_no, nr_frz, nr_own, sIf, bT, tE, tAnd, tOr, tNot, eAnd, eOr, eNot, eIf, eTup, eLst, sAsg, gTup, gsGo, gName, eCon, eSl, bO, oNone, oSome, eChain, tYes, sExpr, eFld, lb__law_bare_2, x, sl, ↓lp, ↓l1, ↓l2, any1, opAdd, h4.nr, h5.nr, h6.nr, h7, h8.nr, h9.nr, sApp, own?, ha, cEq, dat_str, q1, q2, fTuple]
      · simp only [reduceCtorEq, decide_true, decide_false] at q1 q2
        simp [fn, start, sRet, sRetN, bS, eCB, bA, aCons, aNil, eSup, eCall, eVar, eC, frzs, R.frz, peeks, R.peek, Rv.r, retR, Own.d, eOp, eUn, bE, op2, op1, sSeq, sNil, sSet, put_z, put_s, nr_no, nr_frz, nr_own, sIf, bT, tE, tAnd, tOr, tNot, eAnd, eOr, eNot, eIf, eTup, eLst, sAsg, gTup, gsGo, gName, eCon, eSl, bO, oNone, oSome, eChain, tYes, sExpr, eFld, lb__law_bare_2, x, sl, ↓lp, ↓l1, ↓l2, any1, opAdd, h4.nr, h5.nr, h6.nr, h7, h8.nr, h9.nr, sApp, own?, ha, cEq, dat_str, q1, q2, fTuple]
    · rw [if_neg hk]
      have g1 : D.eqv (.str k.nm) (.str "set") = false := by rw [q1]; exact decide_eq_false fun z => hk (.inl z)
      have g2 : D.eqv (.str k.nm) (.str "tails") = false := by rw [q2]; exact decide_eq_false fun z => hk (.inr z)
      by_cases he : k = .ends ∧ 0 < (hw post).length
      · rw [if_pos he]
        obtain ⟨e1, e2⟩ := he
        have g3 : D.eqv (.str k.nm) (.str "ends") = true := by rw [q3]; exact decide_eq_true e1
        rw [← hlen] at e2
        have e3 : (0 : Int) < ((hw post).map D.int).length := by omega
        refine ⟨.frz (.bl e.1), .frz (wD (e.2.take 1 ++ e.2.take 1)), .frz (.lst pp), .own (.lst ((hw post).map .int)), t8, s9, ?_, fz_frz _, fz_frz _, fz_frz _, nr_own _, h8', h9⟩
        have er : wD (e.2.take 1 ++ e.2.take 1) = .tup ((e.2.take 1).map .int ++ (e.2.take 1).map .int) := by unfold wD; rw [List.map_append]
        rw [er]
        generalize (e.2.take 1).map D.int = tk at htk cut1 ⊢
        generalize (hw post).map D.int = hh at lp l1 e2 e3 ⊢
        unfold wD at x lp l1
        generalize e.2.map D.int = ww at x lp l1 cut1
        have cs : slOp (.tup ww) none (some 1) = some (.val (.tup tk)) := by simp only [slOp, cut1]
        simp [fn, start, sRet, sRetN, bS, eCB, bA, aCons, aNil, eSup, eCall, eVar, eC, frzs, R.frz, peeks, R.peek, Rv.r, retR, Own.d, eOp, eUn, bE, op2, op1, sSeq, sNil, sSet, put_z, put_s, nr_no, nr_frz, nr_own, sIf, bT, tE, tAnd, tOr, tNot, eAnd, eOr, eNot, eIf, eTup, eLst, sAsg, gTup, gsGo, gName, eCon, eSl, bO, oNone, oSome, eChain, tYes, sExpr, eFld, lb__law_bare_2, x, sl, ↓lp, ↓l1, any1, opAdd, h4.nr, h5.nr, h6.nr, h7, h8.nr, h9.nr, sApp, own?, ha, cEq, dat_str, g1, g2, g3, cGt, cI, fLenS, e2, cs, htk]
      · rw [if_neg he]
        refine ⟨.frz (.bl e.1), .frz (wD e.2), .frz (.lst pp), .own (.lst ((hw post).map .int)), t8, s9, ?_, fz_frz _, fz_frz _, fz_frz _, nr_own _, h8', h9⟩
        by_cases e1 : k = .ends
        · have g3 : D.eqv (.str k.nm) (.str "ends") = true := by rw [q3]; exact decide_eq_true e1
          have e2 : ¬ 0 < ((hw post).map D.int).length := fun z => he ⟨e1, by rw [← hlen]; exact z⟩
          generalize (hw post).map D.int = hh at lp l1 e2 ⊢
          generalize wD e.2 = ww at x lp l1 ⊢
          simp [fn, start, sRet, sRetN, bS, eCB, bA, aCons, aNil, eSup, eCall, eVar, eC, frzs, R.frz, peeks, R.peek, Rv.r, retR, Own.d, eOp, eUn, bE, op2, op1, sSeq, sNil, sSet, put_z, put_s, nr_no, nr_frz, nr_own, sIf, bT, tE, tAnd, tOr, tNot, eAnd, eOr, eNot, eIf, eTup, eLst, sAsg, gTup, gsGo, gName, eCon, eSl, bO, oNone, oSome, eChain, tYes, sExpr, eFld, lb__law_bare_2, x, sl, ↓lp, ↓l1, any1, opAdd, h4.nr, h5.nr, h6.nr, h7, h8.nr, h9.nr, sApp, own?, ha, cEq, dat_str, g1, g2, g3, cGt, cI, fLenS, e2]
        · have g3 : D.eqv (.str k.nm) (.str "ends") = false := by rw [q3]; exact decide_eq_false e1
          generalize (hw post).map D.int = hh at lp l1 ⊢
          generalize wD e.2 = ww at x lp l1 ⊢
          simp [fn, start, sRet, sRetN, bS, eCB, bA, aCons, aNil, eSup, eCall, eVar, eC, frzs, R.frz, peeks, R.peek, Rv.r, retR, Own.d, eOp, eUn, bE, op2, op1, sSeq, sNil, sSet, put_z, put_s, nr_no, nr_frz, nr_own, sIf, bT, tE, tAnd, tOr, tNot, eAnd, eOr, eNot, eIf, eTup, eLst, sAsg, gTup, gsGo, gName, eCon, eSl, bO, oNone, oSome, eChain, tYes, sExpr, eFld, lb__law_bare_2, x, sl, ↓lp, ↓l1, any1, opAdd, h4.nr, h5.nr, h6.nr, h7, h8.nr, h9.nr, sApp, own?, ha, cEq, dat_str, g1, g2, g3, cGt, cI, fLenS]
end SoR
end

section
set_option maxRecDepth 100000
set_option maxHeartbeats 2000000
namespace SoR
open DL
theorem lbare_loop (k : Kd) (row : List Ef) (hz : sz row ≤ 90000) (hn : row.length ≤ 90000) : ∀ (post pre : List Ef) (acc : List D), row = pre ++ post → acc.length + post.length ≤ 90000 → ∀ (s3 s4 s5 s6 s7 s8 s9 : Sl), nr s3 → fz s4 → fz s5 → fz s6 → nr s7 → fz s8 → fz s9 →
    ∃ t3 t4 t5 t6 t7 t8 t9, forGo (gName 3) lb__law_bare_2 (plcs pre.length post.length) [.frz (.str k.nm), .frz (.lst (row.map fD)), .own (.lst acc), s3, s4, s5, s6, s7, s8, s9] =
      some (.nx [.frz (.str k.nm), .frz (.lst (row.map fD)), .own (.lst (acc ++ (bare k post).map fD)), t3, t4, t5, t6, t7, t8, t9])
  | [], pre, acc, hr, ha, s3, s4, s5, s6, s7, s8, s9, _, _, _, _, _, _, _ => ⟨s3, s4, s5, s6, s7, s8, s9, by simp [bare]; rfl⟩
  | e :: post, pre, acc, hr, ha, s3, s4, s5, s6, s7, s8, s9, h3, h4, h5, h6, h7, h8, h9 => by
    rw [List.length_cons] at ha
    obtain ⟨t4, t5, t6, t7, t8, t9, st, g4, g5, g6, g7, g8, g9⟩ := lbare_step k pre post e acc (by omega) (by rw [← hr]; exact hz) (by rw [← hr]; exact hn) s4 s5 s6 s7 s8 s9 h4 h5 h6 h7 h8 h9
    obtain ⟨u3, u4, u5, u6, u7, u8, u9, ih⟩ := lbare_loop k row hz hn post (pre ++ [e]) (acc ++ [fD (be k e post)]) (by rw [hr]; simp) (by simp; omega) (.frz (.int pre.length)) t4 t5 t6 t7 t8 t9 (nr_frz _) g4 g5 g6 g7 g8 g9
    refine ⟨u3, u4, u5, u6, u7, u8, u9, ?_⟩
    rw [List.length_cons, plcs_succ, forGo]
    have hg : gName 3 (.int pre.length) [.frz (.str k.nm), .frz (.lst (row.map fD)), .own (.lst acc), s3, s4, s5, s6, s7, s8, s9] = some [.frz (.str k.nm), .frz (.lst (row.map fD)), .own (.lst acc), .frz (.int pre.length), s4, s5, s6, s7, s8, s9] := put_nr (i := 3) rfl h3
    rw [hg]
    dsimp only
    rw [hr, st, ← hr]
    dsimp only
    rw [List.length_append, List.length_singleton] at ih
    rw [ih, bare, List.map_cons]
    simp
theorem el_bare (k : Kd) (row : List Ef) (hz : sz row ≤ 90000) (hn : row.length ≤ 90000) : den__law_bare [.str k.nm, .lst (row.map fD)] = some (.ret (.fre (.lst ((bare k row).map fD)))) := by
  obtain ⟨t3, t4, t5, t6, t7, t8, t9, e⟩ := lbare_loop k row hz hn row [] [] rfl (by simpa using hn) .no .no .no .no .no .no .no nr_no fz_no fz_no fz_no nr_no fz_no fz_no
  have hl : (row.map fD).length = row.length := List.length_map ..
  have hit : iRange (aCons (eCB fLenS (aCons (eVar 1) aNil)) aNil) [.frz (.str k.nm), .frz (.lst (row.map fD)), .own (.lst []), .no, .no, .no, .no, .no, .no, .no] = some (.ok (plcs 0 row.length) [.frz (.str k.nm), .frz (.lst (row.map fD)), .own (.lst []), .no, .no, .no, .no, .no, .no, .no]) := by
    rw [← hl] at hn ⊢
    generalize row.map fD = r at hn ⊢
    have q1 : ((r.length : Int)) ≤ 1000000000 := by omega
    have q2 : -1000000000 ≤ (r.length : Int) := by omega
    simp [fn, start, sRet, sRetN, bS, eCB, bA, aCons, aNil, eSup, eCall, eVar, eC, frzs, R.frz, peeks, R.peek, Rv.r, retR, Own.d, eOp, eUn, bE, op2, op1, sSeq, sNil, sSet, put, sIf, bT, tE, tAnd, tOr, tNot, eAnd, eOr, eNot, eIf, eTup, eLst, sAsg, gTup, gsGo, gName, eCon, eSl, bO, oNone, oSome, eChain, tYes, sExpr, eFld, iRange, fLenS, q1, q2, rangeD_plcs]
  have hlp : lp__law_bare_2 [.frz (.str k.nm), .frz (.lst (row.map fD)), .own (.lst []), .no, .no, .no, .no, .no, .no, .no] = some (.nx [.frz (.str k.nm), .frz (.lst (row.map fD)), .own (.lst ((bare k row).map fD)), t3, t4, t5, t6, t7, t8, t9]) := by
    unfold lp__law_bare_2 sFor
    rw [hit]
    exact e
  generalize row.map fD = r at hlp ⊢
  generalize (bare k row).map fD = r2 at hlp ⊢
  simp [fn, start, sRet, sRetN, bS, eCB, bA, aCons, aNil, eSup, eCall, eVar, eC, frzs, R.frz, peeks, R.peek, Rv.r, retR, Own.d, eOp, eUn, bE, op2, op1, sSeq, sNil, sSet, put, sIf, bT, tE, tAnd, tOr, tNot, eAnd, eOr, eNot, eIf, eTup, eLst, sAsg, gTup, gsGo, gName, eCon, eSl, bO, oNone, oSome, eChain, tYes, sExpr, eFld, den__law_bare, body__law_bare, ↓hlp]
/-! what a filled row makes of a state -/
theorem on_len (k : Kd) (e : Ef) (s : Wd) : (on k e s).length ≤ s.length + e.2.length + 1 := by
  unfold on
  split
  · omega
  · have := pl_len k (s ++ e.2)
    rw [List.length_append] at this
    exact this
theorem on_mem {k : Kd} {e : Ef} {s : Wd} {y : Int} (h : y ∈ on k e s) : y ∈ s ∨ y ∈ e.2 := by
  unfold on at h
  split at h
  · exact .inr h
  · exact List.mem_append.mp (pl_mem h)
theorem filled_step (k : Kd) (M : Wd) (hM : M.length < 64) (b0 : Ef) (p1 p2 l1 l2 : List Ef) (b l : Ef) (hp : p1.length = l1.length) (s : Wd) (s3 s5 : Sl) (hb : ∀ y ∈ b.2, y ∈ M) (hl : ∀ y ∈ l.2, y ∈ M) (hs : ∀ y ∈ s, y ∈ M) (hn : s.length + l.2.length + b.2.length + 2 ≤ 4000) :
    lb__law_filled_1 [.frz (.str k.nm), .frz (.lst ((b0 :: p1 ++ b :: p2).map fD)), .frz (.lst ((l1 ++ l :: l2).map fD)), s3, .frz (wD s), .frz (.int l1.length)] =
      some (.nx [.frz (.str k.nm), .frz (.lst ((b0 :: p1 ++ b :: p2).map fD)), .frz (.lst ((l1 ++ l :: l2).map fD)), s3, .frz (wD (on k b (on k l s))), .frz (.int l1.length)]) := by
  have x1 := ix_lst l1 l2 l
  have x2 := ix_lst (b0 :: p1) p2 b
  rw [List.length_cons, hp] at x2
  have c : ((l1.length + 1 : Nat) : Int) = (l1.length : Int) + 1 := by omega
  rw [c] at x2
  have o1 := el_on k l s (by omega) fun _ => few_of (M := M) (fun y hy => by
    rcases List.mem_append.mp hy with z | z
    · exact hs y z
    · exact hl y z) hM (by rw [List.length_append]; omega)
  have hl2 := on_len k l s
  have o2 := el_on k b (on k l s) (by omega) fun _ => few_of (M := M) (fun y hy => by
    rcases List.mem_append.mp hy with z | z
    · rcases on_mem z with z | z
      · exact hs y z
      · exact hl y z
    · exact hb y z) hM (by rw [List.length_append]; omega)
  generalize (b0 :: p1 ++ b :: p2).map fD = r1 at x2 ⊢
  generalize (l1 ++ l :: l2).map fD = r2 at x1 ⊢
  generalize wD (on k b (on k l s)) = w2 at o2 ⊢
  generalize wD (on k l s) = w1 at o1 o2
  generalize wD s = w0 at o1 ⊢
  generalize fD l = dl at x1 o1
  generalize fD b = db at x2 o2
  simp [fn, start, sRet, sRetN, bS, eCB, bA, aCons, aNil, eSup, eCall, eVar, eC, frzs, R.frz, peeks, R.peek, Rv.r, retR, Own.d, eOp, eUn, bE, op2, op1, sSeq, sNil, sSet, put, sIf, bT, tE, tAnd, tOr, tNot, eAnd, eOr, eNot, eIf, eTup, eLst, sAsg, gTup, gsGo, gName, eCon, eSl, bO, oNone, oSome, eChain, tYes, sExpr, eFld, lb__law_filled_1, x1, x2, o1, o2, opAdd]
theorem filled_loop (k : Kd) (M : Wd) (hM : M.length < 64) (b0 : Ef) (s3 : Sl) : ∀ (p2 l2 p1 l1 : List Ef) (s : Wd) (s5 : Sl), nr s5 → p1.length = l1.length → p2.length = l2.length → (∀ b ∈ p2, ∀ y ∈ b.2, y ∈ M) → (∀ b ∈ l2, ∀ y ∈ b.2, y ∈ M) → (∀ y ∈ s, y ∈ M) → s.length + sz p2 + sz l2 ≤ 4000 →
    ∃ t5, forGo (gName 5) lb__law_filled_1 (plcs l1.length l2.length) [.frz (.str k.nm), .frz (.lst ((b0 :: p1 ++ p2).map fD)), .frz (.lst ((l1 ++ l2).map fD)), s3, .frz (wD s), s5] =
      some (.nx [.frz (.str k.nm), .frz (.lst ((b0 :: p1 ++ p2).map fD)), .frz (.lst ((l1 ++ l2).map fD)), s3, .frz (wD (cg k p2 l2 s)), t5])
  | [], [], p1, l1, s, s5, _, _, _, _, _, _, _ => ⟨s5, rfl⟩
  | [], _ :: _, _, _, _, _, _, _, h, _, _, _, _ => by cases h
  | _ :: _, [], _, _, _, _, _, _, h, _, _, _, _ => by cases h
  | b :: p2, l :: l2, p1, l1, s, s5, h5, hp, hp2, hb, hl, hs, hn => by
    have e1 : sz (b :: p2) = b.2.length + 2 + sz p2 := by simp [sz]
    have e2 : sz (l :: l2) = l.2.length + 2 + sz l2 := by simp [sz]
    have st := filled_step k M hM b0 p1 p2 l1 l2 b l hp s s3 s5 (hb b List.mem_cons_self) (hl l List.mem_cons_self) hs (by omega)
    have n1 := on_len k l s
    have n2 := on_len k b (on k l s)
    obtain ⟨t5, ih⟩ := filled_loop k M hM b0 s3 p2 l2 (p1 ++ [b]) (l1 ++ [l]) (on k b (on k l s)) (.frz (.int l1.length)) (nr_frz _) (by simp [hp]) (by simpa using hp2) (fun x hx => hb x (List.mem_cons_of_mem _ hx)) (fun x hx => hl x (List.mem_cons_of_mem _ hx))
      (fun y hy => by
        rcases on_mem hy with z | z
        · rcases on_mem z with z | z
          · exact hs y z
          · exact hl l List.mem_cons_self y z
        · exact hb b List.mem_cons_self y z) (by omega)
    refine ⟨t5, ?_⟩
    rw [List.length_cons, plcs_succ, forGo]
    have hg : gName 5 (.int l1.length) [.frz (.str k.nm), .frz (.lst ((b0 :: p1 ++ b :: p2).map fD)), .frz (.lst ((l1 ++ l :: l2).map fD)), s3, .frz (wD s), s5] = some [.frz (.str k.nm), .frz (.lst ((b0 :: p1 ++ b :: p2).map fD)), .frz (.lst ((l1 ++ l :: l2).map fD)), s3, .frz (wD s), .frz (.int l1.length)] := put_nr (i := 5) rfl h5
    rw [hg]
    dsimp only
    rw [st]
    dsimp only
    have r1 : b0 :: (p1 ++ [b]) ++ p2 = b0 :: p1 ++ b :: p2 := by simp
    have r2 : l1 ++ [l] ++ l2 = l1 ++ l :: l2 := by simp
    rw [r1, r2, List.length_append, List.length_singleton] at ih
    rw [cg]
    exact ih
theorem el_filled (k : Kd) (M : Wd) (hM : M.length < 64) (xs ls : List Ef) (s : Wd) (hl : ls.length + 1 = xs.length) (hx : ∀ b ∈ xs, ∀ y ∈ b.2, y ∈ M) (hls : ∀ b ∈ ls, ∀ y ∈ b.2, y ∈ M) (hs : ∀ y ∈ s, y ∈ M) (hn : s.length + sz xs + sz ls ≤ 4000) :
    den__law_filled [.str k.nm, .lst (xs.map fD), .lst (ls.map fD), wD s] = some (.ret (.val (wD (ch k xs ls s)))) := by
  obtain ⟨b0, bs, rfl⟩ : ∃ b bs, xs = b :: bs := by
    cases xs with
    | nil => simp at hl
    | cons b bs => exact ⟨b, bs, rfl⟩
  have e1 : sz (b0 :: bs) = b0.2.length + 2 + sz bs := by simp [sz]
  have n1 := on_len k b0 s
  have o1 := el_on k b0 s (by omega) fun _ => few_of (M := M) (fun y hy => by
    rcases List.mem_append.mp hy with z | z
    · exact hs y z
    · exact hx b0 List.mem_cons_self y z) hM (by rw [List.length_append]; omega)
  obtain ⟨t5, lp⟩ := filled_loop k M hM b0 (.frz (wD s)) bs ls [] [] (on k b0 s) .no nr_no rfl (by simpa using hl.symm) (fun x hx2 => hx x (List.mem_cons_of_mem _ hx2)) hls (fun y hy => by
    rcases on_mem hy with z | z
    · exact hs y z
    · exact hx b0 List.mem_cons_self y z) (by omega)
  have hln : (ls.map fD).length = ls.length := List.length_map ..
  have hls2 : ls.length ≤ sz ls := by
    clear hl hls hn lp hln
    induction ls with
    | nil => simp
    | cons b bs ih => simp [sz] at ih ⊢; omega
  have x0 : ixS (.lst ((b0 :: bs).map fD)) (.int 0) = some (.val (fD b0)) := ix_lst [] bs b0
  have hit : iRange (aCons (eCB fLenS (aCons (eVar 2) aNil)) aNil) [.frz (.str k.nm), .frz (.lst ((b0 :: bs).map fD)), .frz (.lst (ls.map fD)), .frz (wD s), .frz (wD (on k b0 s)), .no] = some (.ok (plcs 0 ls.length) [.frz (.str k.nm), .frz (.lst ((b0 :: bs).map fD)), .frz (.lst (ls.map fD)), .frz (wD s), .frz (wD (on k b0 s)), .no]) := by
    rw [← hln] at hls2 ⊢
    generalize ls.map fD = r at hls2 ⊢
    generalize (b0 :: bs).map fD = r2
    have q1 : ((r.length : Int)) ≤ 1000000000 := by omega
    have q2 : -1000000000 ≤ (r.length : Int) := by omega
    simp [fn, start, sRet, sRetN, bS, eCB, bA, aCons, aNil, eSup, eCall, eVar, eC, frzs, R.frz, peeks, R.peek, Rv.r, retR, Own.d, eOp, eUn, bE, op2, op1, sSeq, sNil, sSet, put, sIf, bT, tE, tAnd, tOr, tNot, eAnd, eOr, eNot, eIf, eTup, eLst, sAsg, gTup, gsGo, gName, eCon, eSl, bO, oNone, oSome, eChain, tYes, sExpr, eFld, iRange, fLenS, q1, q2, rangeD_plcs]
  have hlp : lp__law_filled_1 [.frz (.str k.nm), .frz (.lst ((b0 :: bs).map fD)), .frz (.lst (ls.map fD)), .frz (wD s), .frz (wD (on k b0 s)), .no] = some (.nx [.frz (.str k.nm), .frz (.lst ((b0 :: bs).map fD)), .frz (.lst (ls.map fD)), .frz (wD s), .frz (wD (cg k bs ls (on k b0 s))), t5]) := by
    unfold lp__law_filled_1 sFor
    rw [hit]
    exact lp
  have er : ch k (b0 :: bs) ls s = cg k bs ls (on k b0 s) := rfl
  rw [er]
  generalize wD (cg k bs ls (on k b0 s)) = res at hlp ⊢
  generalize wD (on k b0 s) = w1 at hlp o1
  generalize wD s = w0 at hlp o1 ⊢
  generalize fD b0 = d0 at x0 o1
  generalize (b0 :: bs).map fD = r1 at hlp x0 ⊢
  generalize ls.map fD = r2 at hlp ⊢
  simp [fn, start, sRet, sRetN, bS, eCB, bA, aCons, aNil, eSup, eCall, eVar, eC, frzs, R.frz, peeks, R.peek, Rv.r, retR, Own.d, eOp, eUn, bE, op2, op1, sSeq, sNil, sSet, put, sIf, bT, tE, tAnd, tOr, tNot, eAnd, eOr, eNot, eIf, eTup, eLst, sAsg, gTup, gsGo, gName, eCon, eSl, bO, oNone, oSome, eChain, tYes, sExpr, eFld, den__law_filled, body__law_filled, x0, o1, ↓hlp]
end SoR
end

section
set_option maxRecDepth 100000
set_option maxHeartbeats 2000000
namespace SoR
open DL
theorem opAddInt (i j : Int) : opAdd (.int i) (.int j) = some (.val (.int (i + j))) := rfl
theorem nat_of {x : Int} {n : Nat} (h1 : 0 ≤ x) (h2 : x < n) : ∃ m : Nat, x = m ∧ m < n := ⟨x.toNat, by omega, by omega⟩
theorem GE_sz {k : Kd} {L : Wd} : ∀ {es : List Ef}, (∀ e ∈ es, GE k L e) → sz es ≤ 14 * es.length
  | [], _ => by simp [sz]
  | e :: es, h => by
    have h1 := (h e List.mem_cons_self).ln
    have h2 := GE_sz (es := es) fun x hx => h x (List.mem_cons_of_mem _ hx)
    have h3 : sz (e :: es) = e.2.length + 2 + sz es := by simp [sz]
    rw [List.length_cons]
    omega
theorem sz_two : ∀ (ls : List Ef), (∀ l ∈ ls, l.2.length ≤ 2) → sz ls ≤ 4 * ls.length
  | [], _ => by simp [sz]
  | l :: ls, h => by
    have h1 := h l List.mem_cons_self
    have h2 := sz_two ls fun x hx => h x (List.mem_cons_of_mem _ hx)
    have h3 : sz (l :: ls) = l.2.length + 2 + sz ls := by simp [sz]
    rw [List.length_cons]
    omega
theorem len_sz (xs : List Ef) : xs.length ≤ sz xs := by
  induction xs with
  | nil => simp
  | cons b bs ih => simp [sz] at ih ⊢; omega
theorem ixS_two (a b : D) : ixS (.tup [a, b]) (.int 1) = some (.val b) := rfl
theorem NE.okE {k : Kd} {e : Ef} (h : NE k e) (h1 : ∀ y ∈ e.2, isLt y) (h2 : e.2.length ≤ 100000) : OkE k e := ⟨h.pl, h1, h2⟩
theorem nf_map {k : Kd} {es : List Ef} (h : ∀ e ∈ es, NE k e) : es.map (nf k) = es := by
  induction es with
  | nil => rfl
  | cons e es ih => rw [List.map_cons, (h e List.mem_cons_self).nf, ih fun x hx => h x (List.mem_cons_of_mem _ hx)]
theorem all_fD {P : Ef → Prop} : ∀ {xs : List D}, (∀ x ∈ xs, ∃ e, P e ∧ x = fD e) → ∃ es : List Ef, xs = es.map fD ∧ ∀ e ∈ es, P e
  | [], _ => ⟨[], rfl, by simp⟩
  | x :: xs, h => by
    obtain ⟨e, he, rfl⟩ := h x List.mem_cons_self
    obtain ⟨es, rfl, hes⟩ := all_fD fun y hy => h y (List.mem_cons_of_mem _ hy)
    exact ⟨e :: es, rfl, fun y hy => by
      rcases List.mem_cons.mp hy with q | q
      · subst q; exact he
      · exact hes y q⟩
theorem slOne (r : List D) : slOp (.lst r) (some 1) none = some (.fre (.lst (r.drop 1))) := by
  have c := cut_from r 0
  simp only [slOp]
  have e : cutD r (some 1) none = r.drop 1 := by simpa using c
  rw [e]
theorem seq_nx {a b : DS} {ρ ρ1 : DL.Env} (h : a ρ = some (.nx ρ1)) : sSeq a b ρ = b ρ1 := by simp [sSeq, h]
theorem oP_none (o : Option (Wd × List Ef)) : cIsN (oP o) .non = some (.val (.bl o.isNone)) := by cases o <;> rfl
theorem full_parting (k : Kd) (a b : Bool) (xs ys : List Ef) (hx : ∀ e ∈ xs, NE k e ∧ OkE k e) (hy : ∀ e ∈ ys, NE k e ∧ OkE k e) (hl : xs.length = ys.length) (hn : 1 ≤ xs.length) (zx : sz xs ≤ 30000) (zy : sz ys ≤ 30000) :
    den_parting_blocks [.str k.nm, sq a (xs.map fD), sq b (ys.map fD)] = some (.ret (.val (oP (prt k xs ys)))) := by
  have lx := len_sz xs
  have h1 : ∀ e ∈ xs, NE k e := fun e he => (hx e he).1
  have h2 : ∀ e ∈ ys, NE k e := fun e he => (hy e he).1
  have p := e_parting_row k xs ys hn hl (by omega) (by omega) (by omega) (fun e he => by have := (hx e he).2.ln; omega) (fun e he => by have := (hy e he).2.ln; omega) (prt_asks h1 h2 hl hn (by omega) (by omega) (by omega))
  refine e_parting_blocks k a b xs ys (fun e he => (hx e he).2) (fun e he => (hy e he).2) hl (by omega) ?_
  rw [nf_map h1, nf_map h2]
  exact p
theorem sq_f (l : List D) : sq false l = .lst l := rfl
theorem sq_t (l : List D) : sq true l = .tup l := rfl
theorem GE.both {k : Kd} {L : Wd} (hL : IsLs L) {e : Ef} (he : GE k L e) : NE k e ∧ OkE k e := ⟨he.ne, he.ne.okE (fun y hy => hL.2.2 y (he.mem y hy)) (by have := he.ln; omega)⟩
theorem be_len {k : Kd} {b : Ef} {bs : List Ef} : (be k b bs).2.length ≤ b.2.length + 1 := by
  unfold be
  split
  · simp
  · simp only
    unfold bw
    split
    · have := List.length_filter_le (fun x => !inAny x (bs.map (·.2))) b.2; omega
    · split
      · simp; omega
      · omega
theorem bare_lens {k : Kd} {n : Nat} : ∀ {bs : List Ef}, (∀ b ∈ bs, b.2.length ≤ n) → ∀ e ∈ bare k bs, e.2.length ≤ n + 1
  | [], _, e, h => by cases h
  | b :: bs, hb, e, h => by
    rw [bare] at h
    rcases List.mem_cons.mp h with z | z
    · subst z
      have := hb b List.mem_cons_self
      exact Nat.le_trans be_len (by omega)
    · exact bare_lens (fun x hx => hb x (List.mem_cons_of_mem _ hx)) e z
theorem bare_mem {k : Kd} : ∀ {bs : List Ef} {L : Wd}, (∀ b ∈ bs, ∀ y ∈ b.2, y ∈ L) → ∀ e ∈ bare k bs, ∀ y ∈ e.2, y ∈ L
  | [], _, _, e, h => by cases h
  | b :: bs, L, hb, e, h => by
    rw [bare] at h
    rcases List.mem_cons.mp h with z | z
    · subst z
      exact fun y hy => hb b List.mem_cons_self y (be_mem hy)
    · exact bare_mem (fun x hx => hb x (List.mem_cons_of_mem _ hx)) e z
theorem eqvs_fD : ∀ v w : List Ef, D.eqvs (v.map fD) (w.map fD) = decide (v = w)
  | [], [] => rfl
  | [], _ :: _ => rfl
  | _ :: _, [] => rfl
  | x :: v, y :: w => by
    simp only [List.map_cons, D.eqvs, eqv_fD, eqvs_fD v w]
    by_cases h : x = y <;> by_cases h2 : v = w <;> simp [h, h2]
theorem eqv_row (v w : List Ef) : D.eqv (.lst (v.map fD)) (.lst (w.map fD)) = decide (v = w) := by simp [D.eqv, eqvs_fD]
theorem dat_row (v : List Ef) : D.dat (.lst (v.map fD)) 60 = true := by
  simp only [D.dat]
  exact dats_mem.mpr fun d hd => by
    obtain ⟨e, _, rfl⟩ := List.mem_map.mp hd
    exact dat_fD e 57
theorem step {a b : DS} {ρ : DL.Env} {r : Rv} (ρ1 : DL.Env) (h : a ρ = some (.nx ρ1)) (h2 : ∃ ρ', b ρ1 = some (.rt r ρ')) : ∃ ρ', sSeq a b ρ = some (.rt r ρ') := by
  obtain ⟨ρ', h2⟩ := h2
  exact ⟨ρ', by rw [seq_nx h, h2]⟩
theorem fn_rt {n p : Nat} {g : DS} {ds : List D} {r : Rv} (hp : ds.length = p) (h : ∃ ρ, g (start n ds) = some (.rt r ρ)) : fn n p g ds = some (.ret r) := by
  obtain ⟨ρ, h⟩ := h
  unfold fn
  rw [if_pos hp, h]
end SoR
end

section
set_option maxRecDepth 100000
set_option maxHeartbeats 2000000
namespace SoR
open DL
theorem e_bare_row (k : Kd) (b : Bool) (es : List Ef) (he : ∀ e ∈ es, OkE k e) (hl : es.length ≤ 100000) : den_bare_row [.str k.nm, sq b (es.map fD)] = some (.ret (.fre (.lst ((bare k (es.map (nf k))).map fD)))) := by
  have h1 := e_checked_row k b es he hl
  have h2 := e_bare_blocks k (es.map (nf k)) (by rw [List.length_map]; omega) (fun e h => by
    obtain ⟨e', h', q⟩ := List.mem_map.mp h
    subst q
    have := (he e' h').ln
    unfold nf fm
    split <;> (simp only; omega))
  generalize sq b (es.map fD) = rw at h1 ⊢
  generalize (es.map (nf k)).map fD = rr at h1 h2
  generalize (bare k (es.map (nf k))).map fD = rz at h2 ⊢
  simp [fn, start, sRet, sRetN, bS, eCB, bA, aCons, aNil, eSup, eCall, eVar, eC, frzs, R.frz, peeks, R.peek, Rv.r, retR, Own.d, eOp, eUn, bE, op2, op1, sSeq, sNil, sSet, put, sIf, bT, tE, tAnd, tOr, tNot, eAnd, eOr, eNot, eIf, eTup, eLst, sAsg, gTup, gsGo, gName, eCon, eSl, bO, oNone, oSome, eChain, tYes, sExpr, eFld, den_bare_row, body_bare_row, h1, h2]
theorem e_filled_effect (k : Kd) (a b : Bool) (e : Ef) (bs ls : List Ef) (ox : ∀ x ∈ e :: bs, OkE k x) (oy : ∀ x ∈ ls, OkE k x) (hs : (e :: bs).length ≤ 40000) (hs2 : ls.length ≤ 40000) (hz : (nf k e).2.length + sz (ls.map (nf k)) + sz (bs.map (nf k)) ≤ 100000) :
    den_filled_effect [.str k.nm, sq a ((e :: bs).map fD), sq b (ls.map fD)] = some (.ret (.val (fD (fill k (nf k e) (ls.map (nf k)) (bs.map (nf k)))))) := by
  have c1 := e_checked_row k a (e :: bs) ox (by omega)
  have c2 := e_checked_row k b ls oy (by omega)
  have f := e_filled_row k (nf k e) (bs.map (nf k)) (ls.map (nf k)) hz
  rw [← List.map_cons (f := nf k)] at f
  generalize fD (fill k (nf k e) (ls.map (nf k)) (bs.map (nf k))) = res at f ⊢
  generalize ((e :: bs).map (nf k)).map fD = r1 at c1 f
  generalize (ls.map (nf k)).map fD = r2 at c2 f
  generalize sq a ((e :: bs).map fD) = s1 at c1 ⊢
  generalize sq b (ls.map fD) = s2 at c2 ⊢
  simp [fn, start, sRet, sRetN, bS, eCB, bA, aCons, aNil, eSup, eCall, eVar, eC, frzs, R.frz, peeks, R.peek, Rv.r, retR, Own.d, eOp, eUn, bE, op2, op1, sSeq, sNil, sSet, put, sIf, bT, tE, tAnd, tOr, tNot, eAnd, eOr, eNot, eIf, eTup, eLst, sAsg, gTup, gsGo, gName, eCon, eSl, bO, oNone, oSome, eChain, tYes, sExpr, eFld, den_filled_effect, body_filled_effect, c1, c2, f]
theorem br_step {o : Own} (ho : IsSt o) (k : Kd) (L : Wd) (hL : IsLs L) (m : D) (es : List Ef) (hes : es.length < 1000000) (s5 s6 s7 : Sl) (h6 : fz s6) (h7 : fz s7) :
    ∃ (e : Ef) (o' : Own) (t6 t7 : Sl), lb__law_block_row_1 [.ref o, .frz (.str k.nm), .frz (.lst (L.map .int)), .frz m, .own (.lst (es.map fD)), s5, s6, s7] = some (.nx [.ref o', .frz (.str k.nm), .frz (.lst (L.map .int)), .frz m, .own (.lst ((es ++ [e]).map fD)), s5, t6, t7]) ∧ IsSt o' ∧ (GE k L e ∧ e.2.length ≤ 5) ∧ fz t6 ∧ fz t7 := by
  obtain ⟨x, o1, e1, ho1, p1, p2, p3⟩ := el_pick ho 10 (by decide)
  obtain ⟨w, o2, e2, ho2, hw, hm, hp⟩ := el_some_word ho1 k L hL
  have hln : (es.map fD).length < 1000000 := by rw [List.length_map]; exact hes
  by_cases g : x = 0 ∨ 3 < x
  · have n := el_normal k (decide (x = 2) || decide (x = 9), w)
    refine ⟨nf k (decide (x = 2) || decide (x = 9), w), o2, .frz (.int x), .frz (wD w), ?_, ho2, ⟨GE.nf hp hm (by omega), Nat.le_trans (Nat.le_of_eq (congrArg List.length (fm_snd k (decide (x = 2) || decide (x = 9)) w))) hw⟩, fz_frz _, fz_frz _⟩
    rw [List.map_append, List.map_singleton]
    generalize fD (nf k (decide (x = 2) || decide (x = 9), w)) = res at n ⊢
    simp only [fD] at n
    generalize wD w = ww at n e2 ⊢
    generalize L.map D.int = l at e2 ⊢
    generalize es.map fD = ee at hln ⊢
    rcases g with g | g
    · subst g
      have n2 : den__law_normal [.str k.nm, .tup [.bl false, ww]] = some (.ret (.val res)) := n
      rcases h6 with rfl | ⟨d6, rfl⟩ <;> rcases h7 with rfl | ⟨d7, rfl⟩ <;> simp [fn, start, sRet, sRetN, bS, eCB, bA, aCons, aNil, eSup, eCall, eVar, eC, frzs, R.frz, peeks, R.peek, Rv.r, retR, Own.d, eOp, eUn, bE, op2, op1, sSeq, sNil, sSet, put, sIf, bT, tE, tAnd, tOr, tNot, eAnd, eOr, eNot, eIf, eTup, eLst, sAsg, gTup, gsGo, gName, eCon, eSl, bO, oNone, oSome, eChain, tYes, sExpr, eFld, lb__law_block_row_1, eCallM, left, e1, e2, cEq, cGt, cI, D.dat, D.eqv, n2, sApp, own?, hln]
    · have g0 : ¬ x = 0 := by omega
      have b0 : (x == 0) = false := by rw [beq_eq_false_iff_ne]; omega
      have g3 : ¬ x = 2 := by omega
      have b3 : (x == 2) = false := by rw [beq_eq_false_iff_ne]; omega
      by_cases g7 : x = 9
      · subst g7
        simp at n
        rcases h6 with rfl | ⟨d6, rfl⟩ <;> rcases h7 with rfl | ⟨d7, rfl⟩ <;> simp [fn, start, sRet, sRetN, bS, eCB, bA, aCons, aNil, eSup, eCall, eVar, eC, frzs, R.frz, peeks, R.peek, Rv.r, retR, Own.d, eOp, eUn, bE, op2, op1, sSeq, sNil, sSet, put, sIf, bT, tE, tAnd, tOr, tNot, eAnd, eOr, eNot, eIf, eTup, eLst, sAsg, gTup, gsGo, gName, eCon, eSl, bO, oNone, oSome, eChain, tYes, sExpr, eFld, lb__law_block_row_1, eCallM, left, e1, e2, cEq, cGt, cI, D.dat, D.eqv, g0, b0, g3, b3, n, sApp, own?, hln]
      · simp [g3, g7] at n
        have b9 : (x == 9) = false := by rw [beq_eq_false_iff_ne]; omega
        rcases h6 with rfl | ⟨d6, rfl⟩ <;> rcases h7 with rfl | ⟨d7, rfl⟩ <;> simp [fn, start, sRet, sRetN, bS, eCB, bA, aCons, aNil, eSup, eCall, eVar, eC, frzs, R.frz, peeks, R.peek, Rv.r, retR, Own.d, eOp, eUn, bE, op2, op1, sSeq, sNil, sSet, put, sIf, bT, tE, tAnd, tOr, tNot, eAnd, eOr, eNot, eIf, eTup, eLst, sAsg, gTup, gsGo, gName, eCon, eSl, bO, oNone, oSome, eChain, tYes, sExpr, eFld, lb__law_block_row_1, eCallM, left, e1, e2, cEq, cGt, cI, D.dat, D.eqv, g, g0, b0, g3, b3, b9, g7, n, sApp, own?, hln]
  · have g0 : ¬ x = 0 := fun z => g (.inl z)
    have b0 : (x == 0) = false := by rw [beq_eq_false_iff_ne]; omega
    have g1 : ¬ 3 < x := fun z => g (.inr z)
    have g7 : ¬ x = 9 := by omega
    have b9 : (x == 9) = false := by rw [beq_eq_false_iff_ne]; omega
    have n := el_normal k (decide (x = 2), [])
    refine ⟨nf k (decide (x = 2), []), o1, .frz (.int x), .frz (.tup []), ?_, ho1, ⟨GE.nf (pl_nil k) (by simp) (by simp), Nat.le_trans (Nat.le_of_eq (congrArg List.length (fm_snd k (decide (x = 2)) []))) (by simp)⟩, fz_frz _, fz_frz _⟩
    rw [List.map_append, List.map_singleton]
    generalize fD (nf k (decide (x = 2), [])) = res at n ⊢
    simp only [fD, wD, List.map_nil] at n
    generalize L.map D.int = l
    generalize es.map fD = ee at hln ⊢
    by_cases g3 : x = 2
    · simp [g3] at n
      subst g3
      rcases h6 with rfl | ⟨d6, rfl⟩ <;> rcases h7 with rfl | ⟨d7, rfl⟩ <;> simp [fn, start, sRet, sRetN, bS, eCB, bA, aCons, aNil, eSup, eCall, eVar, eC, frzs, R.frz, peeks, R.peek, Rv.r, retR, Own.d, eOp, eUn, bE, op2, op1, sSeq, sNil, sSet, put, sIf, bT, tE, tAnd, tOr, tNot, eAnd, eOr, eNot, eIf, eTup, eLst, sAsg, gTup, gsGo, gName, eCon, eSl, bO, oNone, oSome, eChain, tYes, sExpr, eFld, lb__law_block_row_1, eCallM, left, e1, e2, cEq, cGt, cI, D.dat, D.eqv, n, sApp, own?, hln]
    · simp [g3] at n
      have b3 : (x == 2) = false := by rw [beq_eq_false_iff_ne]; omega
      rcases h6 with rfl | ⟨d6, rfl⟩ <;> rcases h7 with rfl | ⟨d7, rfl⟩ <;> simp [fn, start, sRet, sRetN, bS, eCB, bA, aCons, aNil, eSup, eCall, eVar, eC, frzs, R.frz, peeks, R.peek, Rv.r, retR, Own.d, eOp, eUn, bE, op2, op1, sSeq, sNil, sSet, put, sIf, bT, tE, tAnd, tOr, tNot, eAnd, eOr, eNot, eIf, eTup, eLst, sAsg, gTup, gsGo, gName, eCon, eSl, bO, oNone, oSome, eChain, tYes, sExpr, eFld, lb__law_block_row_1, eCallM, left, e1, e2, cEq, cGt, cI, D.dat, D.eqv, g0, b0, g1, g3, b3, b9, g7, n, sApp, own?, hln]
theorem el_block_row {o : Own} (ho : IsSt o) (k : Kd) (L : Wd) (hL : IsLs L) (n : Nat) (hn : n ≤ 1000) : ∃ (es : List Ef) (o' : Own), den__law_block_row o [.str k.nm, .lst (L.map .int), .int n] = some (.ret (.fre (.lst (es.map fD))), o') ∧ IsSt o' ∧ es.length = n ∧ ∀ e ∈ es, GE k L e ∧ e.2.length ≤ 5 := by
  have lenp : (plcs 0 n).length = n := by simp [plcs]
  obtain ⟨ρ', e3, o3, s5, s6, s7, es, rfl, i3, _, _, _, hw, hl⟩ := forGo_inv (g := gName 5) (bd := lb__law_block_row_1) (I := fun j ρ => ∃ o s5 s6 s7, ∃ es : List Ef, ρ = [.ref o, .frz (.str k.nm), .frz (.lst (L.map .int)), .frz (.int n), .own (.lst (es.map fD)), s5, s6, s7] ∧ IsSt o ∧ nr s5 ∧ fz s6 ∧ fz s7 ∧ es.length = j ∧ ∀ e ∈ es, GE k L e ∧ e.2.length ≤ 5)
    (plcs 0 n) 0 [.ref o, .frz (.str k.nm), .frz (.lst (L.map .int)), .frz (.int n), .own (.lst []), .no, .no, .no] ⟨o, .no, .no, .no, [], rfl, ho, nr_no, fz_no, fz_no, rfl, by simp⟩ (by
    rintro d hd j ρ hj ⟨o, s5, s6, s7, es, rfl, ho, h5, h6, h7, hes, hg⟩
    rw [lenp] at hj
    obtain ⟨e, o', t6, t7, st, ho', he, n6, n7⟩ := br_step ho k L hL (.int n) es (by omega) (.frz d) s6 s7 h6 h7
    exact ⟨_, _, put_nr (i := 5) rfl h5, .inl st, o', .frz d, t6, t7, es ++ [e], rfl, ho', nr_frz _, n6, n7, by simp [hes], by
      intro y hy
      rcases List.mem_append.mp hy with z | z
      · exact hg y z
      · simp at z; subst z; exact he⟩)
  rw [lenp] at hw
  refine ⟨es, o3, ?_, i3, by omega, hl⟩
  have hit : iRange (aCons (eVar 3) aNil) [.ref o, .frz (.str k.nm), .frz (.lst (L.map .int)), .frz (.int n), .own (.lst []), .no, .no, .no] = some (.ok (plcs 0 n) [.ref o, .frz (.str k.nm), .frz (.lst (L.map .int)), .frz (.int n), .own (.lst []), .no, .no, .no]) := by
    have q1 : (n : Int) ≤ 1000000000 := by omega
    have q2 : -1000000000 ≤ (n : Int) := by omega
    rw [← rangeD_plcs]
    generalize L.map D.int = l
    simp [fn, start, sRet, sRetN, bS, eCB, bA, aCons, aNil, eSup, eCall, eVar, eC, frzs, R.frz, peeks, R.peek, Rv.r, retR, Own.d, eOp, eUn, bE, op2, op1, sSeq, sNil, sSet, put, sIf, bT, tE, tAnd, tOr, tNot, eAnd, eOr, eNot, eIf, eTup, eLst, sAsg, gTup, gsGo, gName, eCon, eSl, bO, oNone, oSome, eChain, tYes, sExpr, eFld, iRange, q1, q2]
  have hlp : lp__law_block_row_1 [.ref o, .frz (.str k.nm), .frz (.lst (L.map .int)), .frz (.int n), .own (.lst []), .no, .no, .no] = some (.nx [.ref o3, .frz (.str k.nm), .frz (.lst (L.map .int)), .frz (.int n), .own (.lst (es.map fD)), s5, s6, s7]) := by
    unfold lp__law_block_row_1 sFor
    rw [hit]
    exact e3
  generalize L.map D.int = l at hlp ⊢
  generalize es.map fD = ee at hlp ⊢
  simp [fn, start, sRet, sRetN, bS, eCB, bA, aCons, aNil, eSup, eCall, eVar, eC, frzs, R.frz, peeks, R.peek, Rv.r, retR, Own.d, eOp, eUn, bE, op2, op1, sSeq, sNil, sSet, put, sIf, bT, tE, tAnd, tOr, tNot, eAnd, eOr, eNot, eIf, eTup, eLst, sAsg, gTup, gsGo, gName, eCon, eSl, bO, oNone, oSome, eChain, tYes, sExpr, eFld, den__law_block_row, fnM, body__law_block_row, ↓hlp, DL.fin]
end SoR
end

section
set_option maxRecDepth 100000
set_option maxHeartbeats 2000000
namespace SoR
open DL
def hi (k : Kd) (e : Ef) (post : List Ef) : Ef := if post.any (·.1) = true then (!e.1, e.2) else if k = .set ∨ k = .tails then (e.1, pl k (hw post ++ e.2)) else
  if k = .ends ∧ e.2 ≠ [] ∧ hw post ≠ [] then (e.1, e.2.take 1 ++ (hw post).take 1) else e
def his (k : Kd) : List Ef → List Ef
  | [] => []
  | e :: r => hi k e r :: his k r
theorem his_len (k : Kd) : ∀ es : List Ef, (his k es).length = es.length
  | [] => rfl
  | e :: es => by simp [his, his_len k es]
theorem ext_loop (a b c d e f g j : Sl) : ∀ (post : List Ef) (acc : Wd) (s8 : Sl), nr s8 → acc.length + sz post ≤ 100000 → ∃ t8, nr t8 ∧ forGo (gName 8) lb__law_hidden_in_1 (post.map fD) [a, b, c, d, e, f, g, .frz (wD acc), s8, j] =
    some (.nx [a, b, c, d, e, f, g, .frz (wD (acc ++ hw post)), t8, j])
  | [], acc, s8, h8, _ => ⟨s8, h8, by simp [forGo, hw]⟩
  | p :: post, acc, s8, h8, hl => by
    have e1 : sz (p :: post) = p.2.length + 2 + sz post := by simp [sz]
    obtain ⟨t8, h8', ih⟩ := ext_loop a b c d e f g j post (acc ++ p.2) (.frz (fD p)) (nr_frz _) (by rw [List.length_append]; omega)
    refine ⟨t8, h8', ?_⟩
    rw [List.map_cons, forGo]
    have hg : gName 8 (fD p) [a, b, c, d, e, f, g, .frz (wD acc), s8, j] = some [a, b, c, d, e, f, g, .frz (wD acc), .frz (fD p), j] := put_nr (i := 8) rfl h8
    rw [hg]
    dsimp only
    have st : lb__law_hidden_in_1 [a, b, c, d, e, f, g, .frz (wD acc), .frz (fD p), j] = some (.nx [a, b, c, d, e, f, g, .frz (wD (acc ++ p.2)), .frz (fD p), j]) := by
      have x1 := ix1_fD p
      have hm : (acc.map D.int).length + (p.2.map D.int).length ≤ 1000000 := by rw [List.length_map, List.length_map]; omega
      have e2 : wD (acc ++ p.2) = .tup (acc.map .int ++ p.2.map .int) := by unfold wD; rw [List.map_append]
      rw [e2]
      generalize fD p = dp at x1 ⊢
      unfold wD at x1 ⊢
      generalize acc.map D.int = la at hm ⊢
      generalize p.2.map D.int = lp at x1 hm ⊢
      simp [fn, start, sRet, sRetN, bS, eCB, bA, aCons, aNil, eSup, eCall, eVar, eC, frzs, R.frz, peeks, R.peek, Rv.r, retR, Own.d, eOp, eUn, bE, op2, op1, sSeq, sNil, sSet, put, sIf, bT, tE, tAnd, tOr, tNot, eAnd, eOr, eNot, eIf, eTup, eLst, sAsg, gTup, gsGo, gName, eCon, eSl, bO, oNone, oSome, eChain, tYes, sExpr, eFld, lb__law_hidden_in_1, x1, opAdd, hm]
    rw [st]
    dsimp only
    rw [hw_cons, ← List.append_assoc]
    exact ih
theorem ext_lp (a b c d e f j s8 : Sl) (h8 : nr s8) (post : List Ef) (hl : sz post ≤ 100000) : ∃ t8, nr t8 ∧ lp__law_hidden_in_1 [a, b, c, d, e, f, .own (.lst (post.map fD)), .frz (.tup []), s8, j] =
    some (.nx [a, b, c, d, e, f, .frz (.lst (post.map fD)), .frz (wD (hw post)), t8, j]) := by
  obtain ⟨t8, h8, eq⟩ := ext_loop a b c d e f (.frz (.lst (post.map fD))) j post [] s8 h8 (by simpa using hl)
  refine ⟨t8, h8, ?_⟩
  have hit : iSeq (eVar 6) [a, b, c, d, e, f, .own (.lst (post.map fD)), .frz (.tup []), s8, j] = some (.ok (post.map fD) [a, b, c, d, e, f, .frz (.lst (post.map fD)), .frz (.tup []), s8, j]) := rfl
  unfold lp__law_hidden_in_1 sFor
  rw [hit]
  exact eq
theorem ext_lc (a b c d e f h j : Sl) (s8 : Sl) (h8 : nr s8) (post : List Ef) (hl : post.length ≤ 1000000) : ∃ t8, nr t8 ∧ lc__law_hidden_in_2 [a, b, c, d, e, f, .frz (.lst (post.map fD)), h, s8, j] =
    some (.ok (.fre (.lst (post.map fun e => .bl e.1))) [a, b, c, d, e, f, .frz (.lst (post.map fD)), h, t8, j]) := by
  have z := eLc_all (it := iSeq (eVar 6)) (g := gName 8) (el := eOp ixS (eVar 8) (eC (.int 0))) (vs := [8]) (toD := fD) (f := fun e => .bl e.1) (ρ := [a, b, c, d, e, f, .frz (.lst (post.map fD)), h, s8, j]) [a, b, c, d, e, f, .frz (.lst (post.map fD)), h, .no, j] post
    (ρ1 := [a, b, c, d, e, f, .frz (.lst (post.map fD)), h, s8, j]) rfl hl rfl
    (fun x hx => by
      have x0 := ix0_fD x
      generalize post.map fD = pp
      generalize fD x = dx at x0 ⊢
      exact ⟨_, .val (.bl x.1), [a, b, c, d, e, f, .frz (.lst pp), h, .frz dx, j], _, rfl, by simp [fn, start, sRet, sRetN, bS, eCB, bA, aCons, aNil, eSup, eCall, eVar, eC, frzs, R.frz, peeks, R.peek, Rv.r, retR, Own.d, eOp, eUn, bE, op2, op1, sSeq, sNil, sSet, put, sIf, bT, tE, tAnd, tOr, tNot, eAnd, eOr, eNot, eIf, eTup, eLst, sAsg, gTup, gsGo, gName, eCon, eSl, bO, oNone, oSome, eChain, tYes, sExpr, eFld, x0], rfl, rfl⟩)
  have z2 : lc__law_hidden_in_2 [a, b, c, d, e, f, .frz (.lst (post.map fD)), h, s8, j] = some (.ok (.fre (.lst (post.map fun e => .bl e.1))) (backE [a, b, c, d, e, f, .frz (.lst (post.map fD)), h, s8, j] [a, b, c, d, e, f, .frz (.lst (post.map fD)), h, s8, j] [8])) := z
  rw [z2]
  cases s8 with
  | no => exact ⟨.no, nr_no, rfl⟩
  | frz d => exact ⟨.frz d, nr_frz d, rfl⟩
  | own o => exact ⟨.no, nr_no, rfl⟩
  | ref o => exact absurd rfl (h8 o)
theorem hid_step (k : Kd) (pre post : List Ef) (e : Ef) (acc : List D) (ha : acc.length < 1000000) (hl : sz (pre ++ e :: post) ≤ 4000) (hn : (pre ++ e :: post).length ≤ 90000) (M : Wd) (hM : M.length < 64) (hm : ∀ b ∈ e :: post, ∀ y ∈ b.2, y ∈ M)
    (s4 s5 s6 s7 s8 s9 : Sl) (h4 : nr s4) (h5 : nr s5) (h6 : nr s6) (h7 : nr s7) (h8 : nr s8) (h9 : nr s9) :
    ∃ t4 t5 t6 t7 t8 t9, lb__law_hidden_in_2 [.frz (.str k.nm), .frz (.lst ((pre ++ e :: post).map fD)), .own (.lst acc), .frz (.int pre.length), s4, s5, s6, s7, s8, s9] =
      some (.nx [.frz (.str k.nm), .frz (.lst ((pre ++ e :: post).map fD)), .own (.lst (acc ++ [fD (hi k e post)])), .frz (.int pre.length), t4, t5, t6, t7, t8, t9]) ∧ nr t4 ∧ nr t5 ∧ nr t6 ∧ nr t7 ∧ nr t8 ∧ nr t9 := by
  have esz := sz_app pre (e :: post)
  have esz2 : sz (e :: post) = e.2.length + 2 + sz post := by simp [sz]
  have eln : (pre ++ e :: post).length = pre.length + post.length + 1 := by simp; omega
  obtain ⟨t8, h8', lp⟩ := ext_lp (.frz (.str k.nm)) (.frz (.lst ((pre ++ e :: post).map fD))) (.own (.lst acc)) (.frz (.int pre.length)) (.frz (.bl e.1)) (.frz (wD e.2)) s9 s8 h8 post (by omega)
  obtain ⟨u8, h8'', l1⟩ := ext_lc (.frz (.str k.nm)) (.frz (.lst ((pre ++ e :: post).map fD))) (.own (.lst acc)) (.frz (.int pre.length)) (.frz (.bl e.1)) (.frz (wD e.2)) (.frz (wD (hw post))) s9 t8 h8' post (by omega)
  have x := ix_lst pre post e
  have sl := sl_at pre post e
  have any1 := fAny_map (fun e : Ef => e.1) post
  have hwl := hw_len post
  have lm : ∀ y ∈ hw post ++ e.2, y ∈ M := fun y hy => by
    rcases List.mem_append.mp hy with z | z
    · obtain ⟨w, hw1, hw2⟩ := List.mem_flatten.mp z
      obtain ⟨b, hb, rfl⟩ := List.mem_map.mp hw1
      exact hm b (List.mem_cons_of_mem _ hb) y hw2
    · exact hm e List.mem_cons_self y z
  have pw := el_plain k (hw post ++ e.2) (by rw [List.length_append]; omega) fun _ => few_of (M := M) lm hM (by rw [List.length_append]; omega)
  have qe := eqv_nil e.2
  have qh := eqv_nil (hw post)
  have de := dat_wD e.2 59
  have dh := dat_wD (hw post) 59
  have dn0 : D.dat (.tup []) 60 = true := rfl
  have q1 := set_eq k
  have q2 := tails_eq k
  have q3 := ends_eq k
  have hcat : opAdd (wD (hw post)) (wD e.2) = some (.val (wD (hw post ++ e.2))) := by
    have : (hw post).length + e.2.length ≤ 1000000 := by omega
    simp [opAdd, wD, this]
  generalize (pre ++ e :: post).map fD = row at lp l1 x sl ⊢
  simp only [fD] at x
  generalize post.map fD = pp at lp l1 sl
  generalize (post.map fun e => D.bl e.1) = bs at l1 any1
  by_cases hc : post.any (·.1) = true
  · have er : fD (hi k e post) = .tup [.bl (!e.1), wD e.2] := by unfold hi; rw [if_pos hc]; rfl
    rw [er]
    rw [hc] at any1
    generalize wD (hw post) = hh at lp l1
    generalize wD e.2 = ww at x lp l1 ⊢
    exact ⟨.frz (.bl e.1), .frz ww, .frz (.lst pp), .frz hh, u8, s9, by simp [fn, start, sRet, sRetN, bS, eCB, bA, aCons, aNil, eSup, eCall, eVar, eC, frzs, R.frz, peeks, R.peek, Rv.r, retR, Own.d, eOp, eUn, bE, op2, op1, sSeq, sNil, sSet, put_z, put_s, nr_no, nr_frz, nr_own, sIf, bT, tE, tAnd, tOr, tNot, eAnd, eOr, eNot, eIf, eTup, eLst, sAsg, gTup, gsGo, gName, eCon, eSl, bO, oNone, oSome, eChain, tYes, sExpr, eFld, lb__law_hidden_in_2, opAddInt, x, sl, ↓lp, ↓l1, any1, h4, h5, h6, h7, h8, h9, sApp, own?, ha], nr_frz _, nr_frz _, nr_frz _, nr_frz _, h8'', h9⟩
  · have hc2 : post.any (·.1) = false := by simpa using hc
    rw [hc2] at any1
    refine ⟨.frz (.bl e.1), .frz (wD e.2), .frz (.lst pp), .frz (wD (hw post)), u8, s9, ?_, nr_frz _, nr_frz _, nr_frz _, nr_frz _, h8'', h9⟩
    by_cases hk : k = .set ∨ k = .tails
    · have er : fD (hi k e post) = .tup [.bl e.1, wD (pl k (hw post ++ e.2))] := by unfold hi; rw [if_neg hc, if_pos hk]; rfl
      rw [er]
      generalize wD (pl k (hw post ++ e.2)) = res at pw ⊢
      generalize wD (hw post ++ e.2) = ct at pw hcat
      generalize wD (hw post) = hh at lp l1 hcat ⊢
      generalize wD e.2 = ww at x lp l1 hcat ⊢
      rcases hk with rfl | rfl
      · simp only [reduceCtorEq, decide_true, decide_false] at q1 q2
        simp [fn, start, sRet, sRetN, bS, eCB, bA, aCons, aNil, eSup, eCall, eVar, eC, frzs, R.frz, peeks, R.peek, Rv.r, retR, Own.d, eOp, eUn, bE, op2, op1, sSeq, sNil, sSet, put_z, put_s, nr_no, nr_frz, nr_own, sIf, bT, tE, tAnd, tOr, tNot, eAnd, eOr, eNot, eIf, eTup, eLst, sAsg, gTup, gsGo, gName, eCon, eSl, bO, oNone, oSome, eChain, tYes, sExpr, eFld, lb__law_hidden_in_2, opAddInt, x, sl, ↓lp, ↓l1, any1, h4, h5, h6, h7, h8, h9, sApp, own?, ha, cEq, dat_str, q1, q2, hcat, pw]
      · simp only [reduceCtorEq, decide_true, decide_false] at q1 q2
        simp [fn, start, sRet, sRetN, bS, eCB, bA, aCons, aNil, eSup, eCall, eVar, eC, frzs, R.frz, peeks, R.peek, Rv.r, retR, Own.d, eOp, eUn, bE, op2, op1, sSeq, sNil, sSet, put_z, put_s, nr_no, nr_frz, nr_own, sIf, bT, tE, tAnd, tOr, tNot, eAnd, eOr, eNot, eIf, eTup, eLst, sAsg, gTup, gsGo, gName, eCon, eSl, bO, oNone, oSome, eChain, tYes, sExpr, eFld, lb__law_hidden_in_2, opAddInt, x, sl, ↓lp, ↓l1, any1, h4, h5, h6, h7, h8, h9, sApp, own?, ha, cEq, dat_str, q1, q2, hcat, pw]
    · have g1 : D.eqv (.str k.nm) (.str "set") = false := by rw [q1]; exact decide_eq_false fun z => hk (.inl z)
      have g2 : D.eqv (.str k.nm) (.str "tails") = false := by rw [q2]; exact decide_eq_false fun z => hk (.inr z)
      clear q1 q2 pw hcat
      by_cases he : k = .ends
      · have g3 : D.eqv (.str k.nm) (.str "ends") = true := by rw [q3]; exact decide_eq_true he
        clear q3
        by_cases e2 : e.2 = []
        · have er : fD (hi k e post) = .tup [.bl e.1, wD e.2] := by unfold hi; rw [if_neg hc, if_neg hk, if_neg (fun z => z.2.1 e2)]; rfl
          rw [er]
          rw [decide_eq_true e2] at qe
          generalize wD (hw post) = hh at lp l1 ⊢
          generalize wD e.2 = ww at x lp l1 qe de ⊢
          simp [fn, start, sRet, sRetN, bS, eCB, bA, aCons, aNil, eSup, eCall, eVar, eC, frzs, R.frz, peeks, R.peek, Rv.r, retR, Own.d, eOp, eUn, bE, op2, op1, sSeq, sNil, sSet, put_z, put_s, nr_no, nr_frz, nr_own, sIf, bT, tE, tAnd, tOr, tNot, eAnd, eOr, eNot, eIf, eTup, eLst, sAsg, gTup, gsGo, gName, eCon, eSl, bO, oNone, oSome, eChain, tYes, sExpr, eFld, lb__law_hidden_in_2, opAddInt, x, sl, ↓lp, ↓l1, any1, h4, h5, h6, h7, h8, h9, sApp, own?, ha, cEq, cNe, dat_str, g1, g2, g3, qe, de, dn0]
        · by_cases e3 : hw post = []
          · have er : fD (hi k e post) = .tup [.bl e.1, wD e.2] := by unfold hi; rw [if_neg hc, if_neg hk, if_neg (fun z => z.2.2 e3)]; rfl
            rw [er]
            rw [decide_eq_false e2] at qe
            rw [decide_eq_true e3] at qh
            generalize wD (hw post) = hh at lp l1 qh dh ⊢
            generalize wD e.2 = ww at x lp l1 qe de ⊢
            simp [fn, start, sRet, sRetN, bS, eCB, bA, aCons, aNil, eSup, eCall, eVar, eC, frzs, R.frz, peeks, R.peek, Rv.r, retR, Own.d, eOp, eUn, bE, op2, op1, sSeq, sNil, sSet, put_z, put_s, nr_no, nr_frz, nr_own, sIf, bT, tE, tAnd, tOr, tNot, eAnd, eOr, eNot, eIf, eTup, eLst, sAsg, gTup, gsGo, gName, eCon, eSl, bO, oNone, oSome, eChain, tYes, sExpr, eFld, lb__law_hidden_in_2, opAddInt, x, sl, ↓lp, ↓l1, any1, h4, h5, h6, h7, h8, h9, sApp, own?, ha, cEq, cNe, dat_str, g1, g2, g3, qe, de, qh, dh, dn0]
          · rw [decide_eq_false e2] at qe
            rw [decide_eq_false e3] at qh
            obtain ⟨a, w, ew⟩ : ∃ a w, e.2 = a :: w := by
              cases h : e.2 with
              | nil => exact absurd h e2
              | cons a w => exact ⟨a, w, rfl⟩
            obtain ⟨b, v, ev⟩ : ∃ a w, hw post = a :: w := by
              cases h : hw post with
              | nil => exact absurd h e3
              | cons a w => exact ⟨a, w, rfl⟩
            have er : fD (hi k e post) = .tup [.bl e.1, .tup [.int a, .int b]] := by unfold hi; rw [if_neg hc, if_neg hk, if_pos ⟨he, e2, e3⟩, ew, ev]; rfl
            rw [er]
            have xa : ixS (wD e.2) (.int 0) = some (.val (.int a)) := by rw [ew]; simp [ixS, wD, ixD]
            have xb : ixS (wD (hw post)) (.int 0) = some (.val (.int b)) := by rw [ev]; simp [ixS, wD, ixD]
            generalize wD (hw post) = hh at lp l1 qh dh xb ⊢
            generalize wD e.2 = ww at x lp l1 qe de xa ⊢
            simp [fn, start, sRet, sRetN, bS, eCB, bA, aCons, aNil, eSup, eCall, eVar, eC, frzs, R.frz, peeks, R.peek, Rv.r, retR, Own.d, eOp, eUn, bE, op2, op1, sSeq, sNil, sSet, put_z, put_s, nr_no, nr_frz, nr_own, sIf, bT, tE, tAnd, tOr, tNot, eAnd, eOr, eNot, eIf, eTup, eLst, sAsg, gTup, gsGo, gName, eCon, eSl, bO, oNone, oSome, eChain, tYes, sExpr, eFld, lb__law_hidden_in_2, opAddInt, x, sl, ↓lp, ↓l1, any1, h4, h5, h6, h7, h8, h9, sApp, own?, ha, cEq, cNe, dat_str, g1, g2, g3, qe, de, qh, dh, dn0, xa, xb]
      · have g3 : D.eqv (.str k.nm) (.str "ends") = false := by rw [q3]; exact decide_eq_false he
        clear q3
        have er : fD (hi k e post) = .tup [.bl e.1, wD e.2] := by unfold hi; rw [if_neg hc, if_neg hk, if_neg (fun z => he z.1)]; rfl
        rw [er]
        generalize wD (hw post) = hh at lp l1 ⊢
        generalize wD e.2 = ww at x lp l1 ⊢
        simp [fn, start, sRet, sRetN, bS, eCB, bA, aCons, aNil, eSup, eCall, eVar, eC, frzs, R.frz, peeks, R.peek, Rv.r, retR, Own.d, eOp, eUn, bE, op2, op1, sSeq, sNil, sSet, put_z, put_s, nr_no, nr_frz, nr_own, sIf, bT, tE, tAnd, tOr, tNot, eAnd, eOr, eNot, eIf, eTup, eLst, sAsg, gTup, gsGo, gName, eCon, eSl, bO, oNone, oSome, eChain, tYes, sExpr, eFld, lb__law_hidden_in_2, opAddInt, x, sl, ↓lp, ↓l1, any1, h4, h5, h6, h7, h8, h9, sApp, own?, ha, cEq, cNe, dat_str, g1, g2, g3]
theorem hid_all (k : Kd) (row : List Ef) (hz : sz row ≤ 4000) (hn : row.length ≤ 90000) (M : Wd) (hM : M.length < 64) (hm : ∀ b ∈ row, ∀ y ∈ b.2, y ∈ M) : ∀ (post pre : List Ef) (acc : List D), row = pre ++ post → acc.length + post.length ≤ 90000 → ∀ (s3 s4 s5 s6 s7 s8 s9 : Sl), nr s3 → nr s4 → nr s5 → nr s6 → nr s7 → nr s8 → nr s9 →
    ∃ t3 t4 t5 t6 t7 t8 t9, nr t9 ∧ forGo (gName 3) lb__law_hidden_in_2 (plcs pre.length post.length) [.frz (.str k.nm), .frz (.lst (row.map fD)), .own (.lst acc), s3, s4, s5, s6, s7, s8, s9] =
      some (.nx [.frz (.str k.nm), .frz (.lst (row.map fD)), .own (.lst (acc ++ (his k post).map fD)), t3, t4, t5, t6, t7, t8, t9])
  | [], pre, acc, hr, ha, s3, s4, s5, s6, s7, s8, s9, _, _, _, _, _, _, h9 => ⟨s3, s4, s5, s6, s7, s8, s9, h9, by simp [his]; rfl⟩
  | e :: post, pre, acc, hr, ha, s3, s4, s5, s6, s7, s8, s9, h3, h4, h5, h6, h7, h8, h9 => by
    rw [List.length_cons] at ha
    obtain ⟨t4, t5, t6, t7, t8, t9, st, g4, g5, g6, g7, g8, g9⟩ := hid_step k pre post e acc (by omega) (by rw [← hr]; exact hz) (by rw [← hr]; exact hn) M hM (fun b hb => hm b (by rw [hr]; exact List.mem_append_right _ hb)) s4 s5 s6 s7 s8 s9 h4 h5 h6 h7 h8 h9
    obtain ⟨u3, u4, u5, u6, u7, u8, u9, g, ih⟩ := hid_all k row hz hn M hM hm post (pre ++ [e]) (acc ++ [fD (hi k e post)]) (by rw [hr]; simp) (by simp; omega) (.frz (.int pre.length)) t4 t5 t6 t7 t8 t9 (nr_frz _) g4 g5 g6 g7 g8 g9
    refine ⟨u3, u4, u5, u6, u7, u8, u9, g, ?_⟩
    rw [List.length_cons, plcs_succ, forGo]
    have hg : gName 3 (.int pre.length) [.frz (.str k.nm), .frz (.lst (row.map fD)), .own (.lst acc), s3, s4, s5, s6, s7, s8, s9] = some [.frz (.str k.nm), .frz (.lst (row.map fD)), .own (.lst acc), .frz (.int pre.length), s4, s5, s6, s7, s8, s9] := put_nr (i := 3) rfl h3
    rw [hg]
    dsimp only
    rw [hr, st, ← hr]
    dsimp only
    rw [List.length_append, List.length_singleton] at ih
    rw [ih, his, List.map_cons]
    simp
theorem hid_lc (k : Kd) (b d e f g h i s9 : Sl) (h9 : nr s9) (es : List Ef) (hl : es.length ≤ 1000000) : ∃ ρ, lc__law_hidden_in_1 [.frz (.str k.nm), b, .own (.lst (es.map fD)), d, e, f, g, h, i, s9] = some (.ok (.fre (.lst ((es.map (nf k)).map fD))) ρ) := by
  have z := eLc_all (it := iSeq (eVar 2)) (g := gName 9) (el := eCall den__law_normal (aCons (eVar 0) (aCons (eVar 9) aNil))) (vs := [9]) (toD := fD) (f := fun e => fD (nf k e)) (ρ := [.frz (.str k.nm), b, .own (.lst (es.map fD)), d, e, f, g, h, i, s9]) [.frz (.str k.nm), b, .frz (.lst (es.map fD)), d, e, f, g, h, i, .no] es
    (ρ1 := [.frz (.str k.nm), b, .frz (.lst (es.map fD)), d, e, f, g, h, i, s9]) rfl hl rfl
    (fun x hx => by
      have n := el_normal k x
      generalize es.map fD = pp
      generalize fD x = dx at n ⊢
      generalize fD (nf k x) = dr at n ⊢
      exact ⟨_, .val dr, [.frz (.str k.nm), b, .frz (.lst pp), d, e, f, g, h, i, .frz dx], _, rfl, by simp [fn, start, sRet, sRetN, bS, eCB, bA, aCons, aNil, eSup, eCall, eVar, eC, frzs, R.frz, peeks, R.peek, Rv.r, retR, Own.d, eOp, eUn, bE, op2, op1, sSeq, sNil, sSet, put, sIf, bT, tE, tAnd, tOr, tNot, eAnd, eOr, eNot, eIf, eTup, eLst, sAsg, gTup, gsGo, gName, eCon, eSl, bO, oNone, oSome, eChain, tYes, sExpr, eFld, n], rfl, rfl⟩)
  rw [List.map_map]
  exact ⟨_, z⟩
theorem el_hidden (k : Kd) (row : List Ef) (hz : sz row ≤ 4000) (hn : row.length ≤ 90000) (M : Wd) (hM : M.length < 64) (hm : ∀ b ∈ row, ∀ y ∈ b.2, y ∈ M) : den__law_hidden_in [.str k.nm, .lst (row.map fD)] = some (.ret (.fre (.lst (((his k row).map (nf k)).map fD)))) := by
  obtain ⟨t3, t4, t5, t6, t7, t8, t9, h9, e⟩ := hid_all k row hz hn M hM hm row [] [] rfl (by simpa using hn) .no .no .no .no .no .no .no nr_no nr_no nr_no nr_no nr_no nr_no nr_no
  have hl : (row.map fD).length = row.length := List.length_map ..
  have hit : iRange (aCons (eCB fLenS (aCons (eVar 1) aNil)) aNil) [.frz (.str k.nm), .frz (.lst (row.map fD)), .own (.lst []), .no, .no, .no, .no, .no, .no, .no] = some (.ok (plcs 0 row.length) [.frz (.str k.nm), .frz (.lst (row.map fD)), .own (.lst []), .no, .no, .no, .no, .no, .no, .no]) := by
    rw [← hl] at hn ⊢
    generalize row.map fD = r at hn ⊢
    have q1 : ((r.length : Int)) ≤ 1000000000 := by omega
    have q2 : -1000000000 ≤ (r.length : Int) := by omega
    simp [fn, start, sRet, sRetN, bS, eCB, bA, aCons, aNil, eSup, eCall, eVar, eC, frzs, R.frz, peeks, R.peek, Rv.r, retR, Own.d, eOp, eUn, bE, op2, op1, sSeq, sNil, sSet, put, sIf, bT, tE, tAnd, tOr, tNot, eAnd, eOr, eNot, eIf, eTup, eLst, sAsg, gTup, gsGo, gName, eCon, eSl, bO, oNone, oSome, eChain, tYes, sExpr, eFld, iRange, fLenS, q1, q2, rangeD_plcs]
  have hlp : lp__law_hidden_in_2 [.frz (.str k.nm), .frz (.lst (row.map fD)), .own (.lst []), .no, .no, .no, .no, .no, .no, .no] = some (.nx [.frz (.str k.nm), .frz (.lst (row.map fD)), .own (.lst ((his k row).map fD)), t3, t4, t5, t6, t7, t8, t9]) := by
    unfold lp__law_hidden_in_2 sFor
    rw [hit]
    exact e
  obtain ⟨ρ, lc⟩ := hid_lc k (.frz (.lst (row.map fD))) t3 t4 t5 t6 t7 t8 t9 h9 (his k row) (by rw [his_len]; omega)
  generalize row.map fD = r at hlp lc ⊢
  generalize ((his k row).map (nf k)).map fD = r3 at lc ⊢
  generalize (his k row).map fD = r2 at hlp lc
  simp [fn, start, sRet, sRetN, bS, eCB, bA, aCons, aNil, eSup, eCall, eVar, eC, frzs, R.frz, peeks, R.peek, Rv.r, retR, Own.d, eOp, eUn, bE, op2, op1, sSeq, sNil, sSet, put, sIf, bT, tE, tAnd, tOr, tNot, eAnd, eOr, eNot, eIf, eTup, eLst, sAsg, gTup, gsGo, gName, eCon, eSl, bO, oNone, oSome, eChain, tYes, sExpr, eFld, den__law_hidden_in, body__law_hidden_in, ↓hlp, ↓lc]
theorem hi_GE {k : Kd} {L : Wd} (hL : IsLs L) {e : Ef} {post : List Ef} (h : ∀ b ∈ e :: post, GE k L b) : GE k L (nf k (hi k e post)) := by
  have he := h e List.mem_cons_self
  have lm : ∀ y ∈ hw post, y ∈ L := fun y hy => by
    obtain ⟨w, hw1, hw2⟩ := List.mem_flatten.mp hy
    obtain ⟨b, hb, rfl⟩ := List.mem_map.mp hw1
    exact (h b (List.mem_cons_of_mem _ hb)).mem y hw2
  unfold hi
  split
  · exact GE.nf he.ne.pl he.mem he.ln
  · split
    · rename_i hk
      have lm2 : ∀ y ∈ hw post ++ e.2, y ∈ L := fun y hy => by
        rcases List.mem_append.mp hy with z | z
        · exact lm y z
        · exact he.mem y z
      have nd : (pl k (hw post ++ e.2)).Nodup := by
        rcases hk with rfl | rfl
        · rw [pl_set]; exact setW_nodup _
        · exact tl_nodup _
      have l2 := nd.length_le_of_subset (l₂ := L) fun y hy => lm2 y (pl_mem hy)
      have := hL.2.1
      exact GE.nf (pl_idem k _) (fun y hy => lm2 y (pl_mem hy)) (by omega)
    · split
      · rename_i hk
        obtain ⟨rfl, h1, h2⟩ := hk
        refine GE.nf ?_ (fun y hy => ?_) (by simp; omega)
        · rw [pl_ends]
          cases h3 : e.2 with
          | nil => exact absurd h3 h1
          | cons a w =>
            cases h4 : hw post with
            | nil => exact absurd h4 h2
            | cons b v => rfl
        · rcases List.mem_append.mp hy with z | z
          · exact he.mem y (List.mem_of_mem_take z)
          · exact lm y (List.mem_of_mem_take z)
      · rw [he.ne.nf]; exact he
theorem his_GE {k : Kd} {L : Wd} (hL : IsLs L) : ∀ {es : List Ef}, (∀ b ∈ es, GE k L b) → ∀ e ∈ (his k es).map (nf k), GE k L e
  | [], _, e, he => by cases he
  | b :: es, h, e, he => by
    rw [his, List.map_cons] at he
    rcases List.mem_cons.mp he with z | z
    · subst z; exact hi_GE hL h
    · exact his_GE hL (fun x hx => h x (List.mem_cons_of_mem _ hx)) e z
end SoR
end

section
set_option maxRecDepth 100000
set_option maxHeartbeats 2000000
namespace SoR
open DL
theorem el_second {o : Own} (ho : IsSt o) (k : Kd) (L : Wd) (hL : IsLs L) (one : List Ef) (h1 : 1 ≤ one.length) (h24 : one.length ≤ 24) (hg : ∀ e ∈ one, GE k L e) (h5 : ∀ e ∈ one, e.2.length ≤ 5) :
    ∃ (es : List Ef) (o' : Own), den__law_second_row o [.str k.nm, .lst (L.map .int), .lst (one.map fD)] = some (.ret (.fre (.lst (es.map fD))), o') ∧ IsSt o' ∧ es.length = one.length ∧ ∀ e ∈ es, GE k L e := by
  obtain ⟨x, o1, e1, ho1, p1, p2, p3⟩ := el_pick ho 6 (by decide)
  have hz := GE_sz hg
  have hLm : L.length < 64 := by have := hL.2.1; omega
  have hid := el_hidden k one (by omega) (by omega) L hLm fun b hb => (hg b hb).mem
  have hid2 := his_GE hL hg
  have hidl : ((his k one).map (nf k)).length = one.length := by rw [List.length_map, his_len]
  have hol : (one.map fD).length = one.length := List.length_map ..
  obtain ⟨y, o2, e2, ho2, y1, y2, y3⟩ := el_pick ho1 (one.length : Int) (by omega)
  obtain ⟨at', rfl, hat⟩ := nat_of y1 y2
  have hx : x = 0 ∨ x = 1 ∨ x = 2 ∨ x = 3 ∨ x = 4 ∨ x = 5 := by omega
  rw [← hol] at e2
  have b01 : ∀ i j : Int, i ≠ j → (i == j) = false := fun i j h => by rw [beq_eq_false_iff_ne]; exact h
  rcases hx with rfl | rfl | rfl | rfl | rfl | rfl
  · refine ⟨(his k one).map (nf k), o1, ?_, ho1, hidl, hid2⟩
    generalize ((his k one).map (nf k)).map fD = r2 at hid ⊢
    generalize one.map fD = r1 at hid ⊢
    generalize L.map D.int = l
    simp [fn, start, sRet, sRetN, bS, eCB, bA, aCons, aNil, eSup, eCall, eVar, eC, frzs, R.frz, peeks, R.peek, Rv.r, retR, Own.d, eOp, eUn, bE, op2, op1, sSeq, sNil, sSet, put, sIf, bT, tE, tAnd, tOr, tNot, eAnd, eOr, eNot, eIf, eTup, eLst, sAsg, gTup, gsGo, gName, eCon, eSl, bO, oNone, oSome, eChain, tYes, sExpr, eFld, den__law_second_row, fnM, body__law_second_row, eCallM, left, e1, cLt, cI, cEq, D.dat, D.eqv, fList, hid, DL.fin]
  · refine ⟨(his k one).map (nf k), o1, ?_, ho1, hidl, hid2⟩
    generalize ((his k one).map (nf k)).map fD = r2 at hid ⊢
    generalize one.map fD = r1 at hid ⊢
    generalize L.map D.int = l
    simp [fn, start, sRet, sRetN, bS, eCB, bA, aCons, aNil, eSup, eCall, eVar, eC, frzs, R.frz, peeks, R.peek, Rv.r, retR, Own.d, eOp, eUn, bE, op2, op1, sSeq, sNil, sSet, put, sIf, bT, tE, tAnd, tOr, tNot, eAnd, eOr, eNot, eIf, eTup, eLst, sAsg, gTup, gsGo, gName, eCon, eSl, bO, oNone, oSome, eChain, tYes, sExpr, eFld, den__law_second_row, fnM, body__law_second_row, eCallM, left, e1, cLt, cI, cEq, D.dat, D.eqv, fList, hid, DL.fin]
  · obtain ⟨e, o3, e3, ho3, he⟩ := el_late ho2 k L hL
    refine ⟨((his k one).map (nf k)).set at' e, o3, ?_, ho3, by rw [List.length_set, hidl], fun z hz => ?_⟩
    · have er := List.map_set (f := fD) (l := (his k one).map (nf k)) (i := at') (a := e)
      rw [er]
      have ln : (((his k one).map (nf k)).map fD).length = one.length := by rw [List.length_map, hidl]
      generalize ((his k one).map (nf k)).map fD = r2 at hid ln ⊢
      have ix := ixD_in (n := r2.length) (i := at') (by omega)
      generalize one.map fD = r1 at hid e2 ⊢
      generalize L.map D.int = l at e3 ⊢
      generalize fD e = de at e3 ⊢
      simp [fn, start, sRet, sRetN, bS, eCB, bA, aCons, aNil, eSup, eCall, eVar, eC, frzs, R.frz, peeks, R.peek, Rv.r, retR, Own.d, eOp, eUn, bE, op2, op1, sSeq, sNil, sSet, put, sIf, bT, tE, tAnd, tOr, tNot, eAnd, eOr, eNot, eIf, eTup, eLst, sAsg, gTup, gsGo, gName, eCon, eSl, bO, oNone, oSome, eChain, tYes, sExpr, eFld, den__law_second_row, fnM, body__law_second_row, eCallM, left, e1, cLt, cI, cEq, D.dat, D.eqv, fList, fLenS, hid, e2, e3, sPut, own?, ix, DL.fin]
    · rcases List.mem_or_eq_of_mem_set hz with q | q
      · exact hid2 z q
      · subst q; exact he
  · obtain ⟨e, o3, e3, ho3, he⟩ := el_late ho2 k L hL
    refine ⟨one.set at' e, o3, ?_, ho3, by rw [List.length_set], fun z hz => ?_⟩
    · have er := List.map_set (f := fD) (l := one) (i := at') (a := e)
      rw [er]
      generalize one.map fD = r1 at hid e2 hol ⊢
      have ix := ixD_in (n := r1.length) (i := at') (by omega)
      generalize L.map D.int = l at e3 ⊢
      generalize fD e = de at e3 ⊢
      simp [fn, start, sRet, sRetN, bS, eCB, bA, aCons, aNil, eSup, eCall, eVar, eC, frzs, R.frz, peeks, R.peek, Rv.r, retR, Own.d, eOp, eUn, bE, op2, op1, sSeq, sNil, sSet, put, sIf, bT, tE, tAnd, tOr, tNot, eAnd, eOr, eNot, eIf, eTup, eLst, sAsg, gTup, gsGo, gName, eCon, eSl, bO, oNone, oSome, eChain, tYes, sExpr, eFld, den__law_second_row, fnM, body__law_second_row, eCallM, left, e1, cLt, cI, cEq, D.dat, D.eqv, fList, fLenS, e2, e3, sPut, own?, ix, DL.fin]
    · rcases List.mem_or_eq_of_mem_set hz with q | q
      · exact hg z q
      · subst q; exact he
  · obtain ⟨es, o3, e3, ho3, he, hes⟩ := el_block_row ho1 k L hL one.length (by omega)
    refine ⟨es, o3, ?_, ho3, he, fun z hz => (hes z hz).1⟩
    rw [← hol] at e3
    generalize one.map fD = r1 at e3 ⊢
    generalize es.map fD = r2 at e3 ⊢
    generalize L.map D.int = l at e3 ⊢
    simp [fn, start, sRet, sRetN, bS, eCB, bA, aCons, aNil, eSup, eCall, eVar, eC, frzs, R.frz, peeks, R.peek, Rv.r, retR, Own.d, eOp, eUn, bE, op2, op1, sSeq, sNil, sSet, put, sIf, bT, tE, tAnd, tOr, tNot, eAnd, eOr, eNot, eIf, eTup, eLst, sAsg, gTup, gsGo, gName, eCon, eSl, bO, oNone, oSome, eChain, tYes, sExpr, eFld, den__law_second_row, fnM, body__law_second_row, eCallM, left, e1, cLt, cI, cEq, D.dat, D.eqv, fList, fLenS, e3, DL.fin]
  · obtain ⟨a, L', hLe⟩ : ∃ a L', L = a :: L' := by
      cases L with
      | nil => have := hL.1; simp at this
      | cons a L' => exact ⟨a, L', rfl⟩
    have b := hg one[at'] (List.getElem_mem hat)
    have hmm : ∀ y ∈ one[at'].2 ++ [a], y ∈ L := fun y hy => by
      rcases List.mem_append.mp hy with z | z
      · exact b.mem y z
      · simp at z; rw [z, hLe]; simp
    have hbl := b.ln
    have pw := el_plain k (one[at'].2 ++ [a]) (by simp; omega) fun _ => few_of hmm hLm (by simp; omega)
    have nn := el_normal k (one[at'].1, pl k (one[at'].2 ++ [a]))
    have hln : (pl k (one[at'].2 ++ [a])).length ≤ 12 := by
      have g5 := h5 one[at'] (List.getElem_mem hat)
      have := pl_len k (one[at'].2 ++ [a])
      simp at this
      omega
    refine ⟨one.set at' (nf k (one[at'].1, pl k (one[at'].2 ++ [a]))), o2, ?_, ho2, by rw [List.length_set], fun z hz => ?_⟩
    · have er := List.map_set (f := fD) (l := one) (i := at') (a := nf k (one[at'].1, pl k (one[at'].2 ++ [a])))
      rw [er]
      have ix : ixS (.lst (one.map fD)) (.int at') = some (.val (fD one[at'])) := by
        have := ixD_in (n := (one.map fD).length) (i := at') (by omega)
        simp only [ixS, this]
        rw [List.getElem?_map, List.getElem?_eq_getElem hat]
        rfl
      have ixl : ixS (.lst (L.map .int)) (.int 0) = some (.val (.int a)) := by rw [hLe]; exact ixL (a :: L') 0 (by simp)
      have ix0 := ix0_fD one[at']
      have ix1 := ix1_fD one[at']
      have oa : opAdd (wD one[at'].2) (.tup [.int a]) = some (.val (wD (one[at'].2 ++ [a]))) := by
        have : one[at'].2.length ≤ 999999 := by omega
        simp [opAdd, wD, this]
      generalize fD one[at'] = d0 at ix ix0 ix1
      generalize fD (nf k (one[at'].1, pl k (one[at'].2 ++ [a]))) = dr at nn ⊢
      simp only [fD] at nn
      generalize wD (pl k (one[at'].2 ++ [a])) = w2 at pw nn
      generalize wD (one[at'].2 ++ [a]) = w1 at pw oa
      generalize wD one[at'].2 = w0 at oa ix1
      generalize one[at'].1 = c0 at nn ix0
      generalize one.map fD = r1 at hid e2 hol ix ⊢
      have ixd := ixD_in (n := r1.length) (i := at') (by omega)
      generalize L.map D.int = l at ixl ⊢
      simp [fn, start, sRet, sRetN, bS, eCB, bA, aCons, aNil, eSup, eCall, eVar, eC, frzs, R.frz, peeks, R.peek, Rv.r, retR, Own.d, eOp, eUn, bE, op2, op1, sSeq, sNil, sSet, put, sIf, bT, tE, tAnd, tOr, tNot, eAnd, eOr, eNot, eIf, eTup, eLst, sAsg, gTup, gsGo, gName, eCon, eSl, bO, oNone, oSome, eChain, tYes, sExpr, eFld, den__law_second_row, fnM, body__law_second_row, eCallM, left, e1, cLt, cI, cEq, D.dat, D.eqv, fList, fLenS, e2, sPut, own?, ixd, ix, ix0, ix1, ixl, oa, pw, nn, DL.fin]
    · rcases List.mem_or_eq_of_mem_set hz with q | q
      · exact hg z q
      · subst q; exact GE.nf (pl_idem k _) (fun y hy => hmm y (pl_mem hy)) hln
end SoR
end

section
set_option maxRecDepth 100000
set_option maxHeartbeats 2000000
namespace SoR
open DL
theorem parted_step (k : Kd) (M : Wd) (hM : M.length < 64) (e : Ef) (he : NE k e) (hl : e.2.length ≤ 2) (a b c d f : Sl) : lb__law_parted_1 [.frz (.str k.nm), a, b, c, d, f, .frz (fD e)] = some (.nx [.frz (.str k.nm), a, b, c, d, f, .frz (fD e)]) := by
  have w := el_is_effect e (by omega)
  have p := el_plain k e.2 (by omega) fun _ => few_of (M := e.2) (fun y hy => hy) (by omega) (by omega)
  have n := el_normal k e
  rw [he.nf] at n
  rw [he.pl] at p
  have x1 := ix1_fD e
  have q1 := eqv_wD e.2 e.2
  have q2 := eqv_fD e e
  have d1 := dat_wD e.2 59
  have d2 := dat_fD e 58
  simp only [decide_true] at q1 q2
  generalize wD e.2 = ww at p x1 q1 d1
  generalize fD e = dd at w n x1 q2 d2 ⊢
  simp [fn, start, sRet, sRetN, bS, eCB, bA, aCons, aNil, eSup, eCall, eVar, eC, frzs, R.frz, peeks, R.peek, Rv.r, retR, Own.d, eOp, eUn, bE, op2, op1, sSeq, sNil, sSet, put, sIf, bT, tE, tAnd, tOr, tNot, eAnd, eOr, eNot, eIf, eTup, eLst, sAsg, gTup, gsGo, gName, eCon, eSl, bO, oNone, oSome, eChain, tYes, sExpr, eFld, lb__law_parted_1, w, p, n, x1, cNe, q1, q2, d1, d2]
theorem parted_loop (k : Kd) (M : Wd) (hM : M.length < 64) (a b c d f : Sl) : ∀ (ls : List Ef) (s6 : Sl), nr s6 → (∀ e ∈ ls, NE k e) → (∀ e ∈ ls, e.2.length ≤ 2) → ∃ t6, forGo (gName 6) lb__law_parted_1 (ls.map fD) [.frz (.str k.nm), a, b, c, d, f, s6] = some (.nx [.frz (.str k.nm), a, b, c, d, f, t6])
  | [], s6, _, _, _ => ⟨s6, rfl⟩
  | l :: ls, s6, h6, hn, hl => by
    obtain ⟨t6, ih⟩ := parted_loop k M hM a b c d f ls (.frz (fD l)) (nr_frz _) (fun x hx => hn x (List.mem_cons_of_mem _ hx)) (fun x hx => hl x (List.mem_cons_of_mem _ hx))
    refine ⟨t6, ?_⟩
    rw [List.map_cons, forGo]
    have hg : gName 6 (fD l) [.frz (.str k.nm), a, b, c, d, f, s6] = some [.frz (.str k.nm), a, b, c, d, f, .frz (fD l)] := put_nr (i := 6) rfl h6
    rw [hg]
    dsimp only
    rw [parted_step k M hM l (hn l List.mem_cons_self) (hl l List.mem_cons_self)]
    exact ih
theorem el_parted (k : Kd) (M : Wd) (hM : M.length < 64) (xs ys : List Ef) (r : Wd × List Ef) (P : Parts k xs ys r) (hl : xs.length = ys.length) (hn : 1 ≤ xs.length) (mx : ∀ b ∈ xs, ∀ y ∈ b.2, y ∈ M) (my : ∀ b ∈ ys, ∀ y ∈ b.2, y ∈ M) (ml : ∀ b ∈ r.2, ∀ y ∈ b.2, y ∈ M) (ms : ∀ y ∈ r.1, y ∈ M)
    (zx : sz xs ≤ 700) (zy : sz ys ≤ 700) : den__law_parted [.str k.nm, .lst (xs.map fD), .lst (ys.map fD), pD r] = some (.ret (.val (.bl true))) := by
  obtain ⟨s, ls⟩ := r
  obtain ⟨st, len, ne, both, part, _, sh1, sh2⟩ := P
  simp only at *
  have zl := sz_two ls sh1
  have hxs := len_sz xs
  have f1 := el_filled k M hM xs ls s len mx ml ms (by omega)
  have f2 := el_filled k M hM ys ls s (by omega) my ml ms (by omega)
  have qf := eqv_wD (ch k xs ls s) (ch k ys ls s)
  have df1 := dat_wD (ch k xs ls s) 59
  have df2 := dat_wD (ch k ys ls s) 59
  rw [decide_eq_false part] at qf
  obtain ⟨t6, lp⟩ := parted_loop k M hM (.frz (.lst (xs.map fD))) (.frz (.lst (ys.map fD))) (.frz (.tup [wD s, .lst (ls.map fD)])) (.frz (wD s)) (.frz (.lst (ls.map fD))) ls .no nr_no ne sh1
  have hit : iSeq (eVar 5) [.frz (.str k.nm), .frz (.lst (xs.map fD)), .frz (.lst (ys.map fD)), .frz (.tup [wD s, .lst (ls.map fD)]), .frz (wD s), .frz (.lst (ls.map fD)), .no] = some (.ok (ls.map fD) [.frz (.str k.nm), .frz (.lst (xs.map fD)), .frz (.lst (ys.map fD)), .frz (.tup [wD s, .lst (ls.map fD)]), .frz (wD s), .frz (.lst (ls.map fD)), .no]) := rfl
  have hlp : lp__law_parted_1 [.frz (.str k.nm), .frz (.lst (xs.map fD)), .frz (.lst (ys.map fD)), .frz (.tup [wD s, .lst (ls.map fD)]), .frz (wD s), .frz (.lst (ls.map fD)), .no] = some (.nx [.frz (.str k.nm), .frz (.lst (xs.map fD)), .frz (.lst (ys.map fD)), .frz (.tup [wD s, .lst (ls.map fD)]), .frz (wD s), .frz (.lst (ls.map fD)), t6]) := by
    unfold lp__law_parted_1 sFor
    rw [hit]
    exact lp
  obtain ⟨x0, xr, rfl⟩ : ∃ x xr, xs = x :: xr := by
    cases xs with
    | nil => simp at hn
    | cons x xr => exact ⟨x, xr, rfl⟩
  obtain ⟨y0, yr, rfl⟩ : ∃ x xr, ys = x :: xr := by
    cases ys with
    | nil => rw [List.length_nil] at hl; omega
    | cons x xr => exact ⟨x, xr, rfl⟩
  have hw := el_is_word s (by omega)
  have pw := el_plain k s (by omega) fun _ => few_of (M := s) (fun y hy => hy) (by omega) (by omega)
  rw [st] at pw
  have qs := eqv_wD s s
  simp only [decide_true] at qs
  have ds := dat_wD s 59
  have q0 := eqv_nil s
  have dn0 : D.dat (.tup []) 60 = true := rfl
  have i1 : ixS (.lst ((x0 :: xr).map fD)) (.int 0) = some (.val (fD x0)) := ix_lst [] xr x0
  have i2 : ixS (.lst ((y0 :: yr).map fD)) (.int 0) = some (.val (fD y0)) := ix_lst [] yr y0
  have j1 := ix0_fD x0
  have j2 := ix0_fD y0
  have ln1 : ((x0 :: xr).map fD).length = (ls.map fD).length + 1 := by rw [List.length_map, List.length_map]; exact len.symm
  have hb : (x0.1 = true → y0.1 = true → s = []) := fun h1 h2 => both (by simp [h1]) (by simp [h2])
  unfold pD
  simp only
  generalize wD (ch k (x0 :: xr) ls s) = w1 at f1 qf df1
  generalize wD (ch k (y0 :: yr) ls s) = w2 at f2 qf df2
  generalize fD x0 = dx at i1 j1
  generalize fD y0 = dy at i2 j2
  generalize (x0 :: xr).map fD = rx at f1 hlp i1 ln1 ⊢
  generalize (y0 :: yr).map fD = ry at f2 hlp i2 ⊢
  generalize ls.map fD = rl at f1 f2 hlp ln1 ⊢
  have hsub : (rx.length : Int) - 1 = rl.length := by omega
  have hsub2 : ((rl.length : Int) == (rl.length : Int)) = true := by simp
  generalize wD s = ws at hw pw qs ds q0 f1 f2 hlp ⊢
  cases c1 : x0.1 with
  | false =>
    rw [c1] at j1
    simp [fn, start, sRet, sRetN, bS, eCB, bA, aCons, aNil, eSup, eCall, eVar, eC, frzs, R.frz, peeks, R.peek, Rv.r, retR, Own.d, eOp, eUn, bE, op2, op1, sSeq, sNil, sSet, put, sIf, bT, tE, tAnd, tOr, tNot, eAnd, eOr, eNot, eIf, eTup, eLst, sAsg, gTup, gsGo, gName, eCon, eSl, bO, oNone, oSome, eChain, tYes, sExpr, eFld, den__law_parted, body__law_parted, isiD, tyN, isB, fLenS, cNe, D.dat, D.eqv, ixS_two, hw, pw, qs, ds, opSub, hsub, i1, i2, j1, j2, ↓hlp, f1, f2, qf, df1, df2]
  | true =>
    rw [c1] at j1
    cases c2 : y0.1 with
    | false =>
      rw [c2] at j2
      simp [fn, start, sRet, sRetN, bS, eCB, bA, aCons, aNil, eSup, eCall, eVar, eC, frzs, R.frz, peeks, R.peek, Rv.r, retR, Own.d, eOp, eUn, bE, op2, op1, sSeq, sNil, sSet, put, sIf, bT, tE, tAnd, tOr, tNot, eAnd, eOr, eNot, eIf, eTup, eLst, sAsg, gTup, gsGo, gName, eCon, eSl, bO, oNone, oSome, eChain, tYes, sExpr, eFld, den__law_parted, body__law_parted, isiD, tyN, isB, fLenS, cNe, D.dat, D.eqv, ixS_two, hw, pw, qs, ds, opSub, hsub, i1, i2, j1, j2, ↓hlp, f1, f2, qf, df1, df2]
    | true =>
      rw [c2] at j2
      rw [decide_eq_true (hb c1 c2)] at q0
      simp [fn, start, sRet, sRetN, bS, eCB, bA, aCons, aNil, eSup, eCall, eVar, eC, frzs, R.frz, peeks, R.peek, Rv.r, retR, Own.d, eOp, eUn, bE, op2, op1, sSeq, sNil, sSet, put, sIf, bT, tE, tAnd, tOr, tNot, eAnd, eOr, eNot, eIf, eTup, eLst, sAsg, gTup, gsGo, gName, eCon, eSl, bO, oNone, oSome, eChain, tYes, sExpr, eFld, den__law_parted, body__law_parted, isiD, tyN, isB, fLenS, cNe, D.dat, D.dats, D.eqv, ixS_two, hw, pw, qs, q0, ds, opSub, hsub, i1, i2, j1, j2, ↓hlp, f1, f2, qf, df1, df2]
end SoR
end

section
set_option maxRecDepth 100000
set_option maxHeartbeats 2000000
namespace SoR
open DL
theorem e_bare_bad (k : Kd) (s1 : D) (x : Exc) (h : den_checked_row [.str k.nm, s1] = some (.ex x)) : den_bare_row [.str k.nm, s1] = some (.ex x) := by
  simp [fn, start, sRet, sRetN, bS, eCB, bA, aCons, aNil, eSup, eCall, eVar, eC, frzs, R.frz, peeks, R.peek, Rv.r, retR, Own.d, eOp, eUn, bE, op2, op1, sSeq, sNil, sSet, put, sIf, bT, tE, tAnd, tOr, tNot, eAnd, eOr, eNot, eIf, eTup, eLst, sAsg, gTup, gsGo, gName, eCon, eSl, bO, oNone, oSome, eChain, tYes, sExpr, eFld, den_bare_row, body_bare_row, h]
theorem ask_lc1 (a c d e : Sl) (l : List D) (hl : l.length ≤ 1000000) : lc__law_asked_effect_1 [a, .frz (.lst l), c, d, e, .no] = some (.ok (.fre (.lst (l.map fun _ => .non))) [a, .frz (.lst l), c, d, e, .no]) :=
  eLc_all (toD := id) [a, .frz (.lst l), c, d, e, .no] l (ρ1 := [a, .frz (.lst l), c, d, e, .no]) (by simp [iSeq, eVar, R.frz]) hl rfl
    (fun x hx => ⟨[a, .frz (.lst l), c, d, e, .frz x], .val .non, [a, .frz (.lst l), c, d, e, .frz x], [a, .frz (.lst l), c, d, e, .frz x], rfl, rfl, rfl, rfl⟩)
theorem ask_lc2 (a c d e : Sl) (l : List D) (hl : l.length ≤ 1000000) : lc__law_asked_effect_2 [a, .frz (.lst l), c, d, e, .no] = some (.ok (.fre (.lst (l.map fun _ => d_IDLE))) [a, .frz (.lst l), c, d, e, .no]) :=
  eLc_all (toD := id) [a, .frz (.lst l), c, d, e, .no] l (ρ1 := [a, .frz (.lst l), c, d, e, .no]) (by simp [iSeq, eVar, R.frz]) hl rfl
    (fun x hx => ⟨[a, .frz (.lst l), c, d, e, .frz x], .val d_IDLE, [a, .frz (.lst l), c, d, e, .frz x], [a, .frz (.lst l), c, d, e, .frz x], rfl, rfl, rfl, rfl⟩)
theorem natAbs_small (n : Nat) (h : n < 1000000) : n < 2 ^ 1900 := by
  have h2 : (1000000 : Nat) ≤ 2 ^ 20 := by decide
  have h3 : 2 ^ 20 ≤ 2 ^ 1900 := Nat.pow_le_pow_right (by decide) (by decide)
  exact Nat.lt_of_lt_of_le h (Nat.le_trans h2 h3)
theorem el_asked (k : Kd) (es : List Ef) (bad : D) (rest : List D) (he : ∀ e ∈ es, OkE k e) (hl : es.length + rest.length ≤ 1000) (hb : OkT bad) (hn : isE k bad = false) (door : Nat) (hd : door < 3) :
    den__law_asked_effect [.str k.nm, .lst (es.map fD ++ bad :: rest), .int door] = some (.ret (.val (.tup [.str "effect", .str (toString (es.length : Int))]))) := by
  have c := e_checked_bad k false es bad rest he (by omega) hb hn
  have e0 : sq false (es.map fD ++ bad :: rest) = .lst (es.map fD ++ bad :: rest) := rfl
  rw [e0] at c
  have ln : (es.map fD ++ bad :: rest).length ≤ 2000 := by simp; omega
  have small := natAbs_small es.length (by omega)
  generalize hr : es.map fD ++ bad :: rest = row at c ln ⊢
  generalize hp : (2 : Nat) ^ 1900 = P at small
  have r0 := e_bare_bad k (.lst row) _ c
  have r1 := fun s2 => e_parting_bad1 k (.lst row) s2 _ c
  have l1 := ask_lc1 (.frz (.str k.nm)) (.frz (.int door)) (.frz (.tup [.str "let", .str ""])) .no row (by omega)
  have l2 := ask_lc2 (.frz (.str k.nm)) (.frz (.int door)) (.frz (.tup [.str "let", .str ""])) .no row (by omega)
  have hi : row.map (fun _ => d_IDLE) = (row.map fun _ => ((false, []) : Ef)).map fD := by rw [List.map_map]; rfl
  have ci := e_checked_row k false (row.map fun _ => ((false, []) : Ef)) (fun e he => by
    obtain ⟨_, _, rfl⟩ := List.mem_map.mp he
    exact ⟨pl_nil k, by simp, by simp⟩) (by rw [List.length_map]; omega)
  have e1 : sq false ((row.map fun _ => ((false, []) : Ef)).map fD) = .lst ((row.map fun _ => ((false, []) : Ef)).map fD) := rfl
  rw [e1, ← hi] at ci
  have r2 := e_parting_bad2 k (.lst (row.map fun _ => d_IDLE)) (.lst row) _ _ ci c
  generalize row.map (fun _ => d_IDLE) = ri at l2 r2
  generalize row.map (fun _ => D.non) = rn at l1
  clear ci hi e0 e1 hr
  have hd2 : door = 0 ∨ door = 1 ∨ door = 2 := by omega
  rcases hd2 with rfl | rfl | rfl
  · simp [fn, start, sRet, sRetN, bS, eCB, bA, aCons, aNil, eSup, eCall, eVar, eC, frzs, R.frz, peeks, R.peek, Rv.r, retR, Own.d, eOp, eUn, bE, op2, op1, sSeq, sNil, sSet, put, sIf, bT, tE, tAnd, tOr, tNot, eAnd, eOr, eNot, eIf, eTup, eLst, sAsg, gTup, gsGo, gName, eCon, eSl, bO, oNone, oSome, eChain, tYes, sExpr, eFld, den__law_asked_effect, body__law_asked_effect, sTry, tryGo, cEq, D.dat, D.eqv, r0, mt_BadEffect, look, hp, small]
  · simp only [Int.ofNat_one, Int.natCast_one] at l1 ⊢
    simp [fn, start, sRet, sRetN, bS, eCB, bA, aCons, aNil, eSup, eCall, eVar, eC, frzs, R.frz, peeks, R.peek, Rv.r, retR, Own.d, eOp, eUn, bE, op2, op1, sSeq, sNil, sSet, put, sIf, bT, tE, tAnd, tOr, tNot, eAnd, eOr, eNot, eIf, eTup, eLst, sAsg, gTup, gsGo, gName, eCon, eSl, bO, oNone, oSome, eChain, tYes, sExpr, eFld, den__law_asked_effect, body__law_asked_effect, sTry, tryGo, cEq, D.dat, D.eqv, r1, l1, mt_BadEffect, look, hp, small]
  · have e2 : ((2 : Nat) : Int) = 2 := rfl
    rw [e2] at l2 ⊢
    simp [fn, start, sRet, sRetN, bS, eCB, bA, aCons, aNil, eSup, eCall, eVar, eC, frzs, R.frz, peeks, R.peek, Rv.r, retR, Own.d, eOp, eUn, bE, op2, op1, sSeq, sNil, sSet, put, sIf, bT, tE, tAnd, tOr, tNot, eAnd, eOr, eNot, eIf, eTup, eLst, sAsg, gTup, gsGo, gName, eCon, eSl, bO, oNone, oSome, eChain, tYes, sExpr, eFld, den__law_asked_effect, body__law_asked_effect, sTry, tryGo, cEq, D.dat, D.eqv, r2, l2, mt_BadEffect, look, hp, small]
end SoR
end

section
set_option maxRecDepth 100000
set_option maxHeartbeats 2000000
namespace SoR
open DL
/-- told effects: what filled_effect tells, on a state -/
theorem told_on (k : Kd) (M : Wd) (hM : M.length < 64) (a b : Bool) (xs ls : List Ef) (s : Wd) (hl : ls.length + 1 = xs.length) (ox : ∀ e ∈ xs, NE k e ∧ OkE k e) (ol : ∀ e ∈ ls, NE k e ∧ OkE k e) (mx : ∀ e ∈ xs, ∀ y ∈ e.2, y ∈ M) (ml : ∀ e ∈ ls, ∀ y ∈ e.2, y ∈ M) (ms : ∀ y ∈ s, y ∈ M)
    (hz : s.length + sz xs + sz ls ≤ 3900) : ∃ F : Ef, den_filled_effect [.str k.nm, sq a (xs.map fD), sq b (ls.map fD)] = some (.ret (.val (fD F))) ∧ den__law_on [.str k.nm, fD F, wD s] = some (.ret (.val (wD (ch k xs ls s)))) := by
  obtain ⟨e, bs, rfl⟩ : ∃ e bs, xs = e :: bs := by
    cases xs with
    | nil => simp at hl
    | cons e bs => exact ⟨e, bs, rfl⟩
  have h1 : ∀ b ∈ bs, NE k b := fun b hb => (ox b (List.mem_cons_of_mem _ hb)).1
  have h2 : ∀ b ∈ ls, NE k b := fun b hb => (ol b hb).1
  have he := (ox e List.mem_cons_self).1
  have e1 : sz (e :: bs) = e.2.length + 2 + sz bs := by simp [sz]
  have lx := len_sz (e :: bs)
  have ll := len_sz ls
  have f := e_filled_effect k a b e bs ls (fun x hx => (ox x hx).2) (fun x hx => (ol x hx).2) (by omega) (by omega) (by rw [nf_map h1, nf_map h2, he.nf]; omega)
  rw [nf_map h1, nf_map h2, he.nf] at f
  refine ⟨fill k e ls bs, f, ?_⟩
  have fl := fill_len k ls bs e
  have o := el_on k (fill k e ls bs) s (by omega) fun _ => few_of (M := M) (fun y hy => by
    rcases List.mem_append.mp hy with z | z
    · exact ms y z
    · rcases fill_mem _ _ _ z with z | ⟨l, h1, h2⟩ | ⟨b, h1, h2⟩
      · exact mx e List.mem_cons_self y z
      · exact ml l h1 y h2
      · exact mx b (List.mem_cons_of_mem _ h1) y h2) hM (by rw [List.length_append]; omega)
  rw [on_fill] at o
  exact o
theorem alike_turn (k : Kd) (M : Wd) (hM : M.length < 64) (xs ys ls : List Ef) (s : Wd) (hb : bare k xs = bare k ys) (hl : ls.length + 1 = xs.length) (hly : xs.length = ys.length) (ox : ∀ e ∈ xs, NE k e ∧ OkE k e) (oy : ∀ e ∈ ys, NE k e ∧ OkE k e) (ol : ∀ e ∈ ls, NE k e ∧ OkE k e)
    (mx : ∀ e ∈ xs, ∀ y ∈ e.2, y ∈ M) (my : ∀ e ∈ ys, ∀ y ∈ e.2, y ∈ M) (ml : ∀ e ∈ ls, ∀ y ∈ e.2, y ∈ M) (ms : ∀ y ∈ s, y ∈ M) (hz : s.length + sz xs + sz ls ≤ 3900) (hzy : s.length + sz ys + sz ls ≤ 3900) (s0 l t s8 s9 s10 : Sl) (h8 : nr s8) (h9 : nr s9) :
    ∃ t8 t9, nr t8 ∧ nr t9 ∧ (sSeq (sSet 8 (eLst (aCons (eCall den_filled_effect (aCons (eVar 1) (aCons (eVar 3) (aCons (eCB fList (aCons (eVar 6) aNil)) aNil)))) (aCons (eCall den_filled_effect (aCons (eVar 1) (aCons (eVar 4) (aCons (eCB fTuple (aCons (eVar 6) aNil)) aNil)))) aNil)))) lp__law_all_alike_1)
      [s0, .frz (.str k.nm), l, .frz (.lst (xs.map fD)), .frz (.lst (ys.map fD)), t, .own (.lst (ls.map fD)), .frz (wD s), s8, s9, s10] =
      some (.nx [s0, .frz (.str k.nm), l, .frz (.lst (xs.map fD)), .frz (.lst (ys.map fD)), t, .frz (.lst (ls.map fD)), .frz (wD s), t8, t9, s10]) := by
  obtain ⟨F, a1, a2⟩ := told_on k M hM false false xs ls s hl ox ol mx ml ms hz
  obtain ⟨F', b1, b2⟩ := told_on k M hM false true ys ls s (by omega) oy ol my ml ms hzy
  have c1 := el_filled k M hM xs ls s hl mx ml ms (by omega)
  have c2 := el_filled k M hM ys ls s (by omega) my ml ms (by omega)
  have al := ch_alike (k := k) (xs := xs) (ys := ys) (ls := ls) s (fun b hb => (ox b hb).1.pl) (fun b hb => (oy b hb).1.pl) hl (by omega) hb
  rw [← al] at b2 c2
  have q := eqv_wD (ch k xs ls s) (ch k xs ls s)
  simp only [decide_true] at q
  have dq := dat_wD (ch k xs ls s) 59
  have e1 : sq false (xs.map fD) = .lst (xs.map fD) := rfl
  have e2 : sq false (ls.map fD) = .lst (ls.map fD) := rfl
  have e3 : sq false (ys.map fD) = .lst (ys.map fD) := rfl
  have e4 : sq true (ls.map fD) = .tup (ls.map fD) := rfl
  rw [e1, e2] at a1
  rw [e3, e4] at b1
  clear e1 e2 e3 e4
  generalize wD (ch k xs ls s) = W at a2 b2 c1 c2 q dq
  generalize wD s = ws at a2 b2 c1 c2 ⊢
  generalize fD F = dF at a1 a2
  generalize fD F' = dF' at b1 b2
  generalize xs.map fD = rx at a1 c1 ⊢
  generalize ys.map fD = ry at b1 c2 ⊢
  generalize ls.map fD = rl at a1 b1 c1 c2 ⊢
  refine ⟨.own (.lst [dF, dF']), .frz W, nr_own _, nr_frz _, ?_⟩
  have ix0 : ixS (.lst [dF, dF']) (.int 0) = some (.val dF) := rfl
  have ix1 : ixS (.lst [dF, dF']) (.int 1) = some (.val dF') := rfl
  have st : ∀ s9, lb__law_all_alike_1 [s0, .frz (.str k.nm), l, .frz (.lst rx), .frz (.lst ry), t, .frz (.lst rl), .frz ws, .own (.lst [dF, dF']), .frz W, s9] = some (.nx [s0, .frz (.str k.nm), l, .frz (.lst rx), .frz (.lst ry), t, .frz (.lst rl), .frz ws, .own (.lst [dF, dF']), .frz W, s9]) := fun s9 => by
    simp [fn, start, sRet, sRetN, bS, eCB, bA, aCons, aNil, eSup, eCall, eVar, eC, frzs, R.frz, peeks, R.peek, Rv.r, retR, Own.d, eOp, eUn, bE, op2, op1, sSeq, sNil, sSet, put_z, put_s, nr_no, nr_frz, nr_own, sIf, bT, tE, tAnd, tOr, tNot, eAnd, eOr, eNot, eIf, eTup, eLst, sAsg, gTup, gsGo, gName, eCon, eSl, bO, oNone, oSome, eChain, tYes, sExpr, eFld, lb__law_all_alike_1, c1, cNe, q, dq]
  have hit : iSeq (eTup (aCons (eCall den__law_filled (aCons (eVar 1) (aCons (eVar 4) (aCons (eVar 6) (aCons (eVar 7) aNil))))) (aCons (eCall den__law_on (aCons (eVar 1) (aCons (eOp ixS (eVar 8) (eC (.int 0))) (aCons (eVar 7) aNil)))) (aCons (eCall den__law_on (aCons (eVar 1) (aCons (eOp ixS (eVar 8) (eC (.int 1))) (aCons (eVar 7) aNil)))) aNil))))
      [s0, .frz (.str k.nm), l, .frz (.lst rx), .frz (.lst ry), t, .own (.lst rl), .frz ws, .own (.lst [dF, dF']), s9, s10] = some (.ok [W, W, W] [s0, .frz (.str k.nm), l, .frz (.lst rx), .frz (.lst ry), t, .frz (.lst rl), .frz ws, .own (.lst [dF, dF']), s9, s10]) := by
    simp [fn, start, sRet, sRetN, bS, eCB, bA, aCons, aNil, eSup, eCall, eVar, eC, frzs, R.frz, peeks, R.peek, Rv.r, retR, Own.d, eOp, eUn, bE, op2, op1, sSeq, sNil, sSet, put_z, put_s, nr_no, nr_frz, nr_own, sIf, bT, tE, tAnd, tOr, tNot, eAnd, eOr, eNot, eIf, eTup, eLst, sAsg, gTup, gsGo, gName, eCon, eSl, bO, oNone, oSome, eChain, tYes, sExpr, eFld, iSeq, c2, ix0, ix1, a2, b2]
  have g9 : ∀ (u : Sl) (d : D), nr u → gName 9 d [s0, .frz (.str k.nm), l, .frz (.lst rx), .frz (.lst ry), t, .frz (.lst rl), .frz ws, .own (.lst [dF, dF']), u, s10] = some [s0, .frz (.str k.nm), l, .frz (.lst rx), .frz (.lst ry), t, .frz (.lst rl), .frz ws, .own (.lst [dF, dF']), .frz d, s10] := fun u d hu => put_nr (i := 9) rfl hu
  have hlp : lp__law_all_alike_1 [s0, .frz (.str k.nm), l, .frz (.lst rx), .frz (.lst ry), t, .own (.lst rl), .frz ws, .own (.lst [dF, dF']), s9, s10] = some (.nx [s0, .frz (.str k.nm), l, .frz (.lst rx), .frz (.lst ry), t, .frz (.lst rl), .frz ws, .own (.lst [dF, dF']), .frz W, s10]) := by
    unfold lp__law_all_alike_1 sFor
    rw [hit]
    dsimp only
    rw [forGo, g9 s9 W h9]
    dsimp only
    rw [st s10]
    dsimp only
    rw [forGo, g9 _ W (nr_frz _)]
    dsimp only
    rw [st s10]
    dsimp only
    rw [forGo, g9 _ W (nr_frz _)]
    dsimp only
    rw [st s10]
    dsimp only
    rw [forGo]
  have fl1 : fList [.lst rl] = some (.fre (.lst rl)) := rfl
  have ft1 : fTuple [.lst rl] = some (.val (.tup rl)) := rfl
  simp [fn, start, sRet, sRetN, bS, eCB, bA, aCons, aNil, eSup, eCall, eVar, eC, frzs, R.frz, peeks, R.peek, Rv.r, retR, Own.d, eOp, eUn, bE, op2, op1, sSeq, sNil, sSet, put_z, put_s, nr_no, nr_frz, nr_own, sIf, bT, tE, tAnd, tOr, tNot, eAnd, eOr, eNot, eIf, eTup, eLst, sAsg, gTup, gsGo, gName, eCon, eSl, bO, oNone, oSome, eChain, tYes, sExpr, eFld, a1, b1, h8, h9, fl1, ft1, ↓hlp]
end SoR
end

section
set_option maxRecDepth 100000
set_option maxHeartbeats 2000000
namespace SoR
open DL
theorem aa_lc2 {o : Own} (ho : IsSt o) (k : Kd) (L : Wd) (hL : IsLs L) (one : List D) (hn : one.length ≤ 1000) (s4 s5 s6 s7 s8 s9 : Sl) : ∃ (ls : List Ef) (o' : Own), lc__law_all_alike_2 [.ref o, .frz (.str k.nm), .frz (.lst (L.map .int)), .frz (.lst one), s4, s5, s6, s7, s8, s9, .no] =
    some (.ok (.fre (.lst (ls.map fD))) [.ref o', .frz (.str k.nm), .frz (.lst (L.map .int)), .frz (.lst one), s4, s5, s6, s7, s8, s9, .no]) ∧ IsSt o' ∧ ls.length = (one.drop 1).length ∧ ∀ e ∈ ls, GE k L e := by
  have hit : iSeq (eSl slOp (eVar 3) (oSome (eC (.int 1))) oNone) [.ref o, .frz (.str k.nm), .frz (.lst (L.map .int)), .frz (.lst one), s4, s5, s6, s7, s8, s9, .no] = some (.ok (one.drop 1) [.ref o, .frz (.str k.nm), .frz (.lst (L.map .int)), .frz (.lst one), s4, s5, s6, s7, s8, s9, .no]) := by
    have := slOne one
    generalize one.drop 1 = od at this ⊢
    generalize L.map D.int = l
    simp [fn, start, sRet, sRetN, bS, eCB, bA, aCons, aNil, eSup, eCall, eVar, eC, frzs, R.frz, peeks, R.peek, Rv.r, retR, Own.d, eOp, eUn, bE, op2, op1, sSeq, sNil, sSet, put, sIf, bT, tE, tAnd, tOr, tNot, eAnd, eOr, eNot, eIf, eTup, eLst, sAsg, gTup, gsGo, gName, eCon, eSl, bO, oNone, oSome, eChain, tYes, sExpr, eFld, iSeq, this]
  obtain ⟨xs, ρ', e, e2, e3, o', ho', rfl⟩ := eLc_inv (g := gName 10) (el := eCallM den__law_late_effect (aCons (eVar 0) (aCons (eVar 1) (aCons (eVar 2) aNil)))) (vs := [10])
    (I := fun ρ => ∃ o, IsSt o ∧ ρ = [.ref o, .frz (.str k.nm), .frz (.lst (L.map .int)), .frz (.lst one), s4, s5, s6, s7, s8, s9, .no]) (Q := fun d => ∃ e, GE k L e ∧ d = fD e) hit (by rw [List.length_drop]; omega) ⟨o, ho, rfl⟩ (by
      rintro d hd ρ ⟨o, ho, rfl⟩
      obtain ⟨e, o1, el, ho1, he⟩ := el_late ho k L hL
      generalize L.map D.int = l at el ⊢
      refine ⟨[.ref o, .frz (.str k.nm), .frz (.lst l), .frz (.lst one), s4, s5, s6, s7, s8, s9, .frz d], .val (fD e), [.ref o1, .frz (.str k.nm), .frz (.lst l), .frz (.lst one), s4, s5, s6, s7, s8, s9, .frz d], _, fD e, rfl, ?_, rfl, ⟨e, he, rfl⟩, o1, ho1, rfl⟩
      generalize fD e = de at el ⊢
      simp [fn, start, sRet, sRetN, bS, eCB, bA, aCons, aNil, eSup, eCall, eVar, eC, frzs, R.frz, peeks, R.peek, Rv.r, retR, Own.d, eOp, eUn, bE, op2, op1, sSeq, sNil, sSet, put, sIf, bT, tE, tAnd, tOr, tNot, eAnd, eOr, eNot, eIf, eTup, eLst, sAsg, gTup, gsGo, gName, eCon, eSl, bO, oNone, oSome, eChain, tYes, sExpr, eFld, eCallM, left, el])
  obtain ⟨es, rfl, hes⟩ := all_fD e3
  exact ⟨es, o', e, ho', by rw [← e2, List.length_map], hes⟩
theorem aa_lc1 (a b c : Sl) (one : List D) (hn : one.length ≤ 1000) (s4 s5 s6 s7 s8 s9 : Sl) : lc__law_all_alike_1 [a, b, c, .frz (.lst one), s4, s5, s6, s7, s8, s9, .no] =
    some (.ok (.fre (.lst (((one.drop 1).map fun _ => ((false, []) : Ef)).map fD))) [a, b, c, .frz (.lst one), s4, s5, s6, s7, s8, s9, .no]) := by
  have hit : iSeq (eSl slOp (eVar 3) (oSome (eC (.int 1))) oNone) [a, b, c, .frz (.lst one), s4, s5, s6, s7, s8, s9, .no] = some (.ok ((one.drop 1).map id) [a, b, c, .frz (.lst one), s4, s5, s6, s7, s8, s9, .no]) := by
    have := slOne one
    rw [List.map_id]
    generalize one.drop 1 = od at this ⊢
    simp [fn, start, sRet, sRetN, bS, eCB, bA, aCons, aNil, eSup, eCall, eVar, eC, frzs, R.frz, peeks, R.peek, Rv.r, retR, Own.d, eOp, eUn, bE, op2, op1, sSeq, sNil, sSet, put, sIf, bT, tE, tAnd, tOr, tNot, eAnd, eOr, eNot, eIf, eTup, eLst, sAsg, gTup, gsGo, gName, eCon, eSl, bO, oNone, oSome, eChain, tYes, sExpr, eFld, iSeq, this]
  have z := eLc_all (g := gName 10) (el := eTup (aCons (eC (.bl false)) (aCons (eTup aNil) aNil))) (vs := [10]) (toD := id) (f := fun _ => .tup [.bl false, .tup []]) [a, b, c, .frz (.lst one), s4, s5, s6, s7, s8, s9, .no] (one.drop 1) hit (by rw [List.length_drop]; omega) rfl
    (fun x hx => ⟨[a, b, c, .frz (.lst one), s4, s5, s6, s7, s8, s9, .frz x], .val (.tup [.bl false, .tup []]), [a, b, c, .frz (.lst one), s4, s5, s6, s7, s8, s9, .frz x], [a, b, c, .frz (.lst one), s4, s5, s6, s7, s8, s9, .frz x], rfl, by simp [fn, start, sRet, sRetN, bS, eCB, bA, aCons, aNil, eSup, eCall, eVar, eC, frzs, R.frz, peeks, R.peek, Rv.r, retR, Own.d, eOp, eUn, bE, op2, op1, sSeq, sNil, sSet, put, sIf, bT, tE, tAnd, tOr, tNot, eAnd, eOr, eNot, eIf, eTup, eLst, sAsg, gTup, gsGo, gName, eCon, eSl, bO, oNone, oSome, eChain, tYes, sExpr, eFld], rfl, rfl⟩)
  rw [List.map_map]
  exact z
theorem aa_step {o : Own} (ho : IsSt o) (k : Kd) (L : Wd) (hL : IsLs L) (xs ys : List Ef) (hb : bare k xs = bare k ys) (hn : 1 ≤ xs.length) (h24 : xs.length ≤ 24) (hly : xs.length = ys.length) (gx : ∀ e ∈ xs, GE k L e) (gy : ∀ e ∈ ys, GE k L e) (i : Nat) (hi : i < 4) (s6 s7 s8 s9 : Sl) (h6 : nr s6) (h7 : nr s7) (h8 : nr s8) (h9 : nr s9) :
    ∃ o' t6 t7 t8 t9, IsSt o' ∧ nr t6 ∧ nr t7 ∧ nr t8 ∧ nr t9 ∧ lb__law_all_alike_2 [.ref o, .frz (.str k.nm), .frz (.lst (L.map .int)), .frz (.lst (xs.map fD)), .frz (.lst (ys.map fD)), .frz (.int i), s6, s7, s8, s9, .no] =
      some (.nx [.ref o', .frz (.str k.nm), .frz (.lst (L.map .int)), .frz (.lst (xs.map fD)), .frz (.lst (ys.map fD)), .frz (.int i), t6, t7, t8, t9, .no]) := by
  have hLl := hL.2.1
  have lt : ∀ {e}, GE k L e → NE k e ∧ OkE k e := fun he => ⟨he.ne, he.ne.okE (fun y hy => hL.2.2 y (he.mem y hy)) (by have := he.ln; omega)⟩
  obtain ⟨ls, o1, lc, ho1, hls, gls⟩ := aa_lc2 ho k L hL (xs.map fD) (by rw [List.length_map]; omega) (.frz (.lst (ys.map fD))) (.frz (.int i)) s6 s7 s8 s9
  have lc1 := aa_lc1 (.ref o1) (.frz (.str k.nm)) (.frz (.lst (L.map .int))) (xs.map fD) (by rw [List.length_map]; omega) (.frz (.lst (ys.map fD))) (.frz (.int i)) (.own (.lst (ls.map fD))) s7 s8 s9
  rw [List.length_drop, List.length_map] at hls
  obtain ⟨a, L', hLe⟩ : ∃ a L', L = a :: L' := by
    cases L with
    | nil => have := hL.1; simp at this
    | cons a L' => exact ⟨a, L', rfl⟩
  have zx := GE_sz gx
  have zy := GE_sz gy
  have M64 : (L ++ [999999999]).length < 64 := by simp; omega
  have pm : ∀ y ∈ ([a, 999999999] : Wd), y ∈ L ++ [999999999] := fun y hy => by
    rw [hLe]
    simp at hy ⊢
    rcases hy with z | z
    · exact .inl z
    · exact .inr (.inr z)
  have pw := el_plain k [a, 999999999] (by simp) fun _ => few_of pm M64 (by simp)
  have pwl := pl_len k [a, 999999999]
  have key : ∀ (late : List Ef) (s : Wd) (s0 : Sl), late.length + 1 = xs.length → (∀ e ∈ late, GE k L e) → (∀ y ∈ s, y ∈ L ++ [999999999]) → s.length ≤ 3 → _ := fun late s s0 h1 h2 h3 h4 => by
    have zl := GE_sz h2
    exact alike_turn k (L ++ [999999999]) M64 xs ys late s hb h1 hly (fun e he => lt (gx e he)) (fun e he => lt (gy e he)) (fun e he => lt (h2 e he)) (fun e he y hy => List.mem_append_left _ ((gx e he).mem y hy)) (fun e he y hy => List.mem_append_left _ ((gy e he).mem y hy))
      (fun e he y hy => List.mem_append_left _ ((h2 e he).mem y hy)) h3 (by omega) (by omega) s0 (.frz (.lst (L.map .int))) (.frz (.int i)) s8 s9 .no h8 h9
  have ixl : ixS (.lst (L.map .int)) (.int 0) = some (.val (.int a)) := by rw [hLe]; exact ixL (a :: L') 0 (by simp)
  have ea : wD [a, 999999999] = .tup [.int a, .int 999999999] := rfl
  rw [ea] at pw
  have g0 : ∀ e ∈ (xs.map fD).drop 1 |>.map fun _ => ((false, []) : Ef), GE k L e := fun e he => by
    obtain ⟨_, _, rfl⟩ := List.mem_map.mp he
    exact ⟨NE.idle k, by simp, by simp⟩
  have k1 := key ls (pl k [a, 999999999]) (.ref o1) (by omega) gls (fun y hy => pm y (pl_mem hy)) (by simpa using pwl)
  have k2 := key (((xs.map fD).drop 1).map fun _ => (false, [])) (pl k [a, 999999999]) (.ref o1) (by simp; omega) g0 (fun y hy => pm y (pl_mem hy)) (by simpa using pwl)
  have k3 := key ls [] (.ref o1) (by omega) gls (by simp) (by simp)
  clear key g0 gls pwl pm M64 zx zy lt hls ea
  unfold lb__law_all_alike_2
  generalize (sSeq (sSet 8 (eLst (aCons (eCall den_filled_effect (aCons (eVar 1) (aCons (eVar 3) (aCons (eCB fList (aCons (eVar 6) aNil)) aNil)))) (aCons (eCall den_filled_effect (aCons (eVar 1) (aCons (eVar 4) (aCons (eCB fTuple (aCons (eVar 6) aNil)) aNil)))) aNil)))) lp__law_all_alike_1) = T at k1 k2 k3 ⊢
  have ew : wD [] = .tup [] := rfl
  rw [ew] at k3
  generalize wD (pl k [a, 999999999]) = wp at pw k1 k2
  generalize L.map D.int = l at lc lc1 ixl k1 k2 k3 ⊢
  generalize (((xs.map fD).drop 1).map fun _ => ((false, []) : Ef)).map fD = r0 at lc1 k2
  generalize xs.map fD = rx at lc lc1 k1 k2 k3 ⊢
  generalize ys.map fD = ry at lc lc1 k1 k2 k3 ⊢
  generalize ls.map fD = rl at lc lc1 k1 k3
  have hi2 : i = 0 ∨ i = 1 ∨ i = 2 ∨ i = 3 := by omega
  rcases hi2 with rfl | rfl | rfl | rfl
  · obtain ⟨t8, t9, h8', h9', k1⟩ := k1
    refine ⟨o1, .frz (.lst rl), .frz wp, t8, t9, ho1, nr_frz _, nr_frz _, h8', h9', ?_⟩
    have ec : ((0 : Nat) : Int) = 0 := rfl
    rw [ec] at lc k1 ⊢
    simp [fn, start, sRet, sRetN, bS, eCB, bA, aCons, aNil, eSup, eCall, eVar, eC, frzs, R.frz, peeks, R.peek, Rv.r, retR, Own.d, eOp, eUn, bE, op2, op1, sSeq, sNil, sSet, put_z, put_s, nr_no, nr_frz, nr_own, sIf, bT, tE, tAnd, tOr, tNot, eAnd, eOr, eNot, eIf, eTup, eLst, sAsg, gTup, gsGo, gName, eCon, eSl, bO, oNone, oSome, eChain, tYes, sExpr, eFld, h6, h7, ↓lc, cEq, D.dat, D.eqv, ixl, pw, k1]
  · obtain ⟨t8, t9, h8', h9', k2⟩ := k2
    refine ⟨o1, .frz (.lst r0), .frz wp, t8, t9, ho1, nr_frz _, nr_frz _, h8', h9', ?_⟩
    have ec : ((1 : Nat) : Int) = 1 := rfl
    rw [ec] at lc lc1 k2 ⊢
    simp [fn, start, sRet, sRetN, bS, eCB, bA, aCons, aNil, eSup, eCall, eVar, eC, frzs, R.frz, peeks, R.peek, Rv.r, retR, Own.d, eOp, eUn, bE, op2, op1, sSeq, sNil, sSet, put_z, put_s, nr_no, nr_frz, nr_own, sIf, bT, tE, tAnd, tOr, tNot, eAnd, eOr, eNot, eIf, eTup, eLst, sAsg, gTup, gsGo, gName, eCon, eSl, bO, oNone, oSome, eChain, tYes, sExpr, eFld, h6, h7, ↓lc, ↓lc1, cEq, D.dat, D.eqv, ixl, pw, k2]
  · obtain ⟨t8, t9, h8', h9', k1⟩ := k1
    refine ⟨o1, .frz (.lst rl), .frz wp, t8, t9, ho1, nr_frz _, nr_frz _, h8', h9', ?_⟩
    have ec : ((2 : Nat) : Int) = 2 := rfl
    rw [ec] at lc k1 ⊢
    simp [fn, start, sRet, sRetN, bS, eCB, bA, aCons, aNil, eSup, eCall, eVar, eC, frzs, R.frz, peeks, R.peek, Rv.r, retR, Own.d, eOp, eUn, bE, op2, op1, sSeq, sNil, sSet, put_z, put_s, nr_no, nr_frz, nr_own, sIf, bT, tE, tAnd, tOr, tNot, eAnd, eOr, eNot, eIf, eTup, eLst, sAsg, gTup, gsGo, gName, eCon, eSl, bO, oNone, oSome, eChain, tYes, sExpr, eFld, h6, h7, ↓lc, cEq, D.dat, D.eqv, ixl, pw, k1]
  · obtain ⟨t8, t9, h8', h9', k3⟩ := k3
    refine ⟨o1, .frz (.lst rl), .frz (.tup []), t8, t9, ho1, nr_frz _, nr_frz _, h8', h9', ?_⟩
    have ec : ((3 : Nat) : Int) = 3 := rfl
    rw [ec] at lc k3 ⊢
    simp [fn, start, sRet, sRetN, bS, eCB, bA, aCons, aNil, eSup, eCall, eVar, eC, frzs, R.frz, peeks, R.peek, Rv.r, retR, Own.d, eOp, eUn, bE, op2, op1, sSeq, sNil, sSet, put_z, put_s, nr_no, nr_frz, nr_own, sIf, bT, tE, tAnd, tOr, tNot, eAnd, eOr, eNot, eIf, eTup, eLst, sAsg, gTup, gsGo, gName, eCon, eSl, bO, oNone, oSome, eChain, tYes, sExpr, eFld, h6, h7, ↓lc, cEq, D.dat, D.eqv, ixl, pw, k3]
theorem el_alike {o : Own} (ho : IsSt o) (k : Kd) (L : Wd) (hL : IsLs L) (xs ys : List Ef) (hb : bare k xs = bare k ys) (hn : 1 ≤ xs.length) (h24 : xs.length ≤ 24) (hly : xs.length = ys.length) (gx : ∀ e ∈ xs, GE k L e) (gy : ∀ e ∈ ys, GE k L e) :
    ∃ o', den__law_all_alike o [.str k.nm, .lst (L.map .int), .lst (xs.map fD), .lst (ys.map fD)] = some (.ret (.val (.bl true)), o') := by
  obtain ⟨ρ', e3, o3, s5, s6, s7, s8, s9, rfl, i3⟩ := forGo_inv (g := gName 5) (bd := lb__law_all_alike_2) (I := fun j ρ => ∃ o s5 s6 s7 s8 s9, ρ = [.ref o, .frz (.str k.nm), .frz (.lst (L.map .int)), .frz (.lst (xs.map fD)), .frz (.lst (ys.map fD)), s5, s6, s7, s8, s9, .no] ∧ IsSt o ∧ nr s5 ∧ nr s6 ∧ nr s7 ∧ nr s8 ∧ nr s9)
    (plcs 0 4) 0 [.ref o, .frz (.str k.nm), .frz (.lst (L.map .int)), .frz (.lst (xs.map fD)), .frz (.lst (ys.map fD)), .no, .no, .no, .no, .no, .no] ⟨o, .no, .no, .no, .no, .no, rfl, ho, nr_no, nr_no, nr_no, nr_no, nr_no⟩ (by
    rintro d hd j ρ hj ⟨o, s5, s6, s7, s8, s9, rfl, ho, h5, h6, h7, h8, h9⟩
    obtain ⟨i, rfl, _, hi⟩ := mem_plcs hd
    obtain ⟨o', t6, t7, t8, t9, ho', n6, n7, n8, n9, st⟩ := aa_step ho k L hL xs ys hb hn h24 hly gx gy i (by omega) s6 s7 s8 s9 h6 h7 h8 h9
    exact ⟨_, _, put_nr (i := 5) rfl h5, .inl st, o', .frz (.int i), t6, t7, t8, t9, rfl, ho', nr_frz _, n6, n7, n8, n9⟩)
  refine ⟨o3, ?_⟩
  have hlp : lp__law_all_alike_2 [.ref o, .frz (.str k.nm), .frz (.lst (L.map .int)), .frz (.lst (xs.map fD)), .frz (.lst (ys.map fD)), .no, .no, .no, .no, .no, .no] = some (.nx [.ref o3, .frz (.str k.nm), .frz (.lst (L.map .int)), .frz (.lst (xs.map fD)), .frz (.lst (ys.map fD)), s5, s6, s7, s8, s9, .no]) := by
    have hit : iRange (aCons (eC (.int 4)) aNil) [.ref o, .frz (.str k.nm), .frz (.lst (L.map .int)), .frz (.lst (xs.map fD)), .frz (.lst (ys.map fD)), .no, .no, .no, .no, .no, .no] = some (.ok (plcs 0 4) [.ref o, .frz (.str k.nm), .frz (.lst (L.map .int)), .frz (.lst (xs.map fD)), .frz (.lst (ys.map fD)), .no, .no, .no, .no, .no, .no]) := by
      rw [← rangeD_plcs]
      rfl
    unfold lp__law_all_alike_2 sFor
    rw [hit]
    generalize plcs 0 4 = pp at e3 ⊢
    exact e3
  generalize L.map D.int = l at hlp ⊢
  generalize xs.map fD = rx at hlp ⊢
  generalize ys.map fD = ry at hlp ⊢
  simp [fn, start, sRet, sRetN, bS, eCB, bA, aCons, aNil, eSup, eCall, eVar, eC, frzs, R.frz, peeks, R.peek, Rv.r, retR, Own.d, eOp, eUn, bE, op2, op1, sSeq, sNil, sSet, put, sIf, bT, tE, tAnd, tOr, tNot, eAnd, eOr, eNot, eIf, eTup, eLst, sAsg, gTup, gsGo, gName, eCon, eSl, bO, oNone, oSome, eChain, tYes, sExpr, eFld, den__law_all_alike, fnM, body__law_all_alike, ↓hlp, DL.fin]
end SoR
end

section
set_option maxRecDepth 100000
set_option maxHeartbeats 2000000
namespace SoR
open DL
/-- parting_blocks -/
theorem lc_law (a b c d e f g h i : Sl) (j k l m n o : Sl) (zs : List Ef) (hz : zs.length ≤ 1000) (hb : ∀ e ∈ zs, e.2.length ≤ 1000) : lc_law_1 [a, b, c, d, e, f, g, h, i, .own (.lst (zs.map fD)), j, k, l, m, n, o, .no] = some (.ok (.fre (.lst (zs.map fun _ => .bl true))) [a, b, c, d, e, f, g, h, i, .frz (.lst (zs.map fD)), j, k, l, m, n, o, .no]) :=
  eLc_all (toD := fD) [a, b, c, d, e, f, g, h, i, .frz (.lst (zs.map fD)), j, k, l, m, n, o, .no] zs (ρ1 := [a, b, c, d, e, f, g, h, i, .frz (.lst (zs.map fD)), j, k, l, m, n, o, .no]) rfl (by omega) rfl
    (fun x hx => by
      have w := el_is_effect x (by have := hb x hx; omega)
      generalize zs.map fD = r
      generalize fD x = dx at w ⊢
      exact ⟨[a, b, c, d, e, f, g, h, i, .frz (.lst r), j, k, l, m, n, o, .frz dx], .val (.bl true), _, [a, b, c, d, e, f, g, h, i, .frz (.lst r), j, k, l, m, n, o, .frz dx], rfl, by simp [fn, start, sRet, sRetN, bS, eCB, bA, aCons, aNil, eSup, eCall, eVar, eC, frzs, R.frz, peeks, R.peek, Rv.r, retR, Own.d, eOp, eUn, bE, op2, op1, sSeq, sNil, sSet, put, sIf, bT, tE, tAnd, tOr, tNot, eAnd, eOr, eNot, eIf, eTup, eLst, sAsg, gTup, gsGo, gName, eCon, eSl, bO, oNone, oSome, eChain, tYes, sExpr, eFld, w], rfl, rfl⟩)
theorem row_ok (k : Kd) (L : Wd) (hL : IsLs L) (zs : List Ef) (hz : zs.length ≤ 24) (gz : ∀ e ∈ zs, GE k L e) (a b d e f g h i9 j l m n o p q : Sl) (h9 : nr i9) :
    lb_law_3 [a, b, .frz (.str k.nm), d, e, f, g, h, .frz (.lst (zs.map fD)), i9, j, l, m, n, o, p, .no] =
      some (.nx [a, b, .frz (.str k.nm), d, e, f, g, h, .frz (.lst (zs.map fD)), .frz (.lst ((bare k zs).map fD)), j, l, m, n, o, p, .no]) := by
  have z1 := GE_sz gz
  have nz : ∀ e ∈ zs, NE k e := fun e he => (gz e he).ne
  have b1 := e_bare_row k false zs (fun e he => (GE.both hL (gz e he)).2) (by omega)
  rw [nf_map nz, sq_f] at b1
  have b2 := el_bare k zs (by omega) (by omega)
  have bl := bare_lens (k := k) (n := 12) (bs := zs) fun b hb => (gz b hb).ln
  have bm := bare_mem (k := k) (bs := zs) (L := L) fun b hb => (gz b hb).mem
  have bn := bare_NE nz
  have b3 := e_bare_row k true (bare k zs) (fun e he => (bn e he).okE (fun y hy => hL.2.2 y (bm e he y hy)) (by have := bl e he; omega)) (by rw [bare_len]; omega)
  rw [nf_map bn, bare_idem, sq_t] at b3
  have lc := lc_law a b (.frz (.str k.nm)) d e f g h (.frz (.lst (zs.map fD))) j l m n o p (bare k zs) (by rw [bare_len]; omega) (fun e he => by have := bl e he; omega)
  have q1 := eqv_row (bare k zs) (bare k zs)
  simp only [decide_true] at q1
  have q2 := dat_row (bare k zs)
  have al := fAll_map (fun _ : Ef => true) (bare k zs)
  have at' : (bare k zs).all (fun _ => true) = true := by simp
  rw [at'] at al
  generalize ((bare k zs).map fun _ => D.bl true) = bb at lc al
  generalize (bare k zs).map fD = r2 at b1 b2 b3 lc q1 q2 ⊢
  generalize zs.map fD = r1 at b1 b2 lc ⊢
  have fl1 : fList [.lst r1] = some (.fre (.lst r1)) := rfl
  have ft1 : fTuple [.lst r2] = some (.val (.tup r2)) := rfl
  simp [fn, start, sRet, sRetN, bS, eCB, bA, aCons, aNil, eSup, eCall, eVar, eC, frzs, R.frz, peeks, R.peek, Rv.r, retR, Own.d, eOp, eUn, bE, op2, op1, sSeq, sNil, sSet, put_z, put_s, nr_no, nr_frz, nr_own, sIf, bT, tE, tAnd, tOr, tNot, eAnd, eOr, eNot, eIf, eTup, eLst, sAsg, gTup, gsGo, gName, eCon, eSl, bO, oNone, oSome, eChain, tYes, sExpr, eFld, lb_law_3, h9, fl1, ft1, b1, b2, b3, isiD, tyN, isB, cNe, q1, q2, ↓lc, al]
end SoR
end

section
set_option maxRecDepth 100000
set_option maxHeartbeats 2000000
namespace SoR
open DL
theorem bad_row (xs : List Ef) (at' : Nat) (bad : D) (hat : at' < xs.length) (hl : xs.length ≤ 1000) (ρ : DL.Env) (h6 : ρ[6]? = some (.frz (.lst (xs.map fD)))) (h13 : ρ[13]? = some (.frz (.int at'))) (h14 : ρ[14]? = some (.frz bad)) :
    eOp opAdd (eOp opAdd (eSl slOp (eVar 6) oNone (oSome (eVar 13))) (eLst (aCons (eVar 14) aNil))) (eSl slOp (eVar 6) (oSome (eOp opAdd (eVar 13) (eC (.int 1)))) oNone) ρ = some (.ok (.fre (.lst ((xs.take at').map fD ++ bad :: (xs.drop (at' + 1)).map fD))) ρ) := by
  have c1 := cut_to (xs.map fD) at'
  have c2 := cut_from (xs.map fD) at'
  rw [← List.map_take] at c1
  rw [← List.map_drop] at c2
  have s1 : slOp (.lst (xs.map fD)) none (some (at' : Int)) = some (.fre (.lst ((xs.take at').map fD))) := by simp only [slOp]; rw [c1]
  have s2 : slOp (.lst (xs.map fD)) (some ((at' : Int) + 1)) none = some (.fre (.lst ((xs.drop (at' + 1)).map fD))) := by simp only [slOp]; rw [c2]
  have l1 : ((xs.take at').map fD).length ≤ 1000 := by rw [List.length_map, List.length_take]; omega
  have l2 : ((xs.drop (at' + 1)).map fD).length ≤ 1000 := by rw [List.length_map, List.length_drop]; omega
  generalize xs.map fD = r at h6 s1 s2
  generalize (xs.take at').map fD = r1 at s1 l1 ⊢
  generalize (xs.drop (at' + 1)).map fD = r2 at s2 l2 ⊢
  have q1 : r1.length + 1 ≤ 1000000 := by omega
  have q2 : r1.length + (r2.length + 1) ≤ 1000000 := by omega
  have q3 : r1.length ≤ 999999 := by omega
  have q4 : r1.length + 1 + r2.length ≤ 1000000 := by omega
  simp [fn, start, sRet, sRetN, bS, eCB, bA, aCons, aNil, eSup, eCall, eVar, eC, frzs, R.frz, peeks, R.peek, Rv.r, retR, Own.d, eOp, eUn, bE, op2, op1, sSeq, sNil, sSet, put, sIf, bT, tE, tAnd, tOr, tNot, eAnd, eOr, eNot, eIf, eTup, eLst, sAsg, gTup, gsGo, gName, eCon, eSl, bO, oNone, oSome, eChain, tYes, sExpr, eFld, h6, h13, h14, s1, s2, opAdd, q1, q2, q3, q4]
structure BadD (k : Kd) (d : D) : Prop where
  ok : OkT d
  no : isE k d = false
theorem bad_step (k : Kd) (L : Wd) (hL : IsLs L) (xs : List Ef) (gx : ∀ e ∈ xs, GE k L e) (at' : Nat) (hat : at' < xs.length) (hl : xs.length ≤ 24) (bad : D) (hb : BadD k bad) (door : Nat) (hd : door < 3) (s0 s1 s3 s4 s5 s7 s8 s9 s10 s11 s12 s16 : Sl) :
    lb_law_1 [s0, s1, .frz (.str k.nm), s3, s4, s5, .frz (.lst (xs.map fD)), s7, s8, s9, s10, s11, s12, .frz (.int at'), .frz bad, .frz (.int door), s16] =
      some (.nx [s0, s1, .frz (.str k.nm), s3, s4, s5, .frz (.lst (xs.map fD)), s7, s8, s9, s10, s11, s12, .frz (.int at'), .frz bad, .frz (.int door), s16]) := by
  have br := bad_row xs at' bad hat (by omega) [s0, s1, .frz (.str k.nm), s3, s4, s5, .frz (.lst (xs.map fD)), s7, s8, s9, s10, s11, s12, .frz (.int at'), .frz bad, .frz (.int door), s16] rfl rfl rfl
  have ask := el_asked k (xs.take at') bad ((xs.drop (at' + 1)).map fD) (fun e he => (GE.both hL (gx e (List.mem_of_mem_take he))).2) (by rw [List.length_take, List.length_map, List.length_drop]; omega) hb.ok hb.no door hd
  have lt : (xs.take at').length = at' := by rw [List.length_take]; omega
  rw [lt] at ask
  have small := natAbs_small at' (by omega)
  generalize hts : toString (at' : Int) = ts at ask
  have rp : fRepr [.int at'] = some (.val (.str ts)) := by
    rw [← hts]
    show (if (at' : Int).natAbs < 2 ^ 1900 then some (Rv.val (D.str (toString (at' : Int)))) else none) = _
    rw [Int.natAbs_natCast, if_pos small]
  clear small
  generalize (xs.take at').map fD ++ bad :: (xs.drop (at' + 1)).map fD = row at br ask
  generalize xs.map fD = rx at br ⊢
  unfold lb_law_1
  generalize (eOp opAdd (eOp opAdd (eSl slOp (eVar 6) oNone (oSome (eVar 13))) (eLst (aCons (eVar 14) aNil))) (eSl slOp (eVar 6) (oSome (eOp opAdd (eVar 13) (eC (.int 1)))) oNone)) = X at br ⊢
  simp [fn, start, sRet, sRetN, bS, eCB, bA, aCons, aNil, eSup, eCall, eVar, eC, frzs, R.frz, peeks, R.peek, Rv.r, retR, Own.d, eOp, eUn, bE, op2, op1, sSeq, sNil, sSet, put_z, put_s, nr_no, nr_frz, nr_own, sIf, bT, tE, tAnd, tOr, tNot, eAnd, eOr, eNot, eIf, eTup, eLst, sAsg, gTup, gsGo, gName, eCon, eSl, bO, oNone, oSome, eChain, tYes, sExpr, eFld, br, ask, rp, cNe, D.dat, D.dats, D.eqv, D.eqvs]
theorem bad_doors (k : Kd) (L : Wd) (hL : IsLs L) (xs : List Ef) (gx : ∀ e ∈ xs, GE k L e) (at' : Nat) (hat : at' < xs.length) (hl : xs.length ≤ 24) (bad : D) (hb : BadD k bad) (s0 s1 s3 s4 s5 s7 s8 s9 s10 s11 s12 s15 s16 : Sl) (h15 : nr s15) :
    ∃ t15, nr t15 ∧ lp_law_1 [s0, s1, .frz (.str k.nm), s3, s4, s5, .frz (.lst (xs.map fD)), s7, s8, s9, s10, s11, s12, .frz (.int at'), .frz bad, s15, s16] =
      some (.nx [s0, s1, .frz (.str k.nm), s3, s4, s5, .frz (.lst (xs.map fD)), s7, s8, s9, s10, s11, s12, .frz (.int at'), .frz bad, t15, s16]) := by
  obtain ⟨ρ', e3, t15, rfl, i3⟩ := forGo_inv (g := gName 15) (bd := lb_law_1) (I := fun j ρ => ∃ s15, ρ = [s0, s1, .frz (.str k.nm), s3, s4, s5, .frz (.lst (xs.map fD)), s7, s8, s9, s10, s11, s12, .frz (.int at'), .frz bad, s15, s16] ∧ nr s15)
    (plcs 0 3) 0 [s0, s1, .frz (.str k.nm), s3, s4, s5, .frz (.lst (xs.map fD)), s7, s8, s9, s10, s11, s12, .frz (.int at'), .frz bad, s15, s16] ⟨s15, rfl, h15⟩ (by
    rintro d hd j ρ hj ⟨u15, rfl, g15⟩
    obtain ⟨i, rfl, _, hi⟩ := mem_plcs hd
    exact ⟨_, _, put_nr (i := 15) rfl g15, .inl (bad_step k L hL xs gx at' hat hl bad hb i (by omega) s0 s1 s3 s4 s5 s7 s8 s9 s10 s11 s12 s16), .frz (.int i), rfl, nr_frz _⟩)
  refine ⟨t15, i3, ?_⟩
  have hit : iRange (aCons (eC (.int 3)) aNil) [s0, s1, .frz (.str k.nm), s3, s4, s5, .frz (.lst (xs.map fD)), s7, s8, s9, s10, s11, s12, .frz (.int at'), .frz bad, s15, s16] = some (.ok (plcs 0 3) [s0, s1, .frz (.str k.nm), s3, s4, s5, .frz (.lst (xs.map fD)), s7, s8, s9, s10, s11, s12, .frz (.int at'), .frz bad, s15, s16]) := by
    rw [← rangeD_plcs]
    rfl
  unfold lp_law_1 sFor
  rw [hit]
  generalize plcs 0 3 = pp at e3 ⊢
  exact e3
theorem bads (k : Kd) : ∀ d ∈ [D.tup [.int 1, .tup []], .tup [.bl false, .lst [.int 2]], .non, .tup [.bl false, .tup [.int (-1)]], .tup [.int 0, .int 0, .int 0]], BadD k d := by
  intro d hd
  simp only [List.mem_cons, List.not_mem_nil, or_false] at hd
  rcases hd with rfl | rfl | rfl | rfl | rfl
  · exact ⟨⟨rfl, fun a b q => by cases q; exact ⟨rfl, rfl, fun l q => by cases q; simp⟩⟩, rfl⟩
  · exact ⟨⟨rfl, fun a b q => by cases q; exact ⟨rfl, rfl, fun l q => by cases q⟩⟩, rfl⟩
  · exact ⟨⟨rfl, fun a b q => by cases q⟩, rfl⟩
  · exact ⟨⟨rfl, fun a b q => by cases q; exact ⟨rfl, rfl, fun l q => by cases q; simp⟩⟩, by simp [isE, isP, isL]⟩
  · exact ⟨⟨rfl, fun a b q => by cases q⟩, rfl⟩
theorem bad_all (k : Kd) (L : Wd) (hL : IsLs L) (xs : List Ef) (gx : ∀ e ∈ xs, GE k L e) (at' : Nat) (hat : at' < xs.length) (hl : xs.length ≤ 24) (s0 s1 s3 s4 s5 s7 s8 s9 s10 s11 s12 s16 : Sl) :
    ∃ t14 t15, lp_law_2 [s0, s1, .frz (.str k.nm), s3, s4, s5, .frz (.lst (xs.map fD)), s7, s8, s9, s10, s11, s12, .frz (.int at'), .no, .no, s16] =
      some (.nx [s0, s1, .frz (.str k.nm), s3, s4, s5, .frz (.lst (xs.map fD)), s7, s8, s9, s10, s11, s12, .frz (.int at'), t14, t15, s16]) := by
  obtain ⟨ρ', e3, t14, t15, rfl, i3⟩ := forGo_inv (g := gName 14) (bd := lb_law_2) (I := fun j ρ => ∃ s14 s15, ρ = [s0, s1, .frz (.str k.nm), s3, s4, s5, .frz (.lst (xs.map fD)), s7, s8, s9, s10, s11, s12, .frz (.int at'), s14, s15, s16] ∧ nr s14 ∧ nr s15)
    [D.tup [.int 1, .tup []], .tup [.bl false, .lst [.int 2]], .non, .tup [.bl false, .tup [.int (-1)]], .tup [.int 0, .int 0, .int 0]] 0 [s0, s1, .frz (.str k.nm), s3, s4, s5, .frz (.lst (xs.map fD)), s7, s8, s9, s10, s11, s12, .frz (.int at'), .no, .no, s16] ⟨.no, .no, rfl, nr_no, nr_no⟩ (by
    rintro d hd j ρ hj ⟨u14, u15, rfl, g14, g15⟩
    obtain ⟨t15, n15, st⟩ := bad_doors k L hL xs gx at' hat hl d (bads k d hd) s0 s1 s3 s4 s5 s7 s8 s9 s10 s11 s12 u15 s16 g15
    exact ⟨_, _, put_nr (i := 14) rfl g14, .inl st, .frz d, t15, rfl, nr_frz _, n15⟩)
  refine ⟨t14, t15, ?_⟩
  unfold lp_law_2 sFor
  generalize xs.map fD = rx at e3 ⊢
  have hit : iSeq (eTup (aCons (eTup (aCons (eC (.int 1)) (aCons (eTup aNil) aNil))) (aCons (eTup (aCons (eC (.bl false)) (aCons (eLst (aCons (eC (.int 2)) aNil)) aNil))) (aCons (eC .non) (aCons (eTup (aCons (eC (.bl false)) (aCons (eTup (aCons (eUn opNeg (eC (.int 1))) aNil)) aNil))) (aCons (eTup (aCons (eC (.int 0)) (aCons (eC (.int 0)) (aCons (eC (.int 0)) aNil)))) aNil))))))
    [s0, s1, .frz (.str k.nm), s3, s4, s5, .frz (.lst rx), s7, s8, s9, s10, s11, s12, .frz (.int at'), .no, .no, s16] = some (.ok [D.tup [.int 1, .tup []], .tup [.bl false, .lst [.int 2]], .non, .tup [.bl false, .tup [.int (-1)]], .tup [.int 0, .int 0, .int 0]] [s0, s1, .frz (.str k.nm), s3, s4, s5, .frz (.lst rx), s7, s8, s9, s10, s11, s12, .frz (.int at'), .no, .no, s16]) := by
    simp [fn, start, sRet, sRetN, bS, eCB, bA, aCons, aNil, eSup, eCall, eVar, eC, frzs, R.frz, peeks, R.peek, Rv.r, retR, Own.d, eOp, eUn, bE, op2, op1, sSeq, sNil, sSet, put_z, put_s, nr_no, nr_frz, nr_own, sIf, bT, tE, tAnd, tOr, tNot, eAnd, eOr, eNot, eIf, eTup, eLst, sAsg, gTup, gsGo, gName, eCon, eSl, bO, oNone, oSome, eChain, tYes, sExpr, eFld, iSeq, opNeg]
  rw [hit]
  exact e3
end SoR
end

section
set_option maxRecDepth 100000
set_option maxHeartbeats 4000000
namespace SoR
open DL
/-- the last block, made another one -/
def chg (k : Kd) (e : Ef) : Ef := if k = .last then (if e = (true, []) then (true, [5]) else (true, [])) else (!e.1, pl k [999999998])
theorem chg_ne (k : Kd) (e : Ef) : chg k e ≠ e := by
  unfold chg
  split
  · split
    · rename_i h; rw [h]; simp
    · rename_i h; exact fun z => h z.symm
  · intro z
    have := congrArg Prod.fst z
    simp at this
theorem chg_NE (k : Kd) (e : Ef) : NE k (chg k e) := by
  unfold chg
  split
  · rename_i h
    subst h
    split
    · exact ne_clears rfl
    · exact NE.stone _
  · rename_i h
    exact ⟨by simp [nf, fm, h], pl_idem k _⟩
theorem chg_mem {k : Kd} {e : Ef} {y : Int} (h : y ∈ (chg k e).2) : y = 5 ∨ y = 999999998 := by
  unfold chg at h
  split at h
  · split at h
    · simp at h; exact .inl h
    · simp at h
  · exact .inr (pl_one_mem h)
theorem chg_len (k : Kd) (e : Ef) : (chg k e).2.length ≤ 2 := by
  unfold chg
  split
  · split <;> simp
  · exact pl_one_len k _
theorem snoc_set (pre : List Ef) (e c : Ef) : (pre ++ [e]).set pre.length c = pre ++ [c] := by simp
theorem law_A (ns : List Int) : ∃ (o : Own) (k : Kd) (L : Wd) (n : Nat) (sz5 : D), IsSt o ∧ IsLs L ∧ 1 ≤ n ∧ n ≤ 24 ∧ ∀ (B : DS) (r : Rv),
    (∃ ρ', B [.frz (.scr ns), .own o, .frz (.str k.nm), .own (.lst (L.map .int)), .frz (.int n), .frz sz5, .no, .no, .no, .no, .no, .no, .no, .no, .no, .no, .no] = some (.rt r ρ')) →
    ∃ ρ', (sSeq (sSet 1 (eCall den__law_stream (aCons (eVar 0) aNil))) (sSeq (sSet 2 (eCallM den__law_kind (aCons (eVar 1) aNil))) (sSeq (sSet 3 (eCallM den__law_letters (aCons (eVar 1) aNil))) (sSeq (sSet 4 (eOp opAdd (eC (.int 3)) (eCallM den__law_pick (aCons (eVar 1) (aCons (eC (.int 4)) aNil))))) (sSeq (sSet 5 (eCallM den__law_pick (aCons (eVar 1) (aCons (eC (.int 10)) aNil)))) (sSeq (sIf (tE (eOp cGt (eVar 5) (eC (.int 6)))) (sSet 4 (eOp opSub (eVar 5) (eC (.int 6)))) sNil) (sSeq (sIf (tE (eOp cEq (eVar 5) (eC (.int 5)))) (sSet 4 (eC (.int 24))) sNil) B)))))))
      [.frz (.scr ns), .no, .no, .no, .no, .no, .no, .no, .no, .no, .no, .no, .no, .no, .no, .no, .no] = some (.rt r ρ') := by
  obtain ⟨o0, e0, h0⟩ := el_stream ns
  obtain ⟨k, o1, e1, h1⟩ := el_kind h0
  obtain ⟨L, o2, e2, h2, hL⟩ := el_letters h1
  obtain ⟨m, o3, e3, h3, m1, m2, _⟩ := el_pick h2 4 (by decide)
  obtain ⟨z, o4, e4, h4, z1, z2, _⟩ := el_pick h3 10 (by decide)
  have fin : ∃ n : Nat, 1 ≤ n ∧ n ≤ 24 ∧ (n : Int) = if z = 5 then 24 else if 6 < z then z - 6 else 3 + m := by
    by_cases q : z = 5
    · exact ⟨24, by omega, by omega, by rw [if_pos q]; rfl⟩
    · rw [if_neg q]
      by_cases q2 : 6 < z
      · exact ⟨(z - 6).toNat, by omega, by omega, by rw [if_pos q2]; omega⟩
      · exact ⟨(3 + m).toNat, by omega, by omega, by rw [if_neg q2]; omega⟩
  obtain ⟨n, n1, n2, en⟩ := fin
  refine ⟨o4, k, L, n, .int z, h4, hL, n1, n2, fun B r hB => ?_⟩
  generalize L.map D.int = l at e2 hB
  refine step [.frz (.scr ns), .own o0, .no, .no, .no, .no, .no, .no, .no, .no, .no, .no, .no, .no, .no, .no, .no] (by simp [fn, start, sRet, sRetN, bS, eCB, bA, aCons, aNil, eSup, eCall, eVar, eC, frzs, R.frz, peeks, R.peek, Rv.r, retR, Own.d, eOp, eUn, bE, op2, op1, sSeq, sNil, sSet, put_z, put_s, nr_no, nr_frz, nr_own, sIf, bT, tE, tAnd, tOr, tNot, eAnd, eOr, eNot, eIf, eTup, eLst, sAsg, gTup, gsGo, gName, eCon, eSl, bO, oNone, oSome, eChain, tYes, sExpr, eFld, e0]) ?_
  refine step [.frz (.scr ns), .own o1, .frz (.str k.nm), .no, .no, .no, .no, .no, .no, .no, .no, .no, .no, .no, .no, .no, .no] (by simp [fn, start, sRet, sRetN, bS, eCB, bA, aCons, aNil, eSup, eCall, eVar, eC, frzs, R.frz, peeks, R.peek, Rv.r, retR, Own.d, eOp, eUn, bE, op2, op1, sSeq, sNil, sSet, put_z, put_s, nr_no, nr_frz, nr_own, sIf, bT, tE, tAnd, tOr, tNot, eAnd, eOr, eNot, eIf, eTup, eLst, sAsg, gTup, gsGo, gName, eCon, eSl, bO, oNone, oSome, eChain, tYes, sExpr, eFld, eCallM, left, e1]) ?_
  refine step [.frz (.scr ns), .own o2, .frz (.str k.nm), .own (.lst l), .no, .no, .no, .no, .no, .no, .no, .no, .no, .no, .no, .no, .no] (by simp [fn, start, sRet, sRetN, bS, eCB, bA, aCons, aNil, eSup, eCall, eVar, eC, frzs, R.frz, peeks, R.peek, Rv.r, retR, Own.d, eOp, eUn, bE, op2, op1, sSeq, sNil, sSet, put_z, put_s, nr_no, nr_frz, nr_own, sIf, bT, tE, tAnd, tOr, tNot, eAnd, eOr, eNot, eIf, eTup, eLst, sAsg, gTup, gsGo, gName, eCon, eSl, bO, oNone, oSome, eChain, tYes, sExpr, eFld, eCallM, left, e2]) ?_
  refine step [.frz (.scr ns), .own o3, .frz (.str k.nm), .own (.lst l), .frz (.int (3 + m)), .no, .no, .no, .no, .no, .no, .no, .no, .no, .no, .no, .no] (by simp [fn, start, sRet, sRetN, bS, eCB, bA, aCons, aNil, eSup, eCall, eVar, eC, frzs, R.frz, peeks, R.peek, Rv.r, retR, Own.d, eOp, eUn, bE, op2, op1, sSeq, sNil, sSet, put_z, put_s, nr_no, nr_frz, nr_own, sIf, bT, tE, tAnd, tOr, tNot, eAnd, eOr, eNot, eIf, eTup, eLst, sAsg, gTup, gsGo, gName, eCon, eSl, bO, oNone, oSome, eChain, tYes, sExpr, eFld, eCallM, left, e3, opAdd]) ?_
  refine step [.frz (.scr ns), .own o4, .frz (.str k.nm), .own (.lst l), .frz (.int (3 + m)), .frz (.int z), .no, .no, .no, .no, .no, .no, .no, .no, .no, .no, .no] (by simp [fn, start, sRet, sRetN, bS, eCB, bA, aCons, aNil, eSup, eCall, eVar, eC, frzs, R.frz, peeks, R.peek, Rv.r, retR, Own.d, eOp, eUn, bE, op2, op1, sSeq, sNil, sSet, put_z, put_s, nr_no, nr_frz, nr_own, sIf, bT, tE, tAnd, tOr, tNot, eAnd, eOr, eNot, eIf, eTup, eLst, sAsg, gTup, gsGo, gName, eCon, eSl, bO, oNone, oSome, eChain, tYes, sExpr, eFld, eCallM, left, e4]) ?_
  refine step [.frz (.scr ns), .own o4, .frz (.str k.nm), .own (.lst l), .frz (.int (if 6 < z then z - 6 else 3 + m)), .frz (.int z), .no, .no, .no, .no, .no, .no, .no, .no, .no, .no, .no] (by
    by_cases q : 6 < z
    · simp [fn, start, sRet, sRetN, bS, eCB, bA, aCons, aNil, eSup, eCall, eVar, eC, frzs, R.frz, peeks, R.peek, Rv.r, retR, Own.d, eOp, eUn, bE, op2, op1, sSeq, sNil, sSet, put_z, put_s, nr_no, nr_frz, nr_own, sIf, bT, tE, tAnd, tOr, tNot, eAnd, eOr, eNot, eIf, eTup, eLst, sAsg, gTup, gsGo, gName, eCon, eSl, bO, oNone, oSome, eChain, tYes, sExpr, eFld, cGt, cI, opSub, q]
    · simp [fn, start, sRet, sRetN, bS, eCB, bA, aCons, aNil, eSup, eCall, eVar, eC, frzs, R.frz, peeks, R.peek, Rv.r, retR, Own.d, eOp, eUn, bE, op2, op1, sSeq, sNil, sSet, put_z, put_s, nr_no, nr_frz, nr_own, sIf, bT, tE, tAnd, tOr, tNot, eAnd, eOr, eNot, eIf, eTup, eLst, sAsg, gTup, gsGo, gName, eCon, eSl, bO, oNone, oSome, eChain, tYes, sExpr, eFld, cGt, cI, opSub, q]) ?_
  refine step [.frz (.scr ns), .own o4, .frz (.str k.nm), .own (.lst l), .frz (.int n), .frz (.int z), .no, .no, .no, .no, .no, .no, .no, .no, .no, .no, .no] (by
    rw [en]
    by_cases q : z = 5
    · subst q
      simp [fn, start, sRet, sRetN, bS, eCB, bA, aCons, aNil, eSup, eCall, eVar, eC, frzs, R.frz, peeks, R.peek, Rv.r, retR, Own.d, eOp, eUn, bE, op2, op1, sSeq, sNil, sSet, put_z, put_s, nr_no, nr_frz, nr_own, sIf, bT, tE, tAnd, tOr, tNot, eAnd, eOr, eNot, eIf, eTup, eLst, sAsg, gTup, gsGo, gName, eCon, eSl, bO, oNone, oSome, eChain, tYes, sExpr, eFld, cEq, D.dat, D.eqv]
    · have q2 : (z == 5) = false := by rw [beq_eq_false_iff_ne]; exact q
      simp [fn, start, sRet, sRetN, bS, eCB, bA, aCons, aNil, eSup, eCall, eVar, eC, frzs, R.frz, peeks, R.peek, Rv.r, retR, Own.d, eOp, eUn, bE, op2, op1, sSeq, sNil, sSet, put_z, put_s, nr_no, nr_frz, nr_own, sIf, bT, tE, tAnd, tOr, tNot, eAnd, eOr, eNot, eIf, eTup, eLst, sAsg, gTup, gsGo, gName, eCon, eSl, bO, oNone, oSome, eChain, tYes, sExpr, eFld, cEq, D.dat, D.eqv, q, q2]) hB
theorem law_holds (ns : List Int) : den_law [.scr ns] = some (.ret (.val (.bl true))) := by
  obtain ⟨o, k, L, n, sz5, ho, hL, n1, n2, pA⟩ := law_A ns
  unfold den_law
  refine fn_rt rfl ?_
  have hs : start 17 [D.scr ns] = [.frz (.scr ns), .no, .no, .no, .no, .no, .no, .no, .no, .no, .no, .no, .no, .no, .no, .no, .no] := rfl
  rw [hs]
  unfold body_law
  refine pA _ _ ?_
  clear pA hs
  obtain ⟨xs, o1, e1, ho1, hlx, gx5⟩ := el_block_row ho k L hL n (by omega)
  have gx : ∀ e ∈ xs, GE k L e := fun e he => (gx5 e he).1
  obtain ⟨ys, o2, e2, ho2, hly, gy⟩ := el_second ho1 k L hL xs (by omega) (by omega) gx (fun e he => (gx5 e he).2)
  clear gx5 ho ho1
  refine step [.frz (.scr ns), .own o1, .frz (.str k.nm), .frz (.lst (L.map .int)), .frz (.int n), .frz sz5, .own (.lst (xs.map fD)), .no, .no, .no, .no, .no, .no, .no, .no, .no, .no] (by
    clear e2
    generalize L.map D.int = l at e1 ⊢
    generalize xs.map fD = rx at e1 ⊢
    simp [fn, start, sRet, sRetN, bS, eCB, bA, aCons, aNil, eSup, eCall, eVar, eC, frzs, R.frz, peeks, R.peek, Rv.r, retR, Own.d, eOp, eUn, bE, op2, op1, sSeq, sNil, sSet, put_z, put_s, nr_no, nr_frz, nr_own, sIf, bT, tE, tAnd, tOr, tNot, eAnd, eOr, eNot, eIf, eTup, eLst, sAsg, gTup, gsGo, gName, eCon, eSl, bO, oNone, oSome, eChain, tYes, sExpr, eFld, eCallM, left, e1]) ?_
  refine step [.frz (.scr ns), .own o2, .frz (.str k.nm), .frz (.lst (L.map .int)), .frz (.int n), .frz sz5, .frz (.lst (xs.map fD)), .own (.lst (ys.map fD)), .no, .no, .no, .no, .no, .no, .no, .no, .no] (by
    generalize L.map D.int = l at e2 ⊢
    generalize xs.map fD = rx at e2 ⊢
    generalize ys.map fD = ry at e2 ⊢
    simp [fn, start, sRet, sRetN, bS, eCB, bA, aCons, aNil, eSup, eCall, eVar, eC, frzs, R.frz, peeks, R.peek, Rv.r, retR, Own.d, eOp, eUn, bE, op2, op1, sSeq, sNil, sSet, put_z, put_s, nr_no, nr_frz, nr_own, sIf, bT, tE, tAnd, tOr, tNot, eAnd, eOr, eNot, eIf, eTup, eLst, sAsg, gTup, gsGo, gName, eCon, eSl, bO, oNone, oSome, eChain, tYes, sExpr, eFld, eCallM, left, e2]) ?_
  refine step [.frz (.scr ns), .own o2, .frz (.str k.nm), .frz (.lst (L.map .int)), .frz (.int n), .frz sz5, .frz (.lst (xs.map fD)), .frz (.lst (ys.map fD)), .frz (.lst (ys.map fD)), .frz (.lst ((bare k ys).map fD)), .no, .no, .no, .no, .no, .no, .no] (by
    have hit : iSeq (eTup (aCons (eVar 6) (aCons (eVar 7) aNil))) [.frz (.scr ns), .own o2, .frz (.str k.nm), .frz (.lst (L.map .int)), .frz (.int n), .frz sz5, .frz (.lst (xs.map fD)), .own (.lst (ys.map fD)), .no, .no, .no, .no, .no, .no, .no, .no, .no] =
        some (.ok [.lst (xs.map fD), .lst (ys.map fD)] [.frz (.scr ns), .own o2, .frz (.str k.nm), .frz (.lst (L.map .int)), .frz (.int n), .frz sz5, .frz (.lst (xs.map fD)), .frz (.lst (ys.map fD)), .no, .no, .no, .no, .no, .no, .no, .no, .no]) := by
      generalize L.map D.int = l
      generalize xs.map fD = rx
      generalize ys.map fD = ry
      simp [fn, start, sRet, sRetN, bS, eCB, bA, aCons, aNil, eSup, eCall, eVar, eC, frzs, R.frz, peeks, R.peek, Rv.r, retR, Own.d, eOp, eUn, bE, op2, op1, sSeq, sNil, sSet, put_z, put_s, nr_no, nr_frz, nr_own, sIf, bT, tE, tAnd, tOr, tNot, eAnd, eOr, eNot, eIf, eTup, eLst, sAsg, gTup, gsGo, gName, eCon, eSl, bO, oNone, oSome, eChain, tYes, sExpr, eFld, iSeq]
    have st1 := row_ok k L hL xs (by omega) gx (.frz (.scr ns)) (.own o2) (.frz (.lst (L.map .int))) (.frz (.int n)) (.frz sz5) (.frz (.lst (xs.map fD))) (.frz (.lst (ys.map fD))) .no .no .no .no .no .no .no .no nr_no
    have st2 := row_ok k L hL ys (by omega) gy (.frz (.scr ns)) (.own o2) (.frz (.lst (L.map .int))) (.frz (.int n)) (.frz sz5) (.frz (.lst (xs.map fD))) (.frz (.lst (ys.map fD))) (.frz (.lst ((bare k xs).map fD))) .no .no .no .no .no .no .no (nr_frz _)
    generalize (bare k xs).map fD = bx at st1 st2
    generalize (bare k ys).map fD = by' at st2 ⊢
    unfold lp_law_3 sFor
    rw [hit]
    generalize L.map D.int = l at st1 st2 ⊢
    generalize xs.map fD = rx at st1 st2 ⊢
    generalize ys.map fD = ry at st1 st2 ⊢
    dsimp only
    have g1 : gName 8 (.lst rx) [.frz (.scr ns), .own o2, .frz (.str k.nm), .frz (.lst l), .frz (.int n), .frz sz5, .frz (.lst rx), .frz (.lst ry), .no, .no, .no, .no, .no, .no, .no, .no, .no] = some [.frz (.scr ns), .own o2, .frz (.str k.nm), .frz (.lst l), .frz (.int n), .frz sz5, .frz (.lst rx), .frz (.lst ry), .frz (.lst rx), .no, .no, .no, .no, .no, .no, .no, .no] := rfl
    have g2 : gName 8 (.lst ry) [.frz (.scr ns), .own o2, .frz (.str k.nm), .frz (.lst l), .frz (.int n), .frz sz5, .frz (.lst rx), .frz (.lst ry), .frz (.lst rx), .frz (.lst bx), .no, .no, .no, .no, .no, .no, .no] = some [.frz (.scr ns), .own o2, .frz (.str k.nm), .frz (.lst l), .frz (.int n), .frz sz5, .frz (.lst rx), .frz (.lst ry), .frz (.lst ry), .frz (.lst bx), .no, .no, .no, .no, .no, .no, .no] := rfl
    rw [forGo, g1]
    dsimp only
    rw [st1]
    dsimp only
    rw [forGo, g2]
    dsimp only
    rw [st2]
    dsimp only
    rw [forGo]) ?_
  have zx := GE_sz gx
  have zy := GE_sz gy
  have lbx := el_bare k xs (by omega) (by omega)
  have lby := el_bare k ys (by omega) (by omega)
  have qb := eqv_row (bare k xs) (bare k ys)
  have db1 := dat_row (bare k xs)
  have db2 := dat_row (bare k ys)
  refine step [.frz (.scr ns), .own o2, .frz (.str k.nm), .frz (.lst (L.map .int)), .frz (.int n), .frz sz5, .frz (.lst (xs.map fD)), .frz (.lst (ys.map fD)), .frz (.lst (ys.map fD)), .frz (.lst ((bare k ys).map fD)), .frz (.bl (decide (bare k xs = bare k ys))), .no, .no, .no, .no, .no, .no] (by
    generalize decide (bare k xs = bare k ys) = dec at qb ⊢
    generalize (bare k xs).map fD = bx at lbx qb db1
    generalize (bare k ys).map fD = by' at lby qb db2 ⊢
    generalize L.map D.int = l
    generalize xs.map fD = rx at lbx ⊢
    generalize ys.map fD = ry at lby ⊢
    simp [fn, start, sRet, sRetN, bS, eCB, bA, aCons, aNil, eSup, eCall, eVar, eC, frzs, R.frz, peeks, R.peek, Rv.r, retR, Own.d, eOp, eUn, bE, op2, op1, sSeq, sNil, sSet, put_z, put_s, nr_no, nr_frz, nr_own, sIf, bT, tE, tAnd, tOr, tNot, eAnd, eOr, eNot, eIf, eTup, eLst, sAsg, gTup, gsGo, gName, eCon, eSl, bO, oNone, oSome, eChain, tYes, sExpr, eFld, lbx, lby, cEq, qb, db1, db2]) ?_
  clear lbx lby qb db1 db2
  have bx := fun e he => GE.both hL (gx e he)
  have bY := fun e he => GE.both hL (gy e he)
  have fp := full_parting k true false xs ys bx bY (by omega) (by omega) (by omega) (by omega)
  have fq := full_parting k false false xs xs bx bx rfl (by omega) (by omega) (by omega)
  have pn := prt_none (k := k) (xs := xs) (ys := xs) (fun e he => (bx e he).1) (fun e he => (bx e he).1) rfl (by omega) (by omega) (by omega) (by omega)
  rw [pn.mpr rfl] at fq
  have po := prt_none (k := k) (xs := xs) (ys := ys) (fun e he => (bx e he).1) (fun e he => (bY e he).1) (by omega) (by omega) (by omega) (by omega) (by omega)
  rw [sq_f, sq_t] at fp
  rw [sq_f] at fq
  refine step [.frz (.scr ns), .own o2, .frz (.str k.nm), .frz (.lst (L.map .int)), .frz (.int n), .frz sz5, .frz (.lst (xs.map fD)), .frz (.lst (ys.map fD)), .frz (.lst (ys.map fD)), .frz (.lst ((bare k ys).map fD)), .frz (.bl (decide (bare k xs = bare k ys))), .frz (oP (prt k xs ys)), .no, .no, .no, .no, .no] (by
    generalize decide (bare k xs = bare k ys) = dec
    generalize oP (prt k xs ys) = res at fp ⊢
    generalize (bare k ys).map fD = by'
    generalize L.map D.int = l
    generalize xs.map fD = rx at fp ⊢
    generalize ys.map fD = ry at fp ⊢
    have f1 : fTuple [.lst rx] = some (.val (.tup rx)) := rfl
    have f2 : fList [.lst ry] = some (.fre (.lst ry)) := rfl
    simp [fn, start, sRet, sRetN, bS, eCB, bA, aCons, aNil, eSup, eCall, eVar, eC, frzs, R.frz, peeks, R.peek, Rv.r, retR, Own.d, eOp, eUn, bE, op2, op1, sSeq, sNil, sSet, put_z, put_s, nr_no, nr_frz, nr_own, sIf, bT, tE, tAnd, tOr, tNot, eAnd, eOr, eNot, eIf, eTup, eLst, sAsg, gTup, gsGo, gName, eCon, eSl, bO, oNone, oSome, eChain, tYes, sExpr, eFld, fp, f1, f2]) ?_
  clear fp
  have dd : decide (bare k xs = bare k ys) = (prt k xs ys).isNone := by
    cases h : prt k xs ys with
    | none => exact decide_eq_true (po.mp h)
    | some r => exact decide_eq_false fun z => by rw [po.mpr z] at h; cases h
  have on1 := oP_none (prt k xs ys)
  refine step [.frz (.scr ns), .own o2, .frz (.str k.nm), .frz (.lst (L.map .int)), .frz (.int n), .frz sz5, .frz (.lst (xs.map fD)), .frz (.lst (ys.map fD)), .frz (.lst (ys.map fD)), .frz (.lst ((bare k ys).map fD)), .frz (.bl (decide (bare k xs = bare k ys))), .frz (oP (prt k xs ys)), .no, .no, .no, .no, .no] (by
    rw [dd]
    generalize (prt k xs ys).isNone = dec at on1 ⊢
    generalize oP (prt k xs ys) = res at on1 ⊢
    generalize (bare k ys).map fD = by'
    generalize L.map D.int = l
    generalize xs.map fD = rx at fq ⊢
    generalize ys.map fD = ry
    have f2 : fList [.lst rx] = some (.fre (.lst rx)) := rfl
    have en : cNotN (oP none) .non = some (.val (.bl false)) := rfl
    generalize oP none = nn at fq en
    cases dec <;> simp [fn, start, sRet, sRetN, bS, eCB, bA, aCons, aNil, eSup, eCall, eVar, eC, frzs, R.frz, peeks, R.peek, Rv.r, retR, Own.d, eOp, eUn, bE, op2, op1, sSeq, sNil, sSet, put_z, put_s, nr_no, nr_frz, nr_own, sIf, bT, tE, tAnd, tOr, tNot, eAnd, eOr, eNot, eIf, eTup, eLst, sAsg, gTup, gsGo, gName, eCon, eSl, bO, oNone, oSome, eChain, tYes, sExpr, eFld, on1, fq, f2, en, cNe, D.dat, D.eqv]) ?_
  clear fq on1 pn
  -- the last block changed
  obtain ⟨pre, e, hxs⟩ : ∃ pre e, xs = pre ++ [e] := by
    rcases List.eq_nil_or_concat xs with h | ⟨m, y, h⟩
    · rw [h] at hlx; simp at hlx; omega
    · exact ⟨m, y, by rw [h, List.concat_eq_append]⟩
  have hpre : pre.length + 1 = n := by rw [← hlx, hxs]; simp
  have hset : xs.set pre.length (chg k e) = pre ++ [chg k e] := by rw [hxs, snoc_set]
  have ixe : ixS (.lst (xs.map fD)) (.int pre.length) = some (.val (fD e)) := by rw [hxs]; exact ix_lst pre [] e
  have ixd : ixD (xs.map fD).length (pre.length : Int) = some pre.length := ixD_in (by rw [List.length_map]; omega)
  have hsub : (n : Int) - 1 = pre.length := by omega
  have pw := el_plain k [999999998] (by simp) fun _ => few_of (M := [999999998]) (by simp) (by simp) (by simp)
  rw [show wD [999999998] = .tup [.int 999999998] from rfl] at pw
  refine step [.frz (.scr ns), .own o2, .frz (.str k.nm), .frz (.lst (L.map .int)), .frz (.int n), .frz sz5, .frz (.lst (xs.map fD)), .frz (.lst (ys.map fD)), .frz (.lst (ys.map fD)), .frz (.lst ((bare k ys).map fD)), .frz (.bl (decide (bare k xs = bare k ys))), .frz (oP (prt k xs ys)), .own (.lst (xs.map fD)), .no, .no, .no, .no] (by
    generalize decide (bare k xs = bare k ys) = dec
    generalize oP (prt k xs ys) = res
    generalize (bare k ys).map fD = by'
    generalize L.map D.int = l
    generalize xs.map fD = rx
    generalize ys.map fD = ry
    simp [fn, start, sRet, sRetN, bS, eCB, bA, aCons, aNil, eSup, eCall, eVar, eC, frzs, R.frz, peeks, R.peek, Rv.r, retR, Own.d, eOp, eUn, bE, op2, op1, sSeq, sNil, sSet, put_z, put_s, nr_no, nr_frz, nr_own, sIf, bT, tE, tAnd, tOr, tNot, eAnd, eOr, eNot, eIf, eTup, eLst, sAsg, gTup, gsGo, gName, eCon, eSl, bO, oNone, oSome, eChain, tYes, sExpr, eFld, fList]) ?_
  have x0 := ix0_fD e
  refine step [.frz (.scr ns), .own o2, .frz (.str k.nm), .frz (.lst (L.map .int)), .frz (.int n), .frz sz5, .frz (.lst (xs.map fD)), .frz (.lst (ys.map fD)), .frz (.lst (ys.map fD)), .frz (.lst ((bare k ys).map fD)), .frz (.bl (decide (bare k xs = bare k ys))), .frz (oP (prt k xs ys)), .own (.lst ((xs.map fD).set pre.length (fD (!e.1, pl k [999999998])))), .no, .no, .no, .no] (by
    generalize decide (bare k xs = bare k ys) = dec
    generalize oP (prt k xs ys) = res
    generalize (bare k ys).map fD = by'
    generalize L.map D.int = l
    generalize xs.map fD = rx at ixe ixd ⊢
    generalize ys.map fD = ry
    generalize fD e = de at ixe x0
    simp only [fD]
    generalize wD (pl k [999999998]) = wp at pw ⊢
    simp [fn, start, sRet, sRetN, bS, eCB, bA, aCons, aNil, eSup, eCall, eVar, eC, frzs, R.frz, peeks, R.peek, Rv.r, retR, Own.d, eOp, eUn, bE, op2, op1, sSeq, sNil, sSet, put_z, put_s, nr_no, nr_frz, nr_own, sIf, bT, tE, tAnd, tOr, tNot, eAnd, eOr, eNot, eIf, eTup, eLst, sAsg, gTup, gsGo, gName, eCon, eSl, bO, oNone, oSome, eChain, tYes, sExpr, eFld, opSub, hsub, ixe, ixd, x0, pw, sPut, own?]) ?_
  refine step [.frz (.scr ns), .own o2, .frz (.str k.nm), .frz (.lst (L.map .int)), .frz (.int n), .frz sz5, .frz (.lst (xs.map fD)), .frz (.lst (ys.map fD)), .frz (.lst (ys.map fD)), .frz (.lst ((bare k ys).map fD)), .frz (.bl (decide (bare k xs = bare k ys))), .frz (oP (prt k xs ys)), .own (.lst ((xs.set pre.length (chg k e)).map fD)), .no, .no, .no, .no] (by
    have er : (xs.set pre.length (chg k e)).map fD = (xs.map fD).set pre.length (fD (chg k e)) := List.map_set
    rw [er]
    have qe := eqv_fD e (true, [])
    have de := dat_fD e 58
    have f1 : fD (true, []) = .tup [.bl true, .tup []] := rfl
    have f5 : fD (true, [5]) = .tup [.bl true, .tup [.int 5]] := rfl
    rw [f1] at qe
    have ixd2 : ∀ d : D, ixD ((xs.map fD).set pre.length d).length (pre.length : Int) = some pre.length := fun d => by rw [List.length_set]; exact ixd
    have hl : (xs.map fD).length = n := by rw [List.length_map]; exact hlx
    generalize decide (bare k xs = bare k ys) = dec
    generalize oP (prt k xs ys) = res
    generalize (bare k ys).map fD = by'
    generalize L.map D.int = l
    generalize xs.map fD = rx at ixe ixd ixd2 hl ⊢
    generalize ys.map fD = ry
    by_cases hk : k = .last
    · have ql : D.eqv (.str k.nm) (.str "last") = true := by subst hk; rfl
      by_cases he : e = (true, [])
      · have ec : chg k e = (true, [5]) := by unfold chg; rw [if_pos hk, if_pos he]
        rw [ec, f5]
        rw [decide_eq_true he] at qe
        generalize fD (!e.1, pl k [999999998]) = d0
        generalize fD e = dE at ixe qe de
        simp [fn, start, sRet, sRetN, bS, eCB, bA, aCons, aNil, eSup, eCall, eVar, eC, frzs, R.frz, peeks, R.peek, Rv.r, retR, Own.d, eOp, eUn, bE, op2, op1, sSeq, sNil, sSet, put_z, put_s, nr_no, nr_frz, nr_own, sIf, bT, tE, tAnd, tOr, tNot, eAnd, eOr, eNot, eIf, eTup, eLst, sAsg, gTup, gsGo, gName, eCon, eSl, bO, oNone, oSome, eChain, tYes, sExpr, eFld, opSub, hsub, ixe, ixd, ixd2, qe, de, ql, sPut, own?, cEq, dat_str, D.dat, D.dats, List.set_set]
      · have ec : chg k e = (true, []) := by unfold chg; rw [if_pos hk, if_neg he]
        rw [ec, f1]
        rw [decide_eq_false he] at qe
        generalize fD (!e.1, pl k [999999998]) = d0
        generalize fD e = dE at ixe qe de
        simp [fn, start, sRet, sRetN, bS, eCB, bA, aCons, aNil, eSup, eCall, eVar, eC, frzs, R.frz, peeks, R.peek, Rv.r, retR, Own.d, eOp, eUn, bE, op2, op1, sSeq, sNil, sSet, put_z, put_s, nr_no, nr_frz, nr_own, sIf, bT, tE, tAnd, tOr, tNot, eAnd, eOr, eNot, eIf, eTup, eLst, sAsg, gTup, gsGo, gName, eCon, eSl, bO, oNone, oSome, eChain, tYes, sExpr, eFld, opSub, hsub, ixe, ixd, ixd2, qe, de, ql, sPut, own?, cEq, dat_str, D.dat, D.dats, List.set_set]
    · have ql : D.eqv (.str k.nm) (.str "last") = false := by
        have := nm_last k
        rw [decide_eq_false hk] at this
        exact this
      have ec : chg k e = (!e.1, pl k [999999998]) := by unfold chg; rw [if_neg hk]
      rw [ec]
      generalize fD (!e.1, pl k [999999998]) = d0
      simp [fn, start, sRet, sRetN, bS, eCB, bA, aCons, aNil, eSup, eCall, eVar, eC, frzs, R.frz, peeks, R.peek, Rv.r, retR, Own.d, eOp, eUn, bE, op2, op1, sSeq, sNil, sSet, put_z, put_s, nr_no, nr_frz, nr_own, sIf, bT, tE, tAnd, tOr, tNot, eAnd, eOr, eNot, eIf, eTup, eLst, sAsg, gTup, gsGo, gName, eCon, eSl, bO, oNone, oSome, eChain, tYes, sExpr, eFld, ql, cEq, dat_str]) ?_
  clear ixe ixd pw x0
  have hch : ∀ c ∈ xs.set pre.length (chg k e), NE k c ∧ OkE k c := fun c hc => by
    rcases List.mem_or_eq_of_mem_set hc with q | q
    · exact bx c q
    · subst q
      exact ⟨chg_NE k e, (chg_NE k e).okE (fun y hy => by rcases chg_mem hy with z | z <;> subst z <;> simp [isLt]) (by have := chg_len k e; omega)⟩
  have zch : sz (xs.set pre.length (chg k e)) ≤ 600 := by
    rw [hset, sz_app]
    have h1 : sz xs = sz pre + sz [e] := by rw [hxs, sz_app]
    have h2 : sz [chg k e] = (chg k e).2.length + 2 := by simp [sz]
    have := chg_len k e
    omega
  have lch : (xs.set pre.length (chg k e)).length = xs.length := List.length_set ..
  have fc := full_parting k false false xs (xs.set pre.length (chg k e)) bx hch (by omega) (by omega) (by omega) (by omega)
  rw [sq_f, sq_f] at fc
  have pc := prt_none (k := k) (xs := xs) (ys := xs.set pre.length (chg k e)) (fun e he => (bx e he).1) (fun e he => (hch e he).1) (by omega) (by omega) (by omega) (by omega) (by omega)
  have Mx : ∀ x : Int, (L ++ [5, 999999998, x]).length < 64 := fun x => by have := hL.2.1; simp; omega
  have mL : ∀ x : Int, ∀ b ∈ xs, ∀ y ∈ b.2, y ∈ L ++ [5, 999999998, x] := fun x b hb y hy => List.mem_append_left _ ((gx b hb).mem y hy)
  have mL2 : ∀ x : Int, ∀ b ∈ ys, ∀ y ∈ b.2, y ∈ L ++ [5, 999999998, x] := fun x b hb y hy => List.mem_append_left _ ((gy b hb).mem y hy)
  cases hpc : prt k xs (xs.set pre.length (chg k e)) with
  | none =>
    exfalso
    have hb := pc.mp hpc
    have d1 := bare_drop k xs pre.length
    have d2 := bare_drop k (xs.set pre.length (chg k e)) pre.length
    have t1 : xs.drop pre.length = [e] := by rw [hxs]; exact List.drop_left
    have t2 : (xs.set pre.length (chg k e)).drop pre.length = [chg k e] := by rw [hset]; exact List.drop_left
    rw [t1] at d1
    rw [t2] at d2
    rw [← hb, d1] at d2
    simp only [bare, be_nil, List.cons.injEq, and_true] at d2
    exact chg_ne k e d2.symm
  | some r =>
    have P := prt_parts (fun e he => (bx e he).1) (fun e he => (hch e he).1) (by omega) (by omega) (by omega) (by omega) (by omega) hpc
    obtain ⟨x, _, hx1, hx2⟩ := P.lets
    have ep := el_parted k (L ++ [5, 999999998, x]) (Mx x) xs (xs.set pre.length (chg k e)) r P lch.symm (by omega) (mL x) (fun b hb y hy => by
      rcases List.mem_or_eq_of_mem_set hb with q | q
      · exact mL x b q y hy
      · subst q; rcases chg_mem hy with z | z <;> subst z <;> simp) (fun b hb y hy => by rw [hx1 b hb y hy]; simp) (fun y hy => by rw [hx2 y hy]; simp) (by omega) (by omega)
    rw [hpc] at fc
    rw [show oP (some r) = pD r from rfl] at fc
    refine step [.frz (.scr ns), .own o2, .frz (.str k.nm), .frz (.lst (L.map .int)), .frz (.int n), .frz sz5, .frz (.lst (xs.map fD)), .frz (.lst (ys.map fD)), .frz (.lst (ys.map fD)), .frz (.lst ((bare k ys).map fD)), .frz (.bl (decide (bare k xs = bare k ys))), .frz (oP (prt k xs ys)), .frz (.lst ((xs.set pre.length (chg k e)).map fD)), .no, .no, .no, .no] (by
      generalize decide (bare k xs = bare k ys) = dec
      generalize oP (prt k xs ys) = res
      generalize (bare k ys).map fD = by'
      generalize L.map D.int = l
      generalize (xs.set pre.length (chg k e)).map fD = rc at ep fc ⊢
      generalize xs.map fD = rx at ep fc ⊢
      generalize ys.map fD = ry
      generalize pD r = dr at ep fc
      simp [fn, start, sRet, sRetN, bS, eCB, bA, aCons, aNil, eSup, eCall, eVar, eC, frzs, R.frz, peeks, R.peek, Rv.r, retR, Own.d, eOp, eUn, bE, op2, op1, sSeq, sNil, sSet, put_z, put_s, nr_no, nr_frz, nr_own, sIf, bT, tE, tAnd, tOr, tNot, eAnd, eOr, eNot, eIf, eTup, eLst, sAsg, gTup, gsGo, gName, eCon, eSl, bO, oNone, oSome, eChain, tYes, sExpr, eFld, fc, ep]) ?_
    clear ep fc P hx1 hx2
    obtain ⟨a, o3, e3, ho3, a1, a2, _⟩ := el_pick ho2 (n : Int) (by omega)
    obtain ⟨at', rfl, hat⟩ := nat_of a1 a2
    refine step [.frz (.scr ns), .own o3, .frz (.str k.nm), .frz (.lst (L.map .int)), .frz (.int n), .frz sz5, .frz (.lst (xs.map fD)), .frz (.lst (ys.map fD)), .frz (.lst (ys.map fD)), .frz (.lst ((bare k ys).map fD)), .frz (.bl (decide (bare k xs = bare k ys))), .frz (oP (prt k xs ys)), .frz (.lst ((xs.set pre.length (chg k e)).map fD)), .frz (.int at'), .no, .no, .no] (by
      generalize decide (bare k xs = bare k ys) = dec
      generalize oP (prt k xs ys) = res
      generalize (bare k ys).map fD = by'
      generalize L.map D.int = l
      generalize (xs.set pre.length (chg k e)).map fD = rc
      generalize xs.map fD = rx
      generalize ys.map fD = ry
      simp [fn, start, sRet, sRetN, bS, eCB, bA, aCons, aNil, eSup, eCall, eVar, eC, frzs, R.frz, peeks, R.peek, Rv.r, retR, Own.d, eOp, eUn, bE, op2, op1, sSeq, sNil, sSet, put_z, put_s, nr_no, nr_frz, nr_own, sIf, bT, tE, tAnd, tOr, tNot, eAnd, eOr, eNot, eIf, eTup, eLst, sAsg, gTup, gsGo, gName, eCon, eSl, bO, oNone, oSome, eChain, tYes, sExpr, eFld, eCallM, left, e3]) ?_
    obtain ⟨t14, t15, lb⟩ := bad_all k L hL xs gx at' (by omega) (by omega) (.frz (.scr ns)) (.own o3) (.frz (.lst (L.map .int))) (.frz (.int n)) (.frz sz5) (.frz (.lst (ys.map fD))) (.frz (.lst (ys.map fD))) (.frz (.lst ((bare k ys).map fD))) (.frz (.bl (decide (bare k xs = bare k ys)))) (.frz (oP (prt k xs ys))) (.frz (.lst ((xs.set pre.length (chg k e)).map fD))) .no
    refine step _ lb ?_
    clear lb
    generalize (xs.set pre.length (chg k e)).map fD = rc
    generalize (bare k ys).map fD = by'
    cases hp : prt k xs ys with
    | none =>
      have hb := po.mp hp
      obtain ⟨o4, ea⟩ := el_alike ho3 k L hL xs ys hb (by omega) (by omega) (by omega) gx gy
      rw [decide_eq_true hb]
      generalize oP none = res
      generalize L.map D.int = l at ea ⊢
      generalize xs.map fD = rx at ea ⊢
      generalize ys.map fD = ry at ea ⊢
      exact ⟨_, by simp [fn, start, sRet, sRetN, bS, eCB, bA, aCons, aNil, eSup, eCall, eVar, eC, frzs, R.frz, peeks, R.peek, Rv.r, retR, Own.d, eOp, eUn, bE, op2, op1, sSeq, sNil, sSet, put_z, put_s, nr_no, nr_frz, nr_own, sIf, bT, tE, tAnd, tOr, tNot, eAnd, eOr, eNot, eIf, eTup, eLst, sAsg, gTup, gsGo, gName, eCon, eSl, bO, oNone, oSome, eChain, tYes, sExpr, eFld, eCallM, left, ea]; rfl⟩
    | some r =>
      have hb : ¬ bare k xs = bare k ys := fun z => by rw [po.mpr z] at hp; cases hp
      have P := prt_parts (fun e he => (bx e he).1) (fun e he => (bY e he).1) (by omega) (by omega) (by omega) (by omega) (by omega) hp
      obtain ⟨x, _, hx1, hx2⟩ := P.lets
      have ep := el_parted k (L ++ [5, 999999998, x]) (Mx x) xs ys r P (by omega) (by omega) (mL x) (mL2 x) (fun b hb y hy => by rw [hx1 b hb y hy]; simp) (fun y hy => by rw [hx2 y hy]; simp) (by omega) (by omega)
      rw [decide_eq_false hb, show oP (some r) = pD r from rfl]
      generalize L.map D.int = l
      generalize xs.map fD = rx at ep ⊢
      generalize ys.map fD = ry at ep ⊢
      generalize pD r = dr at ep ⊢
      exact ⟨_, by simp [fn, start, sRet, sRetN, bS, eCB, bA, aCons, aNil, eSup, eCall, eVar, eC, frzs, R.frz, peeks, R.peek, Rv.r, retR, Own.d, eOp, eUn, bE, op2, op1, sSeq, sNil, sSet, put_z, put_s, nr_no, nr_frz, nr_own, sIf, bT, tE, tAnd, tOr, tNot, eAnd, eOr, eNot, eIf, eTup, eLst, sAsg, gTup, gsGo, gName, eCon, eSl, bO, oNone, oSome, eChain, tYes, sExpr, eFld, ep]; rfl⟩
end SoR
end

section
set_option maxRecDepth 100000
set_option maxHeartbeats 2000000
namespace SoR
open PySem PySem.Spec L2 DL
structure Txt (P : Program) (K : PySem.W.Frag) (mg : Str → Option Value) (cn : String → Addr) : Prop where
  f_kind_named : FnA K mg "kind_named" (top 17)
  f_is_letter : FnA K mg "is_letter" (top 18)
  f_is_word : FnA K mg "is_word" (top 19)
  f_is_plain : FnA K mg "is_plain" (top 20)
  f_fresh_word : FnA K mg "fresh_word" (top 21)
  f_formed : FnA K mg "formed" (top 25)
  f_followed : FnA K mg "followed" (top 26)
  f_is_effect : FnA K mg "is_effect" (top 27)
  f_normal : FnA K mg "normal" (top 28)
  f_parting_state : FnA K mg "parting_state" (top 29)
  f_checked_row : FnA K mg "checked_row" (top 31)
  f_bare_word : FnA K mg "bare_word" (top 33)
  f_bare_effect : FnA K mg "bare_effect" (top 34)
  f_bare_blocks : FnA K mg "bare_blocks" (top 35)
  f_bare_row : FnA K mg "bare_row" (top 36)
  f_last_unlike : FnA K mg "last_unlike" (top 37)
  f_filled_row : FnA K mg "filled_row" (top 39)
  f_filled_effect : FnA K mg "filled_effect" (top 40)
  f_idle_row : FnA K mg "idle_row" (top 41)
  f_joined_blocks : FnA K mg "joined_blocks" (top 42)
  f_fresh_part : FnA K mg "fresh_part" (top 44)
  f_none_filled : FnA K mg "none_filled" (top 45)
  f_one_filled : FnA K mg "one_filled" (top 46)
  f_two_filled : FnA K mg "two_filled" (top 47)
  f_parting_row_of : FnA K mg "parting_row_of" (top 48)
  f_parting_blocks : FnA K mg "parting_blocks" (top 49)
  f__law_stream : FnA K mg "_law_stream" (top 51)
  f__law_mixed : FnA K mg "_law_mixed" (top 52)
  f__law_draw : FnA K mg "_law_draw" (top 53)
  f__law_pick : FnA K mg "_law_pick" (top 54)
  f__law_kind : FnA K mg "_law_kind" (top 55)
  f__law_letters : FnA K mg "_law_letters" (top 56)
  f__law_raw : FnA K mg "_law_raw" (top 57)
  f__law_plain : FnA K mg "_law_plain" (top 58)
  f__law_joined : FnA K mg "_law_joined" (top 59)
  f__law_normal : FnA K mg "_law_normal" (top 60)
  f__law_on : FnA K mg "_law_on" (top 61)
  f__law_is_number : FnA K mg "_law_is_number" (top 62)
  f__law_is_word : FnA K mg "_law_is_word" (top 63)
  f__law_is_effect : FnA K mg "_law_is_effect" (top 64)
  f__law_some_word : FnA K mg "_law_some_word" (top 65)
  f__law_late_effect : FnA K mg "_law_late_effect" (top 66)
  f__law_bare : FnA K mg "_law_bare" (top 67)
  f__law_filled : FnA K mg "_law_filled" (top 68)
  f__law_block_row : FnA K mg "_law_block_row" (top 69)
  f__law_hidden_in : FnA K mg "_law_hidden_in" (top 70)
  f__law_second_row : FnA K mg "_law_second_row" (top 71)
  f__law_asked_effect : FnA K mg "_law_asked_effect" (top 72)
  f__law_parted : FnA K mg "_law_parted" (top 73)
  f__law_all_alike : FnA K mg "_law_all_alike" (top 74)
  f_law : FnA K mg "law" (top 75)
  f_plain_Kind : ∃ fd, FunD K "plain" "Kind.plain" (defArgs (clsStmt (top 9) 1)) (defBody (clsStmt (top 9) 1)) (defScope (clsStmt (top 9) 1)) [] [] (cn "Kind.plain") fd
  s_plain_BagKind : SupK P K mg cn (cn "BagKind") ["BagKind", "SetKind"] "plain" "BagKind.plain" (clsStmt (top 10) 1) (cn "BagKind.plain") (cn "Kind.plain") (cn "BagKind.plain.cc") (cn "BagKind.plain.cda")
  s_plain_SetKind : SupK P K mg cn (cn "SetKind") ["SetKind"] "plain" "SetKind.plain" (clsStmt (top 11) 1) (cn "SetKind.plain") (cn "BagKind.plain") (cn "SetKind.plain.cc") (cn "SetKind.plain.cda")
  s_plain_HeadsKind : SupK P K mg cn (cn "HeadsKind") ["HeadsKind", "FirstKind"] "plain" "HeadsKind.plain" (clsStmt (top 12) 1) (cn "HeadsKind.plain") (cn "Kind.plain") (cn "HeadsKind.plain.cc") (cn "HeadsKind.plain.cda")
  s_plain_FirstKind : SupK P K mg cn (cn "FirstKind") ["FirstKind"] "plain" "FirstKind.plain" (clsStmt (top 13) 1) (cn "FirstKind.plain") (cn "HeadsKind.plain") (cn "FirstKind.plain.cc") (cn "FirstKind.plain.cda")
  s_plain_TailsKind : SupK P K mg cn (cn "TailsKind") ["TailsKind", "LastKind"] "plain" "TailsKind.plain" (clsStmt (top 14) 1) (cn "TailsKind.plain") (cn "Kind.plain") (cn "TailsKind.plain.cc") (cn "TailsKind.plain.cda")
  s_plain_LastKind : SupK P K mg cn (cn "LastKind") ["LastKind"] "plain" "LastKind.plain" (clsStmt (top 15) 1) (cn "LastKind.plain") (cn "TailsKind.plain") (cn "LastKind.plain.cc") (cn "LastKind.plain.cda")
  s_plain_EndsKind : SupK P K mg cn (cn "EndsKind") ["EndsKind"] "plain" "EndsKind.plain" (clsStmt (top 16) 1) (cn "EndsKind.plain") (cn "Kind.plain") (cn "EndsKind.plain.cc") (cn "EndsKind.plain.cda")
  me_plain : ∀ c ∈ ks, Cls K (cn c) ∧ Meth K (cn c) "plain" (cn (c ++ ".plain"))
  x_BadKind : ExI P K mg (cn "BadKind") (cn "NameFault") (cn "NameFault.__init__") (cn "NameFault.__init__.cc") (cn "NameFault.__init__.cda") "BadKind" "name" "NameFault.__init__" "this name is not valid here"
  x_BadEffect : ExI P K mg (cn "BadEffect") (cn "PlaceFault") (cn "PlaceFault.__init__") (cn "PlaceFault.__init__.cc") (cn "PlaceFault.__init__.cda") "BadEffect" "place" "PlaceFault.__init__" "the entry at this place is not valid"
  n_len : mg "len" = none
  n_all : mg "all" = none
  n_any : mg "any" = none
  n_tuple : mg "tuple" = none
  n_list : mg "list" = none
  n_set : mg "set" = none
  n_sorted : mg "sorted" = none
  n_int : mg "int" = none
  n_bool : mg "bool" = none
  n_range : mg "range" = none
  n_zip : mg "zip" = none
  n_enumerate : mg "enumerate" = none
  n_abs : mg "abs" = none
  n_repr : mg "repr" = none
  n_isinstance : mg "isinstance" = none
  con_NAME : ConF K cn "NAME" nameOf
  exm_BadEffect : ∀ x b, mt_BadEffect x = some b → PySem.W.exmOne K (.ref (cn x)) (.ref (cn "BadEffect")) = some b
  exm_StoreError : ∀ x b, mt_StoreError x = some b → PySem.W.exmOne K (.ref (cn x)) (.ref (cn "StoreError")) = some b
  xf_BadEffect_place : ∀ x, mt_BadEffect x = some true → XfC K (cn x) ∧ PySem.W.findIn K (.ref (cn x)) "place" = some none
  m_BadEffect : mg "BadEffect" = some (.ref (cn "BadEffect"))
  m_StoreError : mg "StoreError" = some (.ref (cn "StoreError"))
  m_Kind : mg "Kind" = some (.ref (cn "Kind"))
  mk_Kind : Mk0 K (cn "Kind")
  m_BagKind : mg "BagKind" = some (.ref (cn "BagKind"))
  mk_BagKind : Mk0 K (cn "BagKind")
  m_SetKind : mg "SetKind" = some (.ref (cn "SetKind"))
  mk_SetKind : Mk0 K (cn "SetKind")
  m_HeadsKind : mg "HeadsKind" = some (.ref (cn "HeadsKind"))
  mk_HeadsKind : Mk0 K (cn "HeadsKind")
  m_FirstKind : mg "FirstKind" = some (.ref (cn "FirstKind"))
  mk_FirstKind : Mk0 K (cn "FirstKind")
  m_TailsKind : mg "TailsKind" = some (.ref (cn "TailsKind"))
  mk_TailsKind : Mk0 K (cn "TailsKind")
  m_LastKind : mg "LastKind" = some (.ref (cn "LastKind"))
  mk_LastKind : Mk0 K (cn "LastKind")
  m_EndsKind : mg "EndsKind" = some (.ref (cn "EndsKind"))
  mk_EndsKind : Mk0 K (cn "EndsKind")
  g_IDLE : ∃ v u, mg "IDLE" = some u ∧ RelV v u ∧ ∀ G, Rep K cn G d_IDLE v
  g_STONE : ∃ v u, mg "STONE" = some u ∧ RelV v u ∧ ∀ G, Rep K cn G d_STONE v
  g_LETTERS : ∃ v u, mg "LETTERS" = some u ∧ RelV v u ∧ ∀ G, Rep K cn G d_LETTERS v
section
variable {P : Program} {w : World} {K : PySem.W.Frag} {mg : Str → Option Value} {base : Heap} {cn : String → Addr}

theorem fr_Kind_plain (T : Txt P K mg cn) : FnR P w K mg base (L2.CX P w) 1 (cn "Kind.plain") (spD K cn den_Kind_plain) := let ⟨_, F⟩ := T.f_plain_Kind; met_of (k := 0) (N := ["self", "word"]) (ps := ["self", "word"]) (st := (clsStmt (top 9) 1)) F ⟨rfl, rfl, rfl, by decide +kernel, rfl, by decide +kernel, by decide +kernel⟩ (fun cdv A outer s H E c hp => (b_one (s_ret (x_ct call_tuple_of (c_tuple rfl) T.n_tuple (x_cons (x_var 1) x_anil)))))
  (fun _ _ _ _ _ _ us hl => match us, hl with | [_, _], _ => rfl)
theorem fr_BagKind_plain (T : Txt P K mg cn) : FnR P w K mg base (L2.CX P w) 2 (cn "BagKind.plain") (spD K cn den_BagKind_plain) := metS_of (k := 1) (N := ["self", "word", "__class__"]) (ps := ["self", "word"]) (st := (clsStmt (top 10) 1)) T.s_plain_BagKind (NdefX.nscope_by (by decide +kernel)) (fun _ _ _ _ _ us hl => match us, hl with | [_, _], _ => rfl) (fun A outer s H E c hp => (ba_one (sa_ret (xa_ct call_tuple_of (c_tuple rfl) T.n_tuple (xa_cb cr_sortedA c_sortedA T.n_sorted (x_super T.s_plain_BagKind c (fr_Kind_plain T) (x_cons (x_var 1) x_anil)))))))
theorem fr_SetKind_plain (T : Txt P K mg cn) : FnR P w K mg base (L2.CX P w) 3 (cn "SetKind.plain") (spD K cn den_SetKind_plain) := metS_of (k := 2) (N := ["self", "word", "__class__", "different", "letter"]) (ps := ["self", "word"]) (st := (clsStmt (top 11) 1)) T.s_plain_SetKind (NdefX.nscope_by (by decide +kernel)) (fun _ _ _ _ _ us hl => match us, hl with | [_, _], _ => rfl) (fun A outer s H E c hp => (ba_cons (s_set 3 c (x_lst x_anil)) (ba_consA (sa_for c hp (x_super T.s_plain_SetKind c (fr_BagKind_plain T) (x_cons (x_var 1) x_anil)) (g_name 4 c) (b_one (s_if (t_cmp (op_neD c.hr.units) o_ne (x_sl (x_var 3) (o_some (x_un un_neg o_neg x_int)) o_non) (x_lst (x_cons (x_var 4) x_anil))) (b_one (s_app 3 (x_var 4))) b_nil))) (b_one (s_ret (x_ct call_tuple_of (c_tuple rfl) T.n_tuple (x_cons (x_var 3) x_anil)))))))
theorem fr_HeadsKind_plain (T : Txt P K mg cn) : FnR P w K mg base (L2.CX P w) 2 (cn "HeadsKind.plain") (spD K cn den_HeadsKind_plain) := metS_of (k := 1) (N := ["self", "word", "__class__", "seen", "letter"]) (ps := ["self", "word"]) (st := (clsStmt (top 12) 1)) T.s_plain_HeadsKind (NdefX.nscope_by (by decide +kernel)) (fun _ _ _ _ _ us hl => match us, hl with | [_, _], _ => rfl) (fun A outer s H E c hp => (ba_cons (s_set 3 c x_dct) (ba_consA (sa_for c hp (x_super T.s_plain_HeadsKind c (fr_Kind_plain T) (x_cons (x_var 1) x_anil)) (g_name 4 c) (b_one (s_dput 3 c x_bl (x_var 4)))) (b_one (s_ret (x_ct call_tuple_of (c_tuple rfl) T.n_tuple (x_cons (x_keys c T.n_list (x_var 3)) x_anil)))))))
theorem fr_FirstKind_plain (T : Txt P K mg cn) : FnR P w K mg base (L2.CX P w) 3 (cn "FirstKind.plain") (spD K cn den_FirstKind_plain) := metS_of (k := 2) (N := ["self", "word", "__class__"]) (ps := ["self", "word"]) (st := (clsStmt (top 13) 1)) T.s_plain_FirstKind (NdefX.nscope_by (by decide +kernel)) (fun _ _ _ _ _ us hl => match us, hl with | [_, _], _ => rfl) (fun A outer s H E c hp => (ba_one (sa_ret (xa_sl (x_super T.s_plain_FirstKind c (fr_HeadsKind_plain T) (x_cons (x_var 1) x_anil)) o_non (o_some x_int)))))
theorem fr_TailsKind_plain (T : Txt P K mg cn) : FnR P w K mg base (L2.CX P w) 2 (cn "TailsKind.plain") (spD K cn den_TailsKind_plain) := metS_of (k := 1) (N := ["self", "word", "__class__", "seen", "letter"]) (ps := ["self", "word"]) (st := (clsStmt (top 14) 1)) T.s_plain_TailsKind (NdefX.nscope_by (by decide +kernel)) (fun _ _ _ _ _ us hl => match us, hl with | [_, _], _ => rfl) (fun A outer s H E c hp => (ba_cons (s_set 3 c x_dct) (ba_consA (sa_for c hp (xa_revT (x_super T.s_plain_TailsKind c (fr_Kind_plain T) (x_cons (x_var 1) x_anil))) (g_name 4 c) (b_one (s_dput 3 c x_bl (x_var 4)))) (b_one (s_ret (x_ct call_tuple_of (c_tuple rfl) T.n_tuple (x_cons (x_revL (x_keys c T.n_list (x_var 3))) x_anil)))))))
theorem fr_LastKind_plain (T : Txt P K mg cn) : FnR P w K mg base (L2.CX P w) 3 (cn "LastKind.plain") (spD K cn den_LastKind_plain) := metS_of (k := 2) (N := ["self", "word", "__class__"]) (ps := ["self", "word"]) (st := (clsStmt (top 15) 1)) T.s_plain_LastKind (NdefX.nscope_by (by decide +kernel)) (fun _ _ _ _ _ us hl => match us, hl with | [_, _], _ => rfl) (fun A outer s H E c hp => (ba_one (sa_ret (xa_sl (x_super T.s_plain_LastKind c (fr_TailsKind_plain T) (x_cons (x_var 1) x_anil)) (o_some (x_un un_neg o_neg x_int)) o_non))))
theorem fr_EndsKind_plain (T : Txt P K mg cn) : FnR P w K mg base (L2.CX P w) 2 (cn "EndsKind.plain") (spD K cn den_EndsKind_plain) := metS_of (k := 1) (N := ["self", "word", "__class__", "whole"]) (ps := ["self", "word"]) (st := (clsStmt (top 16) 1)) T.s_plain_EndsKind (NdefX.nscope_by (by decide +kernel)) (fun _ _ _ _ _ us hl => match us, hl with | [_, _], _ => rfl) (fun A outer s H E c hp => (ba_consA (sa_set 3 c (x_super T.s_plain_EndsKind c (fr_Kind_plain T) (x_cons (x_var 1) x_anil))) (b_one (s_ret (x_op op_addA o_add (x_sl (x_var 3) o_non (o_some x_int)) (x_sl (x_var 3) (o_some (x_un un_neg o_neg x_int)) o_non))))))
theorem met_plain (T : Txt P K mg cn) : MetF P w K mg base cn 6 "plain" plainOf := fun c g e => by
  unfold plainOf at e
  split at e
  · cases e; exact ⟨(T.me_plain _ (by decide)).1, _, (T.me_plain _ (by decide)).2, (fr_Kind_plain T).mono (by decide)⟩
  · cases e; exact ⟨(T.me_plain _ (by decide)).1, _, (T.me_plain _ (by decide)).2, (fr_BagKind_plain T).mono (by decide)⟩
  · cases e; exact ⟨(T.me_plain _ (by decide)).1, _, (T.me_plain _ (by decide)).2, (fr_SetKind_plain T).mono (by decide)⟩
  · cases e; exact ⟨(T.me_plain _ (by decide)).1, _, (T.me_plain _ (by decide)).2, (fr_HeadsKind_plain T).mono (by decide)⟩
  · cases e; exact ⟨(T.me_plain _ (by decide)).1, _, (T.me_plain _ (by decide)).2, (fr_FirstKind_plain T).mono (by decide)⟩
  · cases e; exact ⟨(T.me_plain _ (by decide)).1, _, (T.me_plain _ (by decide)).2, (fr_TailsKind_plain T).mono (by decide)⟩
  · cases e; exact ⟨(T.me_plain _ (by decide)).1, _, (T.me_plain _ (by decide)).2, (fr_LastKind_plain T).mono (by decide)⟩
  · cases e; exact ⟨(T.me_plain _ (by decide)).1, _, (T.me_plain _ (by decide)).2, (fr_EndsKind_plain T).mono (by decide)⟩
  · cases e
theorem exc_BadKind (T : Txt P K mg cn) : ExcF P w K mg base cn 3 "BadKind" "name" := exi_pmk T.x_BadKind (by decide)
theorem exc_BadEffect (T : Txt P K mg cn) : ExcF P w K mg base cn 3 "BadEffect" "place" := exi_pmk T.x_BadEffect (by decide)
theorem cg_kind_named (T : Txt P K mg cn) : Cg P w K mg base cn 4 "kind_named" den_kind_named := cg_of (k := 3) (N := ["name"]) (ps := ["name"]) (st := top 17) T.f_kind_named ⟨rfl, rfl, rfl, by decide +kernel, rfl, by decide +kernel, by decide +kernel⟩ (fun f cdv A outer s H E c hp => (b_one (s_match (x_var 0) (m_case "list" (b_one (s_ret (x_make T.mk_Kind T.m_Kind))) (m_case "bag" (b_one (s_ret (x_make T.mk_BagKind T.m_BagKind))) (m_case "set" (b_one (s_ret (x_make T.mk_SetKind T.m_SetKind))) (m_case "first" (b_one (s_ret (x_make T.mk_FirstKind T.m_FirstKind))) (m_case "last" (b_one (s_ret (x_make T.mk_LastKind T.m_LastKind))) (m_case "ends" (b_one (s_ret (x_make T.mk_EndsKind T.m_EndsKind))) (m_case "heads" (b_one (s_ret (x_make T.mk_HeadsKind T.m_HeadsKind))) (m_case "tails" (b_one (s_ret (x_make T.mk_TailsKind T.m_TailsKind))) (m_else (b_one (s_raise c (exc_BadKind T) (x_cons (x_var 0) x_anil)))))))))))))))
  (fun _ _ _ _ _ _ us hl => match us, hl with | [_], _ => rfl)
theorem cg_is_letter (T : Txt P K mg cn) : Cg P w K mg base cn 1 "is_letter" den_is_letter := cg_of (k := 0) (N := ["thing"]) (ps := ["thing"]) (st := top 18) T.f_is_letter ⟨rfl, rfl, rfl, by decide +kernel, rfl, by decide +kernel, by decide +kernel⟩ (fun f cdv A outer s H E c hp => (b_one (s_ret (x_and (x_isi (n := "int") T.n_isinstance T.n_int (x_var 0)) (x_and (x_not (x_isi (n := "bool") T.n_isinstance T.n_bool (x_var 0))) (x_one (x_chain op_le o_b0 op_lt o_b0 x_int (x_var 0) (x_globA T.g_LETTERS))))))))
  (fun _ _ _ _ _ _ us hl => match us, hl with | [_], _ => rfl)
theorem cg_is_word (T : Txt P K mg cn) : Cg P w K mg base cn 2 "is_word" den_is_word := cg_of (k := 1) (N := ["thing", "letter"]) (ps := ["thing"]) (st := top 19) T.f_is_word ⟨rfl, rfl, rfl, by decide +kernel, rfl, by decide +kernel, by decide +kernel⟩ (fun f cdv A outer s H E c hp => (b_one (s_ret (x_and (x_isi (n := "tuple") T.n_isinstance T.n_tuple (x_var 0)) (x_one (x_cb (cr_all c.hc) c_all T.n_all (x_cons (x_lc [("letter", 1)] c (i_seq (x_var 0)) (fun s H C cl fp c1 => (g_name 1 c1)) (fun s H C cl fp c1 => ts_nil) (fun s H C cl fp c1 => (x_call c1 (cg_is_letter T) (x_cons (x_var 1) x_anil)))) x_anil)))))))
  (fun _ _ _ _ _ _ us hl => match us, hl with | [_], _ => rfl)
theorem cg_is_plain (T : Txt P K mg cn) : Cg P w K mg base cn 7 "is_plain" den_is_plain := cg_of (k := 6) (N := ["kind", "thing", "merging"]) (ps := ["kind", "thing"]) (st := top 20) T.f_is_plain ⟨rfl, rfl, rfl, by decide +kernel, rfl, by decide +kernel, by decide +kernel⟩ (fun f cdv A outer s H E c hp => (b_cons (s_set 2 c (x_call c (cg_kind_named T) (x_cons (x_var 0) x_anil))) (b_one (s_ret (x_and (x_call c (cg_is_word T) (x_cons (x_var 1) x_anil)) (x_one (x_cmpA (op_eqD c.hr.units) o_eq (x_met c (met_plain T) (x_var 2) (x_cons (x_var 1) x_anil)) (x_var 1))))))))
  (fun _ _ _ _ _ _ us hl => match us, hl with | [_, _], _ => rfl)
theorem cg_fresh_word (T : Txt P K mg cn) : Cg P w K mg base cn 7 "fresh_word" den_fresh_word := cgS_of (k := 6) (N := ["kind", "words", "merging", "letter", "word"]) (ps := ["kind"]) (pv := "words") (st := top 21) T.f_fresh_word ⟨rfl, rfl, rfl, by decide +kernel, rfl, by decide +kernel, by decide +kernel⟩ (fun f cdv A outer s H E c hp => (b_cons (s_set 2 c (x_call c (cg_kind_named T) (x_cons (x_var 0) x_anil))) (b_cons (s_set 3 c x_int) (b_cons (s_while fuel_fresh_word hp (t_val (x_cb (cr_any c.hc) c_any T.n_any (x_cons (x_lc [("word", 4)] c (i_seq (x_var 1)) (fun s H C cl fp c1 => (g_name 4 c1)) (fun s H C cl fp c1 => ts_nil) (fun s H C cl fp c1 => (x_cmpA op_in_seq o_in (x_var 3) (x_var 4)))) x_anil))) (b_one (s_aug 3 c iop_add o_addI x_int))) (b_one (s_ret (x_met c (met_plain T) (x_var 2) (x_cons (x_tup (x_cons (x_var 3) x_anil)) x_anil))))))))
  (fun _ _ _ _ _ _ us rest hl => match us, rest, hl with | [_], [], _ => by kernel_rfl | [_], _ :: _, _ => by kernel_rfl)
theorem cg_formed (T : Txt P K mg cn) : Cg P w K mg base cn 1 "formed" den_formed := cg_of (k := 0) (N := ["merging", "clear", "word"]) (ps := ["merging", "clear", "word"]) (st := top 25) T.f_formed ⟨rfl, rfl, rfl, by decide +kernel, rfl, by decide +kernel, by decide +kernel⟩ (fun f cdv A outer s H E c hp => (b_cons (s_if (t_w (w_and (t_cmp (op_eqD c.hr.units) o_eq (x_con T.con_NAME (x_var 0)) (x_str "last")) (w_and1 (t_cmp op_gt o_b0 (x_cb call_len_seq (c_len rfl) T.n_len (x_cons (x_var 2) x_anil)) x_int)))) (b_one (s_ret (x_tup (x_cons x_bl (x_cons (x_var 2) x_anil))))) b_nil) (b_one (s_ret (x_tup (x_cons (x_var 1) (x_cons (x_var 2) x_anil)))))))
  (fun _ _ _ _ _ _ us hl => match us, hl with | [_, _, _], _ => rfl)
theorem cg_followed (T : Txt P K mg cn) : Cg P w K mg base cn 7 "followed" den_followed := cg_of (k := 6) (N := ["merging", "first", "second", "clear", "word", "begun", "base"]) (ps := ["merging", "first", "second"]) (st := top 26) T.f_followed ⟨rfl, rfl, rfl, by decide +kernel, rfl, by decide +kernel, by decide +kernel⟩ (fun f cdv A outer s H E c hp => (b_cons (s_asg (x_var 2) (g_tup c (g_cons (g_name 3 c) (g_cons (g_name 4 c) g_nil)))) (b_cons (s_if (t_val (x_var 3)) (b_one (s_ret (x_var 2))) b_nil) (b_cons (s_asg (x_var 1) (g_tup c (g_cons (g_name 5 c) (g_cons (g_name 6 c) g_nil)))) (b_one (s_ret (x_call c (cg_formed T) (x_cons (x_var 0) (x_cons (x_var 5) (x_cons (x_met c (met_plain T) (x_var 0) (x_cons (x_op op_addA o_add (x_var 6) (x_var 4)) x_anil)) x_anil))))))))))
  (fun _ _ _ _ _ _ us hl => match us, hl with | [_, _, _], _ => rfl)
theorem cg_is_effect (T : Txt P K mg cn) : Cg P w K mg base cn 8 "is_effect" den_is_effect := cg_of (k := 7) (N := ["kind", "thing", "merging"]) (ps := ["kind", "thing"]) (st := top 27) T.f_is_effect ⟨rfl, rfl, rfl, by decide +kernel, rfl, by decide +kernel, by decide +kernel⟩ (fun f cdv A outer s H E c hp => (b_cons (s_set 2 c (x_call c (cg_kind_named T) (x_cons (x_var 0) x_anil))) (b_cons (s_if (t_w (w_or (t_not (t_val (x_isi (n := "tuple") T.n_isinstance T.n_tuple (x_var 1)))) (w_or1 (t_cmp (op_neD c.hr.units) o_ne (x_cb call_len_seq (c_len rfl) T.n_len (x_cons (x_var 1) x_anil)) x_int)))) (b_one (s_ret x_bl)) b_nil) (b_one (s_ret (x_and (x_isi (n := "bool") T.n_isinstance T.n_bool (x_sub (x_var 1) x_int)) (x_one (x_call c (cg_is_plain T) (x_cons (x_con T.con_NAME (x_var 2)) (x_cons (x_sub (x_var 1) x_int) x_anil))))))))))
  (fun _ _ _ _ _ _ us hl => match us, hl with | [_, _], _ => rfl)
theorem cg_normal (T : Txt P K mg cn) : Cg P w K mg base cn 5 "normal" den_normal := cg_of (k := 4) (N := ["kind", "effect", "merging", "clear", "word"]) (ps := ["kind", "effect"]) (st := top 28) T.f_normal ⟨rfl, rfl, rfl, by decide +kernel, rfl, by decide +kernel, by decide +kernel⟩ (fun f cdv A outer s H E c hp => (b_cons (s_set 2 c (x_call c (cg_kind_named T) (x_cons (x_var 0) x_anil))) (b_cons (s_asg (x_var 1) (g_tup c (g_cons (g_name 3 c) (g_cons (g_name 4 c) g_nil)))) (b_one (s_ret (x_call c (cg_formed T) (x_cons (x_var 2) (x_cons (x_var 3) (x_cons (x_var 4) x_anil)))))))))
  (fun _ _ _ _ _ _ us hl => match us, hl with | [_, _], _ => rfl)
theorem cg_parting_state (T : Txt P K mg cn) : Cg P w K mg base cn 8 "parting_state" den_parting_state := cg_of (k := 7) (N := ["kind", "one", "other"]) (ps := ["kind", "one", "other"]) (st := top 29) T.f_parting_state ⟨rfl, rfl, rfl, by decide +kernel, rfl, by decide +kernel, by decide +kernel⟩ (fun f cdv A outer s H E c hp => (b_cons (s_if (t_cmp (op_eqD c.hr.units) o_eq (x_call c (cg_normal T) (x_cons (x_var 0) (x_cons (x_var 1) x_anil))) (x_call c (cg_normal T) (x_cons (x_var 0) (x_cons (x_var 2) x_anil)))) (b_one (s_ret x_non)) b_nil) (b_cons (s_if (t_cmp (op_neD c.hr.units) o_ne (x_sub (x_var 1) x_int) (x_sub (x_var 2) x_int)) (b_one (s_ret (x_tup x_anil))) b_nil) (b_one (s_ret (x_call c (cg_fresh_word T) (x_cons (x_var 0) (x_cons (x_sub (x_var 1) x_int) x_anil))))))))
  (fun _ _ _ _ _ _ us hl => match us, hl with | [_, _, _], _ => rfl)
theorem cg_checked_row (T : Txt P K mg cn) : Cg P w K mg base cn 9 "checked_row" den_checked_row := cg_of (k := 8) (N := ["kind", "row", "merging", "effects", "place", "clear", "word"]) (ps := ["kind", "row"]) (st := top 31) T.f_checked_row ⟨rfl, rfl, rfl, by decide +kernel, rfl, by decide +kernel, by decide +kernel⟩ (fun f cdv A outer s H E c hp => (b_cons (s_set 2 c (x_call c (cg_kind_named T) (x_cons (x_var 0) x_anil))) (b_cons (s_set 3 c (x_lst x_anil)) (b_cons (s_for c hp (i_range1 T.n_range (x_cb call_len_seq (c_len rfl) T.n_len (x_cons (x_var 1) x_anil))) (g_name 4 c) (b_cons (s_if (t_not (t_val (x_call c (cg_is_effect T) (x_cons (x_var 0) (x_cons (x_sub (x_var 1) (x_var 4)) x_anil))))) (b_one (s_raise c (exc_BadEffect T) (x_cons (x_var 4) x_anil))) b_nil) (b_cons (s_asg (x_sub (x_var 1) (x_var 4)) (g_tup c (g_cons (g_name 5 c) (g_cons (g_name 6 c) g_nil)))) (b_one (s_app 3 (x_call c (cg_formed T) (x_cons (x_var 2) (x_cons (x_var 5) (x_cons (x_var 6) x_anil))))))))) (b_one (s_ret (x_var 3)))))))
  (fun _ _ _ _ _ _ us hl => match us, hl with | [_, _], _ => rfl)
theorem cg_bare_word (T : Txt P K mg cn) : Cg P w K mg base cn 1 "bare_word" den_bare_word := cg_of (k := 0) (N := ["name", "word", "behind", "letter", "other"]) (ps := ["name", "word", "behind"]) (st := top 33) T.f_bare_word ⟨rfl, rfl, rfl, by decide +kernel, rfl, by decide +kernel, by decide +kernel⟩ (fun f cdv A outer s H E c hp => (b_cons (s_if (t_cmp op_in_seq o_in (x_var 0) (x_tup (x_cons (x_str "set") (x_cons (x_str "tails") x_anil)))) (b_one (s_ret (x_ct call_tuple_of (c_tuple rfl) T.n_tuple (x_cons (x_lc [("letter", 3)] c (i_seq (x_var 1)) (fun s H C cl fp c1 => (g_name 3 c1)) (fun s H C cl fp c1 => ts_one (t_not (t_val (x_cb (cr_any c1.hc) c_any T.n_any (x_cons (x_lc [("other", 4)] c1 (i_seq (x_var 2)) (fun s H C cl fp c2 => (g_name 4 c2)) (fun s H C cl fp c2 => ts_nil) (fun s H C cl fp c2 => (x_cmpA op_in_seq o_in (x_var 3) (x_var 4)))) x_anil))))) (fun s H C cl fp c1 => (x_var 3))) x_anil)))) b_nil) (b_cons (s_if (t_w (w_and (t_cmp (op_eqD c.hr.units) o_eq (x_var 0) (x_str "ends")) (w_and1 (t_val (x_cb (cr_any c.hc) c_any T.n_any (x_cons (x_lc [("other", 4)] c (i_seq (x_var 2)) (fun s H C cl fp c1 => (g_name 4 c1)) (fun s H C cl fp c1 => ts_nil) (fun s H C cl fp c1 => (x_cmpA op_gt o_b0 (x_cb call_len_seq (c_len rfl) T.n_len (x_cons (x_var 4) x_anil)) x_int))) x_anil)))))) (b_one (s_ret (x_op op_addA o_add (x_sl (x_var 1) o_non (o_some x_int)) (x_sl (x_var 1) o_non (o_some x_int))))) b_nil) (b_one (s_ret (x_var 1))))))
  (fun _ _ _ _ _ _ us hl => match us, hl with | [_, _, _], _ => rfl)
theorem cg_bare_effect (T : Txt P K mg cn) : Cg P w K mg base cn 2 "bare_effect" den_bare_effect := cg_of (k := 1) (N := ["name", "block", "behind", "clear", "word", "_", "other"]) (ps := ["name", "block", "behind"]) (st := top 34) T.f_bare_effect ⟨rfl, rfl, rfl, by decide +kernel, rfl, by decide +kernel, by decide +kernel⟩ (fun f cdv A outer s H E c hp => (b_cons (s_if (t_val (x_cb (cr_any c.hc) c_any T.n_any (x_cons (x_lc [("clear", 3), ("_", 5)] c (i_seq (x_var 2)) (fun s H C cl fp c1 => (g_tup c1 (g_cons (g_name 3 c1) (g_cons (g_name 5 c1) g_nil)))) (fun s H C cl fp c1 => ts_nil) (fun s H C cl fp c1 => (x_var 3))) x_anil))) (b_one (s_ret (x_globA T.g_IDLE))) b_nil) (b_cons (s_asg (x_var 1) (g_tup c (g_cons (g_name 3 c) (g_cons (g_name 4 c) g_nil)))) (b_one (s_ret (x_tup (x_cons (x_var 3) (x_cons (x_call c (cg_bare_word T) (x_cons (x_var 0) (x_cons (x_var 4) (x_cons (x_lc [("_", 5), ("other", 6)] c (i_seq (x_var 2)) (fun s H C cl fp c1 => (g_tup c1 (g_cons (g_name 5 c1) (g_cons (g_name 6 c1) g_nil)))) (fun s H C cl fp c1 => ts_nil) (fun s H C cl fp c1 => (x_var 6))) x_anil)))) x_anil))))))))
  (fun _ _ _ _ _ _ us hl => match us, hl with | [_, _, _], _ => rfl)
theorem cg_bare_blocks (T : Txt P K mg cn) : Cg P w K mg base cn 5 "bare_blocks" den_bare_blocks := cg_of (k := 4) (N := ["kind", "blocks", "name", "place", "block"]) (ps := ["kind", "blocks"]) (st := top 35) T.f_bare_blocks ⟨rfl, rfl, rfl, by decide +kernel, rfl, by decide +kernel, by decide +kernel⟩ (fun f cdv A outer s H E c hp => (b_cons (s_set 2 c (x_con T.con_NAME (x_call c (cg_kind_named T) (x_cons (x_var 0) x_anil)))) (b_one (s_ret (x_lc [("place", 3), ("block", 4)] c (i_enum T.n_enumerate (x_var 1)) (fun s H C cl fp c1 => (g_tup c1 (g_cons (g_name 3 c1) (g_cons (g_name 4 c1) g_nil)))) (fun s H C cl fp c1 => ts_nil) (fun s H C cl fp c1 => (x_call c1 (cg_bare_effect T) (x_cons (x_var 2) (x_cons (x_var 4) (x_cons (x_sl (x_var 1) (o_some (x_op op_addA o_add (x_var 3) x_int)) o_non) x_anil))))))))))
  (fun _ _ _ _ _ _ us hl => match us, hl with | [_, _], _ => rfl)
theorem cg_bare_row (T : Txt P K mg cn) : Cg P w K mg base cn 10 "bare_row" den_bare_row := cg_of (k := 9) (N := ["kind", "blocks"]) (ps := ["kind", "blocks"]) (st := top 36) T.f_bare_row ⟨rfl, rfl, rfl, by decide +kernel, rfl, by decide +kernel, by decide +kernel⟩ (fun f cdv A outer s H E c hp => (b_one (s_ret (x_call c (cg_bare_blocks T) (x_cons (x_var 0) (x_cons (x_call c (cg_checked_row T) (x_cons (x_var 0) (x_cons (x_var 1) x_anil))) x_anil))))))
  (fun _ _ _ _ _ _ us hl => match us, hl with | [_, _], _ => rfl)
theorem cg_last_unlike (T : Txt P K mg cn) : Cg P w K mg base cn 6 "last_unlike" den_last_unlike := cg_of (k := 5) (N := ["kind", "one", "other", "found", "bare", "rival", "place"]) (ps := ["kind", "one", "other"]) (st := top 37) T.f_last_unlike ⟨rfl, rfl, rfl, by decide +kernel, rfl, by decide +kernel, by decide +kernel⟩ (fun f cdv A outer s H E c hp => (b_cons (s_set 3 c x_non) (b_cons (s_set 4 c (x_call c (cg_bare_blocks T) (x_cons (x_var 0) (x_cons (x_var 1) x_anil)))) (b_cons (s_set 5 c (x_call c (cg_bare_blocks T) (x_cons (x_var 0) (x_cons (x_var 2) x_anil)))) (b_cons (s_for c hp (i_range1 T.n_range (x_cb call_len_seq (c_len rfl) T.n_len (x_cons (x_var 4) x_anil))) (g_name 6 c) (b_one (s_if (t_cmp (op_neD c.hr.units) o_ne (x_sub (x_var 4) (x_var 6)) (x_sub (x_var 5) (x_var 6))) (b_one (s_set 3 c (x_var 6))) b_nil))) (b_one (s_ret (x_var 3))))))))
  (fun _ _ _ _ _ _ us hl => match us, hl with | [_, _, _], _ => rfl)
theorem cg_filled_row (T : Txt P K mg cn) : Cg P w K mg base cn 8 "filled_row" den_filled_row := cg_of (k := 7) (N := ["kind", "blocks", "late", "merging", "whole", "effect", "block"]) (ps := ["kind", "blocks", "late"]) (st := top 39) T.f_filled_row ⟨rfl, rfl, rfl, by decide +kernel, rfl, by decide +kernel, by decide +kernel⟩ (fun f cdv A outer s H E c hp => (b_cons (s_set 3 c (x_call c (cg_kind_named T) (x_cons (x_var 0) x_anil))) (b_cons (s_set 4 c (x_sub (x_var 1) x_int)) (b_cons (s_for c hp (i_zip T.n_zip (x_cons (x_var 2) (x_cons (x_sl (x_var 1) (o_some x_int) o_non) x_anil))) (g_tup c (g_cons (g_name 5 c) (g_cons (g_name 6 c) g_nil))) (b_one (s_set 4 c (x_call c (cg_followed T) (x_cons (x_var 3) (x_cons (x_call c (cg_followed T) (x_cons (x_var 3) (x_cons (x_var 4) (x_cons (x_var 5) x_anil)))) (x_cons (x_var 6) x_anil))))))) (b_one (s_ret (x_var 4)))))))
  (fun _ _ _ _ _ _ us hl => match us, hl with | [_, _, _], _ => rfl)
theorem cg_filled_effect (T : Txt P K mg cn) : Cg P w K mg base cn 10 "filled_effect" den_filled_effect := cg_of (k := 9) (N := ["kind", "blocks", "late", "checked"]) (ps := ["kind", "blocks", "late"]) (st := top 40) T.f_filled_effect ⟨rfl, rfl, rfl, by decide +kernel, rfl, by decide +kernel, by decide +kernel⟩ (fun f cdv A outer s H E c hp => (b_cons (s_set 3 c (x_call c (cg_checked_row T) (x_cons (x_var 0) (x_cons (x_var 1) x_anil)))) (b_one (s_ret (x_call c (cg_filled_row T) (x_cons (x_var 0) (x_cons (x_var 3) (x_cons (x_call c (cg_checked_row T) (x_cons (x_var 0) (x_cons (x_var 2) x_anil))) x_anil))))))))
  (fun _ _ _ _ _ _ us hl => match us, hl with | [_, _, _], _ => rfl)
theorem cg_idle_row (T : Txt P K mg cn) : Cg P w K mg base cn 1 "idle_row" den_idle_row := cg_of (k := 0) (N := ["blocks", "_"]) (ps := ["blocks"]) (st := top 41) T.f_idle_row ⟨rfl, rfl, rfl, by decide +kernel, rfl, by decide +kernel, by decide +kernel⟩ (fun f cdv A outer s H E c hp => (b_one (s_ret (x_lc [("_", 1)] c (i_seq (x_sl (x_var 0) (o_some x_int) o_non)) (fun s H C cl fp c1 => (g_name 1 c1)) (fun s H C cl fp c1 => ts_nil) (fun s H C cl fp c1 => (x_globA T.g_IDLE))))))
  (fun _ _ _ _ _ _ us hl => match us, hl with | [_], _ => rfl)
theorem cg_joined_blocks (T : Txt P K mg cn) : Cg P w K mg base cn 9 "joined_blocks" den_joined_blocks := cg_of (k := 8) (N := ["kind", "blocks"]) (ps := ["kind", "blocks"]) (st := top 42) T.f_joined_blocks ⟨rfl, rfl, rfl, by decide +kernel, rfl, by decide +kernel, by decide +kernel⟩ (fun f cdv A outer s H E c hp => (b_one (s_ret (x_call c (cg_filled_row T) (x_cons (x_var 0) (x_cons (x_var 1) (x_cons (x_call c (cg_idle_row T) (x_cons (x_var 1) x_anil)) x_anil)))))))
  (fun _ _ _ _ _ _ us hl => match us, hl with | [_, _], _ => rfl)
theorem cg_fresh_part (T : Txt P K mg cn) : Cg P w K mg base cn 8 "fresh_part" den_fresh_part := cgS_of (k := 7) (N := ["kind", "rows", "words", "fresh", "row", "_", "word"]) (ps := ["kind"]) (pv := "rows") (st := top 44) T.f_fresh_part ⟨rfl, rfl, rfl, by decide +kernel, rfl, by decide +kernel, by decide +kernel⟩ (fun f cdv A outer s H E c hp => (b_cons (s_setLc2 2 [("row", 4), ("_", 5), ("word", 6)] [5, 6] c (i_seq (x_var 1)) (fun s H C cl fp c1 => (g_name 4 c1)) (fun s H C cl fp c1 => ts_nil) (fun s H C cl fp c1 => (i_seq (x_var 4))) (fun s H C cl fp c1 => (g_tup c1 (g_cons (g_name 5 c1) (g_cons (g_name 6 c1) g_nil)))) (fun s H C cl fp c1 => ts_nil) (fun s H C cl fp c1 => (x_var 6)) (sw_true rfl rfl rfl rfl)) (b_cons (s_set 3 c (x_callS c (cg_fresh_word T) (x_cons (x_var 0) (x_star (x_var 2) x_anil)))) (b_one (s_ret (x_tup (x_cons (x_cmpA (op_eqD c.hr.units) o_eq (x_con T.con_NAME (x_call c (cg_kind_named T) (x_cons (x_var 0) x_anil))) (x_str "last")) (x_cons (x_var 3) x_anil))))))))
  (fun _ _ _ _ _ _ us rest hl => match us, rest, hl with | [_], [], _ => by kernel_rfl | [_], _ :: _, _ => by kernel_rfl)
theorem cg_none_filled (T : Txt P K mg cn) : Cg P w K mg base cn 10 "none_filled" den_none_filled := cg_of (k := 9) (N := ["kind", "one", "other", "state"]) (ps := ["kind", "one", "other"]) (st := top 45) T.f_none_filled ⟨rfl, rfl, rfl, by decide +kernel, rfl, by decide +kernel, by decide +kernel⟩ (fun f cdv A outer s H E c hp => (b_cons (s_set 3 c (x_call c (cg_parting_state T) (x_cons (x_var 0) (x_cons (x_call c (cg_joined_blocks T) (x_cons (x_var 0) (x_cons (x_var 1) x_anil))) (x_cons (x_call c (cg_joined_blocks T) (x_cons (x_var 0) (x_cons (x_var 2) x_anil))) x_anil))))) (b_cons (s_if (t_cmp op_isN o_isN (x_var 3) x_non) (b_one (s_ret x_non)) b_nil) (b_one (s_ret (x_tup (x_cons (x_var 3) (x_cons (x_call c (cg_idle_row T) (x_cons (x_var 1) x_anil)) x_anil))))))))
  (fun _ _ _ _ _ _ us hl => match us, hl with | [_, _, _], _ => rfl)
theorem cg_one_filled (T : Txt P K mg cn) : Cg P w K mg base cn 10 "one_filled" den_one_filled := cg_of (k := 9) (N := ["kind", "one", "other", "place", "pair", "rival", "found", "fresh", "effect", "late"]) (ps := ["kind", "one", "other"]) (st := top 46) T.f_one_filled ⟨rfl, rfl, rfl, by decide +kernel, rfl, by decide +kernel, by decide +kernel⟩ (fun f cdv A outer s H E c hp => (b_cons (s_for c hp (i_range2 T.n_range x_int (x_cb call_len_seq (c_len rfl) T.n_len (x_cons (x_var 1) x_anil))) (g_name 3 c) (b_cons (s_set 4 c (x_lst (x_cons (x_call c (cg_joined_blocks T) (x_cons (x_var 0) (x_cons (x_sl (x_var 1) o_non (o_some (x_var 3))) x_anil))) (x_cons (x_call c (cg_joined_blocks T) (x_cons (x_var 0) (x_cons (x_sl (x_var 1) (o_some (x_var 3)) o_non) x_anil))) x_anil)))) (b_cons (s_set 5 c (x_lst (x_cons (x_call c (cg_joined_blocks T) (x_cons (x_var 0) (x_cons (x_sl (x_var 2) o_non (o_some (x_var 3))) x_anil))) (x_cons (x_call c (cg_joined_blocks T) (x_cons (x_var 0) (x_cons (x_sl (x_var 2) (o_some (x_var 3)) o_non) x_anil))) x_anil)))) (b_cons (s_set 6 c (x_call c (cg_last_unlike T) (x_cons (x_var 0) (x_cons (x_var 4) (x_cons (x_var 5) x_anil))))) (b_cons (s_if (t_cmp op_isN o_isN (x_var 6) x_non) (b_one s_cont) b_nil) (b_cons (s_set 7 c (x_call c (cg_fresh_part T) (x_cons (x_var 0) (x_cons (x_var 1) (x_cons (x_var 2) x_anil))))) (b_cons (s_set 8 c (x_globA T.g_STONE)) (b_cons (s_if (t_cmp (op_eqD c.hr.units) o_eq (x_var 6) x_int) (b_one (s_set 8 c (x_var 7))) (b_one (s_if (t_cmp (op_neD c.hr.units) o_ne (x_sub (x_sub (x_var 4) x_int) x_int) (x_sub (x_sub (x_var 5) x_int) x_int)) (b_one (s_set 8 c (x_tup (x_cons x_bl (x_cons (x_sub (x_var 7) x_int) x_anil))))) b_nil))) (b_cons (s_set 9 c (x_call c (cg_idle_row T) (x_cons (x_var 1) x_anil))) (b_cons (s_put 9 (x_var 8) (x_op op_sub o_sub (x_var 3) x_int)) (b_one (s_ret (x_tup (x_cons (x_tup x_anil) (x_cons (x_var 9) x_anil))))))))))))))) (b_one (s_ret x_non))))
  (fun _ _ _ _ _ _ us hl => match us, hl with | [_, _, _], _ => rfl)
theorem cg_two_filled (T : Txt P K mg cn) : Cg P w K mg base cn 9 "two_filled" den_two_filled := cg_of (k := 8) (N := ["kind", "one", "other", "place", "late"]) (ps := ["kind", "one", "other"]) (st := top 47) T.f_two_filled ⟨rfl, rfl, rfl, by decide +kernel, rfl, by decide +kernel, by decide +kernel⟩ (fun f cdv A outer s H E c hp => (b_cons (s_set 3 c (x_call c (cg_last_unlike T) (x_cons (x_var 0) (x_cons (x_var 1) (x_cons (x_var 2) x_anil))))) (b_cons (s_set 4 c (x_call c (cg_idle_row T) (x_cons (x_var 1) x_anil))) (b_cons (s_put 4 (x_globA T.g_STONE) (x_op op_sub o_sub (x_var 3) x_int)) (b_cons (s_put 4 (x_call c (cg_fresh_part T) (x_cons (x_var 0) (x_cons (x_var 1) (x_cons (x_var 2) x_anil)))) (x_var 3)) (b_one (s_ret (x_tup (x_cons (x_tup x_anil) (x_cons (x_var 4) x_anil))))))))))
  (fun _ _ _ _ _ _ us hl => match us, hl with | [_, _, _], _ => rfl)
theorem cg_parting_row_of (T : Txt P K mg cn) : Cg P w K mg base cn 11 "parting_row_of" den_parting_row_of := cg_of (k := 10) (N := ["kind", "one", "other", "found"]) (ps := ["kind", "one", "other"]) (st := top 48) T.f_parting_row_of ⟨rfl, rfl, rfl, by decide +kernel, rfl, by decide +kernel, by decide +kernel⟩ (fun f cdv A outer s H E c hp => (b_cons (s_if (t_cmp op_isN o_isN (x_call c (cg_last_unlike T) (x_cons (x_var 0) (x_cons (x_var 1) (x_cons (x_var 2) x_anil)))) x_non) (b_one (s_ret x_non)) b_nil) (b_cons (s_set 3 c (x_call c (cg_none_filled T) (x_cons (x_var 0) (x_cons (x_var 1) (x_cons (x_var 2) x_anil))))) (b_cons (s_if (t_cmp op_isN o_isN (x_var 3) x_non) (b_one (s_set 3 c (x_call c (cg_one_filled T) (x_cons (x_var 0) (x_cons (x_var 1) (x_cons (x_var 2) x_anil)))))) b_nil) (b_cons (s_if (t_cmp op_isN o_isN (x_var 3) x_non) (b_one (s_set 3 c (x_call c (cg_two_filled T) (x_cons (x_var 0) (x_cons (x_var 1) (x_cons (x_var 2) x_anil)))))) b_nil) (b_one (s_ret (x_var 3))))))))
  (fun _ _ _ _ _ _ us hl => match us, hl with | [_, _, _], _ => rfl)
theorem cg_parting_blocks (T : Txt P K mg cn) : Cg P w K mg base cn 12 "parting_blocks" den_parting_blocks := cg_of (k := 11) (N := ["kind", "one", "other"]) (ps := ["kind", "one", "other"]) (st := top 49) T.f_parting_blocks ⟨rfl, rfl, rfl, by decide +kernel, rfl, by decide +kernel, by decide +kernel⟩ (fun f cdv A outer s H E c hp => (b_one (s_ret (x_call c (cg_parting_row_of T) (x_cons (x_var 0) (x_cons (x_call c (cg_checked_row T) (x_cons (x_var 0) (x_cons (x_var 1) x_anil))) (x_cons (x_call c (cg_checked_row T) (x_cons (x_var 0) (x_cons (x_var 2) x_anil))) x_anil)))))))
  (fun _ _ _ _ _ _ us hl => match us, hl with | [_, _, _], _ => rfl)
theorem cg__law_stream (T : Txt P K mg cn) : Cg P w K mg base cn 1 "_law_stream" den__law_stream := cg_of (k := 0) (N := ["script", "cell"]) (ps := ["script"]) (st := top 51) T.f__law_stream ⟨rfl, rfl, rfl, by decide +kernel, rfl, by decide +kernel, by decide +kernel⟩ (fun f cdv A outer s H E c hp => (b_one (s_ret (x_lst (x_cons (x_lc [("cell", 1)] c (i_seq (x_sl (x_var 0) o_non (o_some x_int))) (fun s H C cl fp c1 => (g_name 1 c1)) (fun s H C cl fp c1 => ts_nil) (fun s H C cl fp c1 => (x_ct call_int1 (c_int rfl) T.n_int (x_cons (x_var 1) x_anil)))) (x_cons x_int (x_cons x_int x_anil)))))))
  (fun _ _ _ _ _ _ us hl => match us, hl with | [_], _ => rfl)
theorem cg__law_mixed (T : Txt P K mg cn) : Cg P w K mg base cn 1 "_law_mixed" den__law_mixed := cg_of (k := 0) (N := ["cell", "place", "one"]) (ps := ["cell", "place"]) (st := top 52) T.f__law_mixed ⟨rfl, rfl, rfl, by decide +kernel, rfl, by decide +kernel, by decide +kernel⟩ (fun f cdv A outer s H E c hp => (b_cons (s_set 2 c (x_op op_mod o_mod (x_ct call_int1 (c_int rfl) T.n_int (x_cons (x_op op_mul o_mul (x_var 0) (x_op op_addA o_add x_int (x_op op_mul o_mul x_int (x_var 1)))) x_anil)) x_int)) (b_one (s_ret (x_op op_mod o_mod (x_ct call_int1 (c_int rfl) T.n_int (x_cons (x_op op_mul o_mul (x_var 2) (x_op op_addA o_add (x_var 2) (x_op op_mul o_mul x_int (x_var 1)))) x_anil)) x_int)))))
  (fun _ _ _ _ _ _ us hl => match us, hl with | [_, _], _ => rfl)
theorem cg__law_draw (T : Txt P K mg cn) : CgM P w K mg base cn 2 "_law_draw" den__law_draw := cgM_of (k := 1) (N := ["stream", "many", "cell", "value"]) (ps := ["stream", "many"]) (st := top 53) T.f__law_draw ⟨rfl, rfl, rfl, by decide +kernel, rfl, by decide +kernel, by decide +kernel⟩ (by decide) (fun f cdv A outer s H E c hp => (b_cons (s_if (t_w (w_and (t_cmp (op_eqD c.hr.units) o_eq (x_sub (x_var 0) x_int) x_int) (w_and1 (t_cmp op_lt o_b0 (x_sub (x_var 0) x_int) (x_cb call_len_seq (c_len rfl) T.n_len (x_cons (x_sub (x_var 0) x_int) x_anil)))))) (b_cons (s_set 2 c (x_sub (x_sub (x_var 0) x_int) (x_sub (x_var 0) x_int))) (b_cons (s_put 0 (x_op op_addA o_add (x_sub (x_var 0) x_int) x_int) x_int) (b_cons (s_put 0 (x_cb call_abs (c_abs rfl) T.n_abs (x_cons (x_var 2) x_anil)) x_int) (b_one (s_if (t_cmp op_lt o_b0 (x_sub (x_var 0) x_int) (x_op op_pow o_pow x_int x_int)) (b_one (s_put 0 (x_call c (cg__law_mixed T) (x_cons (x_var 2) (x_cons (x_sub (x_var 0) x_int) x_anil))) x_int)) b_nil))))) b_nil) (b_cons (s_set 3 c (x_op op_mod o_mod (x_ct call_int1 (c_int rfl) T.n_int (x_cons (x_sub (x_var 0) x_int) x_anil)) (x_var 1))) (b_cons (s_put 0 (x_op op_fdiv o_fdiv (x_ct call_int1 (c_int rfl) T.n_int (x_cons (x_sub (x_var 0) x_int) x_anil)) (x_var 1)) x_int) (b_one (s_ret (x_var 3)))))))
  (fun _ _ _ _ _ _ us hl => match us, hl with | [_, _], _ => rfl)
theorem cg__law_pick (T : Txt P K mg cn) : CgM P w K mg base cn 3 "_law_pick" den__law_pick := cgM_of (k := 2) (N := ["stream", "many"]) (ps := ["stream", "many"]) (st := top 54) T.f__law_pick ⟨rfl, rfl, rfl, by decide +kernel, rfl, by decide +kernel, by decide +kernel⟩ (by decide) (fun f cdv A outer s H E c hp => (b_one (s_ret (x_op op_mod o_mod (x_ct call_int1 (c_int rfl) T.n_int (x_cons (x_callM c (cg__law_draw T) (x_cons (x_var 0) (x_cons x_int x_anil))) x_anil)) (x_var 1)))))
  (fun _ _ _ _ _ _ us hl => match us, hl with | [_, _], _ => rfl)
theorem cg__law_kind (T : Txt P K mg cn) : CgM P w K mg base cn 4 "_law_kind" den__law_kind := cgM_of (k := 3) (N := ["stream"]) (ps := ["stream"]) (st := top 55) T.f__law_kind ⟨rfl, rfl, rfl, by decide +kernel, rfl, by decide +kernel, by decide +kernel⟩ (by decide) (fun f cdv A outer s H E c hp => (b_one (s_ret (x_sub (x_tup (x_cons (x_str "list") (x_cons (x_str "bag") (x_cons (x_str "set") (x_cons (x_str "first") (x_cons (x_str "last") (x_cons (x_str "ends") (x_cons (x_str "heads") (x_cons (x_str "tails") x_anil))))))))) (x_callM c (cg__law_pick T) (x_cons (x_var 0) (x_cons x_int x_anil)))))))
  (fun _ _ _ _ _ _ us hl => match us, hl with | [_], _ => rfl)
theorem cg__law_letters (T : Txt P K mg cn) : CgM P w K mg base cn 4 "_law_letters" den__law_letters := cgM_of (k := 3) (N := ["stream", "many", "wide", "letters", "k", "letter"]) (ps := ["stream"]) (st := top 56) T.f__law_letters ⟨rfl, rfl, rfl, by decide +kernel, rfl, by decide +kernel, by decide +kernel⟩ (by decide) (fun f cdv A outer s H E c hp => (b_cons (s_set 1 c (x_op op_addA o_add x_int (x_callM c (cg__law_pick T) (x_cons (x_var 0) (x_cons x_int x_anil))))) (b_cons (s_set 2 c (x_cmpA op_gt o_b0 (x_callM c (cg__law_pick T) (x_cons (x_var 0) (x_cons x_int x_anil))) x_int)) (b_cons (s_set 3 c (x_lst x_anil)) (b_cons (s_for c hp (i_range1 T.n_range (x_var 1)) (g_name 4 c) (b_cons (s_set 5 c (x_var 4)) (b_cons (s_if (t_val (x_var 2)) (b_one (s_set 5 c (x_op op_sub o_sub x_int (x_var 4)))) b_nil) (b_cons (s_if (t_w (w_and (t_val (x_var 2)) (w_and1 (t_cmp op_lt o_b0 (x_var 4) x_int)))) (b_one (s_set 5 c (x_op op_addA o_add (x_var 5) (x_op op_mul o_mul x_int (x_callM c (cg__law_draw T) (x_cons (x_var 0) (x_cons (x_op op_pow o_pow x_int x_int) x_anil))))))) b_nil) (b_one (s_app 3 (x_var 5))))))) (b_one (s_ret (x_var 3))))))))
  (fun _ _ _ _ _ _ us hl => match us, hl with | [_], _ => rfl)
theorem cg__law_raw (T : Txt P K mg cn) : CgM P w K mg base cn 4 "_law_raw" den__law_raw := cgM_of (k := 3) (N := ["stream", "letters", "size", "k"]) (ps := ["stream", "letters"]) (st := top 57) T.f__law_raw ⟨rfl, rfl, rfl, by decide +kernel, rfl, by decide +kernel, by decide +kernel⟩ (by decide) (fun f cdv A outer s H E c hp => (b_cons (s_set 2 c (x_sub (x_tup (x_cons x_int (x_cons x_int (x_cons x_int (x_cons x_int (x_cons x_int (x_cons x_int (x_cons x_int (x_cons x_int (x_cons x_int (x_cons x_int x_anil))))))))))) (x_callM c (cg__law_pick T) (x_cons (x_var 0) (x_cons x_int x_anil))))) (b_one (s_ret (x_ct call_tuple_of (c_tuple rfl) T.n_tuple (x_cons (x_lc [("k", 3)] c (i_range1 T.n_range (x_var 2)) (fun s H C cl fp c1 => (g_name 3 c1)) (fun s H C cl fp c1 => ts_nil) (fun s H C cl fp c1 => (x_sub (x_var 1) (x_callM c1 (cg__law_pick T) (x_cons (x_var 0) (x_cons (x_cb call_len_seq (c_len rfl) T.n_len (x_cons (x_var 1) x_anil)) x_anil)))))) x_anil))))))
  (fun _ _ _ _ _ _ us hl => match us, hl with | [_, _], _ => rfl)
theorem cg__law_plain (T : Txt P K mg cn) : Cg P w K mg base cn 1 "_law_plain" den__law_plain := cg_of (k := 0) (N := ["kind", "word", "row", "k"]) (ps := ["kind", "word"]) (st := top 58) T.f__law_plain ⟨rfl, rfl, rfl, by decide +kernel, rfl, by decide +kernel, by decide +kernel⟩ (fun f cdv A outer s H E c hp => (b_cons (s_set 2 c (x_ct call_list_of (c_list rfl) T.n_list (x_cons (x_var 1) x_anil))) (b_cons (s_if (t_cmp (op_eqD c.hr.units) o_eq (x_var 0) (x_str "bag")) (b_one (s_set 2 c (x_cb cr_sortedI c_sorted T.n_sorted (x_cons (x_var 2) x_anil)))) b_nil) (b_cons (s_if (t_cmp (op_eqD c.hr.units) o_eq (x_var 0) (x_str "set")) (b_one (s_set 2 c (x_sortedSet c T.n_sorted T.n_set (x_cons (x_var 2) x_anil)))) b_nil) (b_cons (s_if (t_cmp (op_eqD c.hr.units) o_eq (x_var 0) (x_str "first")) (b_one (s_set 2 c (x_sl (x_var 2) o_non (o_some x_int)))) b_nil) (b_cons (s_if (t_w (w_and (t_cmp (op_eqD c.hr.units) o_eq (x_var 0) (x_str "last")) (w_and1 (t_cmp op_gt o_b0 (x_cb call_len_seq (c_len rfl) T.n_len (x_cons (x_var 2) x_anil)) x_int)))) (b_one (s_set 2 c (x_lst (x_cons (x_sub (x_var 2) (x_op op_sub o_sub (x_cb call_len_seq (c_len rfl) T.n_len (x_cons (x_var 2) x_anil)) x_int)) x_anil)))) b_nil) (b_cons (s_if (t_w (w_and (t_cmp (op_eqD c.hr.units) o_eq (x_var 0) (x_str "ends")) (w_and1 (t_cmp op_gt o_b0 (x_cb call_len_seq (c_len rfl) T.n_len (x_cons (x_var 2) x_anil)) x_int)))) (b_one (s_set 2 c (x_lst (x_cons (x_sub (x_var 2) x_int) (x_cons (x_sub (x_var 2) (x_op op_sub o_sub (x_cb call_len_seq (c_len rfl) T.n_len (x_cons (x_var 2) x_anil)) x_int)) x_anil))))) b_nil) (b_cons (s_if (t_cmp (op_eqD c.hr.units) o_eq (x_var 0) (x_str "heads")) (b_one (s_set 2 c (x_lc [("k", 3)] c (i_range1 T.n_range (x_cb call_len_seq (c_len rfl) T.n_len (x_cons (x_var 2) x_anil))) (fun s H C cl fp c1 => (g_name 3 c1)) (fun s H C cl fp c1 => ts_one (t_cmp op_notIn_seq o_notIn (x_sub (x_var 2) (x_var 3)) (x_sl (x_var 2) o_non (o_some (x_var 3))))) (fun s H C cl fp c1 => (x_sub (x_var 2) (x_var 3)))))) b_nil) (b_cons (s_if (t_cmp (op_eqD c.hr.units) o_eq (x_var 0) (x_str "tails")) (b_one (s_set 2 c (x_lc [("k", 3)] c (i_range1 T.n_range (x_cb call_len_seq (c_len rfl) T.n_len (x_cons (x_var 2) x_anil))) (fun s H C cl fp c1 => (g_name 3 c1)) (fun s H C cl fp c1 => ts_one (t_cmp op_notIn_seq o_notIn (x_sub (x_var 2) (x_var 3)) (x_sl (x_var 2) (o_some (x_op op_addA o_add (x_var 3) x_int)) o_non))) (fun s H C cl fp c1 => (x_sub (x_var 2) (x_var 3)))))) b_nil) (b_one (s_ret (x_ct call_tuple_of (c_tuple rfl) T.n_tuple (x_cons (x_var 2) x_anil)))))))))))))
  (fun _ _ _ _ _ _ us hl => match us, hl with | [_, _], _ => rfl)
theorem cg__law_joined (T : Txt P K mg cn) : Cg P w K mg base cn 2 "_law_joined" den__law_joined := cg_of (k := 1) (N := ["kind", "left", "right"]) (ps := ["kind", "left", "right"]) (st := top 59) T.f__law_joined ⟨rfl, rfl, rfl, by decide +kernel, rfl, by decide +kernel, by decide +kernel⟩ (fun f cdv A outer s H E c hp => (b_one (s_ret (x_call c (cg__law_plain T) (x_cons (x_var 0) (x_cons (x_op op_addA o_add (x_var 1) (x_var 2)) x_anil))))))
  (fun _ _ _ _ _ _ us hl => match us, hl with | [_, _, _], _ => rfl)
theorem cg__law_normal (T : Txt P K mg cn) : Cg P w K mg base cn 1 "_law_normal" den__law_normal := cg_of (k := 0) (N := ["kind", "effect"]) (ps := ["kind", "effect"]) (st := top 60) T.f__law_normal ⟨rfl, rfl, rfl, by decide +kernel, rfl, by decide +kernel, by decide +kernel⟩ (fun f cdv A outer s H E c hp => (b_cons (s_if (t_w (w_and (t_cmp (op_eqD c.hr.units) o_eq (x_var 0) (x_str "last")) (w_and1 (t_cmp (op_neD c.hr.units) o_ne (x_sub (x_var 1) x_int) (x_tup x_anil))))) (b_one (s_ret (x_tup (x_cons x_bl (x_cons (x_sub (x_var 1) x_int) x_anil))))) b_nil) (b_one (s_ret (x_tup (x_cons (x_sub (x_var 1) x_int) (x_cons (x_sub (x_var 1) x_int) x_anil)))))))
  (fun _ _ _ _ _ _ us hl => match us, hl with | [_, _], _ => rfl)
theorem cg__law_on (T : Txt P K mg cn) : Cg P w K mg base cn 3 "_law_on" den__law_on := cg_of (k := 2) (N := ["kind", "effect", "state"]) (ps := ["kind", "effect", "state"]) (st := top 61) T.f__law_on ⟨rfl, rfl, rfl, by decide +kernel, rfl, by decide +kernel, by decide +kernel⟩ (fun f cdv A outer s H E c hp => (b_cons (s_if (t_val (x_sub (x_var 1) x_int)) (b_one (s_ret (x_sub (x_var 1) x_int))) b_nil) (b_one (s_ret (x_call c (cg__law_joined T) (x_cons (x_var 0) (x_cons (x_var 2) (x_cons (x_sub (x_var 1) x_int) x_anil))))))))
  (fun _ _ _ _ _ _ us hl => match us, hl with | [_, _, _], _ => rfl)
theorem cg__law_is_number (T : Txt P K mg cn) : Cg P w K mg base cn 1 "_law_is_number" den__law_is_number := cg_of (k := 0) (N := ["thing"]) (ps := ["thing"]) (st := top 62) T.f__law_is_number ⟨rfl, rfl, rfl, by decide +kernel, rfl, by decide +kernel, by decide +kernel⟩ (fun f cdv A outer s H E c hp => (b_one (s_ret (x_and (x_isi (n := "int") T.n_isinstance T.n_int (x_var 0)) (x_one (x_not (x_isi (n := "bool") T.n_isinstance T.n_bool (x_var 0))))))))
  (fun _ _ _ _ _ _ us hl => match us, hl with | [_], _ => rfl)
theorem cg__law_is_word (T : Txt P K mg cn) : Cg P w K mg base cn 2 "_law_is_word" den__law_is_word := cg_of (k := 1) (N := ["thing", "letter"]) (ps := ["thing"]) (st := top 63) T.f__law_is_word ⟨rfl, rfl, rfl, by decide +kernel, rfl, by decide +kernel, by decide +kernel⟩ (fun f cdv A outer s H E c hp => (b_one (s_ret (x_and (x_isi (n := "tuple") T.n_isinstance T.n_tuple (x_var 0)) (x_one (x_cb (cr_all c.hc) c_all T.n_all (x_cons (x_lc [("letter", 1)] c (i_seq (x_var 0)) (fun s H C cl fp c1 => (g_name 1 c1)) (fun s H C cl fp c1 => ts_nil) (fun s H C cl fp c1 => (x_call c1 (cg__law_is_number T) (x_cons (x_var 1) x_anil)))) x_anil)))))))
  (fun _ _ _ _ _ _ us hl => match us, hl with | [_], _ => rfl)
theorem cg__law_is_effect (T : Txt P K mg cn) : Cg P w K mg base cn 3 "_law_is_effect" den__law_is_effect := cg_of (k := 2) (N := ["thing"]) (ps := ["thing"]) (st := top 64) T.f__law_is_effect ⟨rfl, rfl, rfl, by decide +kernel, rfl, by decide +kernel, by decide +kernel⟩ (fun f cdv A outer s H E c hp => (b_cons (s_if (t_w (w_or (t_not (t_val (x_isi (n := "tuple") T.n_isinstance T.n_tuple (x_var 0)))) (w_or1 (t_cmp (op_neD c.hr.units) o_ne (x_cb call_len_seq (c_len rfl) T.n_len (x_cons (x_var 0) x_anil)) x_int)))) (b_one (s_ret x_bl)) b_nil) (b_one (s_ret (x_and (x_isi (n := "bool") T.n_isinstance T.n_bool (x_sub (x_var 0) x_int)) (x_one (x_call c (cg__law_is_word T) (x_cons (x_sub (x_var 0) x_int) x_anil))))))))
  (fun _ _ _ _ _ _ us hl => match us, hl with | [_], _ => rfl)
theorem cg__law_some_word (T : Txt P K mg cn) : CgM P w K mg base cn 5 "_law_some_word" den__law_some_word := cgM_of (k := 4) (N := ["stream", "kind", "letters", "word"]) (ps := ["stream", "kind", "letters"]) (st := top 65) T.f__law_some_word ⟨rfl, rfl, rfl, by decide +kernel, rfl, by decide +kernel, by decide +kernel⟩ (by decide) (fun f cdv A outer s H E c hp => (b_cons (s_set 3 c (x_sl (x_callM c (cg__law_raw T) (x_cons (x_var 0) (x_cons (x_var 2) x_anil))) o_non (o_some x_int))) (b_cons (s_if (t_cmp (op_eqD c.hr.units) o_eq (x_var 3) (x_tup x_anil)) (b_one (s_set 3 c (x_tup (x_cons (x_sub (x_var 2) x_int) x_anil)))) b_nil) (b_one (s_ret (x_call c (cg__law_plain T) (x_cons (x_var 1) (x_cons (x_var 3) x_anil))))))))
  (fun _ _ _ _ _ _ us hl => match us, hl with | [_, _, _], _ => rfl)
theorem cg__law_late_effect (T : Txt P K mg cn) : CgM P w K mg base cn 6 "_law_late_effect" den__law_late_effect := cgM_of (k := 5) (N := ["stream", "kind", "letters", "way", "word"]) (ps := ["stream", "kind", "letters"]) (st := top 66) T.f__law_late_effect ⟨rfl, rfl, rfl, by decide +kernel, rfl, by decide +kernel, by decide +kernel⟩ (by decide) (fun f cdv A outer s H E c hp => (b_cons (s_set 3 c (x_callM c (cg__law_pick T) (x_cons (x_var 0) (x_cons x_int x_anil)))) (b_cons (s_set 4 c (x_tup x_anil)) (b_cons (s_if (t_w (w_or (t_cmp (op_eqD c.hr.units) o_eq (x_var 3) x_int) (w_or1 (t_cmp op_gt o_b0 (x_var 3) x_int)))) (b_one (s_set 4 c (x_callM c (cg__law_some_word T) (x_cons (x_var 0) (x_cons (x_var 1) (x_cons (x_var 2) x_anil)))))) b_nil) (b_one (s_ret (x_call c (cg__law_normal T) (x_cons (x_var 1) (x_cons (x_tup (x_cons (x_or (x_cmpA (op_eqD c.hr.units) o_eq (x_var 3) x_int) (x_one (x_cmpA op_gt o_b0 (x_var 3) x_int))) (x_cons (x_var 4) x_anil))) x_anil)))))))))
  (fun _ _ _ _ _ _ us hl => match us, hl with | [_, _, _], _ => rfl)
theorem cg__law_bare (T : Txt P K mg cn) : Cg P w K mg base cn 1 "_law_bare" den__law_bare := cg_of (k := 0) (N := ["kind", "blocks", "bare", "place", "clear", "word", "later", "hidden", "block", "letter"]) (ps := ["kind", "blocks"]) (st := top 67) T.f__law_bare ⟨rfl, rfl, rfl, by decide +kernel, rfl, by decide +kernel, by decide +kernel⟩ (fun f cdv A outer s H E c hp => (b_cons (s_set 2 c (x_lst x_anil)) (b_cons (s_for c hp (i_range1 T.n_range (x_cb call_len_seq (c_len rfl) T.n_len (x_cons (x_var 1) x_anil))) (g_name 3 c) (b_cons (s_asg (x_sub (x_var 1) (x_var 3)) (g_tup c (g_cons (g_name 4 c) (g_cons (g_name 5 c) g_nil)))) (b_cons (s_set 6 c (x_sl (x_var 1) (o_some (x_op op_addA o_add (x_var 3) x_int)) o_non)) (b_cons (s_set 7 c (x_lst x_anil)) (b_cons (s_for c hp (i_seq (x_var 6)) (g_name 8 c) (b_one (s_set 7 c (x_op op_addA o_add (x_var 7) (x_ct call_list_of (c_list rfl) T.n_list (x_cons (x_sub (x_var 8) x_int) x_anil)))))) (b_cons (s_if (t_val (x_cb (cr_any c.hc) c_any T.n_any (x_cons (x_lc [("block", 8)] c (i_seq (x_var 6)) (fun s H C cl fp c1 => (g_name 8 c1)) (fun s H C cl fp c1 => ts_nil) (fun s H C cl fp c1 => (x_sub (x_var 8) x_int))) x_anil))) (b_one (s_asg (x_tup (x_cons x_bl (x_cons (x_tup x_anil) x_anil))) (g_tup c (g_cons (g_name 4 c) (g_cons (g_name 5 c) g_nil))))) (b_one (s_if (t_w (w_or (t_cmp (op_eqD c.hr.units) o_eq (x_var 0) (x_str "set")) (w_or1 (t_cmp (op_eqD c.hr.units) o_eq (x_var 0) (x_str "tails"))))) (b_one (s_set 5 c (x_ct call_tuple_of (c_tuple rfl) T.n_tuple (x_cons (x_lc [("letter", 9)] c (i_seq (x_var 5)) (fun s H C cl fp c1 => (g_name 9 c1)) (fun s H C cl fp c1 => ts_one (t_cmp op_notIn_seq o_notIn (x_var 9) (x_var 7))) (fun s H C cl fp c1 => (x_var 9))) x_anil)))) (b_one (s_if (t_w (w_and (t_cmp (op_eqD c.hr.units) o_eq (x_var 0) (x_str "ends")) (w_and1 (t_cmp op_gt o_b0 (x_cb call_len_seq (c_len rfl) T.n_len (x_cons (x_var 7) x_anil)) x_int)))) (b_one (s_set 5 c (x_op op_addA o_add (x_sl (x_var 5) o_non (o_some x_int)) (x_sl (x_var 5) o_non (o_some x_int))))) b_nil))))) (b_one (s_app 2 (x_tup (x_cons (x_var 4) (x_cons (x_var 5) x_anil))))))))))) (b_one (s_ret (x_var 2))))))
  (fun _ _ _ _ _ _ us hl => match us, hl with | [_, _], _ => rfl)
theorem cg__law_filled (T : Txt P K mg cn) : Cg P w K mg base cn 4 "_law_filled" den__law_filled := cg_of (k := 3) (N := ["kind", "blocks", "late", "state", "word", "place"]) (ps := ["kind", "blocks", "late", "state"]) (st := top 68) T.f__law_filled ⟨rfl, rfl, rfl, by decide +kernel, rfl, by decide +kernel, by decide +kernel⟩ (fun f cdv A outer s H E c hp => (b_cons (s_set 4 c (x_call c (cg__law_on T) (x_cons (x_var 0) (x_cons (x_sub (x_var 1) x_int) (x_cons (x_var 3) x_anil))))) (b_cons (s_for c hp (i_range1 T.n_range (x_cb call_len_seq (c_len rfl) T.n_len (x_cons (x_var 2) x_anil))) (g_name 5 c) (b_cons (s_set 4 c (x_call c (cg__law_on T) (x_cons (x_var 0) (x_cons (x_sub (x_var 2) (x_var 5)) (x_cons (x_var 4) x_anil))))) (b_one (s_set 4 c (x_call c (cg__law_on T) (x_cons (x_var 0) (x_cons (x_sub (x_var 1) (x_op op_addA o_add (x_var 5) x_int)) (x_cons (x_var 4) x_anil)))))))) (b_one (s_ret (x_var 4))))))
  (fun _ _ _ _ _ _ us hl => match us, hl with | [_, _, _, _], _ => rfl)
theorem cg__law_block_row (T : Txt P K mg cn) : CgM P w K mg base cn 6 "_law_block_row" den__law_block_row := cgM_of (k := 5) (N := ["stream", "kind", "letters", "many", "blocks", "k", "way", "word"]) (ps := ["stream", "kind", "letters", "many"]) (st := top 69) T.f__law_block_row ⟨rfl, rfl, rfl, by decide +kernel, rfl, by decide +kernel, by decide +kernel⟩ (by decide) (fun f cdv A outer s H E c hp => (b_cons (s_set 4 c (x_lst x_anil)) (b_cons (s_for c hp (i_range1 T.n_range (x_var 3)) (g_name 5 c) (b_cons (s_set 6 c (x_callM c (cg__law_pick T) (x_cons (x_var 0) (x_cons x_int x_anil)))) (b_cons (s_set 7 c (x_tup x_anil)) (b_cons (s_if (t_w (w_or (t_cmp (op_eqD c.hr.units) o_eq (x_var 6) x_int) (w_or1 (t_cmp op_gt o_b0 (x_var 6) x_int)))) (b_one (s_set 7 c (x_callM c (cg__law_some_word T) (x_cons (x_var 0) (x_cons (x_var 1) (x_cons (x_var 2) x_anil)))))) b_nil) (b_one (s_app 4 (x_call c (cg__law_normal T) (x_cons (x_var 1) (x_cons (x_tup (x_cons (x_or (x_cmpA (op_eqD c.hr.units) o_eq (x_var 6) x_int) (x_one (x_cmpA (op_eqD c.hr.units) o_eq (x_var 6) x_int))) (x_cons (x_var 7) x_anil))) x_anil))))))))) (b_one (s_ret (x_var 4))))))
  (fun _ _ _ _ _ _ us hl => match us, hl with | [_, _, _, _], _ => rfl)
theorem cg__law_hidden_in (T : Txt P K mg cn) : Cg P w K mg base cn 2 "_law_hidden_in" den__law_hidden_in := cg_of (k := 1) (N := ["kind", "blocks", "changed", "k", "clear", "word", "later", "extra", "block", "effect"]) (ps := ["kind", "blocks"]) (st := top 70) T.f__law_hidden_in ⟨rfl, rfl, rfl, by decide +kernel, rfl, by decide +kernel, by decide +kernel⟩ (fun f cdv A outer s H E c hp => (b_cons (s_set 2 c (x_lst x_anil)) (b_cons (s_for c hp (i_range1 T.n_range (x_cb call_len_seq (c_len rfl) T.n_len (x_cons (x_var 1) x_anil))) (g_name 3 c) (b_cons (s_asg (x_sub (x_var 1) (x_var 3)) (g_tup c (g_cons (g_name 4 c) (g_cons (g_name 5 c) g_nil)))) (b_cons (s_set 6 c (x_sl (x_var 1) (o_some (x_op op_addA o_add (x_var 3) x_int)) o_non)) (b_cons (s_set 7 c (x_tup x_anil)) (b_cons (s_for c hp (i_seq (x_var 6)) (g_name 8 c) (b_one (s_set 7 c (x_op op_addA o_add (x_var 7) (x_sub (x_var 8) x_int))))) (b_one (s_if (t_val (x_cb (cr_any c.hc) c_any T.n_any (x_cons (x_lc [("block", 8)] c (i_seq (x_var 6)) (fun s H C cl fp c1 => (g_name 8 c1)) (fun s H C cl fp c1 => ts_nil) (fun s H C cl fp c1 => (x_sub (x_var 8) x_int))) x_anil))) (b_one (s_app 2 (x_tup (x_cons (x_not (x_var 4)) (x_cons (x_var 5) x_anil))))) (b_one (s_if (t_w (w_or (t_cmp (op_eqD c.hr.units) o_eq (x_var 0) (x_str "set")) (w_or1 (t_cmp (op_eqD c.hr.units) o_eq (x_var 0) (x_str "tails"))))) (b_one (s_app 2 (x_tup (x_cons (x_var 4) (x_cons (x_call c (cg__law_plain T) (x_cons (x_var 0) (x_cons (x_op op_addA o_add (x_var 7) (x_var 5)) x_anil))) x_anil))))) (b_one (s_if (t_w (w_and (t_cmp (op_eqD c.hr.units) o_eq (x_var 0) (x_str "ends")) (w_and (t_cmp (op_neD c.hr.units) o_ne (x_var 5) (x_tup x_anil)) (w_and1 (t_cmp (op_neD c.hr.units) o_ne (x_var 7) (x_tup x_anil)))))) (b_one (s_app 2 (x_tup (x_cons (x_var 4) (x_cons (x_tup (x_cons (x_sub (x_var 5) x_int) (x_cons (x_sub (x_var 7) x_int) x_anil))) x_anil))))) (b_one (s_app 2 (x_tup (x_cons (x_var 4) (x_cons (x_var 5) x_anil)))))))))))))))) (b_one (s_ret (x_lc [("effect", 9)] c (i_seq (x_var 2)) (fun s H C cl fp c1 => (g_name 9 c1)) (fun s H C cl fp c1 => ts_nil) (fun s H C cl fp c1 => (x_call c1 (cg__law_normal T) (x_cons (x_var 0) (x_cons (x_var 9) x_anil))))))))))
  (fun _ _ _ _ _ _ us hl => match us, hl with | [_, _], _ => rfl)
theorem cg__law_second_row (T : Txt P K mg cn) : CgM P w K mg base cn 7 "_law_second_row" den__law_second_row := cgM_of (k := 6) (N := ["stream", "kind", "letters", "one", "way", "other", "at"]) (ps := ["stream", "kind", "letters", "one"]) (st := top 71) T.f__law_second_row ⟨rfl, rfl, rfl, by decide +kernel, rfl, by decide +kernel, by decide +kernel⟩ (by decide) (fun f cdv A outer s H E c hp => (b_cons (s_set 4 c (x_callM c (cg__law_pick T) (x_cons (x_var 0) (x_cons x_int x_anil)))) (b_cons (s_set 5 c (x_ct call_list_of (c_list rfl) T.n_list (x_cons (x_var 3) x_anil))) (b_cons (s_if (t_cmp op_lt o_b0 (x_var 4) x_int) (b_one (s_set 5 c (x_call c (cg__law_hidden_in T) (x_cons (x_var 1) (x_cons (x_var 3) x_anil))))) b_nil) (b_cons (s_if (t_w (w_or (t_cmp (op_eqD c.hr.units) o_eq (x_var 4) x_int) (w_or1 (t_cmp (op_eqD c.hr.units) o_eq (x_var 4) x_int)))) (b_cons (s_set 6 c (x_callM c (cg__law_pick T) (x_cons (x_var 0) (x_cons (x_cb call_len_seq (c_len rfl) T.n_len (x_cons (x_var 3) x_anil)) x_anil)))) (b_one (s_put 5 (x_callM c (cg__law_late_effect T) (x_cons (x_var 0) (x_cons (x_var 1) (x_cons (x_var 2) x_anil)))) (x_var 6)))) b_nil) (b_cons (s_if (t_cmp (op_eqD c.hr.units) o_eq (x_var 4) x_int) (b_one (s_set 5 c (x_callM c (cg__law_block_row T) (x_cons (x_var 0) (x_cons (x_var 1) (x_cons (x_var 2) (x_cons (x_cb call_len_seq (c_len rfl) T.n_len (x_cons (x_var 3) x_anil)) x_anil))))))) b_nil) (b_cons (s_if (t_cmp (op_eqD c.hr.units) o_eq (x_var 4) x_int) (b_cons (s_set 6 c (x_callM c (cg__law_pick T) (x_cons (x_var 0) (x_cons (x_cb call_len_seq (c_len rfl) T.n_len (x_cons (x_var 3) x_anil)) x_anil)))) (b_one (s_put 5 (x_call c (cg__law_normal T) (x_cons (x_var 1) (x_cons (x_tup (x_cons (x_sub (x_sub (x_var 5) (x_var 6)) x_int) (x_cons (x_call c (cg__law_plain T) (x_cons (x_var 1) (x_cons (x_op op_addA o_add (x_sub (x_sub (x_var 5) (x_var 6)) x_int) (x_tup (x_cons (x_sub (x_var 2) x_int) x_anil))) x_anil))) x_anil))) x_anil))) (x_var 6)))) b_nil) (b_one (s_ret (x_var 5))))))))))
  (fun _ _ _ _ _ _ us hl => match us, hl with | [_, _, _, _], _ => rfl)
theorem cg__law_asked_effect (T : Txt P K mg cn) : Cg P w K mg base cn 13 "_law_asked_effect" den__law_asked_effect := cg_of (k := 12) (N := ["kind", "blocks", "door", "told", "a", "block"]) (ps := ["kind", "blocks", "door"]) (st := top 72) T.f__law_asked_effect ⟨rfl, rfl, rfl, by decide +kernel, rfl, by decide +kernel, by decide +kernel⟩ (fun f cdv A outer s H E c hp => (b_cons (s_set 3 c (x_tup (x_cons (x_str "let") (x_cons (x_str "") x_anil)))) (b_cons (s_try c rfl rfl (fun W1 pn xe c hp => (b_one (s_if (t_cmp (op_eqD c.hr.units) o_eq (x_var 2) x_int) (b_one (s_expr (x_call c (cg_bare_row T) (x_cons (x_var 0) (x_cons (x_var 1) x_anil))))) (b_one (s_if (t_cmp (op_eqD c.hr.units) o_eq (x_var 2) x_int) (b_one (s_expr (x_call c (cg_parting_blocks T) (x_cons (x_var 0) (x_cons (x_var 1) (x_cons (x_lc [("block", 5)] c (i_seq (x_var 1)) (fun s H C cl fp c1 => (g_name 5 c1)) (fun s H C cl fp c1 => ts_nil) (fun s H C cl fp c1 => x_non)) x_anil)))))) (b_one (s_expr (x_call c (cg_parting_blocks T) (x_cons (x_var 0) (x_cons (x_lc [("block", 5)] c (i_seq (x_var 1)) (fun s H C cl fp c1 => (g_name 5 c1)) (fun s H C cl fp c1 => ts_nil) (fun s H C cl fp c1 => (x_tup (x_cons x_bl (x_cons (x_tup x_anil) x_anil))))) (x_cons (x_var 1) x_anil))))))))))) (cl_rep 4 3 (s := "effect") (f := "place") ⟨rfl, by decide, .inl T.m_BadEffect⟩ T.exm_BadEffect T.xf_BadEffect_place c.hN T.n_repr (cl_suite ⟨rfl, by decide, .inl T.m_StoreError⟩ T.exm_StoreError (fun a pn => b_one (s_setN 3 c.hN (x_tup (x_cons (x_str "other") (x_cons (x_str "") x_anil))))) cl_nil))) (b_one (s_ret (x_var 3))))))
  (fun _ _ _ _ _ _ us hl => match us, hl with | [_, _, _], _ => rfl)
theorem cg__law_parted (T : Txt P K mg cn) : Cg P w K mg base cn 5 "_law_parted" den__law_parted := cg_of (k := 4) (N := ["kind", "one", "other", "found", "state", "late", "effect"]) (ps := ["kind", "one", "other", "found"]) (st := top 73) T.f__law_parted ⟨rfl, rfl, rfl, by decide +kernel, rfl, by decide +kernel, by decide +kernel⟩ (fun f cdv A outer s H E c hp => (b_cons (s_if (t_w (w_or (t_not (t_val (x_isi (n := "tuple") T.n_isinstance T.n_tuple (x_var 3)))) (w_or (t_cmp (op_neD c.hr.units) o_ne (x_cb call_len_seq (c_len rfl) T.n_len (x_cons (x_var 3) x_anil)) x_int) (w_or1 (t_not (t_val (x_isi (n := "list") T.n_isinstance T.n_list (x_sub (x_var 3) x_int)))))))) (b_one (s_ret x_bl)) b_nil) (b_cons (s_asg (x_var 3) (g_tup c (g_cons (g_name 4 c) (g_cons (g_name 5 c) g_nil)))) (b_cons (s_if (t_w (w_or (t_not (t_val (x_call c (cg__law_is_word T) (x_cons (x_var 4) x_anil)))) (w_or (t_cmp (op_neD c.hr.units) o_ne (x_call c (cg__law_plain T) (x_cons (x_var 0) (x_cons (x_var 4) x_anil))) (x_var 4)) (w_or1 (t_cmp (op_neD c.hr.units) o_ne (x_cb call_len_seq (c_len rfl) T.n_len (x_cons (x_var 5) x_anil)) (x_op op_sub o_sub (x_cb call_len_seq (c_len rfl) T.n_len (x_cons (x_var 1) x_anil)) x_int)))))) (b_one (s_ret x_bl)) b_nil) (b_cons (s_if (t_w (w_and (t_val (x_sub (x_sub (x_var 1) x_int) x_int)) (w_and (t_val (x_sub (x_sub (x_var 2) x_int) x_int)) (w_and1 (t_cmp (op_neD c.hr.units) o_ne (x_var 4) (x_tup x_anil)))))) (b_one (s_ret x_bl)) b_nil) (b_cons (s_for c hp (i_seq (x_var 5)) (g_name 6 c) (b_cons (s_if (t_w (w_or (t_not (t_val (x_call c (cg__law_is_effect T) (x_cons (x_var 6) x_anil)))) (w_or1 (t_cmp (op_neD c.hr.units) o_ne (x_call c (cg__law_plain T) (x_cons (x_var 0) (x_cons (x_sub (x_var 6) x_int) x_anil))) (x_sub (x_var 6) x_int))))) (b_one (s_ret x_bl)) b_nil) (b_one (s_if (t_cmp (op_neD c.hr.units) o_ne (x_call c (cg__law_normal T) (x_cons (x_var 0) (x_cons (x_var 6) x_anil))) (x_var 6)) (b_one (s_ret x_bl)) b_nil)))) (b_one (s_ret (x_cmpA (op_neD c.hr.units) o_ne (x_call c (cg__law_filled T) (x_cons (x_var 0) (x_cons (x_var 1) (x_cons (x_var 5) (x_cons (x_var 4) x_anil))))) (x_call c (cg__law_filled T) (x_cons (x_var 0) (x_cons (x_var 2) (x_cons (x_var 5) (x_cons (x_var 4) x_anil))))))))))))))
  (fun _ _ _ _ _ _ us hl => match us, hl with | [_, _, _, _], _ => rfl)
theorem cg__law_all_alike (T : Txt P K mg cn) : CgM P w K mg base cn 11 "_law_all_alike" den__law_all_alike := cgM_of (k := 10) (N := ["stream", "kind", "letters", "one", "other", "turn", "late", "state", "told", "word", "block"]) (ps := ["stream", "kind", "letters", "one", "other"]) (st := top 74) T.f__law_all_alike ⟨rfl, rfl, rfl, by decide +kernel, rfl, by decide +kernel, by decide +kernel⟩ (by decide) (fun f cdv A outer s H E c hp => (b_cons (s_for c hp (i_range1 T.n_range x_int) (g_name 5 c) (b_cons (s_setLc 6 [("block", 10)] c (i_seq (x_sl (x_var 3) (o_some x_int) o_non)) (fun s H C cl fp c1 => (g_name 10 c1)) (fun s H C cl fp c1 => ts_nil) (fun s H C cl fp c1 => (x_callM c1 (cg__law_late_effect T) (x_cons (x_var 0) (x_cons (x_var 1) (x_cons (x_var 2) x_anil))))) (sw_true rfl rfl rfl rfl)) (b_cons (s_if (t_cmp (op_eqD c.hr.units) o_eq (x_var 5) x_int) (b_one (s_setLc 6 [("block", 10)] c (i_seq (x_sl (x_var 3) (o_some x_int) o_non)) (fun s H C cl fp c1 => (g_name 10 c1)) (fun s H C cl fp c1 => ts_nil) (fun s H C cl fp c1 => (x_tup (x_cons x_bl (x_cons (x_tup x_anil) x_anil)))) (sw_true rfl rfl rfl rfl))) b_nil) (b_cons (s_set 7 c (x_call c (cg__law_plain T) (x_cons (x_var 1) (x_cons (x_tup (x_cons (x_sub (x_var 2) x_int) (x_cons x_int x_anil))) x_anil)))) (b_cons (s_if (t_cmp (op_eqD c.hr.units) o_eq (x_var 5) x_int) (b_one (s_set 7 c (x_tup x_anil))) b_nil) (b_cons (s_set 8 c (x_lst (x_cons (x_call c (cg_filled_effect T) (x_cons (x_var 1) (x_cons (x_var 3) (x_cons (x_ct call_list_of (c_list rfl) T.n_list (x_cons (x_var 6) x_anil)) x_anil)))) (x_cons (x_call c (cg_filled_effect T) (x_cons (x_var 1) (x_cons (x_var 4) (x_cons (x_ct call_tuple_of (c_tuple rfl) T.n_tuple (x_cons (x_var 6) x_anil)) x_anil)))) x_anil)))) (b_one (s_for c hp (i_seq (x_tup (x_cons (x_call c (cg__law_filled T) (x_cons (x_var 1) (x_cons (x_var 4) (x_cons (x_var 6) (x_cons (x_var 7) x_anil))))) (x_cons (x_call c (cg__law_on T) (x_cons (x_var 1) (x_cons (x_sub (x_var 8) x_int) (x_cons (x_var 7) x_anil)))) (x_cons (x_call c (cg__law_on T) (x_cons (x_var 1) (x_cons (x_sub (x_var 8) x_int) (x_cons (x_var 7) x_anil)))) x_anil))))) (g_name 9 c) (b_one (s_if (t_cmp (op_neD c.hr.units) o_ne (x_call c (cg__law_filled T) (x_cons (x_var 1) (x_cons (x_var 3) (x_cons (x_var 6) (x_cons (x_var 7) x_anil))))) (x_var 9)) (b_one (s_ret x_bl)) b_nil)))))))))) (b_one (s_ret x_bl))))
  (fun _ _ _ _ _ _ us hl => match us, hl with | [_, _, _, _, _], _ => rfl)
theorem ok_law (T : Txt P K mg cn) {f : Addr} {fd : FuncData} (F : FunD K "law" "law" (defArgs (top 75)) (defBody (top 75)) (defScope (top 75)) [] [] f fd) : FnOk P w K mg base (L2.CX P w) 14 f fd ["script"] (spD K cn den_law) := ok_of (k := 13) (N := ["script", "stream", "kind", "letters", "many", "size", "one", "other", "row", "told", "alike", "found", "changed", "at", "bad", "door", "effect"]) (ps := ["script"]) (st := top 75) F ⟨rfl, rfl, rfl, by decide +kernel, rfl, by decide +kernel, by decide +kernel⟩ (fun f cdv A outer s H E c hp => (b_cons (s_set 1 c (x_call c (cg__law_stream T) (x_cons (x_var 0) x_anil))) (b_cons (s_set 2 c (x_callM c (cg__law_kind T) (x_cons (x_var 1) x_anil))) (b_cons (s_set 3 c (x_callM c (cg__law_letters T) (x_cons (x_var 1) x_anil))) (b_cons (s_set 4 c (x_op op_addA o_add x_int (x_callM c (cg__law_pick T) (x_cons (x_var 1) (x_cons x_int x_anil))))) (b_cons (s_set 5 c (x_callM c (cg__law_pick T) (x_cons (x_var 1) (x_cons x_int x_anil)))) (b_cons (s_if (t_cmp op_gt o_b0 (x_var 5) x_int) (b_one (s_set 4 c (x_op op_sub o_sub (x_var 5) x_int))) b_nil) (b_cons (s_if (t_cmp (op_eqD c.hr.units) o_eq (x_var 5) x_int) (b_one (s_set 4 c x_int)) b_nil) (b_cons (s_set 6 c (x_callM c (cg__law_block_row T) (x_cons (x_var 1) (x_cons (x_var 2) (x_cons (x_var 3) (x_cons (x_var 4) x_anil)))))) (b_cons (s_set 7 c (x_callM c (cg__law_second_row T) (x_cons (x_var 1) (x_cons (x_var 2) (x_cons (x_var 3) (x_cons (x_var 6) x_anil)))))) (b_cons (s_for c hp (i_seq (x_tup (x_cons (x_var 6) (x_cons (x_var 7) x_anil)))) (g_name 8 c) (b_cons (s_set 9 c (x_call c (cg_bare_row T) (x_cons (x_var 2) (x_cons (x_ct call_list_of (c_list rfl) T.n_list (x_cons (x_var 8) x_anil)) x_anil)))) (b_cons (s_if (t_w (w_or (t_not (t_val (x_isi (n := "list") T.n_isinstance T.n_list (x_var 9)))) (w_or1 (t_cmp (op_neD c.hr.units) o_ne (x_var 9) (x_call c (cg__law_bare T) (x_cons (x_var 2) (x_cons (x_var 8) x_anil))))))) (b_one (s_ret x_bl)) b_nil) (b_one (s_if (t_w (w_or (t_not (t_val (x_cb (cr_all c.hc) c_all T.n_all (x_cons (x_lc [("effect", 16)] c (i_seq (x_var 9)) (fun s H C cl fp c1 => (g_name 16 c1)) (fun s H C cl fp c1 => ts_nil) (fun s H C cl fp c1 => (x_call c1 (cg__law_is_effect T) (x_cons (x_var 16) x_anil)))) x_anil)))) (w_or1 (t_cmp (op_neD c.hr.units) o_ne (x_call c (cg_bare_row T) (x_cons (x_var 2) (x_cons (x_ct call_tuple_of (c_tuple rfl) T.n_tuple (x_cons (x_var 9) x_anil)) x_anil))) (x_var 9))))) (b_one (s_ret x_bl)) b_nil))))) (b_cons (s_set 10 c (x_cmpA (op_eqD c.hr.units) o_eq (x_call c (cg__law_bare T) (x_cons (x_var 2) (x_cons (x_var 6) x_anil))) (x_call c (cg__law_bare T) (x_cons (x_var 2) (x_cons (x_var 7) x_anil))))) (b_cons (s_set 11 c (x_call c (cg_parting_blocks T) (x_cons (x_var 2) (x_cons (x_ct call_tuple_of (c_tuple rfl) T.n_tuple (x_cons (x_var 6) x_anil)) (x_cons (x_ct call_list_of (c_list rfl) T.n_list (x_cons (x_var 7) x_anil)) x_anil))))) (b_cons (s_if (t_w (w_or (t_cmp (op_neD c.hr.units) o_ne (x_var 10) (x_cmpA op_isN o_isN (x_var 11) x_non)) (w_or1 (t_cmp op_notN o_notN (x_call c (cg_parting_blocks T) (x_cons (x_var 2) (x_cons (x_var 6) (x_cons (x_ct call_list_of (c_list rfl) T.n_list (x_cons (x_var 6) x_anil)) x_anil)))) x_non)))) (b_one (s_ret x_bl)) b_nil) (b_cons (s_set 12 c (x_ct call_list_of (c_list rfl) T.n_list (x_cons (x_var 6) x_anil))) (b_cons (s_put 12 (x_tup (x_cons (x_not (x_sub (x_sub (x_var 6) (x_op op_sub o_sub (x_var 4) x_int)) x_int)) (x_cons (x_call c (cg__law_plain T) (x_cons (x_var 2) (x_cons (x_tup (x_cons x_int x_anil)) x_anil))) x_anil))) (x_op op_sub o_sub (x_var 4) x_int)) (b_cons (s_if (t_cmp (op_eqD c.hr.units) o_eq (x_var 2) (x_str "last")) (b_cons (s_put 12 (x_tup (x_cons x_bl (x_cons (x_tup x_anil) x_anil))) (x_op op_sub o_sub (x_var 4) x_int)) (b_one (s_if (t_cmp (op_eqD c.hr.units) o_eq (x_sub (x_var 6) (x_op op_sub o_sub (x_var 4) x_int)) (x_tup (x_cons x_bl (x_cons (x_tup x_anil) x_anil)))) (b_one (s_put 12 (x_tup (x_cons x_bl (x_cons (x_tup (x_cons x_int x_anil)) x_anil))) (x_op op_sub o_sub (x_var 4) x_int))) b_nil))) b_nil) (b_cons (s_if (t_not (t_val (x_call c (cg__law_parted T) (x_cons (x_var 2) (x_cons (x_var 6) (x_cons (x_var 12) (x_cons (x_call c (cg_parting_blocks T) (x_cons (x_var 2) (x_cons (x_var 6) (x_cons (x_var 12) x_anil)))) x_anil))))))) (b_one (s_ret x_bl)) b_nil) (b_cons (s_set 13 c (x_callM c (cg__law_pick T) (x_cons (x_var 1) (x_cons (x_var 4) x_anil)))) (b_cons (s_for c hp (i_seq (x_tup (x_cons (x_tup (x_cons x_int (x_cons (x_tup x_anil) x_anil))) (x_cons (x_tup (x_cons x_bl (x_cons (x_lst (x_cons x_int x_anil)) x_anil))) (x_cons x_non (x_cons (x_tup (x_cons x_bl (x_cons (x_tup (x_cons (x_un un_neg o_neg x_int) x_anil)) x_anil))) (x_cons (x_tup (x_cons x_int (x_cons x_int (x_cons x_int x_anil)))) x_anil))))))) (g_name 14 c) (b_one (s_for c hp (i_range1 T.n_range x_int) (g_name 15 c) (b_one (s_if (t_cmp (op_neD c.hr.units) o_ne (x_call c (cg__law_asked_effect T) (x_cons (x_var 2) (x_cons (x_op op_addA o_add (x_op op_addA o_add (x_sl (x_var 6) o_non (o_some (x_var 13))) (x_lst (x_cons (x_var 14) x_anil))) (x_sl (x_var 6) (o_some (x_op op_addA o_add (x_var 13) x_int)) o_non)) (x_cons (x_var 15) x_anil)))) (x_tup (x_cons (x_str "effect") (x_cons (x_cb SkE.call_repr_int (c_repr (fun _ => rfl) rfl) T.n_repr (x_cons (x_var 13) x_anil)) x_anil)))) (b_one (s_ret x_bl)) b_nil))))) (b_cons (s_if (t_val (x_var 10)) (b_one (s_ret (x_callM c (cg__law_all_alike T) (x_cons (x_var 1) (x_cons (x_var 2) (x_cons (x_var 3) (x_cons (x_var 6) (x_cons (x_var 7) x_anil)))))))) b_nil) (b_one (s_ret (x_call c (cg__law_parted T) (x_cons (x_var 2) (x_cons (x_var 6) (x_cons (x_var 7) (x_cons (x_var 11) x_anil))))))))))))))))))))))))))))
end
end SoR
end

section
set_option maxRecDepth 100000
set_option maxHeartbeats 0
namespace SoR
open PySem PySem.Spec PyProof.Rows L2 DL
open He (eqO eqO_ok)
theorem bat {l : List Bool} (h : (l.all fun b => b) = true) (i : Nat) {b : Bool} (e : l[i]? = some b) : b = true := List.all_eq_true.mp h b (List.mem_of_getElem? e)
theorem txt {K : PySem.W.Frag} {h : Heap} {mg : Str → Option Value} (X : K.In h) (G : h.Ns mainGlobals mg) (c : SaysS BB fnD sfD svD K) : Txt PP K mg (cnK K) where
  f_kind_named := (let ⟨fd, F⟩ := c.def_ 0 rfl; ⟨_, fd, atB_ok X G (bat c.b 0 rfl), F⟩)
  f_is_letter := (let ⟨fd, F⟩ := c.def_ 1 rfl; ⟨_, fd, atB_ok X G (bat c.b 1 rfl), F⟩)
  f_is_word := (let ⟨fd, F⟩ := c.def_ 2 rfl; ⟨_, fd, atB_ok X G (bat c.b 2 rfl), F⟩)
  f_is_plain := (let ⟨fd, F⟩ := c.def_ 3 rfl; ⟨_, fd, atB_ok X G (bat c.b 3 rfl), F⟩)
  f_fresh_word := (let ⟨fd, F⟩ := c.def_ 4 rfl; ⟨_, fd, atB_ok X G (bat c.b 4 rfl), F⟩)
  f_formed := (let ⟨fd, F⟩ := c.def_ 5 rfl; ⟨_, fd, atB_ok X G (bat c.b 5 rfl), F⟩)
  f_followed := (let ⟨fd, F⟩ := c.def_ 6 rfl; ⟨_, fd, atB_ok X G (bat c.b 6 rfl), F⟩)
  f_is_effect := (let ⟨fd, F⟩ := c.def_ 7 rfl; ⟨_, fd, atB_ok X G (bat c.b 7 rfl), F⟩)
  f_normal := (let ⟨fd, F⟩ := c.def_ 8 rfl; ⟨_, fd, atB_ok X G (bat c.b 8 rfl), F⟩)
  f_parting_state := (let ⟨fd, F⟩ := c.def_ 9 rfl; ⟨_, fd, atB_ok X G (bat c.b 9 rfl), F⟩)
  f_checked_row := (let ⟨fd, F⟩ := c.def_ 10 rfl; ⟨_, fd, atB_ok X G (bat c.b 10 rfl), F⟩)
  f_bare_word := (let ⟨fd, F⟩ := c.def_ 11 rfl; ⟨_, fd, atB_ok X G (bat c.b 11 rfl), F⟩)
  f_bare_effect := (let ⟨fd, F⟩ := c.def_ 12 rfl; ⟨_, fd, atB_ok X G (bat c.b 12 rfl), F⟩)
  f_bare_blocks := (let ⟨fd, F⟩ := c.def_ 13 rfl; ⟨_, fd, atB_ok X G (bat c.b 13 rfl), F⟩)
  f_bare_row := (let ⟨fd, F⟩ := c.def_ 14 rfl; ⟨_, fd, atB_ok X G (bat c.b 14 rfl), F⟩)
  f_last_unlike := (let ⟨fd, F⟩ := c.def_ 15 rfl; ⟨_, fd, atB_ok X G (bat c.b 15 rfl), F⟩)
  f_filled_row := (let ⟨fd, F⟩ := c.def_ 16 rfl; ⟨_, fd, atB_ok X G (bat c.b 16 rfl), F⟩)
  f_filled_effect := (let ⟨fd, F⟩ := c.def_ 17 rfl; ⟨_, fd, atB_ok X G (bat c.b 17 rfl), F⟩)
  f_idle_row := (let ⟨fd, F⟩ := c.def_ 18 rfl; ⟨_, fd, atB_ok X G (bat c.b 18 rfl), F⟩)
  f_joined_blocks := (let ⟨fd, F⟩ := c.def_ 19 rfl; ⟨_, fd, atB_ok X G (bat c.b 19 rfl), F⟩)
  f_fresh_part := (let ⟨fd, F⟩ := c.def_ 20 rfl; ⟨_, fd, atB_ok X G (bat c.b 20 rfl), F⟩)
  f_none_filled := (let ⟨fd, F⟩ := c.def_ 21 rfl; ⟨_, fd, atB_ok X G (bat c.b 21 rfl), F⟩)
  f_one_filled := (let ⟨fd, F⟩ := c.def_ 22 rfl; ⟨_, fd, atB_ok X G (bat c.b 22 rfl), F⟩)
  f_two_filled := (let ⟨fd, F⟩ := c.def_ 23 rfl; ⟨_, fd, atB_ok X G (bat c.b 23 rfl), F⟩)
  f_parting_row_of := (let ⟨fd, F⟩ := c.def_ 24 rfl; ⟨_, fd, atB_ok X G (bat c.b 24 rfl), F⟩)
  f_parting_blocks := (let ⟨fd, F⟩ := c.def_ 25 rfl; ⟨_, fd, atB_ok X G (bat c.b 25 rfl), F⟩)
  f__law_stream := (let ⟨fd, F⟩ := c.def_ 26 rfl; ⟨_, fd, atB_ok X G (bat c.b 26 rfl), F⟩)
  f__law_mixed := (let ⟨fd, F⟩ := c.def_ 27 rfl; ⟨_, fd, atB_ok X G (bat c.b 27 rfl), F⟩)
  f__law_draw := (let ⟨fd, F⟩ := c.def_ 28 rfl; ⟨_, fd, atB_ok X G (bat c.b 28 rfl), F⟩)
  f__law_pick := (let ⟨fd, F⟩ := c.def_ 29 rfl; ⟨_, fd, atB_ok X G (bat c.b 29 rfl), F⟩)
  f__law_kind := (let ⟨fd, F⟩ := c.def_ 30 rfl; ⟨_, fd, atB_ok X G (bat c.b 30 rfl), F⟩)
  f__law_letters := (let ⟨fd, F⟩ := c.def_ 31 rfl; ⟨_, fd, atB_ok X G (bat c.b 31 rfl), F⟩)
  f__law_raw := (let ⟨fd, F⟩ := c.def_ 32 rfl; ⟨_, fd, atB_ok X G (bat c.b 32 rfl), F⟩)
  f__law_plain := (let ⟨fd, F⟩ := c.def_ 33 rfl; ⟨_, fd, atB_ok X G (bat c.b 33 rfl), F⟩)
  f__law_joined := (let ⟨fd, F⟩ := c.def_ 34 rfl; ⟨_, fd, atB_ok X G (bat c.b 34 rfl), F⟩)
  f__law_normal := (let ⟨fd, F⟩ := c.def_ 35 rfl; ⟨_, fd, atB_ok X G (bat c.b 35 rfl), F⟩)
  f__law_on := (let ⟨fd, F⟩ := c.def_ 36 rfl; ⟨_, fd, atB_ok X G (bat c.b 36 rfl), F⟩)
  f__law_is_number := (let ⟨fd, F⟩ := c.def_ 37 rfl; ⟨_, fd, atB_ok X G (bat c.b 37 rfl), F⟩)
  f__law_is_word := (let ⟨fd, F⟩ := c.def_ 38 rfl; ⟨_, fd, atB_ok X G (bat c.b 38 rfl), F⟩)
  f__law_is_effect := (let ⟨fd, F⟩ := c.def_ 39 rfl; ⟨_, fd, atB_ok X G (bat c.b 39 rfl), F⟩)
  f__law_some_word := (let ⟨fd, F⟩ := c.def_ 40 rfl; ⟨_, fd, atB_ok X G (bat c.b 40 rfl), F⟩)
  f__law_late_effect := (let ⟨fd, F⟩ := c.def_ 41 rfl; ⟨_, fd, atB_ok X G (bat c.b 41 rfl), F⟩)
  f__law_bare := (let ⟨fd, F⟩ := c.def_ 42 rfl; ⟨_, fd, atB_ok X G (bat c.b 42 rfl), F⟩)
  f__law_filled := (let ⟨fd, F⟩ := c.def_ 43 rfl; ⟨_, fd, atB_ok X G (bat c.b 43 rfl), F⟩)
  f__law_block_row := (let ⟨fd, F⟩ := c.def_ 44 rfl; ⟨_, fd, atB_ok X G (bat c.b 44 rfl), F⟩)
  f__law_hidden_in := (let ⟨fd, F⟩ := c.def_ 45 rfl; ⟨_, fd, atB_ok X G (bat c.b 45 rfl), F⟩)
  f__law_second_row := (let ⟨fd, F⟩ := c.def_ 46 rfl; ⟨_, fd, atB_ok X G (bat c.b 46 rfl), F⟩)
  f__law_asked_effect := (let ⟨fd, F⟩ := c.def_ 47 rfl; ⟨_, fd, atB_ok X G (bat c.b 47 rfl), F⟩)
  f__law_parted := (let ⟨fd, F⟩ := c.def_ 48 rfl; ⟨_, fd, atB_ok X G (bat c.b 48 rfl), F⟩)
  f__law_all_alike := (let ⟨fd, F⟩ := c.def_ 49 rfl; ⟨_, fd, atB_ok X G (bat c.b 49 rfl), F⟩)
  f_law := (let ⟨fd, F⟩ := c.def_ 50 rfl; ⟨_, fd, atB_ok X G (bat c.b 50 rfl), F⟩)
  f_plain_Kind := (by obtain ⟨fd, F⟩ := c.def_ 51 rfl; have e := of_decide_eq_true (bat c.b 51 rfl); exact ⟨fd, e ▸ F⟩)
  s_plain_BagKind := supB_ok X G (c.sup 0 rfl rfl) (bat c.b 52 rfl)
  s_plain_SetKind := supB_ok X G (c.sup 1 rfl rfl) (bat c.b 53 rfl)
  s_plain_HeadsKind := supB_ok X G (c.sup 2 rfl rfl) (bat c.b 54 rfl)
  s_plain_FirstKind := supB_ok X G (c.sup 3 rfl rfl) (bat c.b 55 rfl)
  s_plain_TailsKind := supB_ok X G (c.sup 4 rfl rfl) (bat c.b 56 rfl)
  s_plain_LastKind := supB_ok X G (c.sup 5 rfl rfl) (bat c.b 57 rfl)
  s_plain_EndsKind := supB_ok X G (c.sup 6 rfl rfl) (bat c.b 58 rfl)
  me_plain := (fun d hd => by
      simp only [ks, List.mem_cons, List.not_mem_nil, or_false] at hd
      rcases hd with rfl | rfl | rfl | rfl | rfl | rfl | rfl | rfl
      · exact ⟨clsB_ok (He.ba (bat c.b 59 rfl)).1, methB_ok (He.ba (bat c.b 59 rfl)).2⟩
      · exact ⟨clsB_ok (He.ba (bat c.b 60 rfl)).1, methB_ok (He.ba (bat c.b 60 rfl)).2⟩
      · exact ⟨clsB_ok (He.ba (bat c.b 61 rfl)).1, methB_ok (He.ba (bat c.b 61 rfl)).2⟩
      · exact ⟨clsB_ok (He.ba (bat c.b 62 rfl)).1, methB_ok (He.ba (bat c.b 62 rfl)).2⟩
      · exact ⟨clsB_ok (He.ba (bat c.b 63 rfl)).1, methB_ok (He.ba (bat c.b 63 rfl)).2⟩
      · exact ⟨clsB_ok (He.ba (bat c.b 64 rfl)).1, methB_ok (He.ba (bat c.b 64 rfl)).2⟩
      · exact ⟨clsB_ok (He.ba (bat c.b 65 rfl)).1, methB_ok (He.ba (bat c.b 65 rfl)).2⟩
      · exact ⟨clsB_ok (He.ba (bat c.b 66 rfl)).1, methB_ok (He.ba (bat c.b 66 rfl)).2⟩)
  x_BadKind := exiB_ok (st := (clsStmt (top 3) 0)) X G (c.sup 7 rfl rfl) (bat c.b 67 rfl) rfl rfl rfl (fun env => ⟨_, rfl⟩) (fun _ _ _ _ _ _ _ _ _ _ _ => rfl) (by decide)
  x_BadEffect := exiB_ok (st := (clsStmt (top 4) 0)) X G (c.sup 8 rfl rfl) (bat c.b 68 rfl) rfl rfl rfl (fun env => ⟨_, rfl⟩) (fun _ _ _ _ _ _ _ _ _ _ _ => rfl) (by decide)
  n_len := offB_ok X G (bat c.b 69 rfl)
  n_all := offB_ok X G (bat c.b 70 rfl)
  n_any := offB_ok X G (bat c.b 71 rfl)
  n_tuple := offB_ok X G (bat c.b 72 rfl)
  n_list := offB_ok X G (bat c.b 73 rfl)
  n_set := offB_ok X G (bat c.b 74 rfl)
  n_sorted := offB_ok X G (bat c.b 75 rfl)
  n_int := offB_ok X G (bat c.b 76 rfl)
  n_bool := offB_ok X G (bat c.b 77 rfl)
  n_range := offB_ok X G (bat c.b 78 rfl)
  n_zip := offB_ok X G (bat c.b 79 rfl)
  n_enumerate := offB_ok X G (bat c.b 80 rfl)
  n_abs := offB_ok X G (bat c.b 81 rfl)
  n_repr := offB_ok X G (bat c.b 82 rfl)
  n_isinstance := offB_ok X G (bat c.b 83 rfl)
  con_NAME := (fun cc d hd => by
      unfold nameOf at hd
      split at hd
      · cases hd; exact conB_ok (bat c.b 84 rfl)
      · cases hd; exact conB_ok (bat c.b 85 rfl)
      · cases hd; exact conB_ok (bat c.b 86 rfl)
      · cases hd; exact conB_ok (bat c.b 87 rfl)
      · cases hd; exact conB_ok (bat c.b 88 rfl)
      · cases hd; exact conB_ok (bat c.b 89 rfl)
      · cases hd; exact conB_ok (bat c.b 90 rfl)
      · cases hd; exact conB_ok (bat c.b 91 rfl)
      · cases hd)
  exm_BadEffect := (fun x b hx => by
      unfold mt_BadEffect at hx
      split at hx
      · cases hx; exact of_decide_eq_true (bat c.b 92 rfl)
      · cases hx; exact of_decide_eq_true (bat c.b 93 rfl)
      · cases hx)
  exm_StoreError := (fun x b hx => by
      unfold mt_StoreError at hx
      split at hx
      · cases hx; exact of_decide_eq_true (bat c.b 94 rfl)
      · cases hx; exact of_decide_eq_true (bat c.b 95 rfl)
      · cases hx)
  xf_BadEffect_place := (fun x hx => by
      unfold mt_BadEffect at hx
      split at hx
      · cases hx
      · exact ⟨xfB_ok (He.ba (bat c.b 96 rfl)).1, eqO_ok (He.ba (bat c.b 96 rfl)).2⟩
      · cases hx)
  m_BadEffect := atB_ok X G (bat c.b 97 rfl)
  m_StoreError := atB_ok X G (bat c.b 98 rfl)
  m_Kind := atB_ok X G (bat c.b 99 rfl)
  mk_Kind := mkB_ok (bat c.b 100 rfl)
  m_BagKind := atB_ok X G (bat c.b 101 rfl)
  mk_BagKind := mkB_ok (bat c.b 102 rfl)
  m_SetKind := atB_ok X G (bat c.b 103 rfl)
  mk_SetKind := mkB_ok (bat c.b 104 rfl)
  m_HeadsKind := atB_ok X G (bat c.b 105 rfl)
  mk_HeadsKind := mkB_ok (bat c.b 106 rfl)
  m_FirstKind := atB_ok X G (bat c.b 107 rfl)
  mk_FirstKind := mkB_ok (bat c.b 108 rfl)
  m_TailsKind := atB_ok X G (bat c.b 109 rfl)
  mk_TailsKind := mkB_ok (bat c.b 110 rfl)
  m_LastKind := atB_ok X G (bat c.b 111 rfl)
  mk_LastKind := mkB_ok (bat c.b 112 rfl)
  m_EndsKind := atB_ok X G (bat c.b 113 rfl)
  mk_EndsKind := mkB_ok (bat c.b 114 rfl)
  g_LETTERS := gB_ok X G (bat c.b 115 rfl)
  g_IDLE := gB_ok X G (bat c.b 116 rfl)
  g_STONE := gB_ok X G (bat c.b 117 rfl)
end SoR
end

section
set_option maxRecDepth 100000
set_option maxHeartbeats 0
namespace SoR
open PySem PySem.Spec PyProof.Rows L2 DL
theorem facts {w : World} {h : Heap} {mg : Str → Option Value} {f : Addr} (G : h.Ns mainGlobals mg) (hfa : mg ("law" : Str) = some (.ref f)) (Y : hk0.says w h) (pl : ∀ ns : List Int, ns.length ≤ 63 → den_law [.scr ns] = some (.ret (.val (.bl true)))) :
    ∃ (K : PySem.W.Frag) (fd : FuncData) (sp : Sp), K.In h ∧ (∀ (s : Shared) (u : Value), BindsTo s fd ⟨[u], []⟩ [("script", u)]) ∧
      (∀ (H : Hp) (a : Addr) (ns : List Int), ns.length ≤ 63 → SqL K H a (ns.map V.int) → sp [.ref a] H (fun v _ => v = .bl true) fun _ _ _ => False) ∧
      ∀ base : Heap, K.In base → base.Ns mainGlobals mg → FnOk PP w K mg base (L2.CX PP w) 14 f fd ["script"] sp := by
  obtain ⟨K, X, c⟩ := Y
  have T := txt X G c
  obtain ⟨fd, F⟩ := c.def_ 50 rfl
  have e := hfa.symm.trans (atB_ok X G (bat c.b 118 rfl))
  cases e
  have b := FunD.bindsA (ps := ["script"]) F fun _ _ _ _ _ _ us hl => match us, hl with | [_], _ => rfl
  exact ⟨K, fd, _, X, fun s v => b s [v] rfl, fun H a ns hl hS => law_sp pl H a ns hl hS, fun base _ _ => ok_law T F⟩
end SoR
open PySem PySem.W PySem.Calls PyProof.Rows
open SoR
theorem law_of (pl : ∀ ns : List Int, ns.length ≤ 63 → den_law [.scr ns] = some (.ret (.val (.bl true)))) : RW0.Holds := by
  w_on; o_law
  refine HandSHeadRun.head_any (r := OpenLaw.row RW0) (q := view (OpenLaw.row RW0).prog [75]) (H := hk0) (ob := ob0) (M := 16000) (loose := loose0) (d := HandSHeadRun.topDef (OpenLaw.row RW0).prog 75) (kwd := []) ob0_eq
    (by kernel_rfl) (fun s => by kernel_rfl) run0 (by kernel_rfl) (by kernel_rfl) (by kernel_rfl) (by rfl) (by first | assumption | decide +kernel) (by decide +kernel) ⟨rfl, rfl, rfl, rfl, rfl, by decide +kernel⟩ ?hw ?hc
  case hw => w_witness2
  case hc =>
    refine DL.walk_ofW (l := RW0) (n := 63) (k := 14) (x := "script") (CX := fun w => L2.CX PP w) rfl (by decide) (by kernel_rfl) ⟨rfl, by decide, by decide⟩ ?F (fun w => DL.cx_no (w := w))
    intro w mg fa h Y G hmg0
    have hmg : mg ("law" : PySem.Str) = some (.ref fa) := by
      have e : (HandSHeadRun.topDef (OpenLaw.row RW0).prog 75).name = ("law" : PySem.Str) := by kernel_rfl
      rw [← e]
      exact hmg0
    exact facts G hmg Y pl
end

section
open PySem PySem.W PyProof.Rows
set_option maxRecDepth 100000 in
set_option maxHeartbeats 0 in
theorem PySem.Challenge.cw_shelfofruns_k02_bare_rows_alike_holds : PySem.Challenge.rw_shelfofruns_k02_bare_rows_alike.Holds := by
  exact law_of fun ns _ => SoR.law_holds ns
end
