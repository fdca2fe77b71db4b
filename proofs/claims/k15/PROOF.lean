import PyProof.Rows.All
import Wide.All
import OpenK.AllK
import Wide.FinOn
import PySem.PyData
import PyProof.EqLayable
import HandS.ForMost
import HandS.ForExc
import HandS.IsInst
import HandS.Wide
import HandS.EndBits
import HandS.TupAny
import HandS.TryMany
import HandS.Zip
import PyProof.LongRange
import HandS.Defaults
import HandS.Style
import PyProof.P3Eq
import HandS.Head0
import HandS.Head1
import HandS.Head2
import HandS.HeadEnd
import HandS.HeadHook1
import HandS.HeadHook2
import KE.KStateDown
import PySem.Challenge.RW_firnfall_k15_hands_laid_and_taken
set_option Elab.async false
set_option linter.all false
/-! NM0: the plain side. What a def computes, over values by trees and a memory of the objects that change. -/
namespace Fm
open PySem

abbrev Ky := Sum Int Str
/-- a value: a tree that nobody changes any more, but for refs into the memory -/
inductive Vl where
  | non
  | bl (b : Bool)
  | int (i : Int)
  | str (s : Str)
  | tup (xs : List Vl)
  | lst (xs : List Vl)
  | dct (ks : List Ky) (vs : List Vl)
  | scr (ns : List Int)
  | ref (i : Nat)
/-- an object of the memory; a dict's flag: it is being walked -/
inductive MO where
  | lst (xs : List Vl)
  | dk (l : Bool) (kvs : List (Ky × Vl))
  | dt (l : Bool) (kvs : List (List Ky × Vl))
  | ins (c : Str) (fs : List (Str × Vl))
abbrev Mem := List (Option MO)
abbrev En := List (Option Vl)
/-- what comes of an expression; ex: an error of the class c, with its row -/
inductive Rs (α : Type) where
  | no
  | ok (x : α) (μ : Mem)
  | ex (c : Str) (r : Option Int) (μ : Mem)
def Rs.bind {α β : Type} (r : Rs α) (f : α → Mem → Rs β) : Rs β := match r with
  | .no => .no
  | .ok x μ => f x μ
  | .ex c r μ => .ex c r μ
theorem Rs.bind_ok {α β : Type} {x : α} {μ : Mem} {f : α → Mem → Rs β} : (Rs.ok x μ).bind f = f x μ := rfl
theorem Rs.bind_no {α β : Type} {f : α → Mem → Rs β} : (Rs.no : Rs α).bind f = .no := rfl
theorem Rs.bind_ex {α β : Type} {c : Str} {r : Option Int} {μ : Mem} {f : α → Mem → Rs β} : (Rs.ex c r μ : Rs α).bind f = .ex c r μ := rfl
/-- an answer without a change of the memory -/
def Rs.of {α : Type} (o : Option α) (μ : Mem) : Rs α := match o with
  | some x => .ok x μ
  | none => .no
theorem Rs.of_some {α : Type} {x : α} {μ : Mem} : Rs.of (some x) μ = .ok x μ := rfl
theorem Rs.of_none {α : Type} {μ : Mem} : Rs.of (none : Option α) μ = .no := rfl
/-- where no error may leave -/
def Rs.tame {α : Type} (r : Rs α) : Rs α := match r with
  | .ex _ _ _ => .no
  | .ok x μ => .ok x μ
  | .no => .no
theorem Rs.tame_ok {α : Type} {x : α} {μ : Mem} : (Rs.ok x μ).tame = .ok x μ := rfl
abbrev ME := En → Mem → Rs Vl
abbrev MF := En → Mem → Rs MO
abbrev MA := En → Mem → Rs (List Vl)
abbrev MT := En → Mem → Rs Bool
abbrev MO' := En → Mem → Rs (Option Int)
abbrev MG := Vl → En → Option En
/-- what a statement comes to -/
inductive Out where
  | nx (Γ : En)
  | rt (x : Vl)
  | rf (i : Option Nat) (o : MO)
  | bk (Γ : En)
  | ct (Γ : En)
  | ex (c : Str) (r : Option Int) (Γ : En)
abbrev So := Option (Out × Mem)
abbrev MS := En → Mem → So
def Rs.st {α : Type} (r : Rs α) (Γ : En) (f : α → Mem → So) : So := match r with
  | .no => none
  | .ok x μ => f x μ
  | .ex c r μ => some (.ex c r Γ, μ)
theorem Rs.st_ok {α : Type} {x : α} {μ : Mem} {Γ : En} {f : α → Mem → So} : (Rs.ok x μ).st Γ f = f x μ := rfl
theorem Rs.st_no {α : Type} {Γ : En} {f : α → Mem → So} : (Rs.no : Rs α).st Γ f = none := rfl
theorem Rs.st_ex {α : Type} {c : Str} {r : Option Int} {μ : Mem} {Γ : En} {f : α → Mem → So} : (Rs.ex c r μ : Rs α).st Γ f = some (.ex c r Γ, μ) := rfl

/-! ### refs within a tree -/
mutual
def Vl.und (n : Nat) : Vl → Bool
  | .non => true
  | .bl _ => true
  | .int _ => true
  | .str _ => true
  | .tup xs => Vl.undA n xs
  | .lst xs => Vl.undA n xs
  | .dct _ vs => Vl.undA n vs
  | .scr _ => true
  | .ref i => decide (i < n)
def Vl.undA (n : Nat) : List Vl → Bool
  | [] => true
  | x :: r => Vl.und n x && Vl.undA n r
end
def MO.und (n : Nat) : MO → Bool
  | .lst xs => Vl.undA n xs
  | .dk _ kvs => Vl.undA n (kvs.map (·.2))
  | .dt _ kvs => Vl.undA n (kvs.map (·.2))
  | .ins _ fs => Vl.undA n (fs.map (·.2))
/-- the memory behind a call: what the callee made is forgotten where nothing else points there -/
def Cln (μ μ' : Mem) : Prop := ∀ i, i < μ.length → μ'[i]? = μ[i]? ∨ ∃ o, μ'[i]? = some o ∧ ∀ m, o = some m → m.und μ.length = true
open Classical in
noncomputable def gcM (b : Bool) (μ μ' : Mem) : Mem := if b = true ∧ Cln μ μ' then μ'.take μ.length else μ'
noncomputable def gcV (μ : Mem) (v : Vl) (μ' : Mem) : Rs Vl := .ok v (gcM (v.und μ.length) μ μ')
noncomputable def gcF (μ : Mem) (o : MO) (μ' : Mem) : Rs MO := .ok o (gcM (o.und μ.length) μ μ')

/-! ### expressions -/
def slotV (i : Nat) (Γ : En) : Option Vl := match Γ[i]? with
  | some (some x) => some x
  | _ => none
def eVar (i : Nat) : ME := fun Γ μ => Rs.of (slotV i Γ) μ
def eC (x : Vl) : ME := fun _ μ => .ok x μ
def eOp (g : Vl → Vl → Mem → Option Vl) (a b : ME) : ME := fun Γ μ => (a Γ μ).bind fun x μ1 => (b Γ μ1).bind fun y μ2 => Rs.of (g x y μ2) μ2
def fOp (g : Vl → Vl → Mem → Option MO) (a b : ME) : MF := fun Γ μ => (a Γ μ).bind fun x μ1 => (b Γ μ1).bind fun y μ2 => Rs.of (g x y μ2) μ2
def eUn (g : Vl → Mem → Option Vl) (a : ME) : ME := fun Γ μ => (a Γ μ).bind fun x μ1 => Rs.of (g x μ1) μ1
def getB : Vl → Option Bool
  | .bl b => some b
  | _ => none
def getI : Vl → Option Int
  | .int i => some i
  | _ => none
def getS : Vl → Option Str
  | .str s => some s
  | _ => none
def getT : Vl → Option (List Vl)
  | .tup xs => some xs
  | _ => none
/-- the items of a list, wherever it stands -/
def lstOf (μ : Mem) : Vl → Option (List Vl)
  | .lst xs => some xs
  | .ref i => match μ[i]? with
    | some (some (.lst xs)) => some xs
    | _ => none
  | _ => none
def seqOf (μ : Mem) : Vl → Option (List Vl)
  | .tup xs => some xs
  | v => lstOf μ v
def eAnd (a b : ME) : ME := fun Γ μ => (a Γ μ).bind fun x μ1 => match getB x with
  | some true => b Γ μ1
  | some false => .ok (.bl false) μ1
  | none => .no
def eOr (a b : ME) : ME := fun Γ μ => (a Γ μ).bind fun x μ1 => match getB x with
  | some true => .ok (.bl true) μ1
  | some false => b Γ μ1
  | none => .no
def eNot (a : ME) : ME := fun Γ μ => (a Γ μ).bind fun x μ1 => match getB x with
  | some c => .ok (.bl (!c)) μ1
  | none => .no
def eChain (g h : Vl → Vl → Mem → Option Vl) (a b c : ME) : ME := fun Γ μ => (a Γ μ).bind fun x μ1 => (b Γ μ1).bind fun y μ2 => match g x y μ2 with
  | some (.bl true) => (c Γ μ2).bind fun z μ3 => Rs.of (h y z μ3) μ3
  | some (.bl false) => .ok (.bl false) μ2
  | _ => .no
def eIf (t : MT) (a b : ME) : ME := fun Γ μ => (t Γ μ).bind fun c μ1 => match c with
  | true => a Γ μ1
  | false => b Γ μ1
def aNil : MA := fun _ μ => .ok [] μ
def aCons (a : ME) (r : MA) : MA := fun Γ μ => (a Γ μ).bind fun x μ1 => (r Γ μ1).bind fun xs μ2 => .ok (x :: xs) μ2
def cap : Nat := 10000000
def fits {α : Type} (xs : List α) : Option (List α) := if xs.length ≤ cap then some xs else none
def eTup (as : MA) : ME := fun Γ μ => (as Γ μ).bind fun xs μ1 => match fits xs with
  | some ys => .ok (.tup ys) μ1
  | none => .no
def fLst (as : MA) : MF := fun Γ μ => (as Γ μ).bind fun xs μ1 => match fits xs with
  | some ys => .ok (.lst ys) μ1
  | none => .no
/-- a new object, never changed any more; .. kept in the memory -/
def eFrz (f : MF) : ME := fun Γ μ => (f Γ μ).bind fun o μ1 => match o with
  | .lst xs => .ok (.lst xs) μ1
  | .dk _ kvs => .ok (.dct (kvs.map (·.1)) (kvs.map (·.2))) μ1
  | _ => .no
def eNew (f : MF) : ME := fun Γ μ => (f Γ μ).bind fun o μ1 => .ok (.ref μ1.length) (μ1 ++ [some o])
/-- a built-in: a value; a new object -/
def eB (g : List Vl → Mem → Option Vl) (as : MA) : ME := fun Γ μ => (as Γ μ).bind fun xs μ1 => Rs.of (g xs μ1) μ1
def fB (g : List Vl → Mem → Option MO) (as : MA) : MF := fun Γ μ => (as Γ μ).bind fun xs μ1 => Rs.of (g xs μ1) μ1
/-- an own def -/
def eCall (F : List Vl → Mem → Rs Vl) (as : MA) : ME := fun Γ μ => (as Γ μ).bind F
def fCall (F : List Vl → Mem → Rs MO) (as : MA) : MF := fun Γ μ => (as Γ μ).bind F
def ixN (n : Nat) (i : Int) : Option Nat := if 0 ≤ i then (if i < n then some i.toNat else none) else if -(n : Int) ≤ i then some (i + n).toNat else none
def atI {α : Type} (xs : List α) (i : Int) : Option α := (ixN xs.length i).bind fun j => xs[j]?
/-- parts of slices -/
def oNo : MO' := fun _ μ => .ok none μ
def oIs (a : ME) : MO' := fun Γ μ => (a Γ μ).bind fun x μ1 => match getI x with
  | some k => .ok (some k) μ1
  | none => .no
def sIx (n d : Nat) : Option Int → Nat
  | none => d
  | some v => if v < 0 then (v + n).toNat else min v.toNat n
def cut {α : Type} (xs : List α) (lo hi : Option Int) : List α := (xs.drop (sIx xs.length 0 lo)).take (sIx xs.length xs.length hi - sIx xs.length 0 lo)
def eSl (g : Vl → Option Int → Option Int → Mem → Option Vl) (e : ME) (lo hi : MO') : ME := fun Γ μ => (e Γ μ).bind fun x μ1 => (lo Γ μ1).bind fun l μ2 => (hi Γ μ2).bind fun h μ3 => Rs.of (g x l h μ3) μ3
def fSl (g : Vl → Option Int → Option Int → Mem → Option MO) (e : ME) (lo hi : MO') : MF := fun Γ μ => (e Γ μ).bind fun x μ1 => (lo Γ μ1).bind fun l μ2 => (hi Γ μ2).bind fun h μ3 => Rs.of (g x l h μ3) μ3
/-- a list's last item, taken off -/
def setM (μ : Mem) (i : Nat) (o : MO) : Mem := μ.set i (some o)
/-- the memory's list of a value -/
def memL (μ : Mem) : Vl → Option (Nat × List Vl)
  | .ref i => match μ[i]? with
    | some (some (.lst xs)) => some (i, xs)
    | _ => none
  | _ => none
def ePop (e : ME) : ME := fun Γ μ => (e Γ μ).bind fun x μ1 => match memL μ1 x with
  | some (i, xs) => match xs[xs.length - 1]? with
    | some y => .ok y (setM μ1 i (.lst xs.dropLast))
    | none => .no
  | none => .no
def eClr (e : ME) : ME := fun Γ μ => (e Γ μ).bind fun x μ1 => match memL μ1 x with
  | some (i, _) => .ok .non (setM μ1 i (.lst []))
  | none => .no

/-! ### tests -/
def tB (e : ME) : MT := fun Γ μ => (e Γ μ).bind fun x μ1 => Rs.of (getB x) μ1
def tYes : MT := fun _ μ => .ok true μ
def tAnd (a b : MT) : MT := fun Γ μ => (a Γ μ).bind fun c μ1 => match c with
  | true => b Γ μ1
  | false => .ok false μ1
def tOr (a b : MT) : MT := fun Γ μ => (a Γ μ).bind fun c μ1 => match c with
  | true => .ok true μ1
  | false => b Γ μ1
def tNot (a : MT) : MT := fun Γ μ => (a Γ μ).bind fun c μ1 => .ok (!c) μ1

/-! ### targets -/
def gName (i : Nat) : MG := fun x Γ => some (Γ.set i (some x))
def gsNil : List Vl → En → Option En
  | [], Γ => some Γ
  | _ :: _, _ => none
def gsCons (g : MG) (r : List Vl → En → Option En) : List Vl → En → Option En
  | [], _ => none
  | x :: xs, Γ => (g x Γ).bind fun Γ1 => r xs Γ1
def gTup (n : Nat) (gs : List Vl → En → Option En) : MG := fun x Γ => (getT x).bind fun xs => if xs.length = n then gs xs Γ else none

/-! ### what is walked -/
/-- what must stand as it is while a loop walks -/
inductive Gd where
  | free
  | same (i : Nat) (o : MO)
  | both (a b : Gd)
def Gd.ok (μ : Mem) : Gd → Prop
  | .free => True
  | .same i o => μ[i]? = some (some o)
  | .both a b => a.ok μ ∧ b.ok μ
abbrev MI := En → Mem → Rs (List Vl × Gd)
def srcOf (μ : Mem) : Vl → Option (List Vl × Gd)
  | .lst xs => some (xs, .free)
  | .tup xs => some (xs, .free)
  | .scr ns => some (ns.map .int, .free)
  | .ref i => match μ[i]? with
    | some (some (.lst xs)) => some (xs, .same i (.lst xs))
    | _ => none
  | _ => none
def iSeq (e : ME) : MI := fun Γ μ => (e Γ μ).bind fun x μ1 => Rs.of (srcOf μ1 x) μ1
def ivs (lo : Int) (n : Nat) : List Vl := (List.range n).map fun (k : Nat) => Vl.int (lo + (k : Int))
def iB (g : List Vl → Mem → Option (List Vl × Gd)) (as : MA) : MI := fun Γ μ => (as Γ μ).bind fun xs μ1 => Rs.of (g xs μ1) μ1

/-! ### comprehensions -/
open Classical in
noncomputable def compGo (g : MG) (t : MT) (e : ME) (gd : Gd) (Γ : En) : List Vl → Mem → Rs (List Vl)
  | [], μ => if gd.ok μ then .ok [] μ else .no
  | x :: r, μ => if gd.ok μ then match g x Γ with
    | some Γ1 => (t Γ1 μ).tame.bind fun c μ1 => match c with
      | true => (e Γ1 μ1).tame.bind fun y μ2 => (compGo g t e gd Γ r μ2).bind fun z μ3 => .ok (y :: z) μ3
      | false => compGo g t e gd Γ r μ1
    | none => .no
    else .no
/-- forget slots -/
def wip : List Nat → En → En
  | [], Γ => Γ
  | i :: r, Γ => wip r (Γ.set i none)
noncomputable def fComp (it : MI) (g : MG) (t : MT) (e : ME) (vs : List Nat) : MF := fun Γ μ => (it Γ μ).bind fun p μ1 => if p.1.length ≤ cap then (compGo g t e p.2 (wip vs Γ) p.1 μ1).bind fun z μ2 => .ok (.lst z) μ2 else .no

/-! ### statements -/
def sNext : MS := fun Γ μ => some (.nx Γ, μ)
def sSeq (a b : MS) : MS := fun Γ μ => match a Γ μ with
  | some (.nx Γ1, μ1) => b Γ1 μ1
  | r => r
def sAsg (e : ME) (g : MG) : MS := fun Γ μ => (e Γ μ).st Γ fun x μ1 => match g x Γ with
  | some Γ1 => some (.nx Γ1, μ1)
  | none => none
def sDrop (e : ME) : MS := fun Γ μ => (e Γ μ).st Γ fun _ μ1 => some (.nx Γ, μ1)
def sRet (e : ME) : MS := fun Γ μ => (e Γ μ).st Γ fun x μ1 => some (.rt x, μ1)
def sRetN : MS := fun _ μ => some (.rt .non, μ)
def sRetF (f : MF) : MS := fun Γ μ => (f Γ μ).st Γ fun o μ1 => some (.rf none o, μ1)
/-- return x, where x is a new thing of the memory -/
def sRetO (e : ME) : MS := fun Γ μ => (e Γ μ).st Γ fun x μ1 => match x with
  | .ref i => match μ1[i]? with
    | some (some o) => some (.rf (some i) o, μ1.set i none)
    | _ => none
  | _ => none
def sIf (t : MT) (a b : MS) : MS := fun Γ μ => (t Γ μ).st Γ fun c μ1 => match c with
  | true => a Γ μ1
  | false => b Γ μ1
def sBrk : MS := fun Γ μ => some (.bk Γ, μ)
def sCnt : MS := fun Γ μ => some (.ct Γ, μ)
def sNever : MS := fun _ _ => none
def setIx (xs : List Vl) (i : Int) (v : Vl) : Option (List Vl) := (ixN xs.length i).bind fun j => some (xs.set j v)
/-- o[b] = e of a list -/
def sSetIx (o b e : ME) : MS := fun Γ μ => (e Γ μ).st Γ fun v μ1 => (o Γ μ1).st Γ fun x μ2 => (b Γ μ2).st Γ fun k μ3 => match memL μ3 x, getI k with
  | some (i, xs), some k => match setIx xs k v with
    | some ys => some (.nx Γ, setM μ3 i (.lst ys))
    | none => none
  | _, _ => none
def sApp (o e : ME) : MS := fun Γ μ => (o Γ μ).st Γ fun x μ1 => match memL μ1 x with
  | none => none
  | some _ => (e Γ μ1).st Γ fun v μ2 => match memL μ2 x with
    | some (i, xs) => if xs.length < cap then some (.nx Γ, setM μ2 i (.lst (xs ++ [v]))) else none
    | none => none
open Classical in
noncomputable def forGo (g : MG) (b : MS) (gd : Gd) (ws : List Nat) : List Vl → En → Mem → So
  | [], Γ, μ => if gd.ok μ then some (.nx Γ, μ) else none
  | x :: r, Γ, μ => if gd.ok μ then match g x Γ with
    | none => none
    | some Γ1 => match b Γ1 μ with
      | none => none
      | some (.nx Γ2, μ1) => forGo g b gd ws r (wip ws Γ2) μ1
      | some (.ct Γ2, μ1) => forGo g b gd ws r (wip ws Γ2) μ1
      | some (.bk Γ2, μ1) => some (.nx (wip ws Γ2), μ1)
      | some (.rt y, μ1) => some (.rt y, μ1)
      | some (.rf i y, μ1) => some (.rf i y, μ1)
      | some (.ex c q Γ2, μ1) => some (.ex c q Γ2, μ1)
    else none
noncomputable def sFor (it : MI) (g : MG) (b : MS) (ws : List Nat) : MS := fun Γ μ => (it Γ μ).st Γ fun p μ1 => forGo g b p.2 ws p.1 (wip ws Γ) μ1
def whileGo (t : MT) (b : MS) (ws : List Nat) : Nat → En → Mem → So
  | 0, _, _ => none
  | n + 1, Γ, μ => (t Γ μ).st Γ fun c μ1 => match c with
    | false => some (.nx Γ, μ1)
    | true => match b Γ μ1 with
      | none => none
      | some (.nx Γ2, μ2) => whileGo t b ws n (wip ws Γ2) μ2
      | some (.ct Γ2, μ2) => whileGo t b ws n (wip ws Γ2) μ2
      | some (.bk Γ2, μ2) => some (.nx (wip ws Γ2), μ2)
      | some (.rt y, μ2) => some (.rt y, μ2)
      | some (.rf i y, μ2) => some (.rf i y, μ2)
      | some (.ex c q Γ2, μ2) => some (.ex c q Γ2, μ2)
def sWhile (t : MT) (b : MS) (ws : List Nat) (n : Nat) : MS := fun Γ μ => whileGo t b ws n (wip ws Γ) μ

/-! ### a thing of the memory, from now on never changed -/
def mapO {α β : Type} (f : α → Option β) : List α → Option (List β)
  | [] => some []
  | x :: r => (f x).bind fun y => (mapO f r).bind fun ys => some (y :: ys)
def frzV : Nat → Mem → Vl → Option Vl
  | 0, _, v => if v.und 0 = true then some v else none
  | n + 1, μ, v => if v.und 0 = true then some v else match v with
    | .ref i => match μ[i]? with
      | some (some (.lst xs)) => (mapO (frzV n μ) xs).bind fun ys => some (.lst ys)
      | some (some (.dk false kvs)) => (mapO (frzV n μ) (kvs.map (·.2))).bind fun ys => some (.dct (kvs.map (·.1)) ys)
      | _ => none
    | .tup xs => (mapO (frzV n μ) xs).bind fun ys => some (.tup ys)
    | .lst xs => (mapO (frzV n μ) xs).bind fun ys => some (.lst ys)
    | _ => none
def flatL {α β : Type} (f : α → List β) : List α → List β
  | [] => []
  | x :: r => f x ++ flatL f r
def rchV : Nat → Mem → Vl → List Nat
  | 0, _, _ => []
  | n + 1, μ, v => match v with
    | .ref i => i :: (match μ[i]? with
      | some (some (.lst xs)) => flatL (rchV n μ) xs
      | some (some (.dk false kvs)) => flatL (rchV n μ) (kvs.map (·.2))
      | _ => [])
    | .tup xs => flatL (rchV n μ) xs
    | .lst xs => flatL (rchV n μ) xs
    | _ => []
def kill (S : List Nat) (μ : Mem) : Mem := μ.mapIdx fun i o => if i ∈ S then none else o
def depthF : Nat := 6
/-- e's value, frozen through and through -/
def eDeep (e : ME) : ME := fun Γ μ => (e Γ μ).bind fun x μ1 => match frzV depthF μ1 x with
  | some d => .ok d (kill (rchV depthF μ1 x) μ1)
  | none => .no
/-- ahead of a block: slot i is frozen -/
def sFrz (i : Nat) (b : MS) : MS := fun Γ μ => match slotV i Γ with
  | some x => match frzV depthF μ x with
    | some d => b (Γ.set i (some d)) (kill (rchV depthF μ x) μ)
    | none => none
  | none => none

/-! ### defs -/
def args (n : Nat) (xs : List Vl) : En := xs.map some ++ List.replicate (n - xs.length) none
noncomputable def outV (μ : Mem) : So → Rs Vl
  | some (.rt x, μ') => gcV μ x μ'
  | some (.nx _, μ') => gcV μ .non μ'
  | some (.ex c r _, μ') => .ex c r (gcM true μ μ')
  | _ => .no
open Classical in
noncomputable def outF (μ : Mem) : So → Rs MO
  | some (.rf none o, μ') => gcF μ o μ'
  | some (.rf (some i) o, μ') => if μ.length ≤ i ∧ o.und μ.length = true ∧ Cln μ μ' then .ok o (μ'.take μ.length) else .no
  | some (.ex c r _, μ') => .ex c r (gcM true μ μ')
  | _ => .no
/-- k: how many parameters, n: how many slots -/
noncomputable def fnV (k n : Nat) (b : MS) : List Vl → Mem → Rs Vl := fun xs μ => if xs.length = k then outV μ (b (args n xs) μ) else .no
noncomputable def fnF (k n : Nat) (b : MS) : List Vl → Mem → Rs MO := fun xs μ => if xs.length = k then outF μ (b (args n xs) μ) else .no
end Fm

set_option linter.all false
/-! NM1: operators and built-ins by plain values. -/
namespace Fm
open PySem
def small (a : Int) : Prop := -(2 ^ 64) < a ∧ a < 2 ^ 64
instance (a : Int) : Decidable (small a) := by unfold small; infer_instance
def gAdd : Vl → Vl → Mem → Option Vl
  | .int a, .int b, _ => some (.int (a + b))
  | .tup a, .tup b, _ => if a.length + b.length ≤ cap then some (.tup (a ++ b)) else none
  | .str a, .str b, _ => if a.length + b.length ≤ cap then some (.str (a ++ b)) else none
  | x, y, μ => match lstOf μ x, lstOf μ y with
    | some a, some b => if a.length + b.length ≤ cap then some (.lst (a ++ b)) else none
    | _, _ => none
def gCat : Vl → Vl → Mem → Option MO := fun x y μ => match lstOf μ x, lstOf μ y with
  | some a, some b => if a.length + b.length ≤ cap then some (.lst (a ++ b)) else none
  | _, _ => none
def gI (f : Int → Int → Option Vl) : Vl → Vl → Mem → Option Vl
  | .int a, .int b, _ => f a b
  | _, _, _ => none
def gSub : Vl → Vl → Mem → Option Vl := gI fun a b => some (.int (a - b))
def gMul : Vl → Vl → Mem → Option Vl := gI fun a b => if small a ∨ small b then some (.int (a * b)) else none
/-- divisors below 10 ^ 100 -/
def gDiv : Vl → Vl → Mem → Option Vl := gI fun a b => if 0 < b ∧ b < 10 ^ 100 then some (.int (a / b)) else none
def gMod : Vl → Vl → Mem → Option Vl := gI fun a b => if 0 < b then some (.int (a % b)) else none
def gPow : Vl → Vl → Mem → Option Vl := gI fun a b => if 0 ≤ b ∧ b ≤ 1000 ∧ small a then some (.int (a ^ b.toNat)) else none
def gLt : Vl → Vl → Mem → Option Vl := gI fun a b => some (.bl (decide (a < b)))
def gLe : Vl → Vl → Mem → Option Vl := gI fun a b => some (.bl (decide (a ≤ b)))
def gGt : Vl → Vl → Mem → Option Vl := gI fun a b => some (.bl (decide (b < a)))
def gGe : Vl → Vl → Mem → Option Vl := gI fun a b => some (.bl (decide (b ≤ a)))
/-- the value as plain data, read through the memory -/
def pyV : Nat → Mem → Vl → Option PyData
  | 0, _, _ => none
  | n + 1, μ, v => match v with
    | .non => some .none
    | .bl b => some (.bool b)
    | .int i => some (.int i)
    | .str s => some (.str s)
    | .tup xs => (mapO (pyV n μ) xs).bind fun ys => some (.tuple ys)
    | .lst xs => (mapO (pyV n μ) xs).bind fun ys => some (.list ys)
    | .ref i => match μ[i]? with
      | some (some (.lst xs)) => (mapO (pyV n μ) xs).bind fun ys => some (.list ys)
      | _ => none
    | _ => none
def depthP : Nat := 9
def gEqB (f : Bool → Bool) : Vl → Vl → Mem → Option Vl := fun a b μ => match pyV depthP μ a, pyV depthP μ b with
  | some x, some y => if SeqAt.shaped x = true ∧ SeqAt.shaped y = true then some (.bl (f (PyData.eqv x y))) else none
  | _, _ => none
def gEq : Vl → Vl → Mem → Option Vl := gEqB id
def gNe : Vl → Vl → Mem → Option Vl := gEqB not
def isNon : Vl → Bool
  | .non => true
  | _ => false
def gIsN : Vl → Vl → Mem → Option Vl
  | a, .non, _ => some (.bl (isNon a))
  | _, _, _ => none
def gIsnN : Vl → Vl → Mem → Option Vl
  | a, .non, _ => some (.bl (!isNon a))
  | _, _, _ => none
/-- flat values as data -/
def flatP : Vl → Option PyData
  | .non => some .none
  | .bl b => some (.bool b)
  | .int i => some (.int i)
  | .str s => some (.str s)
  | _ => none
def gIn (neg : Bool) : Vl → Vl → Mem → Option Vl := fun x y μ => match seqOf μ y with
  | some ys => match flatP x, mapO flatP ys with
    | some a, some zs => some (.bl (if neg then !zs.any (fun z => PyData.eqv z a) else zs.any (fun z => PyData.eqv z a)))
    | _, _ => none
  | none => none
def gIx : Vl → Vl → Mem → Option Vl := fun x i μ => (seqOf μ x).bind fun xs => (getI i).bind fun k => atI xs k
def bLen : List Vl → Mem → Option Vl
  | [.str x], _ => if x.length ≤ cap then some (.int x.length) else none
  | [.scr ns], _ => some (.int ns.length)
  | [v], μ => (seqOf μ v).bind fun xs => some (.int xs.length)
  | _, _ => none
def bools : List Vl → Option (List Bool) := mapO getB
def intsOf : List Vl → Option (List Int) := mapO getI
def bAll : List Vl → Mem → Option Vl
  | [v], μ => (lstOf μ v).bind fun xs => (bools xs).bind fun bs => some (.bl (bs.all id))
  | _, _ => none
def bSum : List Vl → Mem → Option Vl
  | [v], μ => (lstOf μ v).bind fun xs => (intsOf xs).bind fun ns => some (.int ns.sum)
  | _, _ => none
def bMax2 : List Vl → Mem → Option Vl
  | [.int a, .int b], _ => some (.int (if b > a then b else a))
  | _, _ => none
def bMin2 : List Vl → Mem → Option Vl
  | [.int a, .int b], _ => some (.int (if b < a then b else a))
  | _, _ => none
/-- list(x), a new list -/
def bList : List Vl → Mem → Option MO
  | [.scr ns], _ => some (.lst (ns.map .int))
  | [v], μ => (seqOf μ v).bind fun xs => some (.lst xs)
  | _, _ => none
def bTuple : List Vl → Mem → Option Vl
  | [v], μ => (seqOf μ v).bind fun xs => some (.tup xs)
  | _, _ => none
/-- isinstance(x, T) -/
inductive Ty where
  | bool | int | str | list | tuple
def isiB (μ : Mem) : Ty → Vl → Option Bool
  | .bool, .bl _ => some true
  | .int, .bl _ => some true
  | .int, .int _ => some true
  | .str, .str _ => some true
  | .list, .lst _ => some true
  | .tuple, .tup _ => some true
  | _, .dct _ _ => none
  | _, .scr _ => none
  | T, .ref i => match μ[i]? with
    | some (some (.lst _)) => some (match T with | .list => true | _ => false)
    | some (some (.ins _ _)) => none
    | _ => none
  | _, _ => some false
def eIsi (T : Ty) (a : ME) : ME := fun Γ μ => (a Γ μ).bind fun x μ1 => Rs.of ((isiB μ1 T x).map .bl) μ1
/-- slices: a tuple's; a list's is new -/
def slT : Vl → Option Int → Option Int → Mem → Option Vl
  | .tup xs, lo, hi, _ => some (.tup (cut xs lo hi))
  | _, _, _, _ => none
def slL : Vl → Option Int → Option Int → Mem → Option MO := fun v lo hi μ => (lstOf μ v).bind fun xs => some (.lst (cut xs lo hi))
def rng1 : List Vl → Mem → Option (List Vl × Gd)
  | [.int j], _ => if j < 10 ^ 15 then some (ivs 0 j.toNat, .free) else none
  | _, _ => none
def rng2 : List Vl → Mem → Option (List Vl × Gd)
  | [.int i, .int j], _ => if j - i < 10 ^ 15 then some (ivs i (j - i).toNat, .free) else none
  | _, _ => none
def guardOf (v : Vl) (μ : Mem) : Gd := match v with
  | .ref i => match μ[i]? with
    | some (some o) => .same i o
    | _ => .free
  | _ => .free
/-- zip of two lists or two tuples; enumerate of a list -/
def bZip : List Vl → Mem → Option (List Vl × Gd)
  | [.tup xs, .tup ys], _ => some ((xs.zip ys).map fun p => .tup [p.1, p.2], .free)
  | [x, y], μ => match lstOf μ x, lstOf μ y with
    | some xs, some ys => some ((xs.zip ys).map fun p => .tup [p.1, p.2], .both (guardOf x μ) (guardOf y μ))
    | _, _ => none
  | _, _ => none
def enumFrom (n : Nat) : List Vl → List Vl
  | [] => []
  | x :: r => .tup [.int n, x] :: enumFrom (n + 1) r
def bEnum : List Vl → Mem → Option (List Vl × Gd)
  | [x], μ => match lstOf μ x with
    | some xs => some (enumFrom 0 xs, guardOf x μ)
    | none => none
  | _, _ => none
end Fm

set_option linter.all false
/-! NM2: more operators by plain values. -/
namespace Fm
open PySem
def gNeg : Vl → Mem → Option Vl
  | .int a, _ => some (.int (-a))
  | _, _ => none
def fUn (g : Vl → Mem → Option MO) (a : ME) : MF := fun Γ μ => (a Γ μ).bind fun x μ1 => Rs.of (g x μ1) μ1
/-- xs[::-1] of a list -/
def gRev : Vl → Mem → Option MO := fun v μ => (lstOf μ v).bind fun xs => some (.lst xs.reverse)
end Fm

set_option Elab.async false
set_option linter.all false
set_option maxRecDepth 100000
set_option maxHeartbeats 4000000
/-! NL0: the abstract heap, plain values and the memory. -/
namespace L3
open PySem L2
open Fm (Vl MO Mem En Rs ME MF MA MT MG MS MI Out So Gd Ky)
abbrev Im := Nat → Option Addr
mutual
/-- v is x: G is the part of the heap that nobody changes any more, ι tells where the memory's objects stand -/
inductive Rv (K : PySem.W.Frag) (G : Hp) (ι : Im) : V → Vl → Prop
  | non : Rv K G ι .non .non
  | bl (b : Bool) : Rv K G ι (.bl b) (.bl b)
  | int (i : Int) : Rv K G ι (.int i) (.int i)
  | str (x : Str) : Rv K G ι (.str x) (.str x)
  | lst {a : Addr} {xs : List V} {ds : List Vl} : G a = some (.lst xs) → RvA K G ι xs ds → Rv K G ι (.ref a) (.lst ds)
  | tup {a : Addr} {xs : List V} {ds : List Vl} : G a = some (.tup xs) → RvA K G ι xs ds → Rv K G ι (.ref a) (.tup ds)
  | dct {a : Addr} {ks : List Ky} {xs : List V} {ds : List Vl} : G a = some (.dK (ks.zip xs)) → ks.length = xs.length → RvA K G ι xs ds → Rv K G ι (.ref a) (.dct ks ds)
  | scr {a : Addr} {ns : List Int} : SqL K G a (ns.map V.int) → Rv K G ι (.ref a) (.scr ns)
  | ref {i : Nat} {a : Addr} : ι i = some a → Rv K G ι (.ref a) (.ref i)
inductive RvA (K : PySem.W.Frag) (G : Hp) (ι : Im) : List V → List Vl → Prop
  | nil : RvA K G ι [] []
  | cons {v : V} {vs : List V} {d : Vl} {ds : List Vl} : Rv K G ι v d → RvA K G ι vs ds → RvA K G ι (v :: vs) (d :: ds)
end
/-- what is frozen is there; a dict may be locked for a while -/
def Sm (G H : Hp) : Prop := ∀ a o, G a = some o → H a = some o ∨ ∃ kvs od, o = .dK kvs ∧ H a = some (.frz od o)
structure Xt (G : Hp) (ι : Im) (G' : Hp) (ι' : Im) : Prop where
  g : Same G G'
  i : ∀ j a, ι j = some a → ι' j = some a
theorem Xt.refl {G : Hp} {ι : Im} : Xt G ι G ι := ⟨Same.refl _, fun _ _ h => h⟩
/-- from one state to a later one: what is neither frozen nor of the memory stays so, as it is -/
structure Ext (G : Hp) (ι : Im) (H : Hp) (G' : Hp) (ι' : Im) (H' : Hp) : Prop extends Xt G ι G' ι' where
  f : ∀ a o, H a = some o → G a = none → (∀ i, ι i ≠ some a) → H' a = some o ∧ G' a = none ∧ ∀ i, ι' i ≠ some a
  t : ∀ a o, H a = some o → ∃ o', H' a = some o'
theorem Ext.refl {G H : Hp} {ι : Im} : Ext G ι H G ι H := ⟨Xt.refl, fun _ _ h g n => ⟨h, g, n⟩, fun _ o h => ⟨o, h⟩⟩
theorem Ext.trans {G G1 G2 H H1 H2 : Hp} {ι ι1 ι2 : Im} (a : Ext G ι H G1 ι1 H1) (b : Ext G1 ι1 H1 G2 ι2 H2) : Ext G ι H G2 ι2 H2 :=
  ⟨⟨a.g.trans b.g, fun j x h => b.i j x (a.i j x h)⟩, fun x o h g n => by
    obtain ⟨h1, g1, n1⟩ := a.f x o h g n
    exact b.f x o h1 g1 n1, fun x o h => by
    obtain ⟨o1, h1⟩ := a.t x o h
    exact b.t x o1 h1⟩
theorem Ext.back {G G1 H H1 : Hp} {ι ι1 : Im} (a : Ext G ι H G1 ι1 H1) {p : Addr} (h : H1 p = none) : H p = none := by
  cases e : H p with
  | none => rfl
  | some o =>
    obtain ⟨o', q⟩ := a.t p o e
    rw [h] at q
    cases q
section
variable {K : PySem.W.Frag} {G G' H : Hp} {ι ι' : Im}
theorem Sm.free (s : Sm G H) {p : Addr} (h : H p = none) : G p = none := by
  cases e : G p with
  | none => rfl
  | some o =>
    rcases s p o e with q | ⟨_, _, _, q⟩ <;> (rw [h] at q; cases q)
theorem same_sql {a : Addr} {xs : List V} (e : Same G G') (h : SqL K G a xs) : SqL K G' a xs := by
  rcases h with (h | ⟨o, h⟩) | h
  · exact .inl (.inl (e _ _ h))
  · exact .inl (.inr ⟨o, e _ _ h⟩)
  · exact .inr h
theorem Sm.sql (s : Sm G H) {a : Addr} {xs : List V} (h : SqL K G a xs) : SqL K H a xs := by
  rcases h with (h | ⟨o, h⟩) | h
  · rcases s _ _ h with q | ⟨_, _, z, _⟩
    · exact .inl (.inl q)
    · cases z
  · rcases s _ _ h with q | ⟨_, _, z, _⟩
    · exact .inl (.inr ⟨o, q⟩)
    · cases z
  · exact .inr h
theorem Sm.lst (s : Sm G H) {a : Addr} {xs : List V} (h : G a = some (.lst xs)) : H a = some (.lst xs) := by
  rcases s _ _ h with q | ⟨_, _, z, _⟩
  · exact q
  · cases z
theorem Sm.tup (s : Sm G H) {a : Addr} {xs : List V} (h : G a = some (.tup xs)) : H a = some (.tup xs) := by
  rcases s _ _ h with q | ⟨_, _, z, _⟩
  · exact q
  · cases z
theorem Sm.dk (s : Sm G H) {a : Addr} {kvs : List (Key × V)} (h : G a = some (.dK kvs)) : Rd H a (.dK kvs) := by
  rcases s _ _ h with q | ⟨_, od, _, q⟩
  · exact .inl q
  · exact .inr ⟨od, q⟩
mutual
theorem Rv.up {v : V} {d : Vl} (e : Xt G ι G' ι') (h : Rv K G ι v d) : Rv K G' ι' v d := by
  cases h with
  | non => exact .non
  | bl b => exact .bl b
  | int i => exact .int i
  | str x => exact .str x
  | lst h a => exact .lst (e.g _ _ h) (RvA.up e a)
  | scr h => exact .scr (same_sql e.g h)
  | tup h a => exact .tup (e.g _ _ h) (RvA.up e a)
  | dct h l a => exact .dct (e.g _ _ h) l (RvA.up e a)
  | ref h => exact .ref (e.i _ _ h)
theorem RvA.up {v : List V} {d : List Vl} (e : Xt G ι G' ι') (h : RvA K G ι v d) : RvA K G' ι' v d := by
  cases h with
  | nil => exact .nil
  | cons x a => exact .cons (Rv.up e x) (RvA.up e a)
end
mutual
/-- a value whose refs are all below n, when the others are forgotten -/
theorem Rv.und {n : Nat} {v : V} {d : Vl} (u : d.und n = true) (e : ∀ j a, j < n → ι j = some a → ι' j = some a) (h : Rv K G ι v d) : Rv K G ι' v d := by
  cases h with
  | non => exact .non
  | bl b => exact .bl b
  | int i => exact .int i
  | str x => exact .str x
  | lst h a => exact .lst h (RvA.und u e a)
  | scr h => exact .scr h
  | tup h a => exact .tup h (RvA.und u e a)
  | dct h l a => exact .dct h l (RvA.und u e a)
  | ref h => exact .ref (e _ _ (of_decide_eq_true u) h)
theorem RvA.und {n : Nat} {v : List V} {d : List Vl} (u : Vl.undA n d = true) (e : ∀ j a, j < n → ι j = some a → ι' j = some a) (h : RvA K G ι v d) : RvA K G ι' v d := by
  cases h with
  | nil => exact .nil
  | cons x a =>
    unfold Vl.undA at u
    rw [Bool.and_eq_true] at u
    exact .cons (Rv.und u.1 e x) (RvA.und u.2 e a)
end
theorem RvA.len : ∀ {v : List V} {d : List Vl}, RvA K G ι v d → v.length = d.length
  | _, _, .nil => rfl
  | _, _, .cons _ a => by simp [RvA.len a]
theorem RvA.get : ∀ {vs : List V} {ds : List Vl} {i : Nat} {d : Vl}, RvA K G ι vs ds → ds[i]? = some d → ∃ v, vs[i]? = some v ∧ Rv K G ι v d
  | _, _, _, _, .nil, e => by simp at e
  | _, _, 0, _, .cons x _, e => by
    have e' := Option.some.inj e
    subst e'
    exact ⟨_, rfl, x⟩
  | _, _, i + 1, _, .cons _ a, e => by
    obtain ⟨v, h1, h2⟩ := RvA.get (i := i) a (by simpa using e)
    exact ⟨v, by simpa using h1, h2⟩
theorem RvA.get' : ∀ {vs : List V} {ds : List Vl} {i : Nat} {v : V}, RvA K G ι vs ds → vs[i]? = some v → ∃ d, ds[i]? = some d ∧ Rv K G ι v d
  | _, _, _, _, .nil, e => by simp at e
  | _, _, 0, _, .cons x _, e => by
    have e' := Option.some.inj e
    subst e'
    exact ⟨_, rfl, x⟩
  | _, _, i + 1, _, .cons _ a, e => by
    obtain ⟨v, h1, h2⟩ := RvA.get' (i := i) a (by simpa using e)
    exact ⟨v, by simpa using h1, h2⟩
theorem RvA.append : ∀ {vs ws : List V} {ds es : List Vl}, RvA K G ι vs ds → RvA K G ι ws es → RvA K G ι (vs ++ ws) (ds ++ es)
  | _, _, _, _, .nil, b => b
  | _, _, _, _, .cons x a, b => .cons x (RvA.append a b)
theorem RvA.one {v : V} {d : Vl} (h : Rv K G ι v d) : RvA K G ι [v] [d] := .cons h .nil
theorem RvA.set {v : V} {d : Vl} (x : Rv K G ι v d) : ∀ {vs : List V} {ds : List Vl} (i : Nat), RvA K G ι vs ds → RvA K G ι (vs.set i v) (ds.set i d)
  | _, _, _, .nil => .nil
  | _, _, 0, .cons _ a => .cons x a
  | _, _, i + 1, .cons y a => .cons y (RvA.set x i a)
theorem RvA.take : ∀ {vs : List V} {ds : List Vl} (n : Nat), RvA K G ι vs ds → RvA K G ι (vs.take n) (ds.take n)
  | _, _, 0, _ => .nil
  | _, _, _ + 1, .nil => .nil
  | _, _, n + 1, .cons x a => .cons x (RvA.take n a)
theorem RvA.drop : ∀ {vs : List V} {ds : List Vl} (n : Nat), RvA K G ι vs ds → RvA K G ι (vs.drop n) (ds.drop n)
  | _, _, 0, h => h
  | _, _, _ + 1, .nil => .nil
  | _, _, n + 1, .cons _ a => RvA.drop n a
theorem RvA.dropLast {vs : List V} {ds : List Vl} (h : RvA K G ι vs ds) : RvA K G ι vs.dropLast ds.dropLast := by
  rw [List.dropLast_eq_take, List.dropLast_eq_take, h.len]
  exact h.take _
theorem RvA.reverse : ∀ {vs : List V} {ds : List Vl}, RvA K G ι vs ds → RvA K G ι vs.reverse ds.reverse
  | _, _, .nil => .nil
  | _, _, .cons x a => by
    rw [List.reverse_cons, List.reverse_cons]
    exact (RvA.reverse a).append (.one x)
theorem int_of {v : V} {i : Int} (h : Rv K G ι v (.int i)) : v = .int i := by cases h; rfl
theorem bl_of {v : V} {b : Bool} (h : Rv K G ι v (.bl b)) : v = .bl b := by cases h; rfl
theorem str_of {v : V} {b : Str} (h : Rv K G ι v (.str b)) : v = .str b := by cases h; rfl
theorem non_of {v : V} (h : Rv K G ι v .non) : v = .non := by cases h; rfl
theorem lst_of {v : V} {ds : List Vl} (h : Rv K G ι v (.lst ds)) : ∃ a xs, v = .ref a ∧ G a = some (.lst xs) ∧ RvA K G ι xs ds := by
  cases h with
  | lst h a => exact ⟨_, _, rfl, h, a⟩
theorem scr_of {v : V} {ns : List Int} (h : Rv K G ι v (.scr ns)) : ∃ a, v = .ref a ∧ SqL K G a (ns.map V.int) := by
  cases h with
  | scr h => exact ⟨_, rfl, h⟩
theorem tup_of {v : V} {ds : List Vl} (h : Rv K G ι v (.tup ds)) : ∃ a xs, v = .ref a ∧ G a = some (.tup xs) ∧ RvA K G ι xs ds := by
  cases h with
  | tup h a => exact ⟨_, _, rfl, h, a⟩
theorem ref_of {v : V} {i : Nat} (h : Rv K G ι v (.ref i)) : ∃ a, v = .ref a ∧ ι i = some a := by
  cases h with
  | ref h => exact ⟨_, rfl, h⟩
theorem dct_of {v : V} {ks : List Ky} {ds : List Vl} (h : Rv K G ι v (.dct ks ds)) : ∃ a xs, v = .ref a ∧ G a = some (.dK (ks.zip xs)) ∧ ks.length = xs.length ∧ RvA K G ι xs ds := by
  cases h with
  | dct h l a => exact ⟨_, _, rfl, h, l, a⟩
end

/-- the object of the memory, as it stands at a -/
def Ro (K : PySem.W.Frag) (mg : Str → Option Value) (G : Hp) (ι : Im) (H : Hp) (a : Addr) : MO → Prop
  | .lst xs => ∃ vs, H a = some (.lst vs) ∧ RvA K G ι vs xs
  | .dk l kvs => ∃ vs, (if l = true then ∃ od, H a = some (.frz od (.dK ((kvs.map (·.1)).zip vs))) else H a = some (.dK ((kvs.map (·.1)).zip vs))) ∧ RvA K G ι vs (kvs.map (·.2))
  | .dt l kvs => ∃ vs, (if l = true then ∃ od, H a = some (.frz od (.dT ((kvs.map (·.1)).zip vs))) else H a = some (.dT ((kvs.map (·.1)).zip vs))) ∧ RvA K G ι vs (kvs.map (·.2))
  | .ins c fs => ∃ C dx vs, H a = some (.ins C dx ((fs.map (·.1)).zip vs)) ∧ H dx = some (.own a) ∧ mg c = some (.ref C) ∧ RvA K G ι vs (fs.map (·.2))
structure Ms (K : PySem.W.Frag) (mg : Str → Option Value) (G : Hp) (ι : Im) (H : Hp) (μ : Mem) : Prop where
  s : Sm G H
  at_ : ∀ (i : Nat) o, μ[i]? = some (some o) → ∃ a, ι i = some a ∧ G a = none ∧ Ro K mg G ι H a o
  dom : ∀ i a, ι i = some a → i < μ.length ∧ ∃ o, H a = some o
  inj : ∀ i j a, ι i = some a → ι j = some a → i = j
section
variable {K : PySem.W.Frag} {mg : Str → Option Value} {G G' H H' : Hp} {ι ι' : Im} {μ μ' : Mem}
theorem Ro.up {a : Addr} {o : MO} (e : Xt G ι G' ι') (h1 : H' a = H a) (h2 : ∀ dx, H dx = some (.own a) → H' dx = some (.own a)) (h : Ro K mg G ι H a o) : Ro K mg G' ι' H' a o := by
  cases o with
  | lst xs =>
    obtain ⟨vs, q, r⟩ := h
    exact ⟨vs, h1.trans q, r.up e⟩
  | dk l kvs =>
    obtain ⟨vs, q, r⟩ := h
    refine ⟨vs, ?_, r.up e⟩
    rw [h1]
    exact q
  | dt l kvs =>
    obtain ⟨vs, q, r⟩ := h
    refine ⟨vs, ?_, r.up e⟩
    rw [h1]
    exact q
  | ins c fs =>
    obtain ⟨C, dx, vs, q, q2, q3, r⟩ := h
    exact ⟨C, dx, vs, h1.trans q, h2 dx q2, q3, r.up e⟩
theorem Ro.hs {a : Addr} {o : MO} (h : Ro K mg G ι H a o) : ∃ u, H a = some u ∧ ∀ x, u ≠ .own x := by
  cases o with
  | lst xs =>
    obtain ⟨vs, q, r⟩ := h
    exact ⟨_, q, fun x z => by cases z⟩
  | dk l kvs =>
    obtain ⟨vs, q, r⟩ := h
    cases l with
    | true =>
      obtain ⟨od, q⟩ := (show ∃ od, H a = _ from q)
      exact ⟨_, q, fun x z => by cases z⟩
    | false => exact ⟨_, q, fun x z => by cases z⟩
  | dt l kvs =>
    obtain ⟨vs, q, r⟩ := h
    cases l with
    | true =>
      obtain ⟨od, q⟩ := (show ∃ od, H a = _ from q)
      exact ⟨_, q, fun x z => by cases z⟩
    | false => exact ⟨_, q, fun x z => by cases z⟩
  | ins c fs =>
    obtain ⟨C, dx, vs, q, q2, q3, r⟩ := h
    exact ⟨_, q, fun x z => by cases z⟩
theorem Ms.nofresh (m : Ms K mg G ι H μ) {p : Addr} (h : H p = none) : ∀ j, ι j ≠ some p := fun j z => by
  obtain ⟨_, o, q⟩ := m.dom j p z
  rw [h] at q
  cases q
theorem same_upd {p : Addr} {o : HO} (h : H p = none) : Same H (upd H p o) := fun b u e => by rw [upd_ne (ne_of_none e h)]; exact e
theorem Sm.upd2 (s : Sm G H) {p : Addr} {o : HO} : Sm (upd G p o) (upd H p o) := fun b u e => by
  by_cases hb : b = p
  · subst hb
    rw [upd_same] at e
    exact .inl (by rw [upd_same]; exact e)
  · rw [upd_ne hb] at e ⊢
    exact s b u e
theorem Sm.upd1 (s : Sm G H) {p : Addr} {o : HO} (g : G p = none) : Sm G (upd H p o) := fun b u e => by
  have hb : b ≠ p := fun z => by subst z; rw [g] at e; cases e
  rw [upd_ne hb]
  exact s b u e
/-- a new thing, frozen at once -/
theorem Ms.new (m : Ms K mg G ι H μ) {p : Addr} {o : HO} (h : H p = none) : Ms K mg (upd G p o) ι (upd H p o) μ ∧ Ext G ι H (upd G p o) ι (upd H p o) := by
  have gp := m.s.free h
  have e : Xt G ι (upd G p o) ι := ⟨same_upd gp, fun _ _ q => q⟩
  refine ⟨⟨m.s.upd2, fun i o' q => ?_, fun i a q => ?_, m.inj⟩, e, fun a u q g n => ⟨same_upd h a u q, by rw [upd_ne (ne_of_none q h)]; exact g, n⟩, fun a u q => ⟨u, same_upd h a u q⟩⟩
  · obtain ⟨a, r1, r2, r3⟩ := m.at_ i o' q
    obtain ⟨u, hu, _⟩ := r3.hs
    have ha : a ≠ p := ne_of_none hu h
    exact ⟨a, r1, by rw [upd_ne ha]; exact r2, r3.up e (upd_ne ha) fun dx z => by rw [upd_ne (ne_of_none z h)]; exact z⟩
  · obtain ⟨r1, o', r2⟩ := m.dom i a q
    exact ⟨r1, o', same_upd h a o' r2⟩
/-- a new thing, not frozen and not in the memory -/
theorem Ms.own (m : Ms K mg G ι H μ) {p : Addr} {o : HO} (h : H p = none) : Ms K mg G ι (upd H p o) μ ∧ Ext G ι H G ι (upd H p o) := by
  have gp := m.s.free h
  refine ⟨⟨m.s.upd1 gp, fun i o' q => ?_, fun i a q => ?_, m.inj⟩, Xt.refl, fun a u q g n => ⟨same_upd h a u q, g, n⟩, fun a u q => ⟨u, same_upd h a u q⟩⟩
  · obtain ⟨a, r1, r2, r3⟩ := m.at_ i o' q
    obtain ⟨u, hu, _⟩ := r3.hs
    have ha : a ≠ p := ne_of_none hu h
    exact ⟨a, r1, r2, r3.up Xt.refl (upd_ne ha) fun dx z => by rw [upd_ne (ne_of_none z h)]; exact z⟩
  · obtain ⟨r1, o', r2⟩ := m.dom i a q
    exact ⟨r1, o', same_upd h a o' r2⟩
/-- where a new thing stands: nowhere in the memory -/
structure Fsh (K : PySem.W.Frag) (mg : Str → Option Value) (H0 : Hp) (G : Hp) (ι : Im) (H : Hp) (p : Addr) (o : MO) : Prop where
  z : H0 p = none
  g : G p = none
  n : ∀ j, ι j ≠ some p
  r : Ro K mg G ι H p o
def putI (ι : Im) (i : Nat) (a : Addr) : Im := fun j => if j = i then some a else ι j
theorem putI_same {i : Nat} {a : Addr} : putI ι i a i = some a := if_pos rfl
theorem putI_ne {i j : Nat} {a : Addr} (h : j ≠ i) : putI ι i a j = ι j := if_neg h
/-- a new thing goes into the memory -/
theorem Ms.alloc {G0 H0 : Hp} {ι0 : Im} (m : Ms K mg G ι H μ) {p : Addr} {o : MO} (f : Fsh K mg H0 G ι H p o) (x : Ext G0 ι0 H0 G ι H) : Ms K mg G (putI ι μ.length p) H (μ ++ [some o]) ∧ Ext G0 ι0 H0 G (putI ι μ.length p) H ∧ putI ι μ.length p μ.length = some p := by
  have e : Xt G ι G (putI ι μ.length p) := ⟨Same.refl _, fun j a q => by
    have hj : j ≠ μ.length := fun z => by
      have := (m.dom j a q).1
      omega
    rw [putI_ne hj]
    exact q⟩
  refine ⟨⟨m.s, fun i o' q => ?_, fun i a q => ?_, fun i j a q r => ?_⟩, ⟨⟨x.g, fun j a q => e.i j a (x.i j a q)⟩, fun a u q g n => ?_, x.t⟩, putI_same⟩
  · by_cases hi : i < μ.length
    · rw [List.getElem?_append_left hi] at q
      obtain ⟨a, r1, r2, r3⟩ := m.at_ i o' q
      exact ⟨a, e.i i a r1, r2, r3.up e rfl fun _ z => z⟩
    · have hi' : i = μ.length := by
        have l := (List.getElem?_eq_some_iff.mp q).1
        rw [List.length_append] at l
        simp at l
        omega
      subst hi'
      rw [List.getElem?_append_right (Nat.le_refl _)] at q
      simp at q
      subst q
      exact ⟨p, putI_same, f.g, f.r.up e rfl fun _ z => z⟩
  · by_cases hi : i = μ.length
    · subst hi
      rw [putI_same] at q
      cases q
      obtain ⟨u, hu, _⟩ := f.r.hs
      exact ⟨by simp, u, hu⟩
    · rw [putI_ne hi] at q
      obtain ⟨r1, r2⟩ := m.dom i a q
      exact ⟨by rw [List.length_append]; omega, r2⟩
  · by_cases hi : i = μ.length
    · by_cases hj : j = μ.length
      · rw [hi, hj]
      · rw [hi, putI_same] at q
        cases q
        rw [putI_ne hj] at r
        exact absurd r (f.n j)
    · by_cases hj : j = μ.length
      · rw [hj, putI_same] at r
        cases r
        rw [putI_ne hi] at q
        exact absurd q (f.n i)
      · rw [putI_ne hi] at q
        rw [putI_ne hj] at r
        exact m.inj i j a q r
  · obtain ⟨r1, r2, r3⟩ := x.f a u q g n
    refine ⟨r1, r2, fun i z => ?_⟩
    by_cases hi : i = μ.length
    · subst hi
      rw [putI_same] at z
      cases z
      rw [f.z] at q
      cases q
    · rw [putI_ne hi] at z
      exact r3 i z
/-- an object of the memory is changed -/
theorem Ms.chg (m : Ms K mg G ι H μ) {i : Nat} {a : Addr} {o o' : MO} {u : HO} (hi : μ[i]? = some (some o)) (ha : ι i = some a) (r : Ro K mg G ι (upd H a u) a o') : Ms K mg G ι (upd H a u) (Fm.setM μ i o') ∧ Ext G ι H G ι (upd H a u) := by
  obtain ⟨a', q1, q2, q3⟩ := m.at_ i o hi
  rw [ha] at q1
  cases q1
  obtain ⟨u0, hu0, nown⟩ := q3.hs
  refine ⟨⟨m.s.upd1 q2, fun j o1 q => ?_, fun j b q => ?_, m.inj⟩, Xt.refl, fun b v q g n => ⟨by
    rw [upd_ne fun z => n i (by rw [z]; exact ha)]
    exact q, g, n⟩, fun b v q => ?_⟩
  · unfold Fm.setM at q
    by_cases hj : i = j
    · subst hj
      rw [List.getElem?_set_self (List.getElem?_eq_some_iff.mp hi).1] at q
      cases q
      exact ⟨a, ha, q2, r⟩
    · rw [List.getElem?_set_ne hj] at q
      obtain ⟨b, r1, r2, r3⟩ := m.at_ j o1 q
      have hb : b ≠ a := fun z => by
        subst z
        exact hj (m.inj i j b ha r1)
      refine ⟨b, r1, r2, r3.up Xt.refl (upd_ne hb) fun dx z => ?_⟩
      rw [upd_ne fun y => by subst y; rw [hu0] at z; cases z; exact nown _ rfl]
      exact z
  · obtain ⟨r1, o1, r2⟩ := m.dom j b q
    refine ⟨by unfold Fm.setM; rw [List.length_set]; exact r1, ?_⟩
    by_cases hb : b = a
    · exact ⟨u, by rw [hb]; exact upd_same⟩
    · exact ⟨o1, by rw [upd_ne hb]; exact r2⟩
  · by_cases hb : b = a
    · exact ⟨u, by rw [hb]; exact upd_same⟩
    · exact ⟨v, by rw [upd_ne hb]; exact q⟩
/-- forgetting parts of the memory -/
theorem Ms.less (m : Ms K mg G ι H μ) (w : ∀ (i : Nat) o, μ'[i]? = some (some o) → μ[i]? = some (some o)) (l : μ.length ≤ μ'.length) : Ms K mg G ι H μ' :=
  ⟨m.s, fun i o q => m.at_ i o (w i o q), fun i a q => ⟨Nat.lt_of_lt_of_le (m.dom i a q).1 l, (m.dom i a q).2⟩, m.inj⟩
theorem Ro.und {n : Nat} {a : Addr} {o : MO} (u : o.und n = true) (e : ∀ j a, j < n → ι j = some a → ι' j = some a) (h : Ro K mg G ι H a o) : Ro K mg G ι' H a o := by
  cases o with
  | lst xs =>
    obtain ⟨vs, q, r⟩ := h
    exact ⟨vs, q, r.und u e⟩
  | dk l kvs =>
    obtain ⟨vs, q, r⟩ := h
    exact ⟨vs, q, r.und u e⟩
  | dt l kvs =>
    obtain ⟨vs, q, r⟩ := h
    exact ⟨vs, q, r.und u e⟩
  | ins c fs =>
    obtain ⟨C, dx, vs, q, q2, q3, r⟩ := h
    exact ⟨C, dx, vs, q, q2, q3, r.und u e⟩
end

/-- what holds in a body: the slots, the memory -/
structure Ok (K : PySem.W.Frag) (mg : Str → Option Value) (G : Hp) (ι : Im) (H : Hp) (σ : St) (Γ : En) (μ : Mem) : Prop where
  m : Ms K mg G ι H μ
  at_ : ∀ (i : Nat) x, Γ[i]? = some (some x) → ∃ v, σ[i]? = some (some v) ∧ Rv K G ι v x
  ln : σ.length = Γ.length
section
variable {K : PySem.W.Frag} {mg : Str → Option Value} {G G' H H' : Hp} {ι ι' : Im} {μ μ' : Mem} {σ : St} {Γ Γ' : En}
theorem Ok.step (h : Ok K mg G ι H σ Γ μ) (e : Xt G ι G' ι') (m : Ms K mg G' ι' H' μ') : Ok K mg G' ι' H' σ Γ μ' :=
  ⟨m, fun i x q => by
    obtain ⟨v, r1, r2⟩ := h.at_ i x q
    exact ⟨v, r1, r2.up e⟩, h.ln⟩
theorem Ok.less (h : Ok K mg G ι H σ Γ μ) (w : ∀ (i : Nat) x, Γ'[i]? = some (some x) → Γ[i]? = some (some x)) (l : Γ'.length = Γ.length) : Ok K mg G ι H σ Γ' μ :=
  ⟨h.m, fun i s e => h.at_ i s (w i s e), h.ln.trans l.symm⟩
theorem get_set_none {α : Type} {l : List (Option α)} {i j : Nat} {s : α} (e : (l.set j none)[i]? = some (some s)) : l[i]? = some (some s) ∧ i ≠ j := by
  by_cases hj : j = i
  · subst hj
    by_cases hl : j < l.length
    · rw [List.getElem?_set_self hl] at e
      cases e
    · rw [List.getElem?_eq_none (by simpa using hl)] at e
      cases e
  · rw [List.getElem?_set_ne hj] at e
    exact ⟨e, Ne.symm hj⟩
theorem get_set {α : Type} {l : List (Option α)} {i j : Nat} {x s : α} (e : (l.set j (some x))[i]? = some (some s)) : (i = j ∧ s = x ∧ j < l.length) ∨ (i ≠ j ∧ l[i]? = some (some s)) := by
  by_cases hj : j = i
  · subst hj
    by_cases hl : j < l.length
    · rw [List.getElem?_set_self hl] at e
      cases e
      exact .inl ⟨rfl, rfl, hl⟩
    · rw [List.getElem?_eq_none (by simpa using hl)] at e
      cases e
  · rw [List.getElem?_set_ne hj] at e
    exact .inr ⟨Ne.symm hj, e⟩
theorem wip_some : ∀ {ws : List Nat} {Γ : En} {i : Nat} {s : Vl}, (Fm.wip ws Γ)[i]? = some (some s) → Γ[i]? = some (some s) ∧ i ∉ ws
  | [], _, _, _, e => ⟨e, fun z => by cases z⟩
  | j :: ws, _, _, _, e => by
    obtain ⟨h1, h2⟩ := wip_some (ws := ws) e
    obtain ⟨h3, h4⟩ := get_set_none h1
    exact ⟨h3, fun z => by
      rcases List.mem_cons.mp z with z | z
      · exact h4 z
      · exact h2 z⟩
theorem wip_len : ∀ {ws : List Nat} {Γ : En}, (Fm.wip ws Γ).length = Γ.length
  | [], _ => rfl
  | _ :: ws, _ => (wip_len (ws := ws)).trans (List.length_set ..)
theorem Ok.wip (h : Ok K mg G ι H σ Γ μ) (ws : List Nat) : Ok K mg G ι H σ (Fm.wip ws Γ) μ := h.less (fun _ _ e => (wip_some e).1) wip_len
theorem Ok.set (h : Ok K mg G ι H σ Γ μ) {v : V} {x : Vl} (d : Rv K G ι v x) (i : Nat) : Ok K mg G ι H (σ.set i (some v)) (Γ.set i (some x)) μ := by
  refine ⟨h.m, fun j s e => ?_, by rw [List.length_set, List.length_set, h.ln]⟩
  rcases get_set e with ⟨rfl, rfl, l⟩ | ⟨n, e⟩
  · exact ⟨v, List.getElem?_set_self (by rw [h.ln]; exact l), d⟩
  · obtain ⟨u, e1, q⟩ := h.at_ j s e
    exact ⟨u, by rw [List.getElem?_set_ne (Ne.symm n)]; exact e1, q⟩
theorem slotV_at {i : Nat} {x : Vl} (e : Fm.slotV i Γ = some x) : Γ[i]? = some (some x) := by
  unfold Fm.slotV at e
  split at e
  · rename_i q
    cases e
    exact q
  · cases e
theorem Ok.slot (h : Ok K mg G ι H σ Γ μ) {i : Nat} {x : Vl} (e : Fm.slotV i Γ = some x) : ∃ v, σ[i]? = some (some v) ∧ Rv K G ι v x := h.at_ i x (slotV_at e)
end

/-! ### readings of the plain side -/
/-- the row that an error bears -/
def Xd (r : Option Int) (d : Option Addr) (H : Hp) : Prop := match r with
  | none => d = none
  | some k => ∃ x, d = some x ∧ H x = some (.xd [("row", .int k)])
structure Rl (α β : Type) where
  r : Hp → Hp → Im → Hp → β → α → Prop
  up : ∀ {H0 H1 G H : Hp} {ι : Im} {b : β} {x : α}, (∀ p, H1 p = none → H0 p = none) → r H1 G ι H b x → r H0 G ι H b x
def Af {α β : Type} (K : PySem.W.Frag) (mg : Str → Option Value) (W : WX) (σ : St) (Γ : En) (G : Hp) (ι : Im) (H : Hp) (R : Rl α β) (Q : β → Hp → Prop) : Rs α → Prop
  | .no => False
  | .ok x μ' => ∀ b G' ι' H', Ext G ι H G' ι' H' → Ok K mg G' ι' H' σ Γ μ' → R.r H G' ι' H' b x → Q b H'
  | .ex c r μ' => ∀ C d G' ι' H', Ext G ι H G' ι' H' → Ok K mg G' ι' H' σ Γ μ' → mg c = some (.ref C) → Xd r d H' → W (.ref C) d σ H'
def tG {α β : Type} (K : PySem.W.Frag) (mg : Str → Option Value) (W : WX) (R : Rl α β) (m : En → Mem → Rs α) : St → Hp → (β → Hp → Prop) → Prop := fun σ H Q =>
  ∃ G ι Γ μ, Ok K mg G ι H σ Γ μ ∧ Af K mg W σ Γ G ι H R Q (m Γ μ)
section
variable {α β γ δ : Type} {K : PySem.W.Frag} {mg : Str → Option Value} {W : WX} {σ : St} {Γ : En} {G G1 H H1 : Hp} {ι ι1 : Im} {R : Rl α β} {R' : Rl γ δ} {Q : β → Hp → Prop} {Q' : δ → Hp → Prop}
theorem Af.up {r : Rs α} (e : Ext G ι H G1 ι1 H1) (h : Af K mg W σ Γ G ι H R Q r) : Af K mg W σ Γ G1 ι1 H1 R Q r := by
  cases r with
  | no => exact h
  | ok x μ' => exact fun b G' ι' H' e' o r => h b G' ι' H' (e.trans e') o (R.up (fun _ z => e.back z) r)
  | ex c r μ' => exact fun C d G' ι' H' e' o r x => h C d G' ι' H' (e.trans e') o r x
theorem Af.bind {r : Rs α} {f : α → Mem → Rs γ} (h : Af K mg W σ Γ G ι H R' Q' (r.bind f))
    (k : ∀ x μ1 b G1 ι1 H1, r = .ok x μ1 → Ext G ι H G1 ι1 H1 → Ok K mg G1 ι1 H1 σ Γ μ1 → R.r H G1 ι1 H1 b x → Af K mg W σ Γ G1 ι1 H1 R' Q' (f x μ1) → Q b H1) : Af K mg W σ Γ G ι H R Q r := by
  cases r with
  | no => exact h
  | ok x μ' => exact fun b G' ι' H' e' o r => k x μ' b G' ι' H' rfl e' o r (Af.up e' h)
  | ex c r μ' => exact h
/-- .. with the end told by the beginning -/
theorem Af.bind0 {r : Rs α} {f : α → Mem → Rs γ} (h : Af K mg W σ Γ G ι H R' Q' (r.bind f))
    (k : ∀ x μ1 b G1 ι1 H1, r = .ok x μ1 → Ext G ι H G1 ι1 H1 → Ok K mg G1 ι1 H1 σ Γ μ1 → R.r H G1 ι1 H1 b x → Af K mg W σ Γ G ι H R' Q' (f x μ1) → Q b H1) : Af K mg W σ Γ G ι H R Q r := by
  cases r with
  | no => exact h
  | ok x μ' => exact fun b G' ι' H' e' o r => k x μ' b G' ι' H' rfl e' o r h
  | ex c r μ' => exact h
theorem Af.of {o : Option α} {μ : Mem} (h : Af K mg W σ Γ G ι H R Q (Rs.of o μ)) : ∃ x, o = some x ∧ Af K mg W σ Γ G ι H R Q (.ok x μ) := by
  cases o with
  | none => exact False.elim h
  | some x => exact ⟨x, rfl, h⟩
end
def rlV (K : PySem.W.Frag) : Rl Vl V := ⟨fun _ G ι _ v x => Rv K G ι v x, fun _ h => h⟩
def rlA (K : PySem.W.Frag) : Rl (List Vl) (List V) := ⟨fun _ G ι _ v x => RvA K G ι v x, fun _ h => h⟩
def rlF (K : PySem.W.Frag) (mg : Str → Option Value) : Rl MO V := ⟨fun H0 G ι H v o => ∃ p, v = .ref p ∧ Fsh K mg H0 G ι H p o, fun k ⟨p, e, f⟩ => ⟨p, e, k p f.z, f.g, f.n, f.r⟩⟩
def rlI {α : Type} : Rl α α := ⟨fun _ _ _ _ v x => v = x, fun _ h => h⟩
abbrev tE (K : PySem.W.Frag) (mg : Str → Option Value) (W : WX) (m : ME) : TE := tG K mg W (rlV K) m
abbrev tF (K : PySem.W.Frag) (mg : Str → Option Value) (W : WX) (m : MF) : TE := tG K mg W (rlF K mg) m
abbrev tA (K : PySem.W.Frag) (mg : Str → Option Value) (W : WX) (m : MA) : TA := tG K mg W (rlA K) m
abbrev tT (K : PySem.W.Frag) (mg : Str → Option Value) (W : WX) (m : MT) : TT := tG K mg W rlI m
abbrev tP (K : PySem.W.Frag) (mg : Str → Option Value) (W : WX) (m : En → Mem → Rs (Option Int)) : TO := tG K mg W rlI m
structure DE (X : Cx) (W : WX) (e : Expr) (m : ME) : Prop where
  p : PE X e (tE X.K X.mg W m)
structure DF (X : Cx) (W : WX) (e : Expr) (m : MF) : Prop where
  p : PE X e (tF X.K X.mg W m)
structure DA (X : Cx) (W : WX) (es : List Expr) (m : MA) : Prop where
  p : PA X es (tA X.K X.mg W m)
structure DT (X : Cx) (W : WX) (e : Expr) (m : MT) : Prop where
  p : PT X e (tT X.K X.mg W m)
structure DW (X : Cx) (W : WX) (e : Expr) (m : MT) : Prop where
  p : PW X e (tT X.K X.mg W m)
structure DO (X : Cx) (W : WX) (e : Option Expr) (m : En → Mem → Rs (Option Int)) : Prop where
  p : PO X e (tP X.K X.mg W m)
end L3

set_option Elab.async false
set_option linter.all false
set_option maxRecDepth 100000
set_option maxHeartbeats 4000000
/-! NL1: names, operators, displays, tests, arguments. -/
namespace L3
open PySem L2
open Fm (Vl MO Mem En Rs ME MF MA MT MG MS MI Out So Gd Ky)
section
variable {X : Cx}
theorem PE.imp {e : Expr} {t t' : TE} (h : PE X e t) (k : ∀ σ H Q, t' σ H Q → t σ H Q) : PE X e t' := ⟨fun pins s σ H Q I q => h.run pins s σ H Q I (k σ H Q q)⟩
theorem PT.imp {e : Expr} {t t' : TT} (h : PT X e t) (k : ∀ σ H Q, t' σ H Q → t σ H Q) : PT X e t' := ⟨fun pins s σ H Q I q => h.run pins s σ H Q I (k σ H Q q)⟩
theorem PW.imp {e : Expr} {t t' : TT} (h : PW X e t) (k : ∀ σ H Q, t' σ H Q → t σ H Q) : PW X e t' := ⟨fun w pins s σ H Q I q => h.run w pins s σ H Q I (k σ H Q q)⟩
theorem PA.imp {e : List Expr} {t t' : TA} (h : PA X e t) (k : ∀ σ H Q, t' σ H Q → t σ H Q) : PA X e t' := ⟨fun pos pins s σ H Q I q => h.run pos pins s σ H Q I (k σ H Q q)⟩
theorem PO.imp {e : Option Expr} {t t' : TO} (h : PO X e t) (k : ∀ σ H Q, t' σ H Q → t σ H Q) : PO X e t' := ⟨fun pins s σ H Q I q => h.run pins s σ H Q I (k σ H Q q)⟩
theorem PS.imp {e : Stmt} {t t' : TS} (h : PS X e t) (k : ∀ D σ H, t' D σ H → t D σ H) : PS X e t' := ⟨fun pins s σ H D I q => h.run pins s σ H D I (k D σ H q)⟩
theorem PSs.imp {e : List Stmt} {t t' : TS} (h : PSs X e t) (k : ∀ D σ H, t' D σ H → t D σ H) : PSs X e t' := ⟨fun pins s σ H D I q => h.run pins s σ H D I (k D σ H q)⟩
end
section
variable {K : PySem.W.Frag} {mg : Str → Option Value}
theorem getB_of {d : Vl} {b : Bool} (h : Fm.getB d = some b) : d = .bl b := by
  unfold Fm.getB at h
  split at h
  · cases h; rfl
  · cases h
theorem getI_of {d : Vl} {b : Int} (h : Fm.getI d = some b) : d = .int b := by
  unfold Fm.getI at h
  split at h
  · cases h; rfl
  · cases h
theorem getT_of {d : Vl} {b : List Vl} (h : Fm.getT d = some b) : d = .tup b := by
  unfold Fm.getT at h
  split at h
  · cases h; rfl
  · cases h
theorem getS_of {d : Vl} {b : Str} (h : Fm.getS d = some b) : d = .str b := by
  unfold Fm.getS at h
  split at h
  · cases h; rfl
  · cases h
theorem fits_of {α : Type} {xs ys : List α} (h : Fm.fits xs = some ys) : ys = xs ∧ xs.length ≤ 10000000 := by
  unfold Fm.fits Fm.cap at h
  split at h
  · cases h
    exact ⟨rfl, by assumption⟩
  · cases h
theorem big {n : Nat} (h : n ≤ 10000000) : n ≤ sizeLine := Nat.le_trans h (by decide)
theorem bigL {n : Nat} (h : n < 10000000) : n < sizeLine := Nat.lt_of_lt_of_le h (by decide)
theorem bnd {α β : Type} {o : Option α} {f : α → Option β} {z : β} (h : o.bind f = some z) : ∃ x, o = some x ∧ f x = some z := Option.bind_eq_some_iff.mp h
/-- an operation by plain values: a value; a new object -/
def OpD (K : PySem.W.Frag) (mg : Str → Option Value) (r : R2) (g : Vl → Vl → Mem → Option Vl) : Prop := ∀ (x y : V) (G H : Hp) (ι : Im) (μ : Mem) (dx dy dz : Vl) (Q : VK), Ms K mg G ι H μ → Rv K G ι x dx → Rv K G ι y dy → g dx dy μ = some dz →
  (∀ v G' H', Ext G ι H G' ι H' → Ms K mg G' ι H' μ → Rv K G' ι v dz → Q v H') → r x y H Q
def OpF (K : PySem.W.Frag) (mg : Str → Option Value) (r : R2) (g : Vl → Vl → Mem → Option MO) : Prop := ∀ (x y : V) (G H : Hp) (ι : Im) (μ : Mem) (dx dy : Vl) (dz : MO) (Q : VK), Ms K mg G ι H μ → Rv K G ι x dx → Rv K G ι y dy → g dx dy μ = some dz →
  (∀ p H', Ext G ι H G ι H' → Ms K mg G ι H' μ → Fsh K mg H G ι H' p dz → Q (.ref p) H') → r x y H Q
structure DOp (X : Cx) (f : Value → Value → Sem Value) (g : Vl → Vl → Mem → Option Vl) : Prop where
  ex : ∃ r, OpR X f r ∧ OpD X.K X.mg r g
structure DOpF (X : Cx) (f : Value → Value → Sem Value) (g : Vl → Vl → Mem → Option MO) : Prop where
  ex : ∃ r, OpR X f r ∧ OpF X.K X.mg r g
def CaD (K : PySem.W.Frag) (mg : Str → Option Value) (r : List V → Hp → VK → Prop) (g : List Vl → Mem → Option Vl) : Prop := ∀ (vs : List V) (G H : Hp) (ι : Im) (μ : Mem) (ds : List Vl) (dz : Vl) (Q : VK), Ms K mg G ι H μ → RvA K G ι vs ds → g ds μ = some dz →
  (∀ v G' H', Ext G ι H G' ι H' → Ms K mg G' ι H' μ → Rv K G' ι v dz → Q v H') → r vs H Q
def CaF (K : PySem.W.Frag) (mg : Str → Option Value) (r : List V → Hp → VK → Prop) (g : List Vl → Mem → Option MO) : Prop := ∀ (vs : List V) (G H : Hp) (ι : Im) (μ : Mem) (ds : List Vl) (dz : MO) (Q : VK), Ms K mg G ι H μ → RvA K G ι vs ds → g ds μ = some dz →
  (∀ p H', Ext G ι H G ι H' → Ms K mg G ι H' μ → Fsh K mg H G ι H' p dz → Q (.ref p) H') → r vs H Q
section
variable {W : WX} {σ : St} {Γ : En} {G H : Hp} {ι : Im} {μ : Mem} {Q : VK}
/-- the end of a value's reading -/
theorem af_val {x : Vl} {v : V} {G' H' : Hp} (o : Ok K mg G ι H σ Γ μ) (h : Af K mg W σ Γ G ι H (rlV K) Q (.ok x μ)) (e : Ext G ι H G' ι H') (m : Ms K mg G' ι H' μ) (r : Rv K G' ι v x) : Q v H' := h v G' ι H' e (o.step e.toXt m) r
theorem af_new {x : MO} {p : Addr} {H' : Hp} (o : Ok K mg G ι H σ Γ μ) (h : Af K mg W σ Γ G ι H (rlF K mg) Q (.ok x μ)) (e : Ext G ι H G ι H') (m : Ms K mg G ι H' μ) (r : Fsh K mg H G ι H' p x) : Q (.ref p) H' := h (.ref p) G ι H' e (o.step e.toXt m) ⟨p, rfl, r⟩
end
/-- a new list stands outside the memory -/
theorem Ms.fsh {G H : Hp} {ι : Im} {μ : Mem} (m : Ms K mg G ι H μ) {p : Addr} {vs : List V} {xs : List Vl} (h : H p = none) (r : RvA K G ι vs xs) : Ext G ι H G ι (upd H p (.lst vs)) ∧ Ms K mg G ι (upd H p (.lst vs)) μ ∧ Fsh K mg H G ι (upd H p (.lst vs)) p (.lst xs) :=
  ⟨(m.own h).2, (m.own h).1, h, m.s.free h, m.nofresh h, vs, upd_same, r⟩
end

/-! ### the rules -/
section
variable {X : Cx} {W : WX} {pos : Pos} {a b c : Expr} {ma mb mc : ME}
theorem dv (i : Nat) {x : Str} (hN : X.N[i]? = some x := by rfl) (hv : Vis X.env.scope x := by first | exact Or.inl rfl | exact Or.inr (Or.inl rfl) | exact Or.inr (Or.inr rfl)) (hd : (x == ("__debug__" : Str)) = false := by decide)
    (hcd : (x == ("__classdict__" : Str)) = false := by decide) : DE X W (.Name x pos) (Fm.eVar i) := ⟨PE.imp (pe_var hN hv hd hcd) fun σ H Q ⟨G, ι, Γ, μ, o, h⟩ => by
  obtain ⟨x, e, h⟩ := Af.of h
  obtain ⟨v, r1, r2⟩ := o.slot e
  exact ⟨v, r1, af_val o h Ext.refl o.m r2⟩⟩
theorem dC {e : Expr} {v : V} {x : Vl} (h : PE X e (tC v)) (hx : ∀ G ι, Rv X.K G ι v x) : DE X W e (Fm.eC x) := ⟨PE.imp h fun σ H Q ⟨G, ι, Γ, μ, o, h⟩ => af_val o h Ext.refl o.m (hx G ι)⟩
theorem di {i : Int} {j : Nat} : DE X W (.Constant (.int i) j pos) (Fm.eC (.int i)) := dC pe_int fun _ _ => .int i
theorem dbl {i : Bool} {j : Nat} : DE X W (.Constant (.bool i) j pos) (Fm.eC (.bl i)) := dC pe_bl fun _ _ => .bl i
theorem dnon {j : Nat} : DE X W (.Constant .none j pos) (Fm.eC .non) := dC pe_non fun _ _ => .non
theorem dstr {i : Str} {j : Nat} : DE X W (.Constant (.str i) j pos) (Fm.eC (.str i)) := dC pe_str fun _ _ => .str i
/-- a module's constant -/
theorem dgi {x : Str} {i : Int} (hm : ∃ t, X.mg x = some (.int i t)) (hg : Gl X x := by rfl) (hd : (x == ("__debug__" : Str)) = false := by decide) : DE X W (.Name x pos) (Fm.eC (.int i)) := by
  obtain ⟨t, hm⟩ := hm
  exact dC (v := .int i) (pe_glob hg hm ⟨_, rfl⟩ hd) fun _ _ => .int i
theorem dgs {x i : Str} (hm : ∃ t, X.mg x = some (.str i t)) (hg : Gl X x := by rfl) (hd : (x == ("__debug__" : Str)) = false := by decide) : DE X W (.Name x pos) (Fm.eC (.str i)) := by
  obtain ⟨t, hm⟩ := hm
  exact dC (v := .str i) (pe_glob hg hm ⟨_, rfl⟩ hd) fun _ _ => .str i
theorem op_to {r : R2} {g : Vl → Vl → Mem → Option Vl} (hr : OpD X.K X.mg r g) : ∀ σ H Q, tE X.K X.mg W (Fm.eOp g ma mb) σ H Q → tOp r (tE X.K X.mg W ma) (tE X.K X.mg W mb) σ H Q := fun σ H Q ⟨G, ι, Γ, μ, o, h⟩ =>
  ⟨G, ι, Γ, μ, o, Af.bind h fun x μ1 v G1 ι1 H1 _ e1 o1 r1 h1 => ⟨G1, ι1, Γ, μ1, o1, Af.bind h1 fun y μ2 u G2 ι2 H2 _ e2 o2 r2 h2 => by
    obtain ⟨z, e, h3⟩ := Af.of h2
    exact hr v u G2 H2 ι2 μ2 x y z Q o2.m (Rv.up e2.toXt r1) r2 e fun v' G' H' e' m' r' => af_val o2 h3 e' m' r'⟩⟩
theorem opF_to {r : R2} {g : Vl → Vl → Mem → Option MO} (hr : OpF X.K X.mg r g) : ∀ σ H Q, tF X.K X.mg W (Fm.fOp g ma mb) σ H Q → tOp r (tE X.K X.mg W ma) (tE X.K X.mg W mb) σ H Q := fun σ H Q ⟨G, ι, Γ, μ, o, h⟩ =>
  ⟨G, ι, Γ, μ, o, Af.bind h fun x μ1 v G1 ι1 H1 _ e1 o1 r1 h1 => ⟨G1, ι1, Γ, μ1, o1, Af.bind h1 fun y μ2 u G2 ι2 H2 _ e2 o2 r2 h2 => by
    obtain ⟨z, e, h3⟩ := Af.of h2
    exact hr v u G2 H2 ι2 μ2 x y z Q o2.m (Rv.up e2.toXt r1) r2 e fun p H' e' m' r' => af_new o2 h3 e' m' r'⟩⟩
theorem dop {op : Operator} {g : Vl → Vl → Mem → Option Vl} (ho : DOp X (binaryOp op) g) (ha : DE X W a ma) (hb : DE X W b mb) : DE X W (.BinOp a op b pos) (Fm.eOp g ma mb) := by
  obtain ⟨r, h1, h2⟩ := ho.ex
  exact ⟨PE.imp (pe_op h1 ha.p hb.p) (op_to h2)⟩
theorem dopF {op : Operator} {g : Vl → Vl → Mem → Option MO} (ho : DOpF X (binaryOp op) g) (ha : DE X W a ma) (hb : DE X W b mb) : DF X W (.BinOp a op b pos) (Fm.fOp g ma mb) := by
  obtain ⟨r, h1, h2⟩ := ho.ex
  exact ⟨PE.imp (pe_op h1 ha.p hb.p) (opF_to h2)⟩
theorem dcmp {op : CmpOp} {g : Vl → Vl → Mem → Option Vl} (ho : DOp X (compareOp op) g) (ha : DE X W a ma) (hb : DE X W b mb) (hm : behindInMarks op b = false := by first | exact nomark _ | rfl) : DE X W (.Compare a [op] [b] pos) (Fm.eOp g ma mb) := by
  obtain ⟨r, h1, h2⟩ := ho.ex
  exact ⟨PE.imp (pe_cmpR h1 ha.p hb.p hm) (op_to h2)⟩
theorem tB_to {m : ME} : ∀ σ H Q, tT X.K X.mg W (Fm.tB m) σ H Q → tTest (tE X.K X.mg W m) σ H Q := fun σ H Q ⟨G, ι, Γ, μ, o, h⟩ =>
  ⟨G, ι, Γ, μ, o, Af.bind h fun x μ1 v G1 ι1 H1 _ e1 o1 r1 h1 => by
    obtain ⟨z, e, h2⟩ := Af.of h1
    have e' := getB_of e
    subst e'
    exact ⟨z, bl_of r1, h2 z G1 ι1 H1 Ext.refl o1 rfl⟩⟩
theorem dcmpT {op : CmpOp} {g : Vl → Vl → Mem → Option Vl} (ho : DOp X (compareOp op) g) (ha : DE X W a ma) (hb : DE X W b mb) (hm : behindInMarks op b = false := by first | exact nomark _ | rfl) : DT X W (.Compare a [op] [b] pos) (Fm.tB (Fm.eOp g ma mb)) := by
  obtain ⟨r, h1, h2⟩ := ho.ex
  refine ⟨PT.imp (pt_cmpR h1 ha.p hb.p hm) fun σ H Q h => ?_⟩
  have h3 := tB_to σ H Q h
  exact op_to h2 σ H _ h3
theorem chain_to {r r' : R2} {g g' : Vl → Vl → Mem → Option Vl} (hr : OpD X.K X.mg r g) (hr' : OpD X.K X.mg r' g') : ∀ σ H Q, tE X.K X.mg W (Fm.eChain g g' ma mb mc) σ H Q → tChain r r' (tE X.K X.mg W ma) (tE X.K X.mg W mb) (tE X.K X.mg W mc) σ H Q := fun σ H Q ⟨G, ι, Γ, μ, o, h⟩ =>
  ⟨G, ι, Γ, μ, o, Af.bind h fun x μ1 v G1 ι1 H1 _ e1 o1 r1 h1 => ⟨G1, ι1, Γ, μ1, o1, Af.bind h1 fun y μ2 u G2 ι2 H2 _ e2 o2 r2 h2 => by
    cases q : g x y μ2 with
    | none =>
      rw [q] at h2
      exact False.elim h2
    | some z =>
      rw [q] at h2
      refine hr v u G2 H2 ι2 μ2 x y z _ o2.m (Rv.up e2.toXt r1) r2 q fun v' G' H' e' m' r' => ?_
      cases z with
      | bl k =>
        refine ⟨k, bl_of r', ?_⟩
        have o3 := o2.step e'.toXt m'
        cases k with
        | true =>
          have h3 := Af.up (R := rlV X.K) e' h2
          rw [if_pos rfl]
          exact ⟨G', ι2, Γ, μ2, o3, Af.bind h3 fun z μ4 u4 G4 ι4 H4 _ e4 o4 r4 h4 => by
            obtain ⟨z', q', h5⟩ := Af.of h4
            exact hr' u u4 G4 H4 ι4 μ4 y z z' Q o4.m (Rv.up e4.toXt (Rv.up e'.toXt r2)) r4 q' fun v' G' H' e' m' r' => af_val o4 h5 e' m' r'⟩
        | false =>
          rw [if_neg Bool.false_ne_true]
          exact h2 _ G' ι2 H' e' o3 (.bl false)
      | _ => exact False.elim h2⟩⟩
theorem dchain {op op' : CmpOp} {g g' : Vl → Vl → Mem → Option Vl} (ho : DOp X (compareOp op) g) (ho' : DOp X (compareOp op') g') (ha : DE X W a ma) (hb : DE X W b mb) (hc : DE X W c mc) (hm : lastMarks [op, op'] [b, c] = false := by with_unfolding_all rfl) :
    DE X W (.Compare a [op, op'] [b, c] pos) (Fm.eChain g g' ma mb mc) := by
  obtain ⟨r, h1, h2⟩ := ho.ex
  obtain ⟨r', h3, h4⟩ := ho'.ex
  exact ⟨PE.imp (pe_chain h1 h3 ha.p hb.p hc.p hm) (chain_to h2 h4)⟩
theorem dchainT {op op' : CmpOp} {g g' : Vl → Vl → Mem → Option Vl} (ho : DOp X (compareOp op) g) (ho' : DOp X (compareOp op') g') (ha : DE X W a ma) (hb : DE X W b mb) (hc : DE X W c mc) (hm : lastMarks [op, op'] [b, c] = false := by with_unfolding_all rfl) :
    DT X W (.Compare a [op, op'] [b, c] pos) (Fm.tB (Fm.eChain g g' ma mb mc)) := by
  obtain ⟨r, h1, h2⟩ := ho.ex
  obtain ⟨r', h3, h4⟩ := ho'.ex
  exact ⟨PT.imp (pt_chain h1 h3 ha.p hb.p hc.p hm) fun σ H Q h => chain_to h2 h4 σ H _ (tB_to σ H Q h)⟩
theorem dand {rest : List Expr} (ha : DE X W a ma) (hb : DE X W (.BoolOp .And (b :: rest) pos) mb) : DE X W (.BoolOp .And (a :: b :: rest) pos) (Fm.eAnd ma mb) := ⟨PE.imp (pe_and ha.p hb.p) fun σ H Q ⟨G, ι, Γ, μ, o, h⟩ =>
  ⟨G, ι, Γ, μ, o, Af.bind h fun x μ1 v G1 ι1 H1 _ e1 o1 r1 h1 => by
    cases x with
    | bl k =>
      refine ⟨k, bl_of r1, ?_⟩
      cases k with
      | true =>
        rw [if_pos rfl]
        exact ⟨G1, ι1, Γ, μ1, o1, h1⟩
      | false =>
        rw [if_neg Bool.false_ne_true]
        exact h1 _ G1 ι1 H1 Ext.refl o1 (.bl false)
    | _ => exact False.elim h1⟩⟩
theorem dor {rest : List Expr} (ha : DE X W a ma) (hb : DE X W (.BoolOp .Or (b :: rest) pos) mb) : DE X W (.BoolOp .Or (a :: b :: rest) pos) (Fm.eOr ma mb) := ⟨PE.imp (pe_or ha.p hb.p) fun σ H Q ⟨G, ι, Γ, μ, o, h⟩ =>
  ⟨G, ι, Γ, μ, o, Af.bind h fun x μ1 v G1 ι1 H1 _ e1 o1 r1 h1 => by
    cases x with
    | bl k =>
      refine ⟨k, bl_of r1, ?_⟩
      cases k with
      | false =>
        rw [if_neg Bool.false_ne_true]
        exact ⟨G1, ι1, Γ, μ1, o1, h1⟩
      | true =>
        rw [if_pos rfl]
        exact h1 _ G1 ι1 H1 Ext.refl o1 (.bl true)
    | _ => exact False.elim h1⟩⟩
theorem done {op : BoolOp} (ha : DE X W a ma) : DE X W (.BoolOp op [a] pos) ma := ⟨pe_one ha.p⟩
theorem dnot (ha : DE X W a ma) : DE X W (.UnaryOp .Not a pos) (Fm.eNot ma) := ⟨PE.imp (pe_not ha.p) fun σ H Q ⟨G, ι, Γ, μ, o, h⟩ =>
  ⟨G, ι, Γ, μ, o, Af.bind h fun x μ1 v G1 ι1 H1 _ e1 o1 r1 h1 => by
    cases x with
    | bl k => exact ⟨k, bl_of r1, h1 _ G1 ι1 H1 Ext.refl o1 (.bl _)⟩
    | _ => exact False.elim h1⟩⟩
theorem dif {m : MT} (hc : DT X W c m) (ha : DE X W a ma) (hb : DE X W b mb) : DE X W (.IfExp c a b pos) (Fm.eIf m ma mb) := ⟨PE.imp (pe_ifExp hc.p ha.p hb.p) fun σ H Q ⟨G, ι, Γ, μ, o, h⟩ =>
  ⟨G, ι, Γ, μ, o, Af.bind h fun x μ1 v G1 ι1 H1 _ e1 o1 r1 h1 => by
    cases (show v = x from r1)
    cases x with
    | true =>
      rw [if_pos rfl]
      exact ⟨G1, ι1, Γ, μ1, o1, h1⟩
    | false =>
      rw [if_neg Bool.false_ne_true]
      exact ⟨G1, ι1, Γ, μ1, o1, h1⟩⟩⟩
theorem danil : DA X W [] Fm.aNil := ⟨PA.imp pa_nil fun σ H Q ⟨G, ι, Γ, μ, o, h⟩ => h [] G ι H Ext.refl o .nil⟩
theorem dac {es : List Expr} {m : MA} (ha : DE X W a ma) (hr : DA X W es m) (hs : starEach (a :: es) X.env = (false, eval a X.env) :: starEach es X.env := by rfl) : DA X W (a :: es) (Fm.aCons ma m) := ⟨PA.imp (pa_cons ha.p hr.p hs) fun σ H Q ⟨G, ι, Γ, μ, o, h⟩ =>
  ⟨G, ι, Γ, μ, o, Af.bind h fun x μ1 v G1 ι1 H1 _ e1 o1 r1 h1 => ⟨G1, ι1, Γ, μ1, o1, Af.bind h1 fun y μ2 u G2 ι2 H2 _ e2 o2 r2 h2 => h2 _ G2 ι2 H2 Ext.refl o2 (.cons (Rv.up e2.toXt r1) r2)⟩⟩⟩
theorem dtup {es : List Expr} {m : MA} {x1 : Nat} (h : DA X W es m) : DE X W (.Tuple es x1 pos) (Fm.eTup m) := ⟨PE.imp (pe_tup h.p) fun σ H Q ⟨G, ι, Γ, μ, o, h⟩ =>
  ⟨G, ι, Γ, μ, o, Af.bind h fun xs μ1 vs G1 ι1 H1 _ e1 o1 r1 h1 => by
    cases q : Fm.fits xs with
    | none =>
      rw [q] at h1
      exact False.elim h1
    | some ys =>
      rw [q] at h1
      obtain ⟨rfl, hz⟩ := fits_of q
      refine ⟨by rw [RvA.len r1]; exact big hz, fun p hp => ?_⟩
      obtain ⟨m', e'⟩ := o1.m.new (o := .tup vs) hp
      exact af_val o1 h1 e' m' (.tup upd_same (RvA.up e'.toXt r1))⟩⟩
theorem dlst {es : List Expr} {m : MA} (h : DA X W es m) : DF X W (.List es pos) (Fm.fLst m) := ⟨PE.imp (pe_lst h.p) fun σ H Q ⟨G, ι, Γ, μ, o, h⟩ =>
  ⟨G, ι, Γ, μ, o, Af.bind h fun xs μ1 vs G1 ι1 H1 _ e1 o1 r1 h1 => by
    cases q : Fm.fits xs with
    | none =>
      rw [q] at h1
      exact False.elim h1
    | some ys =>
      rw [q] at h1
      obtain ⟨rfl, hz⟩ := fits_of q
      refine ⟨by rw [RvA.len r1]; exact big hz, fun p hp => ?_⟩
      obtain ⟨e', m', f'⟩ := o1.m.fsh (p := p) hp r1
      exact af_new o1 h1 e' m' f'⟩⟩
/-- a new thing is frozen; u0: as it stands in the heap -/
theorem Ms.frz {K : PySem.W.Frag} {mg : Str → Option Value} {G0 H0 G H : Hp} {ι0 ι : Im} {μ : Mem} (m : Ms K mg G ι H μ) {p : Addr} {u : HO} (z : H0 p = none) (g : G p = none) (n : ∀ j, ι j ≠ some p) (hp : H p = some u ∨ ∃ kvs od, u = .dK kvs ∧ H p = some (.frz od u)) (x : Ext G0 ι0 H0 G ι H) :
    Ms K mg (upd G p u) ι H μ ∧ Xt G ι (upd G p u) ι ∧ Ext G0 ι0 H0 (upd G p u) ι H := by
  have e : Xt G ι (upd G p u) ι := ⟨same_upd g, fun _ _ q => q⟩
  refine ⟨⟨fun b o q => ?_, fun i o' q => ?_, m.dom, m.inj⟩, e, ⟨x.g.trans e.g, x.i⟩, fun a o q g0 n0 => ?_, x.t⟩
  · by_cases hb : b = p
    · subst hb
      rw [upd_same] at q
      cases q
      exact hp
    · rw [upd_ne hb] at q
      exact m.s b o q
  · obtain ⟨a, r1, r2, r3⟩ := m.at_ i o' q
    have ha : a ≠ p := fun z => by subst z; exact n i r1
    exact ⟨a, r1, by rw [upd_ne ha]; exact r2, r3.up e rfl fun _ z => z⟩
  · obtain ⟨r1, r2, r3⟩ := x.f a o q g0 n0
    exact ⟨r1, by rw [upd_ne (ne_of_none q z)]; exact r2, r3⟩
theorem frz_to {m : MF} : ∀ σ H Q, tE X.K X.mg W (Fm.eFrz m) σ H Q → tF X.K X.mg W m σ H Q := fun σ H Q ⟨G, ι, Γ, μ, o, h⟩ =>
  ⟨G, ι, Γ, μ, o, Af.bind0 h fun x μ1 v G1 ι1 H1 _ e1 o1 r1 h1 => by
    obtain ⟨p, rfl, f⟩ := r1
    cases x with
    | lst xs =>
      obtain ⟨vs, q, r⟩ := f.r
      obtain ⟨m', e', x'⟩ := o1.m.frz f.z f.g f.n (.inl q) e1
      exact h1 _ _ ι1 H1 x' (o1.step e' m') (.lst upd_same (r.up e'))
    | dk l kvs =>
      obtain ⟨vs, q, r⟩ := f.r
      have hl : (kvs.map (·.1)).length = vs.length := by rw [r.len]; simp
      have q' : H1 p = some (.dK ((kvs.map (·.1)).zip vs)) ∨ ∃ es od, HO.dK ((kvs.map (·.1)).zip vs) = .dK es ∧ H1 p = some (.frz od (.dK ((kvs.map (·.1)).zip vs))) := by
        cases l with
        | true =>
          obtain ⟨od, q⟩ := (show ∃ od, H1 p = _ from q)
          exact .inr ⟨_, od, rfl, q⟩
        | false => exact .inl q
      obtain ⟨m', e', x'⟩ := o1.m.frz f.z f.g f.n q' e1
      exact h1 _ _ ι1 H1 x' (o1.step e' m') (.dct upd_same hl (r.up e'))
    | dt l kvs => exact False.elim h1
    | ins c fs => exact False.elim h1⟩
theorem dl {m : MF} (h : DF X W a m) : DE X W a (Fm.eFrz m) := ⟨PE.imp h.p frz_to⟩
/-- a new thing is kept in the memory -/
theorem new_to {m : MF} : ∀ σ H Q, tE X.K X.mg W (Fm.eNew m) σ H Q → tF X.K X.mg W m σ H Q := fun σ H Q ⟨G, ι, Γ, μ, o, h⟩ =>
  ⟨G, ι, Γ, μ, o, Af.bind0 h fun x μ1 v G1 ι1 H1 _ e1 o1 r1 h1 => by
    obtain ⟨p, rfl, f⟩ := r1
    obtain ⟨m', e', q⟩ := o1.m.alloc f e1
    refine h1 _ _ _ H1 e' ⟨m', fun i x z => ?_, o1.ln⟩ (.ref q)
    obtain ⟨v, r1, r2⟩ := o1.at_ i x z
    refine ⟨v, r1, r2.up ⟨Same.refl _, fun j b w => ?_⟩⟩
    rw [putI_ne fun z => by have := (o1.m.dom j b w).1; omega]
    exact w⟩
theorem dnew {m : MF} (h : DF X W a m) : DE X W a (Fm.eNew m) := ⟨PE.imp h.p new_to⟩
theorem dtB (ha : DE X W a ma) (he : ∀ whole, isTrue a X.env whole = (do let v ← whole; standAt a.pos; holding [v] (truthy v)) := by intro _; rfl) : DT X W a (Fm.tB ma) := ⟨PT.imp (pt_val ha.p he) tB_to⟩
theorem dtand1 {m : MT} (h : DT X W a m) : DW X W (.BoolOp .And [a] pos) m := ⟨pw_and1 h.p⟩
theorem dtor1 {m : MT} (h : DT X W a m) : DW X W (.BoolOp .Or [a] pos) m := ⟨pw_or1 h.p⟩
theorem dtand {m n : MT} {rest : List Expr} (h : DT X W a m) (k : DW X W (.BoolOp .And (b :: rest) pos) n) : DW X W (.BoolOp .And (a :: b :: rest) pos) (Fm.tAnd m n) := ⟨PW.imp (pw_and h.p k.p) fun σ H Q ⟨G, ι, Γ, μ, o, h⟩ =>
  ⟨G, ι, Γ, μ, o, Af.bind h fun x μ1 v G1 ι1 H1 _ e1 o1 r1 h1 => by
    cases (show v = x from r1)
    cases x with
    | true =>
      rw [if_pos rfl]
      exact ⟨G1, ι1, Γ, μ1, o1, h1⟩
    | false =>
      rw [if_neg Bool.false_ne_true]
      exact h1 _ G1 ι1 H1 Ext.refl o1 rfl⟩⟩
theorem dtor {m n : MT} {rest : List Expr} (h : DT X W a m) (k : DW X W (.BoolOp .Or (b :: rest) pos) n) : DW X W (.BoolOp .Or (a :: b :: rest) pos) (Fm.tOr m n) := ⟨PW.imp (pw_or h.p k.p) fun σ H Q ⟨G, ι, Γ, μ, o, h⟩ =>
  ⟨G, ι, Γ, μ, o, Af.bind h fun x μ1 v G1 ι1 H1 _ e1 o1 r1 h1 => by
    cases (show v = x from r1)
    cases x with
    | false =>
      rw [if_neg Bool.false_ne_true]
      exact ⟨G1, ι1, Γ, μ1, o1, h1⟩
    | true =>
      rw [if_pos rfl]
      exact h1 _ G1 ι1 H1 Ext.refl o1 rfl⟩⟩
theorem dtw {m : MT} (h : DW X W a m) : DT X W a m := ⟨h.p.pt⟩
theorem dtnot {m : MT} (h : DT X W a m) : DT X W (.UnaryOp .Not a pos) (Fm.tNot m) := ⟨PT.imp (pt_not h.p) fun σ H Q ⟨G, ι, Γ, μ, o, h⟩ =>
  ⟨G, ι, Γ, μ, o, Af.bind h fun x μ1 v G1 ι1 H1 _ e1 o1 r1 h1 => by
    cases (show v = x from r1)
    exact h1 _ G1 ι1 H1 Ext.refl o1 rfl⟩⟩
theorem don : DO X W none Fm.oNo := ⟨PO.imp po_none fun σ H Q ⟨G, ι, Γ, μ, o, h⟩ => h _ G ι H Ext.refl o rfl⟩
theorem dos (h : DE X W a ma) : DO X W (some a) (Fm.oIs ma) := ⟨PO.imp (po_some h.p) fun σ H Q ⟨G, ι, Γ, μ, o, h⟩ =>
  ⟨G, ι, Γ, μ, o, Af.bind h fun x μ1 v G1 ι1 H1 _ e1 o1 r1 h1 => by
    cases x with
    | int k => exact ⟨k, int_of r1, h1 _ G1 ι1 H1 Ext.refl o1 rfl⟩
    | _ => exact False.elim h1⟩⟩
end
end L3

set_option Elab.async false
set_option linter.all false
set_option maxRecDepth 100000
set_option maxHeartbeats 4000000
/-! NL2: operators and built-ins. -/
namespace L3
open PySem L2
open Fm (Vl MO Mem En Rs ME MF MA MT MG MS MI Out So Gd Ky)
section
variable {X : Cx} {K : PySem.W.Frag} {mg : Str → Option Value} {G H : Hp} {ι : Im} {μ : Mem}
theorem lstOf_of (m : Ms K mg G ι H μ) {v : V} {d : Vl} {xs : List Vl} (h : Rv K G ι v d) (e : Fm.lstOf μ d = some xs) : ∃ a vs, v = .ref a ∧ H a = some (.lst vs) ∧ RvA K G ι vs xs := by
  unfold Fm.lstOf at e
  split at e
  · cases e
    obtain ⟨a, vs, r1, r2, r3⟩ := lst_of h
    exact ⟨a, vs, r1, m.s.lst r2, r3⟩
  · split at e
    · cases e
      rename_i q
      obtain ⟨a, rfl, r⟩ := ref_of h
      obtain ⟨a', r1, _, vs, r2, r3⟩ := m.at_ _ _ q
      rw [r] at r1
      cases r1
      exact ⟨a, vs, rfl, r2, r3⟩
    · cases e
  · cases e
theorem seqOf_of (m : Ms K mg G ι H μ) {v : V} {d : Vl} {xs : List Vl} (h : Rv K G ι v d) (e : Fm.seqOf μ d = some xs) : ∃ a vs, v = .ref a ∧ (H a = some (.lst vs) ∨ H a = some (.tup vs)) ∧ RvA K G ι vs xs := by
  unfold Fm.seqOf at e
  split at e
  · cases e
    obtain ⟨a, vs, r1, r2, r3⟩ := tup_of h
    exact ⟨a, vs, r1, .inr (m.s.tup r2), r3⟩
  · obtain ⟨a, vs, r1, r2, r3⟩ := lstOf_of m h e
    exact ⟨a, vs, r1, .inl r2, r3⟩
section
variable {Q : VK}
theorem keep (m : Ms K mg G ι H μ) {v : V} {d : Vl} (r : Rv K G ι v d) (q : ∀ v G' H', Ext G ι H G' ι H' → Ms K mg G' ι H' μ → Rv K G' ι v d → Q v H') : Q v H := q v G H Ext.refl m r
theorem newT (m : Ms K mg G ι H μ) {vs : List V} {ds : List Vl} (r : RvA K G ι vs ds) (q : ∀ v G' H', Ext G ι H G' ι H' → Ms K mg G' ι H' μ → Rv K G' ι v (.tup ds) → Q v H') : ∀ p, H p = none → Q (.ref p) (upd H p (.tup vs)) := fun p hp => by
  obtain ⟨m', e'⟩ := m.new (o := .tup vs) hp
  exact q _ _ _ e' m' (.tup upd_same (r.up e'.toXt))
theorem newL (m : Ms K mg G ι H μ) {vs : List V} {ds : List Vl} (r : RvA K G ι vs ds) (q : ∀ v G' H', Ext G ι H G' ι H' → Ms K mg G' ι H' μ → Rv K G' ι v (.lst ds) → Q v H') : ∀ p, H p = none → Q (.ref p) (upd H p (.lst vs)) := fun p hp => by
  obtain ⟨m', e'⟩ := m.new (o := .lst vs) hp
  exact q _ _ _ e' m' (.lst upd_same (r.up e'.toXt))
theorem newF (m : Ms K mg G ι H μ) {vs : List V} {ds : List Vl} (r : RvA K G ι vs ds) (q : ∀ p H', Ext G ι H G ι H' → Ms K mg G ι H' μ → Fsh K mg H G ι H' p (.lst ds) → Q (.ref p) H') : ∀ p, H p = none → Q (.ref p) (upd H p (.lst vs)) := fun p hp => by
  obtain ⟨e', m', f'⟩ := m.fsh (p := p) hp r
  exact q _ _ e' m' f'
end
/-! ### + -/
def rStrAdd : R2 := fun x y H Q => ∃ i j, x = .str i ∧ y = .str j ∧ i.length + j.length ≤ sizeLine ∧ Q (.str (i ++ j)) H
def rAdd4 (K : PySem.W.Frag) : R2 := fun x y H Q => (rI0 (fun i j => V.int (i + j))) x y H Q ∨ (rCat x y H Q ∨ (rCatA K x y H Q ∨ rStrAdd x y H Q))
theorem o_add : DOp X (binaryOp .Add) Fm.gAdd := by
  refine ⟨rAdd4 X.K, op_add.or (op_cat.or (op_catA.or op_add_str)), ?_⟩
  intro x y G H ι μ dx dy dz Q m hx hy e q
  unfold Fm.gAdd at e
  split at e
  · cases e
    exact .inl ⟨_, _, int_of hx, int_of hy, keep m (.int _) q⟩
  · split at e
    · cases e
      rename_i a b _ hz
      obtain ⟨p, xs, rfl, hp, ap⟩ := tup_of hx
      obtain ⟨r, ys, rfl, hr, ar⟩ := tup_of hy
      refine .inr (.inr (.inl ⟨p, r, xs, ys, rfl, rfl, SqT.of (m.s.tup hp), SqT.of (m.s.tup hr), by rw [ap.len, ar.len]; exact big hz, fun e0 => ?_, fun _ e0 => ?_, fun _ _ => newT m (ap.append ar) q⟩))
      · subst e0
        cases ap
        exact keep m hy q
      · subst e0
        cases ar
        rw [List.append_nil] at q
        exact keep m hx q
    · cases e
  · split at e
    · cases e
      rename_i a b _ hz
      exact .inr (.inr (.inr ⟨_, _, str_of hx, str_of hy, big hz, keep m (.str _) q⟩))
    · cases e
  · split at e
    · split at e
      · cases e
        rename_i e1 e2 hz
        obtain ⟨p, xs, rfl, hp, ap⟩ := lstOf_of m hx e1
        obtain ⟨r, ys, rfl, hr, ar⟩ := lstOf_of m hy e2
        exact .inr (.inl ⟨p, r, xs, ys, rfl, rfl, hp, hr, by rw [ap.len, ar.len]; exact big hz, newL m (ap.append ar) q⟩)
      · cases e
    · cases e
theorem o_cat : DOpF X (binaryOp .Add) Fm.gCat := by
  refine ⟨rCat, op_cat, ?_⟩
  intro x y G H ι μ dx dy dz Q m hx hy e q
  unfold Fm.gCat at e
  split at e
  · split at e
    · cases e
      rename_i e1 e2 hz
      obtain ⟨p, xs, rfl, hp, ap⟩ := lstOf_of m hx e1
      obtain ⟨r, ys, rfl, hr, ar⟩ := lstOf_of m hy e2
      exact ⟨p, r, xs, ys, rfl, rfl, hp, hr, by rw [ap.len, ar.len]; exact big hz, newF m (ap.append ar) q⟩
    · cases e
  · cases e
theorem gI_of {f : Int → Int → Option Vl} {dx dy dz : Vl} (e : Fm.gI f dx dy μ = some dz) : ∃ a b, dx = .int a ∧ dy = .int b ∧ f a b = some dz := by
  unfold Fm.gI at e
  split at e
  · exact ⟨_, _, rfl, rfl, e⟩
  · cases e
theorem o_sub : DOp X (binaryOp .Sub) Fm.gSub := by
  refine ⟨rI0 fun i j => V.int (i - j), op_sub, ?_⟩
  intro x y G H ι μ dx dy dz Q m hx hy e q
  obtain ⟨a, b, rfl, rfl, e⟩ := gI_of e
  cases e
  exact ⟨_, _, int_of hx, int_of hy, keep m (.int _) q⟩
theorem ite_some {p : Prop} [Decidable p] {α : Type} {a b : α} (e : (if p then some a else none) = some b) : p ∧ a = b := by
  split at e
  · cases e
    exact ⟨by assumption, rfl⟩
  · cases e
theorem o_mul : DOp X (binaryOp .Mult) Fm.gMul := by
  refine ⟨rI CMul fun i j => V.int (i * j), op_mul, ?_⟩
  intro x y G H ι μ dx dy dz Q m hx hy e q
  obtain ⟨a, b, rfl, rfl, e⟩ := gI_of e
  obtain ⟨hc, rfl⟩ := ite_some e
  exact ⟨_, _, int_of hx, int_of hy, hc, keep m (.int _) q⟩
theorem log_small {a b : Int} (h0 : 0 < b) (h : b < 10 ^ 100) : CDivW a b := by
  refine wide_div (b := 400) h0 ?_ (by decide) (by decide)
  have e : (10 : Int) ^ 100 < 2 ^ 400 := by decide
  have e2 : (b.natAbs : Int) = b := Int.natAbs_of_nonneg (Int.le_of_lt h0)
  have e3 : (b.natAbs : Int) < ((2 ^ 400 : Nat) : Int) := by
    rw [e2, Int.natCast_pow]
    exact Int.lt_trans h e
  exact Int.ofNat_lt.mp e3
theorem o_div : DOp X (binaryOp .FloorDiv) Fm.gDiv := by
  refine ⟨rI CDivW fun i j => V.int (i / j), op_fdivW, ?_⟩
  intro x y G H ι μ dx dy dz Q m hx hy e q
  obtain ⟨a, b, rfl, rfl, e⟩ := gI_of e
  obtain ⟨hc, rfl⟩ := ite_some e
  exact ⟨_, _, int_of hx, int_of hy, log_small hc.1 hc.2, keep m (.int _) q⟩
theorem o_mod : DOp X (binaryOp .Mod) Fm.gMod := by
  refine ⟨rI (fun _ j => 0 < j) fun i j => V.int (i % j), op_mod, ?_⟩
  intro x y G H ι μ dx dy dz Q m hx hy e q
  obtain ⟨a, b, rfl, rfl, e⟩ := gI_of e
  obtain ⟨hc, rfl⟩ := ite_some e
  exact ⟨_, _, int_of hx, int_of hy, hc, keep m (.int _) q⟩
theorem o_pow : DOp X (binaryOp .Pow) Fm.gPow := by
  refine ⟨rI CPow fun i j => V.int (i ^ j.toNat), op_pow, ?_⟩
  intro x y G H ι μ dx dy dz Q m hx hy e q
  obtain ⟨a, b, rfl, rfl, e⟩ := gI_of e
  obtain ⟨⟨h1, h2, h3, h4⟩, rfl⟩ := ite_some e
  exact ⟨_, _, int_of hx, int_of hy, ⟨h1, by omega, by omega⟩, keep m (.int _) q⟩
theorem ev_cmp {p : Int → Int → Bool} : OpD K mg (rI0 fun i j => V.bl (p i j)) (Fm.gI fun a b => some (.bl (p a b))) := by
  intro x y G H ι μ dx dy dz Q m hx hy e q
  obtain ⟨a, b, rfl, rfl, e⟩ := gI_of e
  cases e
  exact ⟨_, _, int_of hx, int_of hy, keep m (.bl _) q⟩
theorem o_lt : DOp X (compareOp .Lt) Fm.gLt := ⟨_, op_lt, ev_cmp⟩
theorem o_le : DOp X (compareOp .LtE) Fm.gLe := ⟨_, op_le, ev_cmp⟩
theorem o_gt : DOp X (compareOp .Gt) Fm.gGt := ⟨_, op_gt, ev_cmp⟩
theorem o_ge : DOp X (compareOp .GtE) Fm.gGe := ⟨_, op_ge, ev_cmp⟩
theorem mapO_dp (m : Ms K mg G ι H μ) {n : Nat} (ih : ∀ (v : V) (d : Vl) (x : PyData), Rv K G ι v d → Fm.pyV n μ d = some x → Dp K H v x) : ∀ {vs : List V} {ds : List Vl} {xs : List PyData}, RvA K G ι vs ds → Fm.mapO (Fm.pyV n μ) ds = some xs → DpAll K H vs xs
  | _, _, _, .nil, e => by cases e; exact .nil
  | _, _, _, .cons h a, e => by
    obtain ⟨y, e1, e2⟩ := bnd e
    obtain ⟨ys, e3, e4⟩ := bnd e2
    cases e4
    exact .cons (ih _ _ _ h e1) (mapO_dp m ih a e3)
theorem pyV_dp (m : Ms K mg G ι H μ) : ∀ (n : Nat) (v : V) (d : Vl) (x : PyData), Rv K G ι v d → Fm.pyV n μ d = some x → Dp K H v x
  | 0, _, _, _, _, e => by cases e
  | n + 1, v, d, x, h, e => by
    unfold Fm.pyV at e
    cases h with
    | non => cases e; exact .non
    | bl b => cases e; exact .bl b
    | int i => cases e; exact .int i
    | str s => cases e; exact .str s
    | lst h a =>
      obtain ⟨ys, e1, e2⟩ := bnd e
      cases e2
      exact .lst (SqL.of (m.s.lst h)) (mapO_dp m (pyV_dp m n) a e1)
    | tup h a =>
      obtain ⟨ys, e1, e2⟩ := bnd e
      cases e2
      exact .tup (SqT.of (m.s.tup h)) (mapO_dp m (pyV_dp m n) a e1)
    | dct h l a => cases e
    | scr h => cases e
    | ref h =>
      simp only at e
      split at e
      · rename_i q
        obtain ⟨ys, e1, e2⟩ := bnd e
        cases e2
        obtain ⟨a', r1, _, vs, r2, r3⟩ := m.at_ _ _ q
        rw [h] at r1
        cases r1
        exact .lst (SqL.of r2) (mapO_dp m (pyV_dp m n) r3 e1)
      · cases e
theorem gEqB_of {f : Bool → Bool} {dx dy dz : Vl} (e : Fm.gEqB f dx dy μ = some dz) : ∃ x y, Fm.pyV Fm.depthP μ dx = some x ∧ Fm.pyV Fm.depthP μ dy = some y ∧ SeqAt.shaped x = true ∧ SeqAt.shaped y = true ∧ dz = .bl (f (PyData.eqv x y)) := by
  unfold Fm.gEqB at e
  split at e
  · obtain ⟨hc, rfl⟩ := ite_some e
    exact ⟨_, _, by assumption, by assumption, hc.1, hc.2, rfl⟩
  · cases e
theorem o_eq (hu : X.A.units + 64 < cLine) : DOp X (compareOp .Eq) Fm.gEq := by
  refine ⟨rEqD X.K, op_eqD hu, ?_⟩
  intro x y G H ι μ dx dy dz Q m hx hy e q
  obtain ⟨a, b, e1, e2, h1, h2, rfl⟩ := gEqB_of e
  exact ⟨a, b, pyV_dp m _ _ _ _ hx e1, pyV_dp m _ _ _ _ hy e2, h1, h2, keep m (.bl _) q⟩
theorem o_ne (hu : X.A.units + 64 < cLine) : DOp X (compareOp .NotEq) Fm.gNe := by
  refine ⟨rNeD X.K, op_neD hu, ?_⟩
  intro x y G H ι μ dx dy dz Q m hx hy e q
  obtain ⟨a, b, e1, e2, h1, h2, rfl⟩ := gEqB_of e
  exact ⟨a, b, pyV_dp m _ _ _ _ hx e1, pyV_dp m _ _ _ _ hy e2, h1, h2, keep m (.bl _) q⟩
theorem non_dec {v : V} {d : Vl} (h : Rv K G ι v d) : decide (v = .non) = Fm.isNon d := by
  cases h <;> rfl
def rIsN : R2 := fun x y H Q => y = .non ∧ Q (.bl (decide (x = .non))) H
def rNotN : R2 := fun x y H Q => y = .non ∧ Q (.bl (!decide (x = .non))) H
theorem o_isN : DOp X (compareOp .Is) Fm.gIsN := by
  refine ⟨rIsN, op_isN, ?_⟩
  intro x y G H ι μ dx dy dz Q m hx hy e q
  unfold Fm.gIsN at e
  split at e
  · cases e
    refine ⟨non_of hy, ?_⟩
    rw [non_dec hx]
    exact keep m (.bl _) q
  · cases e
theorem o_isnN : DOp X (compareOp .IsNot) Fm.gIsnN := by
  refine ⟨rNotN, op_notN, ?_⟩
  intro x y G H ι μ dx dy dz Q m hx hy e q
  unfold Fm.gIsnN at e
  split at e
  · cases e
    refine ⟨non_of hy, ?_⟩
    rw [non_dec hx]
    exact keep m (.bl _) q
  · cases e
/-! ### in -/
theorem flatP_of {v : V} {d : Vl} {x : PyData} (h : Rv K G ι v d) (f : Fm.flatP d = some x) : flatV v = true := by
  cases h <;> first | rfl | cases f
theorem flats_of : ∀ {vs : List V} {ds : List Vl} {xs : List PyData}, RvA K G ι vs ds → Fm.mapO Fm.flatP ds = some xs → vs.all flatV = true
  | _, _, _, .nil, _ => rfl
  | _, _, _, .cons h a, f => by
    obtain ⟨y, e1, e2⟩ := bnd f
    obtain ⟨ys, e3, e4⟩ := bnd e2
    rw [List.all_cons, flatP_of h e1, flats_of a e3]
    rfl
theorem eqV_of {v u : V} {d e : Vl} {x y : PyData} (h : Rv K G ι v d) (k : Rv K G ι u e) (f : Fm.flatP d = some x) (g : Fm.flatP e = some y) : eqV v u = PyData.eqv x y := by
  cases h <;> first
    | (cases f; done)
    | (cases f; cases k <;> first
        | (cases g; done)
        | (cases g; simp only [eqV, PyData.eqv]))
theorem inV_of {u : V} {e : Vl} {y : PyData} (k : Rv K G ι u e) (g : Fm.flatP e = some y) : ∀ {vs : List V} {ds : List Vl} {xs : List PyData}, RvA K G ι vs ds → Fm.mapO Fm.flatP ds = some xs → inV u vs = xs.any (fun z => PyData.eqv z y)
  | _, _, _, .nil, f => by cases f; rfl
  | _, _, _, .cons h a, f => by
    obtain ⟨x, e1, e2⟩ := bnd f
    obtain ⟨ys, e3, e4⟩ := bnd e2
    cases e4
    unfold inV
    rw [List.any_cons, List.any_cons, eqV_of h k e1 g]
    have ih := inV_of k g a e3
    unfold inV at ih
    rw [ih]
theorem ev_in {neg : Bool} : OpD K mg (rIn K neg) (Fm.gIn neg) := by
  intro x y G H ι μ dx dy dz Q m hx hy e q
  unfold Fm.gIn at e
  split at e
  · rename_i ys e1
    split at e
    · rename_i e2 e3
      cases e
      obtain ⟨a, vs, rfl, r, av⟩ := seqOf_of m hy e1
      refine ⟨a, vs, rfl, r.elim (fun z => .inl (SqL.of z)) (fun z => .inr (SqT.of z)), flatP_of hx e2, flats_of av e3, ?_⟩
      rw [inV_of hx e2 av e3]
      exact keep m (.bl _) q
    · cases e
  · cases e
theorem o_in : DOp X (compareOp .In) (Fm.gIn false) := ⟨_, op_in_seq, ev_in⟩
theorem o_nin : DOp X (compareOp .NotIn) (Fm.gIn true) := ⟨_, op_notIn_seq, ev_in⟩
/-! ### items and slices -/
theorem ixN_eq (n : Nat) (i : Int) : Fm.ixN n i = L2.ixN n i := rfl
theorem atI_of {vs : List V} {ds : List Vl} {k : Int} {d : Vl} (h : RvA K G ι vs ds) (e : Fm.atI ds k = some d) : ∃ v, L2.atI vs k = some v ∧ Rv K G ι v d := by
  obtain ⟨j, e1, e2⟩ := bnd e
  obtain ⟨v, h1, h2⟩ := h.get e2
  refine ⟨v, ?_, h2⟩
  unfold L2.atI
  rw [h.len, ← ixN_eq, e1]
  exact h1
def rIx2 (K : PySem.W.Frag) : R2 := fun x y H Q => rIxL K x y H Q ∨ rIxT K x y H Q
theorem ev_ix : OpD K mg (rIx2 K) Fm.gIx := by
  intro x y G H ι μ dx dy dz Q m hx hy e q
  obtain ⟨xs, e1, e2⟩ := bnd e
  obtain ⟨k, e3, e4⟩ := bnd e2
  have e5 := getI_of e3
  subst e5
  obtain ⟨a, vs, rfl, r, av⟩ := seqOf_of m hx e1
  obtain ⟨v, h1, h2⟩ := atI_of av e4
  rcases r with r | r
  · exact .inl ⟨a, vs, k, v, rfl, int_of hy, SqL.of r, h1, keep m h2 q⟩
  · exact .inr ⟨a, vs, k, v, rfl, int_of hy, SqT.of r, h1, keep m h2 q⟩
theorem dix {W : WX} {pos : Pos} {a b : Expr} {ma mb : ME} (ha : DE X W a ma) (hb : DE X W b mb) (hs : PlainIx b := by intro _ _; rfl) : DE X W (.Subscript a b pos) (Fm.eOp Fm.gIx ma mb) := ⟨PE.imp (pe_ix (ix_list.or ix_tup) ha.p hb.p hs) (op_to ev_ix)⟩
/-! ### slices -/
theorem cut_eq {xs : List V} {lo hi : Option Int} : cutV xs lo hi = Fm.cut xs lo hi := rfl
theorem RvA.cut {vs : List V} {ds : List Vl} (h : RvA K G ι vs ds) (lo hi : Option Int) : RvA K G ι (Fm.cut vs lo hi) (Fm.cut ds lo hi) := by
  unfold Fm.cut
  rw [h.len]
  exact (h.drop _).take _
def SlD (K : PySem.W.Frag) (mg : Str → Option Value) (r : V → Option Int → Option Int → Hp → VK → Prop) (g : Vl → Option Int → Option Int → Mem → Option Vl) : Prop := ∀ (x : V) (lo hi : Option Int) (G H : Hp) (ι : Im) (μ : Mem) (dx dz : Vl) (Q : VK), Ms K mg G ι H μ → Rv K G ι x dx → g dx lo hi μ = some dz →
  (∀ v G' H', Ext G ι H G' ι H' → Ms K mg G' ι H' μ → Rv K G' ι v dz → Q v H') → r x lo hi H Q
def SlF (K : PySem.W.Frag) (mg : Str → Option Value) (r : V → Option Int → Option Int → Hp → VK → Prop) (g : Vl → Option Int → Option Int → Mem → Option MO) : Prop := ∀ (x : V) (lo hi : Option Int) (G H : Hp) (ι : Im) (μ : Mem) (dx : Vl) (dz : MO) (Q : VK), Ms K mg G ι H μ → Rv K G ι x dx → g dx lo hi μ = some dz →
  (∀ p H', Ext G ι H G ι H' → Ms K mg G ι H' μ → Fsh K mg H G ι H' p dz → Q (.ref p) H') → r x lo hi H Q
theorem ev_slT : SlD K mg (rSlA K) Fm.slT := by
  intro x lo hi G H ι μ dx dz Q m hx e q
  unfold Fm.slT at e
  split at e
  · cases e
    obtain ⟨a, vs, rfl, r2, r3⟩ := tup_of hx
    refine ⟨a, vs, rfl, SqT.of (m.s.tup r2), fun hw => ?_, fun _ => newT m (r3.cut lo hi) q⟩
    have e1 : Fm.cut vs lo hi = vs := by
      unfold Fm.cut
      have h1 : Fm.sIx vs.length 0 lo = 0 := hw.1
      have h2 : Fm.sIx vs.length vs.length hi = vs.length := hw.2
      rw [h1, h2]
      simp
    have r4 := r3.cut lo hi
    rw [e1] at r4
    exact keep m (.tup r2 r4) q
  · cases e
theorem ev_slL : SlF K mg (rSlL K) Fm.slL := by
  intro x lo hi G H ι μ dx dz Q m hx e q
  obtain ⟨xs, e1, e2⟩ := bnd e
  cases e2
  obtain ⟨a, vs, rfl, r2, r3⟩ := lstOf_of m hx e1
  exact ⟨a, vs, rfl, SqL.of r2, newF m (r3.cut lo hi) q⟩
section
variable {W : WX} {pos p2 : Pos} {a : Expr} {ma : ME} {lo hi : Option Expr} {ml mh : En → Mem → Rs (Option Int)}
theorem dslT (ha : DE X W a ma) (hl : DO X W lo ml) (hh : DO X W hi mh) : DE X W (.Subscript a (.Slice lo hi none p2) pos) (Fm.eSl Fm.slT ma ml mh) := ⟨PE.imp (pe_slice sl_tupA ha.p hl.p hh.p) fun σ H Q ⟨G, ι, Γ, μ, o, h⟩ =>
  ⟨G, ι, Γ, μ, o, Af.bind h fun x μ1 v G1 ι1 H1 _ e1 o1 r1 h1 => ⟨G1, ι1, Γ, μ1, o1, Af.bind h1 fun y μ2 u G2 ι2 H2 _ e2 o2 r2 h2 => ⟨G2, ι2, Γ, μ2, o2, Af.bind h2 fun z μ3 t G3 ι3 H3 _ e3 o3 r3 h3 => by
    cases (show u = y from r2)
    cases (show t = z from r3)
    obtain ⟨w, e, h4⟩ := Af.of h3
    exact ev_slT v y z G3 H3 ι3 μ3 x w Q o3.m (Rv.up e3.toXt (Rv.up e2.toXt r1)) e fun v' G' H' e' m' r' => af_val o3 h4 e' m' r'⟩⟩⟩⟩
theorem dslL (ha : DE X W a ma) (hl : DO X W lo ml) (hh : DO X W hi mh) : DF X W (.Subscript a (.Slice lo hi none p2) pos) (Fm.fSl Fm.slL ma ml mh) := ⟨PE.imp (pe_slice sl_list ha.p hl.p hh.p) fun σ H Q ⟨G, ι, Γ, μ, o, h⟩ =>
  ⟨G, ι, Γ, μ, o, Af.bind h fun x μ1 v G1 ι1 H1 _ e1 o1 r1 h1 => ⟨G1, ι1, Γ, μ1, o1, Af.bind h1 fun y μ2 u G2 ι2 H2 _ e2 o2 r2 h2 => ⟨G2, ι2, Γ, μ2, o2, Af.bind h2 fun z μ3 t G3 ι3 H3 _ e3 o3 r3 h3 => by
    cases (show u = y from r2)
    cases (show t = z from r3)
    obtain ⟨w, e, h4⟩ := Af.of h3
    exact ev_slL v y z G3 H3 ι3 μ3 x w Q o3.m (Rv.up e3.toXt (Rv.up e2.toXt r1)) e fun p H' e' m' r' => af_new o3 h4 e' m' r'⟩⟩⟩⟩
end
/-! ### built-ins -/
theorem one_of {vs : List V} {d : Vl} (h : RvA K G ι vs [d]) : ∃ v, vs = [v] ∧ Rv K G ι v d := by
  cases h with
  | cons h1 h2 =>
    cases h2
    exact ⟨_, rfl, h1⟩
theorem two_of {vs : List V} {d e : Vl} (h : RvA K G ι vs [d, e]) : ∃ v u, vs = [v, u] ∧ Rv K G ι v d ∧ Rv K G ι u e := by
  cases h with
  | cons h1 h2 =>
    obtain ⟨u, rfl, h3⟩ := one_of h2
    exact ⟨_, u, rfl, h1, h3⟩
def rLen3 (K : PySem.W.Frag) : List V → Hp → VK → Prop := fun xs H Q => ∃ x n, xs = [x] ∧ LenV K x H n ∧ Q (.int (n : Nat)) H
theorem ca_len : CaD K mg (rLen3 K) Fm.bLen := by
  intro vs G H ι μ ds dz Q m hv e q
  unfold Fm.bLen at e
  split at e
  · obtain ⟨hz, rfl⟩ := ite_some e
    obtain ⟨v, rfl, h1⟩ := one_of hv
    have h3 := str_of h1
    subst h3
    exact ⟨_, _, rfl, ⟨big hz, rfl⟩, keep m (.int _) q⟩
  · cases e
    obtain ⟨v, rfl, h1⟩ := one_of hv
    obtain ⟨a, rfl, h2⟩ := scr_of h1
    refine ⟨_, _, rfl, .inl ⟨_, m.s.sql h2, rfl⟩, ?_⟩
    rw [List.length_map]
    exact keep m (.int _) q
  · obtain ⟨xs, e1, e2⟩ := bnd e
    cases e2
    obtain ⟨v, rfl, h1⟩ := one_of hv
    obtain ⟨a, us, rfl, r2, r3⟩ := seqOf_of m h1 e1
    refine ⟨_, us.length, rfl, ?_, ?_⟩
    · rcases r2 with r2 | r2
      · exact .inl ⟨us, SqL.of r2, rfl⟩
      · exact .inr ⟨us, SqT.of r2, rfl⟩
    · rw [r3.len]
      exact keep m (.int _) q
  · cases e
theorem bools_of : ∀ {ds : List Vl} {bs : List Bool} {vs : List V}, RvA K G ι vs ds → Fm.bools ds = some bs → vs = bs.map V.bl
  | [], _, _, .nil, e => by cases e; rfl
  | _ :: ds, bs, _, .cons h a, e => by
    obtain ⟨y, e1, e2⟩ := bnd e
    obtain ⟨ys, e3, e4⟩ := bnd e2
    cases e4
    have e5 := getB_of e1
    subst e5
    rw [bl_of h, bools_of a e3]
    rfl
theorem ints_of : ∀ {ds : List Vl} {bs : List Int} {vs : List V}, RvA K G ι vs ds → Fm.intsOf ds = some bs → vs = bs.map V.int
  | [], _, _, .nil, e => by cases e; rfl
  | _ :: ds, bs, _, .cons h a, e => by
    obtain ⟨y, e1, e2⟩ := bnd e
    obtain ⟨ys, e3, e4⟩ := bnd e2
    cases e4
    have e5 := getI_of e1
    subst e5
    rw [int_of h, ints_of a e3]
    rfl
theorem ca_all : CaD K mg (rAll K) Fm.bAll := by
  intro vs G H ι μ ds dz Q m hv e q
  unfold Fm.bAll at e
  split at e
  · obtain ⟨xs, e1, e2⟩ := bnd e
    obtain ⟨bs, e3, e4⟩ := bnd e2
    cases e4
    obtain ⟨v, rfl, h1⟩ := one_of hv
    obtain ⟨a, us, rfl, r2, r3⟩ := lstOf_of m h1 e1
    have e5 := bools_of r3 e3
    subst e5
    exact ⟨a, bs, rfl, SqL.of r2, keep m (.bl _) q⟩
  · cases e
theorem ca_sum : CaD K mg (rSum K) Fm.bSum := by
  intro vs G H ι μ ds dz Q m hv e q
  unfold Fm.bSum at e
  split at e
  · obtain ⟨xs, e1, e2⟩ := bnd e
    obtain ⟨bs, e3, e4⟩ := bnd e2
    cases e4
    obtain ⟨v, rfl, h1⟩ := one_of hv
    obtain ⟨a, us, rfl, r2, r3⟩ := lstOf_of m h1 e1
    have e5 := ints_of r3 e3
    subst e5
    exact ⟨a, bs, rfl, SqL.of r2, keep m (.int _) q⟩
  · cases e
def rMax3 : List V → Hp → VK → Prop := fun xs H Q => ∃ i j, xs = [.int i, .int j] ∧ Q (.int (if j > i then j else i)) H
theorem ca_max2 : CaD K mg rMax3 Fm.bMax2 := by
  intro vs G H ι μ ds dz Q m hv e q
  unfold Fm.bMax2 at e
  split at e
  · cases e
    obtain ⟨v, u, rfl, h1, h2⟩ := two_of hv
    rw [int_of h1, int_of h2]
    exact ⟨_, _, rfl, keep m (.int _) q⟩
  · cases e
def rMin3 : List V → Hp → VK → Prop := fun xs H Q => ∃ i j, xs = [.int i, .int j] ∧ Q (.int (if j < i then j else i)) H
theorem ca_min2 : CaD K mg rMin3 Fm.bMin2 := by
  intro vs G H ι μ ds dz Q m hv e q
  unfold Fm.bMin2 at e
  split at e
  · cases e
    obtain ⟨v, u, rfl, h1, h2⟩ := two_of hv
    rw [int_of h1, int_of h2]
    exact ⟨_, _, rfl, keep m (.int _) q⟩
  · cases e
theorem RvA.ivs {ns : List Int} : RvA K G ι (ns.map V.int) (ns.map Vl.int) := by
  induction ns with
  | nil => exact .nil
  | cons n r ih => exact .cons (.int n) ih
def rList3 (K : PySem.W.Frag) : List V → Hp → VK → Prop := fun xs H Q => ∃ p ys, xs = [.ref p] ∧ (SqL K H p ys ∨ SqT K H p ys) ∧ ∀ l, H l = none → Q (.ref l) (upd H l (.lst ys))
theorem ca_list : CaF K mg (rList3 K) Fm.bList := by
  intro vs G H ι μ ds dz Q m hv e q
  unfold Fm.bList at e
  split at e
  · cases e
    obtain ⟨v, rfl, h1⟩ := one_of hv
    obtain ⟨a, rfl, h2⟩ := scr_of h1
    exact ⟨a, _, rfl, .inl (m.s.sql h2), newF m RvA.ivs q⟩
  · obtain ⟨xs, e1, e2⟩ := bnd e
    cases e2
    obtain ⟨v, rfl, h1⟩ := one_of hv
    obtain ⟨a, us, rfl, r2, r3⟩ := seqOf_of m h1 e1
    exact ⟨a, us, rfl, r2.elim (fun z => .inl (SqL.of z)) (fun z => .inr (SqT.of z)), newF m r3 q⟩
  · cases e
def rTuple3 (K : PySem.W.Frag) : List V → Hp → VK → Prop := fun xs H Q => ∃ p ys, xs = [.ref p] ∧ ((SqL K H p ys ∧ ∀ l, H l = none → Q (.ref l) (upd H l (.tup ys))) ∨ (SqT K H p ys ∧ Q (.ref p) H))
theorem ca_tuple : CaD K mg (rTuple3 K) Fm.bTuple := by
  intro vs G H ι μ ds dz Q m hv e q
  unfold Fm.bTuple at e
  split at e
  · obtain ⟨xs, e1, e2⟩ := bnd e
    cases e2
    obtain ⟨v, rfl, h1⟩ := one_of hv
    unfold Fm.seqOf at e1
    split at e1
    · cases e1
      obtain ⟨a, us, rfl, r2, r3⟩ := tup_of h1
      exact ⟨a, us, rfl, .inr ⟨SqT.of (m.s.tup r2), keep m h1 q⟩⟩
    · obtain ⟨a, us, rfl, r2, r3⟩ := lstOf_of m h1 e1
      exact ⟨a, us, rfl, .inl ⟨SqL.of r2, newT m r3 q⟩⟩
  · cases e
/-- a built-in by its name -/
def Blt (X : Cx) (x : Str) (r : List V → Hp → VK → Prop) : Prop := ∀ {e : Expr} {es : List Expr} {t : TA} {p pos : Pos}, Gl X x → X.mg x = none → PA X (e :: es) t →
  starEach (e :: es) X.env = (false, eval e X.env) :: starEach es X.env → (backTo pos (starEach es X.env)).any (·.1) = false → PE X (.Call (.Name x p) (e :: es) [] pos) (tCB r t)
structure DB (X : Cx) (x : Str) (g : List Vl → Mem → Option Vl) : Prop where
  ex : ∃ r, Blt X x r ∧ CaD X.K X.mg r g
structure DBF (X : Cx) (x : Str) (g : List Vl → Mem → Option MO) : Prop where
  ex : ∃ r, Blt X x r ∧ CaF X.K X.mg r g
theorem db_len : DB X "len" Fm.bLen := ⟨_, fun hg hm ha he hp => pe_callB call_len hg hm boot_len ha (by decide) (by decide) he hp, ca_len⟩
theorem db_all (hc : X.calm = true) : DB X "all" Fm.bAll := ⟨_, fun hg hm ha he hp => pe_callB (cr_all hc) hg hm (by decide +kernel) ha (by decide) (by decide) he hp, ca_all⟩
theorem db_sum (hc : X.calm = true) : DB X "sum" Fm.bSum := ⟨_, fun hg hm ha he hp => pe_callB (cr_sum hc) hg hm (by decide +kernel) ha (by decide) (by decide) he hp, ca_sum⟩
theorem db_max2 (hc : X.calm = true) : DB X "max" Fm.bMax2 := ⟨_, fun hg hm ha he hp => pe_callB (call_max2 hc) hg hm (by decide +kernel) ha (by decide) (by decide) he hp, ca_max2⟩
theorem db_min2 (hc : X.calm = true) : DB X "min" Fm.bMin2 := ⟨_, fun hg hm ha he hp => pe_callB (call_min2 hc) hg hm (by decide +kernel) ha (by decide) (by decide) he hp, ca_min2⟩
theorem db_list : DBF X "list" Fm.bList := ⟨_, fun hg hm ha he hp => pe_callTy call_list_of hg hm (by decide +kernel) ha (by decide) (by decide) he hp, ca_list⟩
theorem db_tuple : DB X "tuple" Fm.bTuple := ⟨_, fun hg hm ha he hp => pe_callTy call_tuple_of hg hm (by decide +kernel) ha (by decide) (by decide) he hp, ca_tuple⟩
theorem dB {W : WX} {x : Str} {g : List Vl → Mem → Option Vl} {e : Expr} {es : List Expr} {m : MA} {p pos : Pos} (b : DB X x g) (hm : X.mg x = none) (ha : DA X W (e :: es) m) (hg : Gl X x := by rfl)
    (he : starEach (e :: es) X.env = (false, eval e X.env) :: starEach es X.env := by rfl) (hp : (backTo pos (starEach es X.env)).any (·.1) = false := by rfl) : DE X W (.Call (.Name x p) (e :: es) [] pos) (Fm.eB g m) := by
  obtain ⟨r, b1, b2⟩ := b.ex
  exact ⟨PE.imp (b1 hg hm ha.p he hp) fun σ H Q ⟨G, ι, Γ, μ, o, h⟩ => ⟨G, ι, Γ, μ, o, Af.bind h fun x μ1 v G1 ι1 H1 _ e1 o1 r1 h1 => by
    obtain ⟨z, e, h3⟩ := Af.of h1
    exact b2 v G1 H1 ι1 μ1 x z Q o1.m r1 e fun v' G' H' e' m' r' => af_val o1 h3 e' m' r'⟩⟩
theorem dBF {W : WX} {x : Str} {g : List Vl → Mem → Option MO} {e : Expr} {es : List Expr} {m : MA} {p pos : Pos} (b : DBF X x g) (hm : X.mg x = none) (ha : DA X W (e :: es) m) (hg : Gl X x := by rfl)
    (he : starEach (e :: es) X.env = (false, eval e X.env) :: starEach es X.env := by rfl) (hp : (backTo pos (starEach es X.env)).any (·.1) = false := by rfl) : DF X W (.Call (.Name x p) (e :: es) [] pos) (Fm.fB g m) := by
  obtain ⟨r, b1, b2⟩ := b.ex
  exact ⟨PE.imp (b1 hg hm ha.p he hp) fun σ H Q ⟨G, ι, Γ, μ, o, h⟩ => ⟨G, ι, Γ, μ, o, Af.bind h fun x μ1 v G1 ι1 H1 _ e1 o1 r1 h1 => by
    obtain ⟨z, e, h3⟩ := Af.of h1
    exact b2 v G1 H1 ι1 μ1 x z Q o1.m r1 e fun p H' e' m' r' => af_new o1 h3 e' m' r'⟩⟩
/-! ### isinstance -/
def tyN (μ : Mem) : Vl → String
  | .non => "NoneType"
  | .bl _ => "bool"
  | .int _ => "int"
  | .str _ => "str"
  | .lst _ => "list"
  | .tup _ => "tuple"
  | _ => "list"
def tyS : Fm.Ty → String
  | .bool => "bool"
  | .int => "int"
  | .str => "str"
  | .list => "list"
  | .tuple => "tuple"
theorem tyx_of (m : Ms K mg G ι H μ) {v : V} {d : Vl} {T : Fm.Ty} {b : Bool} (h : Rv K G ι v d) (e : Fm.isiB μ T d = some b) : TyX K H v (.type (tyN μ d)) := by
  cases h with
  | non => exact .base .non
  | bl b => exact .base (.bl b)
  | int i => exact .base (.int i)
  | str x => exact .base (.str x)
  | lst h a => exact .base (.lst (m.s.lst h))
  | tup h a => exact .base (.tup (m.s.tup h))
  | dct h l a => cases T <;> cases e
  | scr h => cases T <;> cases e
  | ref h =>
    rename_i i a
    have e' : ∃ xs, μ[i]? = some (some (.lst xs)) := by
      cases T <;> (unfold Fm.isiB at e; simp only at e; split at e <;> first | exact ⟨_, by assumption⟩ | cases e)
    obtain ⟨xs, q⟩ := e'
    obtain ⟨a', r1, _, vs, r2, r3⟩ := m.at_ _ _ q
    rw [h] at r1
    cases r1
    exact .base (.lst r2)
theorem kit5 {d : Vl} {T : Fm.Ty} {b : Bool} (e : Fm.isiB μ T d = some b) : kitB (tyN μ d) (tyS T) = some b := by
  cases d <;> cases T <;> first
    | (cases e; done)
    | (cases e; simp only [tyN, tyS]; decide +kernel)
    | (unfold Fm.isiB at e; simp only at e; split at e <;> first | (cases e; done) | (cases e; simp only [tyN, tyS]; decide +kernel))
theorem ty5_str (T : Fm.Ty) : bootBuiltins (Str.ofString (tyS T)) = some (.type (tyS T)) := by
  cases T <;> decide +kernel
theorem dIsi (T : Fm.Ty) {W : WX} {y : Str} {a : Expr} {ma : ME} {p p2 pos : Pos} (hm : X.mg "isinstance" = none) (hm2 : X.mg y = none) (ha : DE X W a ma) (hy : y = Str.ofString (tyS T) := by rfl) (hg : Gl X "isinstance" := by rfl) (hg2 : Gl X y := by rfl)
    (hn : y ≠ "__name__" := by decide) (hdb : (y == ("__debug__" : Str)) = false := by decide)
    (hs : starEach [a, .Name y p2] X.env = (false, eval a X.env) :: starEach [.Name y p2] X.env := by rfl) (hs2 : starEach [.Name y p2] X.env = (false, eval (.Name y p2) X.env) :: starEach [] X.env := by rfl)
    (hp : (backTo pos (starEach [.Name y p2] X.env)).any (·.1) = false := by rfl) : DE X W (.Call (.Name "isinstance" p) [a, .Name y p2] [] pos) (Fm.eIsi T ma) := by
  have q := pe_callB (p := p) call_isi hg hm (by decide +kernel) (pa_cons ha.p (pa_cons (pe_bltn (pos := p2) hg2 hm2 (v := .ty (tyS T)) (u := .type (tyS T)) (by rw [hy]; exact ty5_str T) rfl hn hdb) pa_nil hs2) hs) (by decide) (by decide) hs hp
  refine ⟨PE.imp q fun σ H Q ⟨G, ι, Γ, μ, o, h⟩ => ⟨G, ι, Γ, μ, o, Af.bind h fun x μ1 v G1 ι1 H1 _ e1 o1 r1 h1 => ?_⟩⟩
  obtain ⟨z, e, h3⟩ := Af.of h1
  cases w : Fm.isiB μ1 T x with
  | none =>
    rw [w] at e
    cases e
  | some b =>
    rw [w] at e
    cases e
    exact ⟨v, .ty (tyS T), _, _, _, rfl, .ty (tyS T), tyx_of o1.m r1 w, kit_ty (kit5 w), af_val o1 h3 Ext.refl o1.m (.bl _)⟩
end
end L3

set_option Elab.async false
set_option linter.all false
set_option maxRecDepth 100000
set_option maxHeartbeats 4000000
/-! NL3: calls of own defs, targets, statements, loops. -/
namespace L3
open PySem L2
open Fm (Vl MO Mem En Rs ME MF MA MT MG MS MI Out So Gd Ky)
/-! ### promises -/
def Cf {α : Type} (K : PySem.W.Frag) (mg : Str → Option Value) (G : Hp) (ι : Im) (H : Hp) (R : Rl α V) (Q : VK) (E : XK) : Rs α → Prop
  | .no => False
  | .ok x μ' => ∀ b G' ι' H', Ext G ι H G' ι' H' → Ms K mg G' ι' H' μ' → R.r H G' ι' H' b x → Q b H'
  | .ex c r μ' => ∀ C d G' ι' H', Ext G ι H G' ι' H' → Ms K mg G' ι' H' μ' → mg c = some (.ref C) → Xd r d H' → E (.ref C) d H'
def spG {α : Type} (K : PySem.W.Frag) (mg : Str → Option Value) (R : Rl α V) (n : Nat) (F : List Vl → Mem → Rs α) : Sp := fun vs H Q E => vs.length = n ∧ ∃ G ι μ xs, Ms K mg G ι H μ ∧ RvA K G ι vs xs ∧ Cf K mg G ι H R Q E (F xs μ)
abbrev spV (K : PySem.W.Frag) (mg : Str → Option Value) (n : Nat) (F : List Vl → Mem → Rs Vl) : Sp := spG K mg (rlV K) n F
abbrev spF (K : PySem.W.Frag) (mg : Str → Option Value) (n : Nat) (F : List Vl → Mem → Rs MO) : Sp := spG K mg (rlF K mg) n F
/-- a def of the top, by its name, and its promise -/
structure Fd (P : Program) (w : World) (K : PySem.W.Frag) (mg : Str → Option Value) (base : Heap) (x : Str) (k : Nat) (sp : Sp) : Prop where
  ex : ∃ f fd ps, FnOk P w K mg base (L2.CX P w) k f fd ps sp ∧ mg x = some (.ref f) ∧ PySem.W.keepIn K (.ref f) = true ∧ Binds K fd ps []
section
variable {α : Type} {X : Cx} {W : WX} {R : Rl α V} {x : Str} {k n : Nat} {e : Expr} {es : List Expr} {m : MA} {p pos : Pos}
theorem call_to {F : List Vl → Mem → Rs α} (hF : ∀ xs μ, F xs μ ≠ .no → xs.length = n) : ∀ σ H Q, tG X.K X.mg W R (fun Γ μ => (m Γ μ).bind F) σ H Q → tCallS (spG X.K X.mg R n F) (WE W) (tA X.K X.mg W m) σ H Q := fun σ H Q ⟨G, ι, Γ, μ, o, h⟩ =>
  ⟨G, ι, Γ, μ, o, Af.bind h fun xs μ1 vs G1 ι1 H1 _ e1 o1 r1 h1 => by
    refine ⟨?_, G1, ι1, μ1, xs, o1.m, r1, ?_⟩
    · rw [RvA.len r1]
      exact hF xs μ1 fun z => by rw [z] at h1; exact h1
    · cases q : F xs μ1 with
      | no =>
        rw [q] at h1
        exact h1
      | ok y μ' =>
        rw [q] at h1
        exact fun v G' ι' H' e' m' r' => h1 v G' ι' H' e' (o1.step e'.toXt m') r'
      | ex c r μ' =>
        rw [q] at h1
        exact fun C d G' ι' H' e' m' hc hx => h1 C d G' ι' H' e' (o1.step e'.toXt m') hc hx⟩
theorem dcall {F : List Vl → Mem → Rs Vl} (f : Fd X.prog X.w X.K X.mg X.base x k (spV X.K X.mg n F)) (hr : Room k X.A) (tk : Takes X W) (ha : DA X W (e :: es) m) (hF : ∀ xs μ, F xs μ ≠ .no → xs.length = n) (hg : Gl X x := by rfl)
    (hdb : (x == ("__debug__" : Str)) = false := by decide) (he : starEach (e :: es) X.env = (false, eval e X.env) :: starEach es X.env := by rfl) (hpl : (backTo pos (starEach es X.env)).any (·.1) = false := by rfl) :
    DE X W (.Call (.Name x p) (e :: es) [] pos) (Fm.eCall F m) := by
  obtain ⟨g, fd, ps, F1, F2, F3, F4⟩ := f.ex
  exact ⟨PE.imp (pe_callS F1 hr hg F2 F3 F4 (fun σ => passAt tk σ) ha.p hdb he hpl) (call_to hF)⟩
theorem dcallF {F : List Vl → Mem → Rs MO} (f : Fd X.prog X.w X.K X.mg X.base x k (spF X.K X.mg n F)) (hr : Room k X.A) (tk : Takes X W) (ha : DA X W (e :: es) m) (hF : ∀ xs μ, F xs μ ≠ .no → xs.length = n) (hg : Gl X x := by rfl)
    (hdb : (x == ("__debug__" : Str)) = false := by decide) (he : starEach (e :: es) X.env = (false, eval e X.env) :: starEach es X.env := by rfl) (hpl : (backTo pos (starEach es X.env)).any (·.1) = false := by rfl) :
    DF X W (.Call (.Name x p) (e :: es) [] pos) (Fm.fCall F m) := by
  obtain ⟨g, fd, ps, F1, F2, F3, F4⟩ := f.ex
  exact ⟨PE.imp (pe_callS F1 hr hg F2 F3 F4 (fun σ => passAt tk σ) ha.p hdb he hpl) (call_to hF)⟩
theorem fnV_len {k n : Nat} {b : MS} : ∀ xs μ, Fm.fnV k n b xs μ ≠ .no → xs.length = k := fun xs μ e => by
  unfold Fm.fnV at e
  split at e
  · assumption
  · exact absurd rfl e
theorem fnF_len {k n : Nat} {b : MS} : ∀ xs μ, Fm.fnF k n b xs μ ≠ .no → xs.length = k := fun xs μ e => by
  unfold Fm.fnF at e
  split at e
  · assumption
  · exact absurd rfl e
end
/-! ### targets -/
def Off (ts : List Nat) (σ σ' : St) : Prop := σ'.length = σ.length ∧ ∀ j, j ∉ ts → σ'[j]? = σ[j]?
def tTg (K : PySem.W.Frag) (mg : Str → Option Value) (m : MG) (ts : List Nat) : TG := fun v σ H Q => ∃ G ι Γ μ x Γ', Ok K mg G ι H σ Γ μ ∧ Rv K G ι v x ∧ m x Γ = some Γ' ∧ ∀ σ', Off ts σ σ' → Ok K mg G ι H σ' Γ' μ → Q σ' H
def tTgs (K : PySem.W.Frag) (mg : Str → Option Value) (m : List Vl → En → Option En) (ts : List Nat) : TGs := fun vs σ H Q => ∃ G ι Γ μ xs Γ', Ok K mg G ι H σ Γ μ ∧ RvA K G ι vs xs ∧ m xs Γ = some Γ' ∧ ∀ σ', Off ts σ σ' → Ok K mg G ι H σ' Γ' μ → Q σ' H
structure DG (X : Cx) (e : Expr) (m : MG) (ts : List Nat) : Prop where
  p : PG X e (tTg X.K X.mg m ts)
structure DGs (X : Cx) (es : List Expr) (m : List Vl → En → Option En) (ts : List Nat) : Prop where
  p : PGs X es (tTgs X.K X.mg m ts)
section
variable {X : Cx} {pos : Pos} {K : PySem.W.Frag}
theorem PG.imp {e : Expr} {t t' : TG} (h : PG X e t) (k : ∀ v σ H Q, t' v σ H Q → t v σ H Q) : PG X e t' := ⟨fun pins s σ H v u Q I r q => h.run pins s σ H v u Q I r (k v σ H Q q)⟩
theorem PGs.imp {e : List Expr} {t t' : TGs} (h : PGs X e t) (k : ∀ v σ H Q, t' v σ H Q → t v σ H Q) : PGs X e t' := ⟨fun pins s σ H v u Q I r q => h.run pins s σ H v u Q I r (k v σ H Q q)⟩
theorem Off.refl {ts : List Nat} {σ : St} : Off ts σ σ := ⟨rfl, fun _ _ => rfl⟩
theorem Off.trans {ts us : List Nat} {σ σ1 σ2 : St} (a : Off ts σ σ1) (b : Off us σ1 σ2) : Off (ts ++ us) σ σ2 :=
  ⟨b.1.trans a.1, fun j n => (b.2 j fun z => n (List.mem_append_right _ z)).trans (a.2 j fun z => n (List.mem_append_left _ z))⟩
theorem gn (i : Nat) {x : Str} (nd : X.N.Nodup) (hi : X.N[i]? = some x := by rfl) (hx : Loc X.env.scope x := by first | exact Or.inl rfl | exact Or.inr rfl) (hf : X.fn x = true ∨ X.env.scope.names.lookup x = some .local := by first | exact .inl rfl | exact .inr rfl) :
    DG X (.Name x pos) (Fm.gName i) [i] := ⟨PG.imp (pg_name nd hi hx hf) fun v σ H Q ⟨G, ι, Γ, μ, x, Γ', o, r, e, q⟩ => by
  cases e
  exact q _ ⟨List.length_set .., fun j n => List.getElem?_set_ne (fun z => n (by rw [z]; exact List.mem_singleton.mpr rfl))⟩ (o.set r i)⟩
theorem gsn : DGs X [] Fm.gsNil [] := ⟨PGs.imp pgs_nil fun v σ H Q ⟨G, ι, Γ, μ, xs, Γ', o, r, e, q⟩ => by
  cases r with
  | nil =>
    cases e
    exact ⟨rfl, q _ Off.refl o⟩
  | cons _ _ => cases e⟩
theorem gsc {e : Expr} {es : List Expr} {m : MG} {ms : List Vl → En → Option En} {ts us : List Nat} (h : DG X e m ts) (r : DGs X es ms us) (hs : (assignEach (e :: es) X.env).map (·.2) = assign e X.env :: (assignEach es X.env).map (·.2) := by rfl) :
    DGs X (e :: es) (Fm.gsCons m ms) (ts ++ us) := ⟨PGs.imp (pgs_cons h.p r.p hs) fun v σ H Q ⟨G, ι, Γ, μ, xs, Γ', o, r, e, q⟩ => by
  cases r with
  | nil => cases e
  | cons r1 r2 =>
    obtain ⟨Γ1, e1, e2⟩ := bnd e
    exact ⟨_, _, rfl, G, ι, Γ, μ, _, Γ1, o, r1, e1, fun σ' o1 h1 => ⟨G, ι, Γ1, μ, _, Γ', h1, r2, e2, fun σ2 o2 h2 => q σ2 (o1.trans o2) h2⟩⟩⟩
theorem gt {es : List Expr} {ms : List Vl → En → Option En} {ts : List Nat} {k n : Nat} (h : DGs X es ms ts) (hc : X.calm = true := by rfl) (hn : (assignEach es X.env).length = n := by rfl) (hst : (assignEach es X.env).findIdx? (·.1) = none := by rfl) :
    DG X (.Tuple es k pos) (Fm.gTup n ms) ts := ⟨PG.imp (pg_tup hc h.p hn hst) fun v σ H Q ⟨G, ι, Γ, μ, x, Γ', o, r, e, q⟩ => by
  obtain ⟨xs, e1, e2⟩ := bnd e
  have e3 := getT_of e1
  subst e3
  split at e2
  · rename_i hl
    obtain ⟨a, vs, rfl, r2, r3⟩ := tup_of r
    exact ⟨a, vs, rfl, SqT.of (o.m.s.tup r2), by rw [r3.len]; exact hl, G, ι, Γ, μ, xs, Γ', o, r3, e2, q⟩
  · cases e2⟩
end
/-! ### statements -/
def As (K : PySem.W.Frag) (mg : Str → Option Value) (W : WX) (G : Hp) (ι : Im) (H : Hp) (D : Ends) : So → Prop
  | none => False
  | some (.nx Γ', μ') => ∀ σ' G' ι' H', Ext G ι H G' ι' H' → Ok K mg G' ι' H' σ' Γ' μ' → D.nx σ' H'
  | some (.bk Γ', μ') => ∀ σ' G' ι' H', Ext G ι H G' ι' H' → Ok K mg G' ι' H' σ' Γ' μ' → D.bk σ' H'
  | some (.ct Γ', μ') => ∀ σ' G' ι' H', Ext G ι H G' ι' H' → Ok K mg G' ι' H' σ' Γ' μ' → D.ct σ' H'
  | some (.rt x, μ') => ∀ v G' ι' H', Ext G ι H G' ι' H' → Ms K mg G' ι' H' μ' → Rv K G' ι' v x → D.rt v H'
  | some (.rf none o, μ') => ∀ p G' ι' H', Ext G ι H G' ι' H' → Ms K mg G' ι' H' μ' → Fsh K mg H G' ι' H' p o → D.rt (.ref p) H'
  | some (.rf (some i) o, μ') => ∀ p G' ι' H', Ext G ι H G' ι' H' → Ms K mg G' ι' H' μ' → G' p = none → ι' i = some p → Ro K mg G' ι' H' p o → D.rt (.ref p) H'
  | some (.ex c r Γ', μ') => ∀ C d σ' G' ι' H', Ext G ι H G' ι' H' → Ok K mg G' ι' H' σ' Γ' μ' → mg c = some (.ref C) → Xd r d H' → W (.ref C) d σ' H'
def tS (K : PySem.W.Frag) (mg : Str → Option Value) (W : WX) (m : MS) : TS := fun D σ H => ∃ G ι Γ μ, Ok K mg G ι H σ Γ μ ∧ As K mg W G ι H D (m Γ μ)
structure DS (X : Cx) (W : WX) (st : Stmt) (m : MS) : Prop where
  p : PS X st (tS X.K X.mg W m)
structure DSs (X : Cx) (W : WX) (st : List Stmt) (m : MS) : Prop where
  p : PSs X st (tS X.K X.mg W m)
section
variable {α β : Type} {K : PySem.W.Frag} {mg : Str → Option Value} {W : WX} {σ : St} {Γ : En} {G G1 H H1 : Hp} {ι ι1 : Im} {R : Rl α β} {Q : β → Hp → Prop} {D : Ends}
theorem As.up {o : So} (e : Ext G ι H G1 ι1 H1) (h : As K mg W G ι H D o) : As K mg W G1 ι1 H1 D o := by
  match o with
  | none => exact h
  | some (.nx Γ', μ') => exact fun σ' G' ι' H' e' o => h σ' G' ι' H' (e.trans e') o
  | some (.bk Γ', μ') => exact fun σ' G' ι' H' e' o => h σ' G' ι' H' (e.trans e') o
  | some (.ct Γ', μ') => exact fun σ' G' ι' H' e' o => h σ' G' ι' H' (e.trans e') o
  | some (.rt x, μ') => exact fun v G' ι' H' e' o => h v G' ι' H' (e.trans e') o
  | some (.rf none x, μ') => exact fun v G' ι' H' e' o f => h v G' ι' H' (e.trans e') o ⟨e.back f.z, f.g, f.n, f.r⟩
  | some (.rf (some i) x, μ') => exact fun v G' ι' H' e' o => h v G' ι' H' (e.trans e') o
  | some (.ex c r Γ', μ') => exact fun C d σ' G' ι' H' e' o => h C d σ' G' ι' H' (e.trans e') o
theorem As.st {r : Rs α} {f : α → Mem → So} (h : As K mg W G ι H D (r.st Γ f))
    (k : ∀ x μ1 b G1 ι1 H1, r = .ok x μ1 → Ext G ι H G1 ι1 H1 → Ok K mg G1 ι1 H1 σ Γ μ1 → R.r H G1 ι1 H1 b x → As K mg W G1 ι1 H1 D (f x μ1) → Q b H1) : Af K mg W σ Γ G ι H R Q r := by
  cases r with
  | no => exact h
  | ok x μ' => exact fun b G' ι' H' e' o r => k x μ' b G' ι' H' rfl e' o r (As.up e' h)
  | ex c r μ' => exact fun C d G' ι' H' e' o r x => h C d σ G' ι' H' e' o r x
theorem As.st0 {r : Rs α} {f : α → Mem → So} (h : As K mg W G ι H D (r.st Γ f))
    (k : ∀ x μ1 b G1 ι1 H1, r = .ok x μ1 → Ext G ι H G1 ι1 H1 → Ok K mg G1 ι1 H1 σ Γ μ1 → R.r H G1 ι1 H1 b x → As K mg W G ι H D (f x μ1) → Q b H1) : Af K mg W σ Γ G ι H R Q r := by
  cases r with
  | no => exact h
  | ok x μ' => exact fun b G' ι' H' e' o r => k x μ' b G' ι' H' rfl e' o r h
  | ex c r μ' => exact fun C d G' ι' H' e' o r x => h C d σ G' ι' H' e' o r x
end
section
variable {X : Cx} {W : WX} {pos : Pos} {e : Expr} {m : ME}
theorem sn : DSs X W [] Fm.sNext := ⟨PSs.imp pss_nil fun D σ H ⟨G, ι, Γ, μ, o, h⟩ => h σ G ι H Ext.refl o⟩
theorem seq_to {a b : MS} : ∀ D σ H, tS X.K X.mg W (Fm.sSeq a b) D σ H → tSeq (tS X.K X.mg W a) (tS X.K X.mg W b) D σ H := fun D σ H ⟨G, ι, Γ, μ, o, h⟩ => ⟨G, ι, Γ, μ, o, by
  unfold Fm.sSeq at h
  match q : a Γ μ with
  | none =>
    rw [q] at h
    exact h
  | some (.nx Γ', μ') =>
    rw [q] at h
    exact fun σ' G' ι' H' e' o' => ⟨G', ι', Γ', μ', o', As.up e' h⟩
  | some (.bk Γ', μ') =>
    rw [q] at h
    exact h
  | some (.ct Γ', μ') =>
    rw [q] at h
    exact h
  | some (.rt x, μ') =>
    rw [q] at h
    exact h
  | some (.rf none x, μ') =>
    rw [q] at h
    exact h
  | some (.rf (some i) x, μ') =>
    rw [q] at h
    exact h
  | some (.ex c r Γ', μ') =>
    rw [q] at h
    exact h⟩
theorem sc {st : Stmt} {rest : List Stmt} {a b : MS} (h : DS X W st a) (k : DSs X W rest b) : DSs X W (st :: rest) (Fm.sSeq a b) := ⟨PSs.imp (pss_cons h.p k.p) seq_to⟩
theorem s1 {st : Stmt} {a : MS} (h : DS X W st a) : DSs X W [st] a := ⟨pss_one h.p⟩
theorem asg_to {g : MG} {ts : List Nat} : ∀ D σ H, tS X.K X.mg W (Fm.sAsg m g) D σ H → tAsg (tE X.K X.mg W m) (tTg X.K X.mg g ts) D σ H := fun D σ H ⟨G, ι, Γ, μ, o, h⟩ =>
  ⟨G, ι, Γ, μ, o, As.st h fun x μ1 v G1 ι1 H1 _ e1 o1 r1 h1 => by
    cases q : g x Γ with
    | none =>
      rw [q] at h1
      exact False.elim h1
    | some Γ1 =>
      rw [q] at h1
      exact ⟨G1, ι1, Γ, μ1, x, Γ1, o1, r1, q, fun σ' _ o' => h1 σ' G1 ι1 H1 Ext.refl o'⟩⟩
theorem sset {x : Str} {pos' : Pos} (i : Nat) (nd : X.N.Nodup) (he : DE X W e m) (hi : X.N[i]? = some x := by rfl) (hx : Loc X.env.scope x := by first | exact Or.inl rfl | exact Or.inr rfl) (hs : swapsWith e (some (.Name x pos')) pos.line X.env = pure false := by rfl)
    (hf : X.fn x = true ∨ X.env.scope.names.lookup x = some .local := by first | exact .inl rfl | exact .inr rfl) : DS X W (.Assign [.Name x pos'] e pos) (Fm.sAsg m (Fm.gName i)) := ⟨PS.imp (ps_set nd hi hx he.p hs hf) fun D σ H ⟨G, ι, Γ, μ, o, h⟩ =>
  ⟨G, ι, Γ, μ, o, As.st h fun x μ1 v G1 ι1 H1 _ e1 o1 r1 h1 => h1 _ G1 ι1 H1 Ext.refl (o1.set r1 i)⟩⟩
theorem sasg {tg : Expr} {g : MG} {ts : List Nat} (he : DE X W e m) (hg : DG X tg g ts) (hs : swapsWithSole [tg] e pos.line X.env = pure false := by rfl) (hw : swappedStores [tg] e X.env = pure none := by rfl)
    (h1 : (assignEach [tg] X.env).map (·.2) = [assign tg X.env] := by rfl) : DS X W (.Assign [tg] e pos) (Fm.sAsg m g) := ⟨PS.imp (ps_asg he.p hg.p hs hw h1) asg_to⟩
theorem sexpr (he : DE X W e m) (hs : swapsWith e none pos.line X.env = pure false := by rfl) : DS X W (.Expr e pos) (Fm.sDrop m) := ⟨PS.imp (ps_expr he.p hs) fun D σ H ⟨G, ι, Γ, μ, o, h⟩ =>
  ⟨G, ι, Γ, μ, o, As.st h fun x μ1 v G1 ι1 H1 _ e1 o1 r1 h1 => h1 σ G1 ι1 H1 Ext.refl o1⟩⟩
theorem sret (he : DE X W e m) : DS X W (.Return (some e) pos) (Fm.sRet m) := ⟨PS.imp (ps_ret he.p) fun D σ H ⟨G, ι, Γ, μ, o, h⟩ =>
  ⟨G, ι, Γ, μ, o, As.st h fun x μ1 v G1 ι1 H1 _ e1 o1 r1 h1 => h1 v G1 ι1 H1 Ext.refl o1.m r1⟩⟩
theorem sretF {f : MF} (he : DF X W e f) : DS X W (.Return (some e) pos) (Fm.sRetF f) := ⟨PS.imp (ps_ret he.p) fun D σ H ⟨G, ι, Γ, μ, o, h⟩ =>
  ⟨G, ι, Γ, μ, o, As.st0 h fun x μ1 v G1 ι1 H1 _ e1 o1 r1 h1 => by
    obtain ⟨p, rfl, f⟩ := r1
    exact h1 p G1 ι1 H1 e1 o1.m f⟩⟩
theorem sretO (he : DE X W e m) : DS X W (.Return (some e) pos) (Fm.sRetO m) := ⟨PS.imp (ps_ret he.p) fun D σ H ⟨G, ι, Γ, μ, o, h⟩ =>
  ⟨G, ι, Γ, μ, o, As.st h fun x μ1 v G1 ι1 H1 _ e1 o1 r1 h1 => by
    cases x with
    | ref i =>
      simp only at h1
      split at h1
      · rename_i u q
        obtain ⟨a, rfl, r⟩ := ref_of r1
        obtain ⟨a', r2, r3, r4⟩ := o1.m.at_ i _ q
        rw [r] at r2
        cases r2
        exact h1 a G1 ι1 H1 Ext.refl (o1.m.less (fun j o z => (get_set_none z).1) (by rw [List.length_set]; exact Nat.le_refl _)) r3 r r4
      · exact False.elim h1
    | _ => exact False.elim h1⟩⟩
theorem sretN : DS X W (.Return none pos) Fm.sRetN := ⟨PS.imp ps_retN fun D σ H ⟨G, ι, Γ, μ, o, h⟩ => h .non G ι H Ext.refl o.m .non⟩
theorem sif {c : Expr} {a b : List Stmt} {mc : MT} {ma mb : MS} (hc : DT X W c mc) (ha : DSs X W a ma) (hb : DSs X W b mb) : DS X W (.If c a b pos) (Fm.sIf mc ma mb) := ⟨PS.imp (ps_if hc.p ha.p hb.p) fun D σ H ⟨G, ι, Γ, μ, o, h⟩ =>
  ⟨G, ι, Γ, μ, o, As.st h fun x μ1 v G1 ι1 H1 _ e1 o1 r1 h1 => by
    cases (show v = x from r1)
    cases x with
    | true =>
      rw [if_pos rfl]
      exact ⟨G1, ι1, Γ, μ1, o1, h1⟩
    | false =>
      rw [if_neg Bool.false_ne_true]
      exact ⟨G1, ι1, Γ, μ1, o1, h1⟩⟩⟩
theorem sbrk : DS X W (.Break pos) Fm.sBrk := ⟨PS.imp ps_break fun D σ H ⟨G, ι, Γ, μ, o, h⟩ => h σ G ι H Ext.refl o⟩
theorem scnt : DS X W (.Continue pos) Fm.sCnt := ⟨PS.imp ps_continue fun D σ H ⟨G, ι, Γ, μ, o, h⟩ => h σ G ι H Ext.refl o⟩
/-- what is never come to -/
theorem snev {st : Stmt} : DS X W st Fm.sNever := ⟨⟨fun pins s σ H D I ⟨G, ι, Γ, μ, o, h⟩ => False.elim h⟩⟩
theorem snevs {st : List Stmt} : DSs X W st Fm.sNever := ⟨⟨fun pins s σ H D I ⟨G, ι, Γ, μ, o, h⟩ => False.elim h⟩⟩
/-! ### lists of the memory, changed -/
theorem memL_of {K : PySem.W.Frag} {mg : Str → Option Value} {G H : Hp} {ι : Im} {μ : Mem} (m : Ms K mg G ι H μ) {v : V} {d : Vl} {i : Nat} {xs : List Vl} (h : Rv K G ι v d) (e : Fm.memL μ d = some (i, xs)) :
    ∃ a vs, v = .ref a ∧ d = .ref i ∧ ι i = some a ∧ μ[i]? = some (some (.lst xs)) ∧ H a = some (.lst vs) ∧ RvA K G ι vs xs := by
  unfold Fm.memL at e
  split at e
  · split at e
    · cases e
      rename_i q
      obtain ⟨a, rfl, r⟩ := ref_of h
      obtain ⟨a', r1, _, vs, r2, r3⟩ := m.at_ _ _ q
      rw [r] at r1
      cases r1
      exact ⟨a, vs, rfl, rfl, r, q, r2, r3⟩
    · cases e
  · cases e
theorem sapp {o : Expr} {mo : ME} {p2 p3 p4 : Pos} (ho : DE X W o mo) (he : DE X W e m) (hbase : attributeBase o "append" X.env (eval o X.env) = eval o X.env := by rfl)
    (hfew : ((backTo p3 (starEach [e] X.env)).all (fun x => !x.1) && (backToKw p3 (keywordEach [] X.env)).all (fun x => x.1.isSome)
      && decide (([e] : List Expr).length + ([] : List Keyword).length + (if ([] : List Keyword).isEmpty then 0 else 1) < 30)) = true := by rfl)
    (hline : (p2.endLine == p3.line) = true := by rfl) (hs : starEach [e] X.env = (false, eval e X.env) :: starEach [] X.env := by rfl) (hplain : (backTo p3 (starEach [] X.env)).any (·.1) = false := by rfl)
    (hsw : swapsWith (.Call (.Attribute o "append" p2) [e] [] p3) none p4.line X.env = pure false := by rfl) :
    DS X W (.Expr (.Call (.Attribute o "append" p2) [e] [] p3) p4) (Fm.sApp mo m) :=
  ⟨PS.imp (ps_expr (pe_bm PySem.F.plainAttrs_list PySem.F.slot_list_append PySem.F.type_list_append mt_append ho.p (pa_cons he.p pa_nil hs) hbase hfew hline hs hplain) hsw) fun D σ H ⟨G, ι, Γ, μ, o, h⟩ =>
  ⟨G, ι, Γ, μ, o, As.st h fun x μ1 v G1 ι1 H1 _ e1 o1 r1 h1 => by
    split at h1
    · exact False.elim h1
    · rename_i q1
      obtain ⟨a, vs, rfl, _, _, _, q2, _⟩ := memL_of o1.m r1 q1
      refine ⟨Or.inl ⟨rfl, _, SqL.of q2⟩, G1, ι1, Γ, μ1, o1, As.st h1 fun y μ2 u G2 ι2 H2 _ e2 o2 r2 h2 => ?_⟩
      split at h2
      · rename_i i xs q3
        split at h2
        · rename_i hz
          obtain ⟨a', us, z, _, r3, r4, r5, r6⟩ := memL_of o2.m (Rv.up e2.toXt r1) q3
          cases z
          refine ⟨_, us, u, rfl, rfl, r5, by rw [r6.len]; exact bigL hz, ?_⟩
          obtain ⟨m', e'⟩ := o2.m.chg (o' := .lst (xs ++ [y])) (u := .lst (us ++ [u])) r4 r3 ⟨_, upd_same, r6.append (.one r2)⟩
          exact h2 σ G2 ι2 _ e' (o2.step e'.toXt m')
        · exact False.elim h2
      · exact False.elim h2⟩⟩
theorem ssetIx {o b : Expr} {mo mb : ME} {p2 : Pos} (ho : DE X W o mo) (hb : DE X W b mb) (he : DE X W e m) (ha : ∀ v, assign (.Subscript o b p2) X.env v = (do
      let ov ← holding [v] (eval o X.env)
      let iv ← holding [v, ov] (eval b X.env)
      standAt p2
      holding [v, ov, iv] (setItem ov iv v)
      release [v, ov, iv] []) := by intro _; rfl) (hs : swapsWithSole [.Subscript o b p2] e pos.line X.env = pure false := by rfl) (hw : swappedStores [.Subscript o b p2] e X.env = pure none := by rfl)
    (h1 : (assignEach [.Subscript o b p2] X.env).map (·.2) = [assign (.Subscript o b p2) X.env] := by rfl) : DS X W (.Assign [.Subscript o b p2] e pos) (Fm.sSetIx mo mb m) :=
  ⟨PS.imp (ps_asg he.p (pg_sub ho.p hb.p set_list ha) hs hw h1) fun D σ H ⟨G, ι, Γ, μ, o, h⟩ =>
  ⟨G, ι, Γ, μ, o, As.st h fun x μ1 v G1 ι1 H1 _ e1 o1 r1 h1 => ⟨G1, ι1, Γ, μ1, o1, As.st h1 fun y μ2 u G2 ι2 H2 _ e2 o2 r2 h2 => ⟨G2, ι2, Γ, μ2, o2, As.st h2 fun k μ3 t G3 ι3 H3 _ e3 o3 r3 h3 => by
    split at h3
    · rename_i i xs k' q1 q2
      have q3 := getI_of q2
      subst q3
      split at h3
      · rename_i ys q4
        obtain ⟨j, q5, q6⟩ := bnd q4
        cases q6
        obtain ⟨a, us, rfl, _, w3, w4, w5, w6⟩ := memL_of o3.m (Rv.up e3.toXt r2) q1
        have r1' := Rv.up e3.toXt (Rv.up e2.toXt r1)
        obtain ⟨m', e'⟩ := o3.m.chg (o' := .lst (xs.set j x)) (u := .lst (us.set j v)) w4 w3 ⟨_, upd_same, w6.set r1' j⟩
        refine ⟨a, us, k', j, rfl, int_of r3, w5, by rw [w6.len]; exact q5, h3 σ G3 ι3 _ e' (o3.step e'.toXt m')⟩
      · exact False.elim h3
    · exact False.elim h3⟩⟩⟩⟩
section
variable {o : Expr} {mo : ME} {p2 p3 : Pos}
theorem dpop (ho : DE X W o mo) (hbase : attributeBase o "pop" X.env (eval o X.env) = eval o X.env := by rfl) (hline : (p2.endLine == p3.line) = true := by rfl) : DE X W (.Call (.Attribute o "pop" p2) [] [] p3) (Fm.ePop mo) :=
  ⟨PE.imp (pe_bm0 PySem.F.plainAttrs_list PySem.F.slot_list_pop PySem.F.type_list_pop mt_pop ho.p hbase hline) fun σ H Q ⟨G, ι, Γ, μ, o, h⟩ =>
  ⟨G, ι, Γ, μ, o, Af.bind h fun x μ1 v G1 ι1 H1 _ e1 o1 r1 h1 => by
    split at h1
    · rename_i i xs q1
      obtain ⟨a, us, rfl, _, w3, w4, w5, w6⟩ := memL_of o1.m r1 q1
      split at h1
      · rename_i y q2
        obtain ⟨v, q3, q4⟩ := w6.get q2
        obtain ⟨m', e'⟩ := o1.m.chg (o' := .lst xs.dropLast) (u := .lst us.dropLast) w4 w3 ⟨_, upd_same, w6.dropLast⟩
        exact ⟨Or.inl ⟨rfl, _, SqL.of w5⟩, a, us, v, rfl, rfl, w5, by rw [w6.len]; exact q3, h1 v G1 ι1 _ e' (o1.step e'.toXt m') q4⟩
      · exact False.elim h1
    · exact False.elim h1⟩⟩
theorem dclr (ho : DE X W o mo) (hbase : attributeBase o "clear" X.env (eval o X.env) = eval o X.env := by rfl) (hline : (p2.endLine == p3.line) = true := by rfl) : DE X W (.Call (.Attribute o "clear" p2) [] [] p3) (Fm.eClr mo) :=
  ⟨PE.imp (pe_bm0 PySem.F.plainAttrs_list PySem.F.slot_list_clear PySem.F.type_list_clear mt_clear ho.p hbase hline) fun σ H Q ⟨G, ι, Γ, μ, o, h⟩ =>
  ⟨G, ι, Γ, μ, o, Af.bind h fun x μ1 v G1 ι1 H1 _ e1 o1 r1 h1 => by
    split at h1
    · rename_i i xs q1
      obtain ⟨a, us, rfl, _, w3, w4, w5, w6⟩ := memL_of o1.m r1 q1
      obtain ⟨m', e'⟩ := o1.m.chg (o' := .lst []) (u := .lst []) w4 w3 ⟨_, upd_same, .nil⟩
      exact ⟨Or.inl ⟨rfl, _, SqL.of w5⟩, a, us, rfl, rfl, w5, h1 .non G1 ι1 _ e' (o1.step e'.toXt m') .non⟩
    · exact False.elim h1⟩⟩
end
end
end L3

set_option Elab.async false
set_option linter.all false
set_option maxRecDepth 100000
set_option maxHeartbeats 4000000
/-! NL4: what is walked, loops, comprehensions. -/
namespace L2
open PySem PySem.Spec PyProof.Rows
theorem turn_long {P : Program} {w : World} {K : PySem.W.Frag} {tg : Expr} (it : Addr) (lo : Int) (n : Nat) : Turn P w K tg (Itr lo n) [it] it (fun i h => IsLongIter h it (lo + (i : Nat) * 1) ((n : Int) - (i : Nat)) 1) where
  mem := by simp
  obj := fun i h st b hb => by
    have e : b = it := by simpa using hb
    subst e
    exact ⟨_, st, fun v z => by
      have z' : Data.fields _ = Data.cell v := z
      cases z'⟩
  keep := fun i h h' st k => k it (by simp) _ st
  item := by
    intro X hP hw hK hc i pins s σ H E I hf st hg
    subst hP hw hK
    obtain ⟨f0, f1, f2, f3, f4, f5⟩ := hf it (by simp)
    have W := Walks.longrange (prog := X.prog) (w := X.w) (I.ok.hd hc) it lo 1 n
    refine W.item i s _ _ hg st fun v h' tk hv st' kk => ?_
    obtain ⟨t, rfl⟩ := hv
    have I1 : Inv X pins σ H { s with heap := h', toks := tk } := I.turned (fun b o hb e => kk b o (by simpa using hb) e) f0 f1 f3 f4 f5
    refine ⟨_, rfl, go_of (s := { s with heap := h', toks := tk }) (n := "longrange_iterator") st' rfl rfl (by decide) ⟨.int (lo + i), H, I1, ⟨t, ?_⟩, ⟨rfl, rfl⟩, st', fun b hb => (hf b hb).1⟩⟩
    rw [Int.mul_one]
  done := by
    intro X hP hw hK hc i pins s σ H E I hf st hg
    subst hP hw hK
    obtain ⟨f0, f1, f2, f3, f4, f5⟩ := hf it (by simp)
    exact wpAny_pyNext_long_end (I.ok.hd hc) st (by have : n ≤ i := hg; omega) fun h' eb => ⟨rfl, I.turned (t' := s.toks) (fun b o hb e => eb b o hb e) f0 f1 f3 f4 f5⟩
  self := fun _ _ _ _ _ st h => wpAny_pyIter_longiter st h
section
variable {X : Cx} {tg : Expr}
/-- a range object just made, walked; numbers of any size -/
theorem range_itw {pins : List (Addr × Obj)} {σ : St} {H : Hp} {s : Shared} {R : It → Hp → Prop} {E : Value → Shared → Prop} {lo hi : Int} {t u v : Tok} {tk : Nat} (I : Inv X pins σ H s)
    (q : R (Itr lo (hi - lo).toNat) H) : wpAny (model X.prog X.w) X.A (pyIter (.ref s.heap.objs.size)) (PIE X pins σ tg R) E { s with heap := s.heap.push { cls := .type "range", data := .fields #[.int lo t, .int hi u, .int 1 v] }, toks := tk } := by
  have I1 : Inv X pins σ H { s with heap := s.heap.push { cls := .type "range", data := .fields #[.int lo t, .int hi u, .int 1 v] }, toks := tk } := I.kept fun b o e => Heap.get?_push_of_some _ e
  have e1 : lo + ((0 : Nat) : Int) * 1 = lo := by simp
  have e2 : (((hi - lo).toNat : Nat) : Int) - ((0 : Nat) : Int) = Builtin.Range.rangeSize lo hi 1 := by rw [rangeSize_one]; split <;> omega
  have fp : ∀ b ∈ [(s.heap.push { cls := .type "range", data := .fields #[.int lo t, .int hi u, .int 1 v] }).objs.size], FpOk X pins H b := fun b hb => by
    have e : b = (s.heap.push { cls := .type "range", data := .fields #[.int lo t, .int hi u, .int 1 v] }).objs.size := by simpa using hb
    subst e
    exact I1.fpOk (Nat.le_refl _) (I1.hok.fresh (Nat.le_refl _))
  cases hs : Builtin.Range.small lo hi 1 with
  | true =>
    refine wpAny_pyIter_range (IsRange.new ..) hs ?_
    refine ⟨(s.heap.push { cls := .type "range", data := .fields #[.int lo t, .int hi u, .int 1 v] }).objs.size, [(s.heap.push { cls := .type "range", data := .fields #[.int lo t, .int hi u, .int 1 v] }).objs.size], _, _, H, rfl,
      I1.kept (t' := tk) fun b o e => Heap.get?_push_of_some _ e, turn_range _ lo (hi - lo).toNat, ?_, fp, q⟩
    show IsRangeIter _ _ (lo + ((0 : Nat) : Int) * 1) ((((hi - lo).toNat : Nat) : Int) - ((0 : Nat) : Int)) 1
    rw [e1, e2]
    exact Heap.get?_push_size _ rfl
  | false =>
    refine wpAny_pyIter_longrange (IsRange.new ..) hs ?_
    refine ⟨(s.heap.push { cls := .type "range", data := .fields #[.int lo t, .int hi u, .int 1 v] }).objs.size, [(s.heap.push { cls := .type "range", data := .fields #[.int lo t, .int hi u, .int 1 v] }).objs.size], _, _, H, rfl,
      I1.kept (t' := tk) fun b o e => Heap.get?_push_of_some _ e, turn_long _ lo (hi - lo).toNat, ?_, fp, q⟩
    show IsLongIter _ _ (lo + ((0 : Nat) : Int) * 1) ((((hi - lo).toNat : Nat) : Int) - ((0 : Nat) : Int)) 1
    rw [e1, e2]
    exact Heap.get?_push_size _ rfl
def iRngW1 (ta : TA) : TI := fun σ H R => ta σ H fun vs H1 => ∃ j : Int, vs = [.int j] ∧ R (Itr 0 j.toNat) H1
def iRngW2 (ta : TA) : TI := fun σ H R => ta σ H fun vs H1 => ∃ i j : Int, vs = [.int i, .int j] ∧ R (Itr i (j - i).toNat) H1
theorem pi_rangeW1 {a : Expr} {ta : TA} {p pos : Pos} (hg : Gl X "range") (hm : X.mg "range" = none) (ha : PA X [a] ta) (hs : starEach [a] X.env = [(false, eval a X.env)] := by rfl) : PI X tg (.Call (.Name "range" p) [a] [] pos) (iRngW1 ta) := by
  refine ⟨fun pins s σ H R I h => ?_⟩
  refine Call_ (ld_blt I hg hm boot_range (PyProof.Rows.callWith_type1 (thn (ha.run pos pins s σ H _ I h) fun us s1 ⟨vs, H1, I1, r1, q1⟩ => ?_) hs rfl))
  obtain ⟨j, e, q⟩ := q1
  subst e
  cases r1 with
  | cons r rr =>
    cases rr
    obtain ⟨t, rfl⟩ := r
    exact call_range_1 (range_itw I1 (by simpa using q))
theorem pi_rangeW2 {a b : Expr} {ta : TA} {p pos : Pos} (hg : Gl X "range") (hm : X.mg "range" = none) (ha : PA X [a, b] ta) (hs : starEach [a, b] X.env = [(false, eval a X.env), (false, eval b X.env)] := by rfl) (hs2 : starEach [b] X.env = [(false, eval b X.env)] := by rfl) :
    PI X tg (.Call (.Name "range" p) [a, b] [] pos) (iRngW2 ta) := by
  refine ⟨fun pins s σ H R I h => ?_⟩
  refine Call_ (ld_blt I hg hm boot_range (PyProof.Rows.callWith_type1 (thn (ha.run pos pins s σ H _ I h) fun us s1 ⟨vs, H1, I1, r1, q1⟩ => ?_) (by rw [hs, hs2]) (by rw [hs2]; rfl)))
  obtain ⟨i, j, e, q⟩ := q1
  subst e
  cases r1 with
  | cons r rr =>
    cases rr with
    | cons r' rr =>
      cases rr
      obtain ⟨t, rfl⟩ := r
      obtain ⟨t', rfl⟩ := r'
      exact call_range_2 (range_itw I1 q)
end
end L2
namespace L3
open PySem L2 RZ
open Fm (Vl MO Mem En Rs ME MF MA MT MG MS MI Out So Gd Ky)
/-! ### what is walked -/
structure Wk (K : PySem.W.Frag) (mg : Str → Option Value) (J : It) (G : Hp) (ι : Im) (ds : List Vl) (gd : Gd) : Prop where
  go : ∀ (i : Nat) (d : Vl) (G1 H1 : Hp) (ι1 : Im) (μ1 : Mem), ds[i]? = some d → Xt G ι G1 ι1 → Ms K mg G1 ι1 H1 μ1 → gd.ok μ1 → J.go i H1 ∧ ∀ x H2, J.yld i H1 x H2 → ∃ G2, Ext G1 ι1 H1 G2 ι1 H2 ∧ Ms K mg G2 ι1 H2 μ1 ∧ Rv K G2 ι1 x d
  stop : ∀ (i : Nat) (G1 H1 : Hp) (ι1 : Im) (μ1 : Mem), ds.length ≤ i → Xt G ι G1 ι1 → Ms K mg G1 ι1 H1 μ1 → gd.ok μ1 → J.stop i H1
def rlW (K : PySem.W.Frag) (mg : Str → Option Value) : Rl (List Vl × Gd) It := ⟨fun _ G ι _ J p => Wk K mg J G ι p.1 p.2, fun _ h => h⟩
abbrev tI (K : PySem.W.Frag) (mg : Str → Option Value) (W : WX) (m : MI) : TI := tG K mg W (rlW K mg) m
structure DI (X : Cx) (W : WX) (tg iter : Expr) (m : MI) : Prop where
  p : PI X tg iter (tI X.K X.mg W m)
section
variable {X : Cx} {K : PySem.W.Frag} {mg : Str → Option Value} {tg : Expr} {W : WX} {G H : Hp} {ι : Im} {μ : Mem}
theorem PI.imp {iter : Expr} {t t' : TI} (h : PI X tg iter t) (k : ∀ σ H Q, t' σ H Q → t σ H Q) : PI X tg iter t' := ⟨fun pins s σ H Q I q => h.run pins s σ H Q I (k σ H Q q)⟩
theorem PI.or {iter : Expr} {w1 w2 : TI} (h1 : PI X tg iter w1) (h2 : PI X tg iter w2) : PI X tg iter (fun σ H R => w1 σ H R ∨ w2 σ H R) := ⟨fun pins s σ H R I h => h.elim (h1.run pins s σ H R I) (h2.run pins s σ H R I)⟩
theorem wk_itl {a : Addr} {ds : List Vl} {gd : Gd} (h : ∀ (G1 H1 : Hp) (ι1 : Im) (μ1 : Mem), Xt G ι G1 ι1 → Ms K mg G1 ι1 H1 μ1 → gd.ok μ1 → ∃ vs, SqL K H1 a vs ∧ RvA K G1 ι1 vs ds) : Wk K mg (Itl K a) G ι ds gd where
  go := fun i d G1 H1 ι1 μ1 hi e m g => by
    obtain ⟨vs, h1, h2⟩ := h G1 H1 ι1 μ1 e m g
    obtain ⟨v, r1, r2⟩ := h2.get hi
    refine ⟨⟨vs, v, h1, r1⟩, fun x H2 y => ?_⟩
    obtain ⟨rfl, y⟩ := y
    have e1 := y vs h1
    rw [r1] at e1
    cases e1
    exact ⟨G1, Ext.refl, m, r2⟩
  stop := fun i G1 H1 ι1 μ1 l e m g => by
    obtain ⟨vs, h1, h2⟩ := h G1 H1 ι1 μ1 e m g
    exact ⟨vs, h1, by rw [h2.len]; exact l⟩
theorem wk_itt {a : Addr} {ds : List Vl} {gd : Gd} {vs : List V} (h : G a = some (.tup vs)) (d : RvA K G ι vs ds) : Wk K mg (Itt K a) G ι ds gd where
  go := fun i d' G1 H1 ι1 μ1 hi e m g => by
    obtain ⟨v, r1, r2⟩ := d.get hi
    have h1 : SqT K H1 a vs := SqT.of (m.s.tup (e.g _ _ h))
    refine ⟨⟨vs, v, h1, r1⟩, fun x H2 y => ?_⟩
    obtain ⟨rfl, y⟩ := y
    have e1 := y vs h1
    rw [r1] at e1
    cases e1
    exact ⟨G1, Ext.refl, m, r2.up e⟩
  stop := fun i G1 H1 ι1 μ1 l e m g => ⟨vs, SqT.of (m.s.tup (e.g _ _ h)), by rw [d.len]; exact l⟩
theorem mem_lst {G1 H1 : Hp} {ι1 : Im} {μ1 : Mem} {i : Nat} {a : Addr} {xs : List Vl} (m : Ms K mg G1 ι1 H1 μ1) (ha : ι1 i = some a) (q : μ1[i]? = some (some (.lst xs))) : ∃ vs, H1 a = some (.lst vs) ∧ RvA K G1 ι1 vs xs := by
  obtain ⟨a', r1, _, vs, r2, r3⟩ := m.at_ _ _ q
  rw [ha] at r1
  cases r1
  exact ⟨vs, r2, r3⟩
theorem iseq {l : Expr} {m : ME} (h : DE X W l m) : DI X W tg l (Fm.iSeq m) := ⟨PI.imp (PI.or (pi_list h.p) (pi_tup h.p)) fun σ H Q ⟨G, ι, Γ, μ, o, h⟩ => by
  cases q : m Γ μ with
  | no =>
    unfold Fm.iSeq at h
    rw [q] at h
    exact False.elim h
  | ex c r μ' =>
    refine .inl ⟨G, ι, Γ, μ, o, ?_⟩
    unfold Fm.iSeq at h
    rw [q] at h ⊢
    exact h
  | ok x μ1 =>
    unfold Fm.iSeq at h
    rw [q, Rs.bind_ok] at h
    obtain ⟨p, e, h2⟩ := Af.of h
    unfold Fm.srcOf at e
    split at e
    · cases e
      refine .inl ⟨G, ι, Γ, μ, o, ?_⟩
      rw [q]
      intro v G1 ι1 H1 e1 o1 r1
      obtain ⟨a, vs, rfl, r2, r3⟩ := lst_of r1
      exact ⟨a, rfl, ⟨vs, SqL.of (o1.m.s.lst r2)⟩, h2 _ G1 ι1 H1 e1 o1 (wk_itl fun G2 H2 ι2 μ2 x2 m2 _ => ⟨vs, SqL.of (m2.s.lst (x2.g _ _ r2)), r3.up x2⟩)⟩
    · cases e
      refine .inr ⟨G, ι, Γ, μ, o, ?_⟩
      rw [q]
      intro v G1 ι1 H1 e1 o1 r1
      obtain ⟨a, vs, rfl, r2, r3⟩ := tup_of r1
      exact ⟨a, rfl, ⟨vs, SqT.of (o1.m.s.tup r2)⟩, h2 _ G1 ι1 H1 e1 o1 (wk_itt r2 r3)⟩
    · cases e
      refine .inl ⟨G, ι, Γ, μ, o, ?_⟩
      rw [q]
      intro v G1 ι1 H1 e1 o1 r1
      obtain ⟨a, rfl, r2⟩ := scr_of r1
      exact ⟨a, rfl, ⟨_, o1.m.s.sql r2⟩, h2 _ G1 ι1 H1 e1 o1 (wk_itl fun G2 H2 ι2 μ2 x2 m2 _ => ⟨_, m2.s.sql (same_sql x2.g r2), RvA.ivs⟩)⟩
    · split at e
      · cases e
        rename_i q2
        refine .inl ⟨G, ι, Γ, μ, o, ?_⟩
        rw [q]
        intro v G1 ι1 H1 e1 o1 r1
        obtain ⟨a, rfl, r2⟩ := ref_of r1
        obtain ⟨vs, r3, r4⟩ := mem_lst o1.m r2 q2
        exact ⟨a, rfl, ⟨vs, SqL.of r3⟩, h2 _ G1 ι1 H1 e1 o1 (wk_itl fun G2 H2 ι2 μ2 x2 m2 g2 => by
          obtain ⟨us, r5, r6⟩ := mem_lst m2 (x2.i _ _ r2) g2
          exact ⟨us, SqL.of r5, r6⟩)⟩
      · cases e
    · cases e⟩
theorem ints_get {lo : Int} {n i : Nat} {d : Vl} (h : (Fm.ivs lo n)[i]? = some d) : i < n ∧ d = .int (lo + (i : Int)) := by
  unfold Fm.ivs at h
  rw [List.getElem?_map] at h
  cases e : (List.range n)[i]? with
  | none => rw [e] at h; cases h
  | some k =>
    rw [e] at h
    obtain ⟨h1, h2⟩ := List.getElem?_eq_some_iff.mp e
    rw [List.getElem_range] at h2
    rw [List.length_range] at h1
    subst h2
    cases h
    exact ⟨h1, rfl⟩
theorem ints_len {lo : Int} {n : Nat} : (Fm.ivs lo n).length = n := by unfold Fm.ivs; rw [List.length_map, List.length_range]
theorem wk_rng {lo : Int} {n : Nat} {gd : Gd} : Wk K mg (Itr lo n) G ι (Fm.ivs lo n) gd where
  go := fun i d G1 H1 ι1 μ1 hi e m g => by
    obtain ⟨h1, rfl⟩ := ints_get hi
    refine ⟨h1, fun x H2 y => ?_⟩
    obtain ⟨rfl, rfl⟩ := y
    exact ⟨G1, Ext.refl, m, .int _⟩
  stop := fun i G1 H1 ι1 μ1 l e m g => by
    rw [ints_len] at l
    exact l
theorem irng1 {a : Expr} {m : MA} {p pos : Pos} (hm : X.mg "range" = none) (ha : DA X W [a] m) (hg : Gl X "range" := by rfl) (hs : starEach [a] X.env = [(false, eval a X.env)] := by rfl) : DI X W tg (.Call (.Name "range" p) [a] [] pos) (Fm.iB Fm.rng1 m) := ⟨PI.imp (pi_rangeW1 hg hm ha.p hs) fun σ H Q ⟨G, ι, Γ, μ, o, h⟩ =>
  ⟨G, ι, Γ, μ, o, Af.bind h fun xs μ1 vs G1 ι1 H1 _ e1 o1 r1 h1 => by
    obtain ⟨z, e, h3⟩ := Af.of h1
    unfold Fm.rng1 at e
    split at e
    · obtain ⟨hc, rfl⟩ := ite_some e
      obtain ⟨v, rfl, r2⟩ := one_of r1
      rw [int_of r2]
      exact ⟨_, rfl, h3 _ G1 ι1 H1 Ext.refl o1 wk_rng⟩
    · cases e⟩⟩
theorem irng2 {a b : Expr} {m : MA} {p pos : Pos} (hm : X.mg "range" = none) (ha : DA X W [a, b] m) (hg : Gl X "range" := by rfl) (hs : starEach [a, b] X.env = [(false, eval a X.env), (false, eval b X.env)] := by rfl) (hs2 : starEach [b] X.env = [(false, eval b X.env)] := by rfl) :
    DI X W tg (.Call (.Name "range" p) [a, b] [] pos) (Fm.iB Fm.rng2 m) := ⟨PI.imp (pi_rangeW2 hg hm ha.p hs hs2) fun σ H Q ⟨G, ι, Γ, μ, o, h⟩ =>
  ⟨G, ι, Γ, μ, o, Af.bind h fun xs μ1 vs G1 ι1 H1 _ e1 o1 r1 h1 => by
    obtain ⟨z, e, h3⟩ := Af.of h1
    unfold Fm.rng2 at e
    split at e
    · obtain ⟨hc, rfl⟩ := ite_some e
      obtain ⟨v, u, rfl, r2, r3⟩ := two_of r1
      rw [int_of r2, int_of r3]
      exact ⟨_, _, rfl, h3 _ G1 ι1 H1 Ext.refl o1 wk_rng⟩
    · cases e⟩⟩
end
end L3

set_option Elab.async false
set_option linter.all false
set_option maxRecDepth 100000
set_option maxHeartbeats 4000000
/-! NL5: zip, enumerate, for, while, comprehensions, freezing. -/
namespace L3
open PySem L2 RZ
open Fm (Vl MO Mem En Rs ME MF MA MT MG MS MI Out So Gd Ky)
section
variable {X : Cx} {K : PySem.W.Frag} {mg : Str → Option Value} {tg : Expr} {W : WX} {G H : Hp} {ι : Im} {μ : Mem}
/-- a list that stays while it is walked -/
def Stays (K : PySem.W.Frag) (mg : Str → Option Value) (G : Hp) (ι : Im) (gd : Gd) (a : Addr) (ds : List Vl) : Prop := ∀ (G1 H1 : Hp) (ι1 : Im) (μ1 : Mem), Xt G ι G1 ι1 → Ms K mg G1 ι1 H1 μ1 → gd.ok μ1 → ∃ vs, SqL K H1 a vs ∧ RvA K G1 ι1 vs ds
theorem lsrc (m : Ms K mg G ι H μ) {v : V} {d : Vl} {xs : List Vl} (h : Rv K G ι v d) (e : Fm.lstOf μ d = some xs) : ∃ a vs, v = .ref a ∧ SqL K H a vs ∧ RvA K G ι vs xs ∧ Stays K mg G ι (Fm.guardOf d μ) a xs := by
  unfold Fm.lstOf at e
  split at e
  · cases e
    obtain ⟨a, vs, r1, r2, r3⟩ := lst_of h
    exact ⟨a, vs, r1, SqL.of (m.s.lst r2), r3, fun G1 H1 ι1 μ1 x m1 g => ⟨vs, SqL.of (m1.s.lst (x.g _ _ r2)), r3.up x⟩⟩
  · split at e
    · cases e
      rename_i q
      obtain ⟨a, rfl, r⟩ := ref_of h
      obtain ⟨vs, r2, r3⟩ := mem_lst m r q
      refine ⟨a, vs, rfl, SqL.of r2, r3, fun G1 H1 ι1 μ1 x m1 g => ?_⟩
      unfold Fm.guardOf at g
      simp only [q] at g
      obtain ⟨us, r5, r6⟩ := mem_lst m1 (x.i _ _ r) g
      exact ⟨us, SqL.of r5, r6⟩
    · cases e
  · cases e
theorem newPair {G1 H1 : Hp} {ι1 : Im} {μ1 : Mem} {T : Addr} {x y : V} {d e : Vl} (m : Ms K mg G1 ι1 H1 μ1) (hT : H1 T = none) (hx : Rv K G1 ι1 x d) (hy : Rv K G1 ι1 y e) : ∃ G2, Ext G1 ι1 H1 G2 ι1 (upd H1 T (.tup [x, y])) ∧ Ms K mg G2 ι1 (upd H1 T (.tup [x, y])) μ1 ∧ Rv K G2 ι1 (.ref T) (.tup [d, e]) := by
  obtain ⟨m', e'⟩ := m.new (o := .tup [x, y]) hT
  exact ⟨_, e', m', .tup upd_same (.cons (hx.up e'.toXt) (.cons (hy.up e'.toXt) .nil))⟩
theorem zip_get {xs ys : List Vl} {i : Nat} {d : Vl} (h : ((xs.zip ys).map fun p => Vl.tup [p.1, p.2])[i]? = some d) : ∃ a b, xs[i]? = some a ∧ ys[i]? = some b ∧ d = .tup [a, b] := by
  rw [List.getElem?_map] at h
  cases e : (xs.zip ys)[i]? with
  | none => rw [e] at h; cases h
  | some p =>
    rw [e] at h
    obtain ⟨h1, h2⟩ := List.getElem?_zip_eq_some.mp e
    exact ⟨p.1, p.2, h1, h2, (Option.some.inj h).symm⟩
theorem zip_len {xs ys : List Vl} {i : Nat} (h : ((xs.zip ys).map fun p => Vl.tup [p.1, p.2]).length ≤ i) : xs.length ≤ i ∨ ys.length ≤ i := by
  rw [List.length_map, List.length_zip] at h
  omega
theorem wk_zip {a b : Addr} {ds es : List Vl} {g1 g2 : Gd} (h : Stays K mg G ι g1 a ds) (h' : Stays K mg G ι g2 b es) : Wk K mg (Itz K a b) G ι ((ds.zip es).map fun p => .tup [p.1, p.2]) (.both g1 g2) where
  go := fun i e G1 H1 ι1 μ1 hi x m g => by
    obtain ⟨x', y', hx, hy, rfl⟩ := zip_get hi
    obtain ⟨vs, ha, d⟩ := h G1 H1 ι1 μ1 x m g.1
    obtain ⟨us, hb, d'⟩ := h' G1 H1 ι1 μ1 x m g.2
    obtain ⟨v, h1, h2⟩ := d.get hx
    obtain ⟨u, k1, k2⟩ := d'.get hy
    refine ⟨⟨vs, us, v, u, ha, hb, h1, k1⟩, fun w H2 z => ?_⟩
    obtain ⟨T, x1, y1, rfl, hT, rfl, z1, z2⟩ := z
    have e1 := z1 vs ha
    have e2 := z2 us hb
    rw [h1] at e1
    rw [k1] at e2
    cases e1
    cases e2
    exact newPair m hT h2 k2
  stop := fun i G1 H1 ι1 μ1 l x m g => by
    obtain ⟨vs, ha, d⟩ := h G1 H1 ι1 μ1 x m g.1
    obtain ⟨us, hb, d'⟩ := h' G1 H1 ι1 μ1 x m g.2
    exact ⟨vs, us, ha, hb, by rw [d.len, d'.len]; exact zip_len l⟩
theorem wk_zipT {a b : Addr} {vs us : List V} {ds es : List Vl} {gd : Gd} (h : G a = some (.tup vs)) (d : RvA K G ι vs ds) (h' : G b = some (.tup us)) (d' : RvA K G ι us es) : Wk K mg (ItzT K a b) G ι ((ds.zip es).map fun p => .tup [p.1, p.2]) gd where
  go := fun i e G1 H1 ι1 μ1 hi x m g => by
    obtain ⟨x', y', hx, hy, rfl⟩ := zip_get hi
    obtain ⟨v, h1, h2⟩ := d.get hx
    obtain ⟨u, k1, k2⟩ := d'.get hy
    have ha : SqT K H1 a vs := SqT.of (m.s.tup (x.g _ _ h))
    have hb : SqT K H1 b us := SqT.of (m.s.tup (x.g _ _ h'))
    refine ⟨⟨vs, us, v, u, ha, hb, h1, k1⟩, fun w H2 z => ?_⟩
    obtain ⟨T, x1, y1, rfl, hT, rfl, z1, z2⟩ := z
    have e1 := z1 vs ha
    have e2 := z2 us hb
    rw [h1] at e1
    rw [k1] at e2
    cases e1
    cases e2
    exact newPair m hT (h2.up x) (k2.up x)
  stop := fun i G1 H1 ι1 μ1 l x m g => ⟨vs, us, SqT.of (m.s.tup (x.g _ _ h)), SqT.of (m.s.tup (x.g _ _ h')), by rw [d.len, d'.len]; exact zip_len l⟩
theorem izip {e e2 : Expr} {m : MA} {p pos tpos : Pos} {elts : List Expr} {kk : Nat} (hm : X.mg "zip" = none) (ha : DA X W [e, e2] m) (hg : Gl X "zip" := by rfl)
    (hs : starEach [e, e2] X.env = (false, eval e X.env) :: starEach [e2] X.env := by rfl) (hpl : (backTo pos (starEach [e2] X.env)).any (·.1) = false := by rfl) : DI X W (.Tuple elts kk tpos) (.Call (.Name "zip" p) [e, e2] [] pos) (Fm.iB Fm.bZip m) := ⟨PI.imp (pi_zipA hg hm ha.p hs hpl) fun σ H Q ⟨G, ι, Γ, μ, o, h⟩ =>
  ⟨G, ι, Γ, μ, o, Af.bind h fun xs μ1 vs G1 ι1 H1 _ e1 o1 r1 h1 => by
    obtain ⟨z, e, h3⟩ := Af.of h1
    unfold Fm.bZip at e
    split at e
    · cases e
      obtain ⟨v, u, rfl, r2, r3⟩ := two_of r1
      obtain ⟨a, us, rfl, r4, r5⟩ := tup_of r2
      obtain ⟨b, ws, rfl, t4, t5⟩ := tup_of r3
      exact ⟨a, b, us, ws, rfl, .inr ⟨SqT.of (o1.m.s.tup r4), SqT.of (o1.m.s.tup t4), h3 _ G1 ι1 H1 Ext.refl o1 (wk_zipT r4 r5 t4 t5)⟩⟩
    · split at e
      · cases e
        rename_i q1 q2
        obtain ⟨v, u, rfl, r2, r3⟩ := two_of r1
        obtain ⟨a, us, rfl, r4, r5, r6⟩ := lsrc o1.m r2 q1
        obtain ⟨b, ws, rfl, t4, t5, t6⟩ := lsrc o1.m r3 q2
        exact ⟨a, b, us, ws, rfl, .inl ⟨r4, t4, h3 _ G1 ι1 H1 Ext.refl o1 (wk_zip r6 t6)⟩⟩
      · cases e
    · cases e⟩⟩
theorem enum_get : ∀ {xs : List Vl} {n i : Nat} {d : Vl}, (Fm.enumFrom n xs)[i]? = some d → ∃ x, xs[i]? = some x ∧ d = .tup [.int ((n + i : Nat) : Int), x]
  | [], n, i, d, h => by cases h
  | x :: r, n, 0, d, h => by
    cases h
    exact ⟨x, rfl, rfl⟩
  | x :: r, n, i + 1, d, h => by
    obtain ⟨y, h1, h2⟩ := enum_get (xs := r) (n := n + 1) (i := i) (show (Fm.enumFrom (n + 1) r)[i]? = some d from h)
    refine ⟨y, h1, ?_⟩
    rw [h2]
    have : n + 1 + i = n + (i + 1) := by omega
    rw [this]
theorem enum_len : ∀ {xs : List Vl} {n : Nat}, (Fm.enumFrom n xs).length = xs.length
  | [], _ => rfl
  | _ :: r, n => by
    show (Fm.enumFrom (n + 1) r).length + 1 = r.length + 1
    rw [enum_len]
theorem wk_enum {a : Addr} {ds : List Vl} {gd : Gd} (h : Stays K mg G ι gd a ds) : Wk K mg (Ite K a) G ι (Fm.enumFrom 0 ds) gd where
  go := fun i e G1 H1 ι1 μ1 hi x m g => by
    obtain ⟨x', hx, rfl⟩ := enum_get hi
    obtain ⟨vs, ha, d⟩ := h G1 H1 ι1 μ1 x m g
    obtain ⟨v, h1, h2⟩ := d.get hx
    refine ⟨⟨vs, v, ha, h1⟩, fun w H2 z => ?_⟩
    obtain ⟨T, x1, rfl, hT, rfl, z1⟩ := z
    have e1 := z1 vs ha
    rw [h1] at e1
    cases e1
    rw [Nat.zero_add]
    exact newPair m hT (.int _) h2
  stop := fun i G1 H1 ι1 μ1 l x m g => by
    obtain ⟨vs, ha, d⟩ := h G1 H1 ι1 μ1 x m g
    exact ⟨vs, ha, by rw [d.len]; rw [enum_len] at l; exact l⟩
theorem ienum {e : Expr} {m : MA} {p pos tpos : Pos} {elts : List Expr} {kk : Nat} (hm : X.mg "enumerate" = none) (ha : DA X W [e] m) (hg : Gl X "enumerate" := by rfl)
    (hs : starEach [e] X.env = [(false, eval e X.env)] := by rfl) : DI X W (.Tuple elts kk tpos) (.Call (.Name "enumerate" p) [e] [] pos) (Fm.iB Fm.bEnum m) := ⟨PI.imp (pi_enum hg hm ha.p hs) fun σ H Q ⟨G, ι, Γ, μ, o, h⟩ =>
  ⟨G, ι, Γ, μ, o, Af.bind h fun xs μ1 vs G1 ι1 H1 _ e1 o1 r1 h1 => by
    obtain ⟨z, e, h3⟩ := Af.of h1
    unfold Fm.bEnum at e
    split at e
    · split at e
      · cases e
        rename_i q1
        obtain ⟨v, rfl, r2⟩ := one_of r1
        obtain ⟨a, us, rfl, r4, r5, r6⟩ := lsrc o1.m r2 q1
        exact ⟨a, us, rfl, r4, h3 _ G1 ι1 H1 Ext.refl o1 (wk_enum r6)⟩
      · cases e
    · cases e⟩⟩
end
/-! ### for, while -/
section
variable {X : Cx} {W : WX} {pos : Pos}
theorem for_to {mi : MI} {g : MG} {mb : MS} {ts ws : List Nat} : ∀ D σ H, tS X.K X.mg W (Fm.sFor mi g mb ws) D σ H → tFor (tI X.K X.mg W mi) (tTg X.K X.mg g ts) (tS X.K X.mg W mb) D σ H := fun D σ H ⟨G, ι, Γ, μ, o, h⟩ =>
  ⟨G, ι, Γ, μ, o, As.st h fun p μ1 J G1 ι1 H1 _ e1 o1 wk h1 => by
    obtain ⟨ds, gd⟩ := p
    refine ⟨fun i n σ' H' => n = ds.length - i ∧ i ≤ ds.length ∧ ∃ G' ι' Γ' μ', Ext G1 ι1 H1 G' ι' H' ∧ Ok X.K X.mg G' ι' H' σ' Γ' μ' ∧ As X.K X.mg W G' ι' H' D (Fm.forGo g mb gd ws (ds.drop i) Γ' μ'), ⟨ds.length, by simp, Nat.zero_le _, G1, ι1, _, μ1, Ext.refl, o1.wip ws, h1⟩, ?_⟩
    rintro i n σ2 H2 ⟨rfl, hil, G2, ι2, Γ2, μ2, e2, o2, h2⟩
    by_cases hlt : i < ds.length
    · have hd : ds[i]? = some ds[i] := List.getElem?_eq_getElem hlt
      rw [List.drop_eq_getElem_cons hlt] at h2
      unfold Fm.forGo at h2
      split at h2
      · rename_i hgd
        obtain ⟨jg, jy⟩ := Wk.go wk i ds[i] G2 H2 ι2 μ2 hd e2.toXt o2.m hgd
        refine .inr ⟨jg, fun σ' H' => ∃ G' ι' Γ' μ', Ext G1 ι1 H1 G' ι' H' ∧ Ok X.K X.mg G' ι' H' σ' Γ' μ' ∧ As X.K X.mg W G' ι' H' D (Fm.forGo g mb gd ws (ds.drop (i + 1)) Γ' μ'), fun σ' H' z => ⟨ds.length - (i + 1), by omega, rfl, hlt, z⟩, fun x H3 y => ?_⟩
        obtain ⟨G3, e3, m3, r3⟩ := jy x H3 y
        have o3 := o2.step e3.toXt m3
        split at h2
        · exact False.elim h2
        · rename_i Γ3 q3
          refine ⟨G3, ι2, Γ2, μ2, _, Γ3, o3, r3, q3, fun σ4 _ o4 => ⟨G3, ι2, Γ3, μ2, o4, ?_⟩⟩
          have h3 := As.up e3 h2
          clear h2
          match q : mb Γ3 μ2 with
          | none =>
            rw [q] at h3
            exact h3
          | some (.nx Γ', μ') =>
            rw [q] at h3
            exact fun σ' G' ι' H' e' o' => ⟨G', ι', _, μ', (e2.trans e3).trans e', o'.wip ws, As.up e' h3⟩
          | some (.ct Γ', μ') =>
            rw [q] at h3
            exact fun σ' G' ι' H' e' o' => ⟨G', ι', _, μ', (e2.trans e3).trans e', o'.wip ws, As.up e' h3⟩
          | some (.bk Γ', μ') =>
            rw [q] at h3
            exact fun σ' G' ι' H' e' o' => h3 σ' G' ι' H' e' (o'.wip ws)
          | some (.rt x, μ') =>
            rw [q] at h3
            exact h3
          | some (.rf none x, μ') =>
            rw [q] at h3
            exact h3
          | some (.rf (some i) x, μ') =>
            rw [q] at h3
            exact h3
          | some (.ex c r Γ', μ') =>
            rw [q] at h3
            exact h3
      · exact False.elim h2
    · have ei : i = ds.length := by omega
      subst ei
      rw [List.drop_length] at h2
      unfold Fm.forGo at h2
      split at h2
      · rename_i hgd
        exact .inl ⟨Wk.stop wk _ G2 H2 ι2 μ2 (Nat.le_refl _) e2.toXt o2.m hgd, h2 σ2 G2 ι2 H2 Ext.refl o2⟩
      · exact False.elim h2⟩
theorem sfor {tg iter : Expr} {body : List Stmt} {mi : MI} {g : MG} {mb : MS} {ts : List Nat} (ws : List Nat) (hp : PassesOwn (model X.prog X.w) X.A X.env X.xe) (hi : DI X W tg iter mi) (hg : DG X tg g ts) (hb : DSs X W body mb) (hc : X.calm = true := by rfl)
    (hs : ∀ x, foldedSetIterable iter X.env x = pure x := by intro _; rfl) : DS X W (.For tg iter body [] pos) (Fm.sFor mi g mb ws) := ⟨PS.imp (ps_for hp hc hi.p hg.p hb.p hs) for_to⟩
theorem while_to {mc : MT} {mb : MS} {ws : List Nat} {n : Nat} : ∀ D σ H, tS X.K X.mg W (Fm.sWhile mc mb ws n) D σ H → tWhile (tT X.K X.mg W mc) (tS X.K X.mg W mb) D σ H := fun D σ H ⟨G, ι, Γ, μ, o, h⟩ => by
  refine ⟨fun n σ' H' => ∃ G' ι' Γ' μ', Ok X.K X.mg G' ι' H' σ' Γ' μ' ∧ As X.K X.mg W G' ι' H' D (Fm.whileGo mc mb ws n Γ' μ'), ⟨n, G, ι, _, μ, o.wip ws, h⟩, ?_⟩
  rintro n σ2 H2 ⟨G2, ι2, Γ2, μ2, o2, h2⟩
  cases n with
  | zero => exact False.elim h2
  | succ n =>
    unfold Fm.whileGo at h2
    refine ⟨G2, ι2, Γ2, μ2, o2, As.st h2 fun c μ3 b G3 ι3 H3 _ e3 o3 r3 h3 => ?_⟩
    cases (show b = c from r3)
    cases c with
    | false =>
      rw [if_neg Bool.false_ne_true]
      exact h3 σ2 G3 ι3 H3 Ext.refl o3
    | true =>
      rw [if_pos rfl]
      refine ⟨fun σ' H' => ∃ G' ι' Γ' μ', Ok X.K X.mg G' ι' H' σ' Γ' μ' ∧ As X.K X.mg W G' ι' H' D (Fm.whileGo mc mb ws n Γ' μ'), fun σ' H' z => ⟨n, Nat.lt_succ_self _, z⟩, G3, ι3, Γ2, μ3, o3, ?_⟩
      match q : mb Γ2 μ3 with
      | none =>
        simp only [q] at h3
        exact h3
      | some (.nx Γ', μ') =>
        simp only [q] at h3
        exact fun σ' G' ι' H' e' o' => ⟨G', ι', _, μ', o'.wip ws, As.up e' h3⟩
      | some (.ct Γ', μ') =>
        simp only [q] at h3
        exact fun σ' G' ι' H' e' o' => ⟨G', ι', _, μ', o'.wip ws, As.up e' h3⟩
      | some (.bk Γ', μ') =>
        simp only [q] at h3
        exact fun σ' G' ι' H' e' o' => h3 σ' G' ι' H' e' (o'.wip ws)
      | some (.rt x, μ') =>
        simp only [q] at h3
        exact h3
      | some (.rf none x, μ') =>
        simp only [q] at h3
        exact h3
      | some (.rf (some i) x, μ') =>
        simp only [q] at h3
        exact h3
      | some (.ex c r Γ', μ') =>
        simp only [q] at h3
        exact h3
theorem swhile {c : Expr} {body : List Stmt} {mc : MT} {mb : MS} (ws : List Nat) (n : Nat) (hp : PassesOwn (model X.prog X.w) X.A X.env X.xe) (hc : DT X W c mc) (hb : DSs X W body mb) : DS X W (.While c body [] pos) (Fm.sWhile mc mb ws n) := ⟨PS.imp (ps_while hp hc.p hb.p) while_to⟩
end
/-! ### comprehensions -/
section
variable {K : PySem.W.Frag} {mg : Str → Option Value} {σ σ' : St} {G H : Hp} {ι : Im} {Γ : En} {μ : Mem}
theorem wipe_at {vs : List Nat} {i : Nat} (h : i ∈ vs) : (wipe σ vs)[i]? = none ∨ (wipe σ vs)[i]? = some none := by
  induction vs with
  | nil => cases h
  | cons v vs ih =>
    unfold wipe
    by_cases e : v = i
    · subst e
      by_cases l : v < (wipe σ vs).length
      · exact .inr (List.getElem?_set_self l)
      · exact .inl (List.getElem?_eq_none (by simpa using l))
    · rw [List.getElem?_set_ne e]
      exact ih ((List.mem_cons.mp h).resolve_left (Ne.symm e))
theorem wipe_off {vs ts : List Nat} (h : Off ts σ σ') (hs : ∀ j ∈ ts, j ∈ vs) : wipe σ' vs = wipe σ vs := by
  have l : (wipe σ' vs).length = (wipe σ vs).length := by rw [wipe_length, wipe_length, h.1]
  refine List.ext_getElem? fun i => ?_
  by_cases hi : i ∈ vs
  · by_cases hl : i < (wipe σ vs).length
    · have a : ∀ τ : St, τ.length = σ.length → (wipe τ vs)[i]? = some none := fun τ e => by
        rcases wipe_at (σ := τ) hi with q | q
        · rw [List.getElem?_eq_none_iff, wipe_length, e] at q
          rw [wipe_length] at hl
          omega
        · exact q
      rw [a σ' h.1, a σ rfl]
    · rw [List.getElem?_eq_none (by omega), List.getElem?_eq_none (by omega)]
  · rw [wipe_out hi, wipe_out hi]
    exact h.2 i fun z => hi (hs i z)
theorem Ok.wipeS (h : Ok K mg G ι H σ Γ μ) (vs : List Nat) : Ok K mg G ι H (wipe σ vs) (Fm.wip vs Γ) μ :=
  ⟨h.m, fun i s e => by
    obtain ⟨e1, e2⟩ := wip_some e
    obtain ⟨v, r1, r2⟩ := h.at_ i s e1
    exact ⟨v, by rw [wipe_out e2]; exact r1, r2⟩, by rw [wipe_length, wip_len]; exact h.ln⟩
end
theorem Ms.side {K : PySem.W.Frag} {mg : Str → Option Value} {G H : Hp} {ι : Im} {μ : Mem} (m : Ms K mg G ι H μ) {p : Addr} {u0 u : HO} (hp : H p = some u0) (hu : ∀ x, u0 ≠ .own x) (g : G p = none) (n : ∀ j, ι j ≠ some p) : Ms K mg G ι (upd H p u) μ := by
  refine ⟨m.s.upd1 g, fun i o' q => ?_, fun i a q => ?_, m.inj⟩
  · obtain ⟨a, r1, r2, r3⟩ := m.at_ i o' q
    have ha : a ≠ p := fun z => by subst z; exact n i r1
    refine ⟨a, r1, r2, r3.up Xt.refl (upd_ne ha) fun dx z => ?_⟩
    rw [upd_ne fun y => by subst y; rw [hp] at z; cases z; exact hu _ rfl]
    exact z
  · obtain ⟨r1, o', r2⟩ := m.dom i a q
    refine ⟨r1, o', ?_⟩
    rw [upd_ne fun z => by subst z; exact n i q]
    exact r2
theorem Ext.side {G0 H0 G H : Hp} {ι0 ι : Im} (e : Ext G0 ι0 H0 G ι H) {p : Addr} {u : HO} (z : H0 p = none) : Ext G0 ι0 H0 G ι (upd H p u) :=
  ⟨e.toXt, fun a o q g n => by
    rw [upd_ne (ne_of_none q z)]
    exact e.f a o q g n, fun a o q => by
    rw [upd_ne (ne_of_none q z)]
    exact e.t a o q⟩
def wNo : WX := fun _ _ _ _ => False
theorem takesN {X : Cx} : Takes X wNo := takes_none5
section
variable {X : Cx} {W : WX}
theorem comp_to {mi : MI} {g : MG} {mt : MT} {me : ME} {ts vs : List Nat} (hs : ∀ j ∈ ts, j ∈ vs) : ∀ σ H Q, tF X.K X.mg W (Fm.fComp mi g mt me vs) σ H Q → tLc (tI X.K X.mg W mi) (tTg X.K X.mg g ts) (tT X.K X.mg wNo mt) (tE X.K X.mg wNo me) vs σ H Q := fun σ H Q ⟨G, ι, Γ, μ, o, h⟩ =>
  ⟨G, ι, Γ, μ, o, Af.bind0 h fun p μ1 J G1 ι1 H1 _ e1 o1 wk h1 => by
    obtain ⟨ds, gd⟩ := p
    intro Dl hD
    split at h1
    · rename_i hz
      have hD0 : H Dl = none := e1.back hD
      obtain ⟨mD, eD⟩ := o1.m.own (o := .lst []) hD
      have oD := o1.step eD.toXt mD
      refine ⟨fun i n H' => n = ds.length - i ∧ i ≤ ds.length ∧ ∃ G' ι' μ' acc da, Ext G ι H G' ι' H' ∧ Xt G1 ι1 G' ι' ∧ Ok X.K X.mg G' ι' H' (wipe σ vs) (Fm.wip vs Γ) μ' ∧ H' Dl = some (.lst acc) ∧ G' Dl = none ∧ (∀ j, ι' j ≠ some Dl) ∧ RvA X.K G' ι' acc da ∧ acc.length ≤ i ∧
          Af X.K X.mg W σ Γ G ι H (rlF X.K X.mg) Q ((Fm.compGo g mt me gd (Fm.wip vs Γ) (ds.drop i) μ').bind fun z μ2 => .ok (.lst (da ++ z)) μ2),
        ⟨ds.length, by simp, Nat.zero_le _, G1, ι1, μ1, [], [], e1.trans eD, Xt.refl, oD.wipeS vs, upd_same, o1.m.s.free hD, o1.m.nofresh hD, .nil, Nat.le_refl _, h1⟩, ?_⟩
      rintro i n H2 ⟨rfl, hil, G2, ι2, μ2, acc, da, e2, x2, o2, hA, gA, nA, dA, hal, h2⟩
      by_cases hlt : i < ds.length
      · have hd : ds[i]? = some ds[i] := List.getElem?_eq_getElem hlt
        rw [List.drop_eq_getElem_cons hlt] at h2
        unfold Fm.compGo at h2
        split at h2
        · rename_i hgd
          obtain ⟨jg, jy⟩ := Wk.go wk i ds[i] G2 H2 ι2 μ2 hd x2 o2.m hgd
          refine .inr ⟨jg, fun H' => ∃ G' ι' μ' acc da, Ext G ι H G' ι' H' ∧ Xt G1 ι1 G' ι' ∧ Ok X.K X.mg G' ι' H' (wipe σ vs) (Fm.wip vs Γ) μ' ∧ H' Dl = some (.lst acc) ∧ G' Dl = none ∧ (∀ j, ι' j ≠ some Dl) ∧ RvA X.K G' ι' acc da ∧ acc.length ≤ i + 1 ∧
            Af X.K X.mg W σ Γ G ι H (rlF X.K X.mg) Q ((Fm.compGo g mt me gd (Fm.wip vs Γ) (ds.drop (i + 1)) μ').bind fun z μ2 => .ok (.lst (da ++ z)) μ2),
            fun H' z => ⟨ds.length - (i + 1), by omega, rfl, hlt, z⟩, fun x H3 y => ?_⟩
          obtain ⟨G3, e3, m3, r3⟩ := jy x H3 y
          have o3 := o2.step e3.toXt m3
          obtain ⟨hA3, gA3, nA3⟩ := e3.f _ _ hA gA nA
          split at h2
          · rename_i Γ3 q3
            refine ⟨G3, ι2, _, μ2, _, Γ3, o3, r3, q3, fun σ4 o4 k4 => ?_⟩
            have w4 : wipe σ4 vs = wipe σ vs := (wipe_off o4 hs).trans (wipe_off (ts := vs) ⟨wipe_length σ vs, fun j n => wipe_out n⟩ fun _ z => z)
            refine ⟨w4, G3, ι2, Γ3, μ2, k4, ?_⟩
            cases qt : mt Γ3 μ2 with
            | no =>
              rw [qt] at h2
              exact False.elim h2
            | ex c r μ' =>
              rw [qt] at h2
              exact False.elim h2
            | ok b μ5 =>
              rw [qt, Rs.tame_ok, Rs.bind_ok] at h2
              intro b' G5 ι5 H5 e5 o5 rb
              cases (show b' = b from rb)
              obtain ⟨hA5, gA5, nA5⟩ := e5.f _ _ hA3 gA3 nA3
              have e25 := (e2.trans e3).trans e5
              have x25 : Xt G2 ι2 G5 ι5 := (e3.trans e5).toXt
              have x15 : Xt G1 ι1 G5 ι5 := ⟨x2.g.trans x25.g, fun j a q => x25.i j a (x2.i j a q)⟩
              cases b with
              | true =>
                rw [if_pos rfl]
                refine ⟨G5, ι5, Γ3, μ5, o5, ?_⟩
                cases qe : me Γ3 μ5 with
                | no =>
                  rw [qe] at h2
                  exact False.elim h2
                | ex c r μ' =>
                  rw [qe] at h2
                  exact False.elim h2
                | ok y μ6 =>
                  rw [qe, Rs.tame_ok, Rs.bind_ok] at h2
                  intro v G6 ι6 H6 e6 o6 rv
                  obtain ⟨hA6, gA6, nA6⟩ := e6.f _ _ hA5 gA5 nA5
                  have x26 : Xt G2 ι2 G6 ι6 := ⟨x25.g.trans e6.g, fun j a q => e6.i j a (x25.i j a q)⟩
                  have m6 := o6.m.side (u := .lst (acc ++ [v])) hA6 (fun _ z => by cases z) gA6 nA6
                  refine ⟨acc, hA6, Nat.lt_of_le_of_lt hal (bigL (Nat.lt_of_lt_of_le hlt hz)), G6, ι6, μ6, acc ++ [v], da ++ [y], (e25.trans e6).side hD0, ⟨x15.g.trans e6.g, fun j a q => e6.i j a (x15.i j a q)⟩, o2.step x26 m6, upd_same, gA6, nA6, (dA.up x26).append (.one rv), by rw [List.length_append]; show acc.length + 1 ≤ i + 1; omega, ?_⟩
                  have eq : ((Fm.compGo g mt me gd (Fm.wip vs Γ) (ds.drop (i + 1)) μ6).bind fun z μ3 => Rs.ok (y :: z) μ3).bind (fun z μ2 => Rs.ok (MO.lst (da ++ z)) μ2) = (Fm.compGo g mt me gd (Fm.wip vs Γ) (ds.drop (i + 1)) μ6).bind fun z μ2 => Rs.ok (MO.lst (da ++ [y] ++ z)) μ2 := by
                    cases Fm.compGo g mt me gd (Fm.wip vs Γ) (ds.drop (i + 1)) μ6 with
                    | no => rfl
                    | ex c r μ' => rfl
                    | ok z μ' => simp only [Rs.bind_ok, List.append_assoc, List.singleton_append]
                  rw [← eq]
                  exact h2
              | false =>
                rw [if_neg Bool.false_ne_true]
                exact ⟨G5, ι5, μ5, acc, da, e25, x15, o2.step x25 o5.m, hA5, gA5, nA5, dA.up x25, by omega, h2⟩
          · exact False.elim h2
        · exact False.elim h2
      · have ei : i = ds.length := by omega
        subst ei
        rw [List.drop_length] at h2
        unfold Fm.compGo at h2
        split at h2
        · rename_i hgd
          refine .inl ⟨Wk.stop wk _ G2 H2 ι2 μ2 (Nat.le_refl _) x2 o2.m hgd, ?_⟩
          simp only [Rs.bind_ok, List.append_nil] at h2
          refine h2 _ G2 ι2 H2 e2 ⟨o2.m, fun i x z => ?_, o.ln⟩ ⟨Dl, rfl, hD0, gA, nA, acc, hA, dA⟩
          obtain ⟨v, r1, r2⟩ := o.at_ i x z
          exact ⟨v, r1, r2.up e2.toXt⟩
        · exact False.elim h2
    · exact False.elim h1⟩
variable {pos : Pos}
theorem fcomp {elt tg iter : Expr} {ifs : List Expr} {scope : Scope} {own : List (Str × Nat)} {mi : MI} {g : MG} {mt : MT} {me : ME} {ts : List Nat} (nd : X.N.Nodup) (ok : BlkOk X.N X.env.scope scope own) (hi : DI X W tg iter mi)
    (hg : ∀ (s : Shared) (H : Hp) (C : Addr) (cl : List (Str × Addr)) (fp : List Addr), DG (X.blk s H scope (compEnvC scope cl C X.env) fp) tg g ts) (ht : ∀ (s : Shared) (H : Hp) (C : Addr) (cl : List (Str × Addr)) (fp : List Addr), PTs (X.blk s H scope (compEnvC scope cl C X.env) fp) ifs (tT X.K X.mg wNo mt))
    (he : ∀ (s : Shared) (H : Hp) (C : Addr) (cl : List (Str × Addr)) (fp : List Addr), DE (X.blk s H scope (compEnvC scope cl C X.env) fp) wNo elt me) (hv : ∀ j ∈ ts, j ∈ own.map (·.2) := by decide) (hc : X.calm = true := by rfl) (hs : ∀ x, foldedSetIterable iter X.env x = pure x := by intro _; rfl) :
    DF X W (.ListComp elt [⟨tg, iter, ifs, 0⟩] scope pos) (Fm.fComp mi g mt me (own.map (·.2))) :=
  ⟨PE.imp (pe_lc (te := tE X.K X.mg wNo me) (g := tTg X.K X.mg g ts) hc nd hi.p ok (fun s H C cl fp => (hg s H C cl fp).p) ht (fun s H C cl fp => (he s H C cl fp).p) hs) (comp_to hv)⟩
theorem cy : PTs X [] (tT X.K X.mg W Fm.tYes) := ⟨fun pins s σ H Q I ⟨G, ι, Γ, μ, o, h⟩ => pts_nil.run pins s σ H Q I (h true G ι H Ext.refl o rfl)⟩
theorem c1 {c : Expr} {m : MT} (h : DT X W c m) : PTs X [c] (tT X.K X.mg W m) := pts_one h.p
/-- name = [..] on one line: frozen; kept in the memory -/
theorem sComp {i : Nat} {y : Str} {py pos' : Pos} {elt tg iter : Expr} {ifs : List Expr} {scope : Scope} {own : List (Str × Nat)} {mi : MI} {g : MG} {mt : MT} {me : ME} {ts : List Nat} (nd : X.N.Nodup) (ok : BlkOk X.N X.env.scope scope own) (hi : DI X W tg iter mi)
    (hg : ∀ (s : Shared) (H : Hp) (C : Addr) (cl : List (Str × Addr)) (fp : List Addr), DG (X.blk s H scope (compEnvC scope cl C X.env) fp) tg g ts) (ht : ∀ (s : Shared) (H : Hp) (C : Addr) (cl : List (Str × Addr)) (fp : List Addr), PTs (X.blk s H scope (compEnvC scope cl C X.env) fp) ifs (tT X.K X.mg wNo mt))
    (he : ∀ (s : Shared) (H : Hp) (C : Addr) (cl : List (Str × Addr)) (fp : List Addr), DE (X.blk s H scope (compEnvC scope cl C X.env) fp) wNo elt me) (hsw : swapsWith (.ListComp elt [⟨tg, iter, ifs, 0⟩] scope pos) (some (.Name y py)) pos'.line X.env = pure true) (hy : X.N[i]? = some y := by rfl) (hyl : X.env.scope.names.lookup y = some .local := by rfl)
    (hv : ∀ j ∈ ts, j ∈ own.map (·.2) := by decide) (hc : X.calm = true := by rfl) (hs : ∀ x, foldedSetIterable iter X.env x = pure x := by intro _; rfl) :
    DS X W (.Assign [.Name y py] (.ListComp elt [⟨tg, iter, ifs, 0⟩] scope pos) pos') (Fm.sAsg (Fm.eFrz (Fm.fComp mi g mt me (own.map (·.2)))) (Fm.gName i)) := by
  refine ⟨PS.imp (ps_setLc (te := tE X.K X.mg wNo me) (g := tTg X.K X.mg g ts) hc nd hy hyl hsw hi.p ok (fun s H C cl fp => (hg s H C cl fp).p) ht (fun s H C cl fp => (he s H C cl fp).p) hs) fun D σ H ⟨G, ι, Γ, μ, o, h⟩ => ?_⟩
  exact comp_to hv σ H _ (frz_to σ H _ ⟨G, ι, Γ, μ, o, As.st h fun x μ1 v G1 ι1 H1 _ e1 o1 r1 h1 => h1 _ G1 ι1 H1 Ext.refl (o1.set r1 i)⟩)
theorem sCompN {i : Nat} {y : Str} {py pos' : Pos} {elt tg iter : Expr} {ifs : List Expr} {scope : Scope} {own : List (Str × Nat)} {mi : MI} {g : MG} {mt : MT} {me : ME} {ts : List Nat} (nd : X.N.Nodup) (ok : BlkOk X.N X.env.scope scope own) (hi : DI X W tg iter mi)
    (hg : ∀ (s : Shared) (H : Hp) (C : Addr) (cl : List (Str × Addr)) (fp : List Addr), DG (X.blk s H scope (compEnvC scope cl C X.env) fp) tg g ts) (ht : ∀ (s : Shared) (H : Hp) (C : Addr) (cl : List (Str × Addr)) (fp : List Addr), PTs (X.blk s H scope (compEnvC scope cl C X.env) fp) ifs (tT X.K X.mg wNo mt))
    (he : ∀ (s : Shared) (H : Hp) (C : Addr) (cl : List (Str × Addr)) (fp : List Addr), DE (X.blk s H scope (compEnvC scope cl C X.env) fp) wNo elt me) (hsw : swapsWith (.ListComp elt [⟨tg, iter, ifs, 0⟩] scope pos) (some (.Name y py)) pos'.line X.env = pure true) (hy : X.N[i]? = some y := by rfl) (hyl : X.env.scope.names.lookup y = some .local := by rfl)
    (hv : ∀ j ∈ ts, j ∈ own.map (·.2) := by decide) (hc : X.calm = true := by rfl) (hs : ∀ x, foldedSetIterable iter X.env x = pure x := by intro _; rfl) :
    DS X W (.Assign [.Name y py] (.ListComp elt [⟨tg, iter, ifs, 0⟩] scope pos) pos') (Fm.sAsg (Fm.eNew (Fm.fComp mi g mt me (own.map (·.2)))) (Fm.gName i)) := by
  refine ⟨PS.imp (ps_setLc (te := tE X.K X.mg wNo me) (g := tTg X.K X.mg g ts) hc nd hy hyl hsw hi.p ok (fun s H C cl fp => (hg s H C cl fp).p) ht (fun s H C cl fp => (he s H C cl fp).p) hs) fun D σ H ⟨G, ι, Γ, μ, o, h⟩ => ?_⟩
  exact comp_to hv σ H _ (new_to σ H _ ⟨G, ι, Γ, μ, o, As.st h fun x μ1 v G1 ι1 H1 _ e1 o1 r1 h1 => h1 _ G1 ι1 H1 Ext.refl (o1.set r1 i)⟩)
end
end L3

set_option Elab.async false
set_option linter.all false
set_option maxRecDepth 100000
set_option maxHeartbeats 4000000
/-! NL6: freezing through and through; defs and their promises. -/
namespace L3
open PySem L2 RZ PyProof.Rows PySem.Spec
open Fm (Vl MO Mem En Rs ME MF MA MT MG MS MI Out So Gd Ky)
section
variable {K : PySem.W.Frag} {mg : Str → Option Value} {G G' H H' : Hp} {ι ι' : Im} {μ μ' : Mem}
/-- what may be frozen -/
def Fzb (μ : Mem) (i : Nat) : Prop := (∃ xs, μ[i]? = some (some (.lst xs))) ∨ ∃ kvs, μ[i]? = some (some (.dk false kvs))
open Classical in
noncomputable def frzG (G : Hp) (ι : Im) (H : Hp) (μ : Mem) (S : List Nat) : Hp := fun a => if ∃ i, i ∈ S ∧ ι i = some a ∧ Fzb μ i then H a else G a
theorem frzG_in {S : List Nat} {i : Nat} {a : Addr} (h1 : i ∈ S) (h2 : ι i = some a) (h3 : Fzb μ i) : frzG G ι H μ S a = H a := if_pos ⟨i, h1, h2, h3⟩
theorem kill_at {S : List Nat} {i : Nat} {o : MO} (h : (Fm.kill S μ)[i]? = some (some o)) : i ∉ S ∧ μ[i]? = some (some o) := by
  unfold Fm.kill at h
  rw [List.getElem?_mapIdx] at h
  cases e : μ[i]? with
  | none => rw [e] at h; cases h
  | some x =>
    rw [e] at h
    simp only [Option.map_some] at h
    split at h
    · cases h
    · rename_i n
      exact ⟨n, h⟩
theorem frz_same (m : Ms K mg G ι H μ) (S : List Nat) : Same G (frzG G ι H μ S) := fun a o q => by
  unfold frzG
  split
  · rename_i h
    obtain ⟨i, _, h2, h3⟩ := h
    have ex : ∃ o, μ[i]? = some (some o) := by
      rcases h3 with ⟨xs, h⟩ | ⟨kvs, h⟩ <;> exact ⟨_, h⟩
    obtain ⟨o', ho⟩ := ex
    obtain ⟨a', r1, r2, _⟩ := m.at_ i o' ho
    rw [h2] at r1
    cases r1
    rw [r2] at q
    cases q
  · exact q
theorem Ms.deepS (m : Ms K mg G ι H μ) (S : List Nat) : Ms K mg (frzG G ι H μ S) ι H (Fm.kill S μ) ∧ Ext G ι H (frzG G ι H μ S) ι H := by
  have x : Xt G ι (frzG G ι H μ S) ι := ⟨frz_same m S, fun _ _ q => q⟩
  refine ⟨⟨fun a o q => ?_, fun i o q => ?_, fun i a q => ?_, m.inj⟩, x, fun a o q g n => ⟨q, ?_, n⟩, fun a o q => ⟨o, q⟩⟩
  · unfold frzG at q
    split at q
    · exact .inl q
    · exact m.s a o q
  · obtain ⟨hi, ho⟩ := kill_at q
    obtain ⟨a, r1, r2, r3⟩ := m.at_ i o ho
    refine ⟨a, r1, ?_, r3.up x rfl fun _ z => z⟩
    unfold frzG
    rw [if_neg]
    · exact r2
    · rintro ⟨j, h1, h2, _⟩
      exact hi (m.inj i j a r1 h2 ▸ h1)
  · have l : (Fm.kill S μ).length = μ.length := by unfold Fm.kill; rw [List.length_mapIdx]
    rw [l]
    exact m.dom i a q
  · unfold frzG
    rw [if_neg]
    · exact g
    · rintro ⟨j, _, h2, _⟩
      exact n j h2
theorem mapO_rv {S : List Nat} {n : Nat} (ih : ∀ (v : V) (x d : Vl), Rv K G ι v x → Fm.frzV n μ x = some d → (∀ i ∈ Fm.rchV n μ x, i ∈ S) → Rv K (frzG G ι H μ S) ι v d) : ∀ {vs : List V} {xs ds : List Vl}, RvA K G ι vs xs → Fm.mapO (Fm.frzV n μ) xs = some ds → (∀ i ∈ Fm.flatL (Fm.rchV n μ) xs, i ∈ S) → RvA K (frzG G ι H μ S) ι vs ds
  | _, _, _, .nil, e, _ => by cases e; exact .nil
  | _, _, _, .cons h a, e, hs => by
    obtain ⟨y, e1, e2⟩ := bnd e
    obtain ⟨ys, e3, e4⟩ := bnd e2
    cases e4
    exact .cons (ih _ _ _ h e1 fun i z => hs i (List.mem_append_left _ z)) (mapO_rv ih a e3 fun i z => hs i (List.mem_append_right _ z))
theorem frzV_rv (m : Ms K mg G ι H μ) {S : List Nat} : ∀ (n : Nat) (v : V) (x d : Vl), Rv K G ι v x → Fm.frzV n μ x = some d → (∀ i ∈ Fm.rchV n μ x, i ∈ S) → Rv K (frzG G ι H μ S) ι v d
  | 0, v, x, d, h, e, _ => by
    unfold Fm.frzV at e
    split at e
    · cases e
      exact h.up ⟨frz_same m S, fun _ _ q => q⟩
    · cases e
  | n + 1, v, x, d, h, e, hs => by
    have xt : Xt G ι (frzG G ι H μ S) ι := ⟨frz_same m S, fun _ _ q => q⟩
    unfold Fm.frzV at e
    split at e
    · cases e
      exact h.up xt
    · cases h with
      | non => cases e
      | bl b => cases e
      | int i => cases e
      | str s => cases e
      | scr h => cases e
      | dct h l a => cases e
      | lst h a =>
        obtain ⟨ys, e1, e2⟩ := bnd e
        cases e2
        exact .lst (xt.g _ _ h) (mapO_rv (frzV_rv m n) a e1 hs)
      | tup h a =>
        obtain ⟨ys, e1, e2⟩ := bnd e
        cases e2
        exact .tup (xt.g _ _ h) (mapO_rv (frzV_rv m n) a e1 hs)
      | @ref i a h =>
        simp only at e
        have hi : i ∈ S := hs i (by unfold Fm.rchV; exact List.mem_cons_self)
        split at e
        · rename_i xs q
          obtain ⟨ys, e1, e2⟩ := bnd e
          cases e2
          obtain ⟨a', r1, _, vs, r2, r3⟩ := m.at_ _ _ q
          rw [h] at r1
          cases r1
          refine .lst ?_ (mapO_rv (frzV_rv m n) r3 e1 fun j z => hs j ?_)
          · rw [frzG_in hi h (.inl ⟨_, q⟩)]
            exact r2
          · unfold Fm.rchV
            simp only [q]
            exact List.mem_cons_of_mem _ z
        · rename_i kvs q
          obtain ⟨ys, e1, e2⟩ := bnd e
          cases e2
          obtain ⟨a', r1, _, vs, r2, r3⟩ := m.at_ _ _ q
          rw [h] at r1
          cases r1
          refine .dct (xs := vs) ?_ (by rw [r3.len]; simp) (mapO_rv (frzV_rv m n) r3 e1 fun j z => hs j ?_)
          · rw [frzG_in hi h (.inr ⟨_, q⟩)]
            exact r2
          · unfold Fm.rchV
            simp only [q]
            exact List.mem_cons_of_mem _ z
        · cases e
end
section
variable {X : Cx} {W : WX} {e : Expr} {m : ME}
/-- e's value, frozen through and through -/
theorem ddeep (h : DE X W e m) : DE X W e (Fm.eDeep m) := ⟨PE.imp h.p fun σ H Q ⟨G, ι, Γ, μ, o, h⟩ =>
  ⟨G, ι, Γ, μ, o, Af.bind h fun x μ1 v G1 ι1 H1 _ e1 o1 r1 h1 => by
    split at h1
    · rename_i d q
      obtain ⟨m', e'⟩ := o1.m.deepS (Fm.rchV Fm.depthF μ1 x)
      exact h1 v _ ι1 H1 e' (o1.step e'.toXt m') (frzV_rv o1.m _ _ _ _ r1 q fun _ z => z)
    · exact False.elim h1⟩⟩
/-- slot i is frozen ahead of a block -/
theorem sfrz {b : List Stmt} {m : MS} (i : Nat) (h : DSs X W b m) : DSs X W b (Fm.sFrz i m) := ⟨PSs.imp h.p fun D σ H ⟨G, ι, Γ, μ, o, h⟩ => by
  unfold Fm.sFrz at h
  split at h
  · rename_i x q1
    split at h
    · rename_i d q2
      obtain ⟨v, r1, r2⟩ := o.slot q1
      obtain ⟨m', e'⟩ := o.m.deepS (Fm.rchV Fm.depthF μ x)
      have r3 := frzV_rv (S := Fm.rchV Fm.depthF μ x) o.m _ _ _ _ r2 q2 fun _ z => z
      have o2 := (o.step e'.toXt m').set r3 i
      have eσ : σ.set i (some v) = σ := by
        obtain ⟨l, e⟩ := List.getElem?_eq_some_iff.mp r1
        rw [← e]
        exact List.set_getElem_self l
      rw [eσ] at o2
      exact ⟨_, ι, _, _, o2, As.up e' h⟩
    · exact False.elim h
  · exact False.elim h⟩
end
/-! ### forgetting what a callee made -/
section
variable {K : PySem.W.Frag} {mg : Str → Option Value} {G G' H H' : Hp} {ι ι' : Im} {μ μ' : Mem}
def rsI (n : Nat) (ι : Im) : Im := fun j => if j < n then ι j else none
theorem rsI_lt {n j : Nat} (h : j < n) : rsI n ι j = ι j := if_pos h
theorem rsI_some {n j : Nat} {a : Addr} (h : rsI n ι j = some a) : j < n ∧ ι j = some a := by
  unfold rsI at h
  split at h
  · exact ⟨by assumption, h⟩
  · cases h
mutual
theorem Rv.undOf {n : Nat} {v : V} {x : Vl} (d : ∀ i a, ι i = some a → i < n) (h : Rv K G ι v x) : x.und n = true := by
  cases h with
  | non => rfl
  | bl b => rfl
  | int i => rfl
  | str s => rfl
  | scr h => rfl
  | lst h a => exact RvA.undOf d a
  | tup h a => exact RvA.undOf d a
  | dct h l a => exact RvA.undOf d a
  | ref h => exact decide_eq_true (d _ _ h)
theorem RvA.undOf {n : Nat} {v : List V} {x : List Vl} (d : ∀ i a, ι i = some a → i < n) (h : RvA K G ι v x) : Vl.undA n x = true := by
  cases h with
  | nil => rfl
  | cons x a =>
    unfold Vl.undA
    rw [Rv.undOf d x, RvA.undOf d a]
    rfl
end
theorem Ro.undOf {n : Nat} {a : Addr} {o : MO} (d : ∀ i a, ι i = some a → i < n) (h : Ro K mg G ι H a o) : o.und n = true := by
  cases o with
  | lst xs =>
    obtain ⟨vs, q, r⟩ := h
    exact r.undOf d
  | dk l kvs =>
    obtain ⟨vs, q, r⟩ := h
    exact r.undOf d
  | dt l kvs =>
    obtain ⟨vs, q, r⟩ := h
    exact r.undOf d
  | ins c fs =>
    obtain ⟨C, dx, vs, q, q2, q3, r⟩ := h
    exact r.undOf d
theorem Ms.gc (m0 : Ms K mg G ι H μ) (m : Ms K mg G' ι' H' μ') (e : Ext G ι H G' ι' H') (c : Fm.Cln μ μ') : Ms K mg G' (rsI μ.length ι') H' (μ'.take μ.length) ∧ Ext G ι H G' (rsI μ.length ι') H' := by
  refine ⟨⟨m.s, fun i o q => ?_, fun i a q => ?_, fun i j a q r => m.inj i j a (rsI_some q).2 (rsI_some r).2⟩, ⟨e.g, fun j a q => ?_⟩, fun a o q g n => ?_, e.t⟩
  · rw [List.getElem?_take] at q
    split at q
    · rename_i hi
      obtain ⟨a, r1, r2, r3⟩ := m.at_ i o q
      refine ⟨a, by rw [rsI_lt hi]; exact r1, r2, ?_⟩
      refine r3.und (n := μ.length) ?_ fun j b hj w => by rw [rsI_lt hj]; exact w
      rcases c i hi with z | ⟨o', z1, z2⟩
      · rw [z] at q
        obtain ⟨a0, _, _, t3⟩ := m0.at_ i o q
        exact t3.undOf fun j b w => (m0.dom j b w).1
      · rw [q] at z1
        cases z1
        exact z2 o rfl
    · cases q
  · obtain ⟨h1, h2⟩ := rsI_some q
    obtain ⟨h3, h4⟩ := m.dom i a h2
    exact ⟨by rw [List.length_take]; omega, h4⟩
  · rw [rsI_lt (m0.dom j a q).1]
    exact e.i j a q
  · obtain ⟨h1, h2, h3⟩ := e.f a o q g n
    exact ⟨h1, h2, fun i z => h3 i (rsI_some z).2⟩
end
/-! ### defs -/
section
variable {P : Program} {w : World} {K : PySem.W.Frag} {mg : Str → Option Value} {base : Heap} {x qual : Str} {params : Arguments} {body : List Stmt} {scope : Scope} {f : Addr} {fd : FuncData} {N ps : List Str} {k : Nat}
theorem args_at {n i : Nat} {ds : List Vl} {s : Vl} (h : (Fm.args n ds)[i]? = some (some s)) : ds[i]? = some s := by
  unfold Fm.args at h
  by_cases l : i < ds.length
  · rw [List.getElem?_append_left (by rw [List.length_map]; exact l), List.getElem?_map, List.getElem?_eq_getElem l] at h
    rw [List.getElem?_eq_getElem l]
    exact Option.some.inj h
  · rw [List.getElem?_append_right (by rw [List.length_map]; omega)] at h
    obtain ⟨h1, h2⟩ := List.getElem?_eq_some_iff.mp h
    rw [List.getElem_replicate] at h2
    cases h2
theorem start_at {i : Nat} {v : V} {vs : List V} (h : vs[i]? = some v) : (L2.start N vs)[i]? = some (some v) := by
  unfold L2.start
  have l := (List.getElem?_eq_some_iff.mp h).1
  rw [List.getElem?_append_left (by rw [List.length_map]; exact l), List.getElem?_map, h]
  rfl
theorem ok_start {G H : Hp} {ι : Im} {μ : Mem} {vs : List V} {ds : List Vl} (m : Ms K mg G ι H μ) (d : RvA K G ι vs ds) : Ok K mg G ι H (L2.start N vs) (Fm.args N.length ds) μ where
  m := m
  at_ := fun i s e => by
    obtain ⟨v, h2, h3⟩ := d.get (args_at e)
    exact ⟨v, start_at h2, h3⟩
  ln := by
    unfold L2.start Fm.args
    rw [List.length_append, List.length_append, List.length_map, List.length_map, List.length_replicate, List.length_replicate, d.len]
abbrev wE (E : XK) : WX := fun cls d _ H => E cls d H
abbrev Bd (P : Program) (w : World) (K : PySem.W.Frag) (mg : Str → Option Value) (base : Heap) (qual : Str) (body : List Stmt) (scope : Scope) (f : Addr) (N : List Str) (k : Nat) (m : MS) : Prop :=
  ∀ (cdv : Value) (A : Around) (outer : List Env) (s : Shared) (H : Hp) (E : XK), Room k (A.deeper (envOfC qual scope s.heap.objs.size f cdv)) → DSs (cxOf (L2.CX P w) P w K mg base N qual scope f cdv A outer s H E) (wE E) body m
theorem gcM_ok {G G' H H' : Hp} {ι ι' : Im} {μ μ' : Mem} {b : Bool} (m0 : Ms K mg G ι H μ) (m : Ms K mg G' ι' H' μ') (e : Ext G ι H G' ι' H') : ∃ ι'', Ms K mg G' ι'' H' (Fm.gcM b μ μ') ∧ Ext G ι H G' ι'' H' ∧ (∀ j a, ι'' j = some a → ι' j = some a) ∧
    (ι'' = ι' ∨ (b = true ∧ ∀ j a, j < μ.length → ι' j = some a → ι'' j = some a)) := by
  unfold Fm.gcM
  split
  · rename_i h
    obtain ⟨m', e'⟩ := m0.gc m e h.2
    exact ⟨_, m', e', fun j a q => (rsI_some q).2, .inr ⟨h.1, fun j a hj q => by rw [rsI_lt hj]; exact q⟩⟩
  · exact ⟨ι', m, e, fun _ _ q => q, .inl rfl⟩
theorem okV (F : FunD K x qual params body scope [] [] f fd) (S : FnScope N ps scope) {m : MS} (hb : Bd P w K mg base qual body scope f N k m) : FnOk P w K mg base (L2.CX P w) (k + 1) f fd ps (spV K mg ps.length (Fm.fnV ps.length N.length m)) := by
  refine F.ok S (fun vs H Q E h => h.1) (fun cdv A outer s H vs Q E hr h => ?_)
  obtain ⟨hl, G, ι, μ, xs, ms, rv, cf⟩ := h
  refine ⟨_, (hb cdv A outer s H E hr).p, G, ι, _, μ, ok_start ms rv, ?_⟩
  unfold Fm.fnV at cf
  split at cf
  · match q : m (Fm.args N.length xs) μ with
    | none =>
      rw [q] at cf
      exact cf
    | some (.nx Γ, μ') =>
      rw [q] at cf
      intro σ' G' ι' H' e' o'
      obtain ⟨ι'', m2, e2, _, h2⟩ := gcM_ok (b := Vl.non.und μ.length) ms o'.m e'
      exact cf .non G' ι'' H' e2 m2 .non
    | some (.rt y, μ') =>
      rw [q] at cf
      intro v G' ι' H' e' m' r'
      obtain ⟨ι'', m2, e2, _, h2⟩ := gcM_ok (b := y.und μ.length) ms m' e'
      refine cf v G' ι'' H' e2 m2 ?_
      rcases h2 with rfl | ⟨h3, h4⟩
      · exact r'
      · exact r'.und h3 h4
    | some (.ex c r Γ, μ') =>
      rw [q] at cf
      intro C d σ' G' ι' H' e' o' hc hx
      obtain ⟨ι'', m2, e2, _, h2⟩ := gcM_ok (b := true) ms o'.m e'
      exact cf C d G' ι'' H' e2 m2 hc hx
    | some (.rf none y, μ') =>
      rw [q] at cf
      exact False.elim cf
    | some (.rf (some i) y, μ') =>
      rw [q] at cf
      exact False.elim cf
    | some (.bk Γ, μ') =>
      rw [q] at cf
      exact False.elim cf
    | some (.ct Γ, μ') =>
      rw [q] at cf
      exact False.elim cf
  · exact False.elim cf
theorem okF (F : FunD K x qual params body scope [] [] f fd) (S : FnScope N ps scope) {m : MS} (hb : Bd P w K mg base qual body scope f N k m) : FnOk P w K mg base (L2.CX P w) (k + 1) f fd ps (spF K mg ps.length (Fm.fnF ps.length N.length m)) := by
  refine F.ok S (fun vs H Q E h => h.1) (fun cdv A outer s H vs Q E hr h => ?_)
  obtain ⟨hl, G, ι, μ, xs, ms, rv, cf⟩ := h
  refine ⟨_, (hb cdv A outer s H E hr).p, G, ι, _, μ, ok_start ms rv, ?_⟩
  unfold Fm.fnF at cf
  split at cf
  · match q : m (Fm.args N.length xs) μ with
    | none =>
      rw [q] at cf
      exact cf
    | some (.nx Γ, μ') =>
      rw [q] at cf
      exact False.elim cf
    | some (.rt y, μ') =>
      rw [q] at cf
      exact False.elim cf
    | some (.ex c r Γ, μ') =>
      rw [q] at cf
      intro C d σ' G' ι' H' e' o' hc hx
      obtain ⟨ι'', m2, e2, _, h2⟩ := gcM_ok (b := true) ms o'.m e'
      exact cf C d G' ι'' H' e2 m2 hc hx
    | some (.rf none y, μ') =>
      rw [q] at cf
      intro p G' ι' H' e' m' f'
      obtain ⟨ι'', m2, e2, h1, h2⟩ := gcM_ok (b := y.und μ.length) ms m' e'
      refine cf _ G' ι'' H' e2 m2 ⟨p, rfl, f'.z, f'.g, fun j z => f'.n j (h1 _ _ z), ?_⟩
      rcases h2 with rfl | ⟨h3, h4⟩
      · exact f'.r
      · exact f'.r.und h3 h4
    | some (.rf (some i) y, μ') =>
      rw [q] at cf
      simp only [Fm.outF] at cf
      intro p G' ι' H' e' m' gp ip r'
      split at cf
      · rename_i hc
        obtain ⟨m2, e2⟩ := ms.gc m' e' hc.2.2
        have hp : H p = none := by
          cases w : H p with
          | none => rfl
          | some u =>
            by_cases hj : ∃ j, ι j = some p
            · obtain ⟨j, hj⟩ := hj
              have h1 := m'.inj i j p ip (e'.i j p hj)
              have h2 := (ms.dom j p hj).1
              have h3 := hc.1
              omega
            · have gp0 : G p = none := by
                cases w2 : G p with
                | none => rfl
                | some u2 =>
                  rw [e'.g _ _ w2] at gp
                  cases gp
              exact absurd ip ((e'.f p u w gp0 fun j z => hj ⟨j, z⟩).2.2 i)
        refine cf _ G' _ H' e2 m2 ⟨p, rfl, hp, gp, fun j z => ?_, r'.und hc.2.1 fun j b hj w => by rw [rsI_lt hj]; exact w⟩
        obtain ⟨z1, z2⟩ := rsI_some z
        have h1 := m'.inj i j p ip z2
        have h3 := hc.1
        omega
      · exact False.elim cf
    | some (.bk Γ, μ') =>
      rw [q] at cf
      exact False.elim cf
    | some (.ct Γ, μ') =>
      rw [q] at cf
      exact False.elim cf
  · exact False.elim cf
/-- the def by its name -/
theorem fd_of {sp : Sp} (F : FunD K x qual params body scope [] [] f fd) (ok : FnOk P w K mg base (L2.CX P w) k f fd ps sp) (hm : mg x = some (.ref f)) (hb : Binds K fd ps []) : Fd P w K mg base x k sp :=
  ⟨f, fd, ps, ok, hm, F.kp, hb⟩
theorem Fd.up {sp : Sp} {j : Nat} (h : Fd P w K mg base x k sp) (l : k ≤ j) : ∀ {A : Around}, Room j A → Room k A := fun r => r.mono l
end
end L3

set_option Elab.async false
set_option linter.all false
set_option maxRecDepth 100000
set_option maxHeartbeats 4000000
/-! NL7: odds and ends of a whole law. -/
namespace L3
open PySem L2 RZ PyProof.Rows PySem.Spec
open Fm (Vl MO Mem En Rs ME MF MA MT MG MS MI Out So Gd Ky)
theorem hu64 {A : Around} {k : Nat} (hr : Room k A) : A.units + 64 < cLine := by
  have := hr.un
  omega
theorem fn_none {α : Type} {P : Program} {w : World} {K : PySem.W.Frag} {mg : Str → Option Value} {base : Heap} {CX : CXT} {k n : Nat} {f : Addr} {fd : FuncData} {ps : List Str} {R : Rl α V} : FnOk P w K mg base CX k f fd ps (spG K mg R n fun _ _ => .no) := by
  refine ⟨?_, ?_⟩
  · intro vs H Q E h
    obtain ⟨_, _, _, _, _, _, _, h⟩ := h
    exact False.elim h
  · intros
    rename_i h
    obtain ⟨_, _, _, _, _, _, _, h⟩ := h
    exact False.elim h
theorem cx_false {P : Program} {w : World} {l : List Env} {H : Hp} {s : Shared} {e : Value} {s' : Shared} (h : L2.CX P w l H s (fun _ _ _ => False) e s') : False := by
  obtain ⟨a, B, H', cls, d, h⟩ := h
  simp at h
/-- where nothing is let out -/
theorem fn_cx0 {P : Program} {w : World} {K : PySem.W.Frag} {mg : Str → Option Value} {base : Heap} {k : Nat} {f : Addr} {fd : FuncData} {ps : List Str} {sp : Sp} (F : FnOk P w K mg base (L2.CX P w) k f fd ps sp) : FnOk P w K mg base CX0 k f fd ps (fun vs H Q _ => sp vs H Q fun _ _ _ => False) := by
  refine ⟨fun vs H Q E h => F.len vs H Q _ h, fun A outer s H args us vs Q E hr he hb hv hs => codeAny_mono (F.run A outer s H args us vs Q _ hr he hb hv hs) fun r s' h => ?_⟩
  cases r with
  | error e => exact False.elim (cx_false h)
  | ok fl => cases fl <;> exact h
theorem law_start {K : PySem.W.Frag} {mg : Str → Option Value} {H : Hp} {a : Addr} {ns : List Int} {F : List Vl → Mem → Rs Vl} (h : ∃ μ', F [.scr ns] [] = .ok (.bl true) μ') (hS : SqL K H a (ns.map V.int)) : spV K mg 1 F [.ref a] H (fun v _ => v = .bl true) (fun _ _ _ => False) := by
  obtain ⟨μ', h⟩ := h
  refine ⟨rfl, fun b => if b = a then H b else none, fun _ => none, [], [.scr ns], ⟨fun b o q => ?_, fun i o q => (by cases q), fun i a q => (by cases q), fun i j a q => (by cases q)⟩, .cons (.scr ?_) .nil, ?_⟩
  · by_cases hb : b = a
    · rw [if_pos hb] at q
      exact .inl q
    · rw [if_neg hb] at q
      cases q
  · rcases hS with (h | ⟨o, h⟩) | h
    · exact .inl (.inl (by show (if a = a then H a else none) = _; rw [if_pos rfl]; exact h))
    · exact .inl (.inr ⟨o, by show (if a = a then H a else none) = _; rw [if_pos rfl]; exact h⟩)
    · exact .inr h
  · rw [h]
    intro v G' ι' H' _ _ r
    exact bl_of r
end L3

set_option Elab.async false
set_option linter.all false
set_option maxRecDepth 100000
set_option maxHeartbeats 4000000
/-! NL8: more operators. -/
namespace L3
open PySem L2
open Fm (Vl MO Mem En Rs ME MF MA MT MG MS MI Out So Gd Ky)
section
variable {X : Cx} {W : WX} {pos : Pos} {a : Expr} {ma : ME}
theorem dneg (ha : DE X W a ma) : DE X W (.UnaryOp .USub a pos) (Fm.eUn Fm.gNeg ma) := ⟨PE.imp (pe_un un_neg ha.p) fun σ H Q ⟨G, ι, Γ, μ, o, h⟩ =>
  ⟨G, ι, Γ, μ, o, Af.bind h fun x μ1 v G1 ι1 H1 _ e1 o1 r1 h1 => by
    obtain ⟨z, e, h2⟩ := Af.of h1
    unfold Fm.gNeg at e
    split at e
    · cases e
      exact ⟨_, int_of r1, af_val o1 h2 Ext.refl o1.m (.int _)⟩
    · cases e⟩⟩
theorem drev {k : Nat} {p1 p2 p3 : Pos} (ha : DE X W a ma) : DF X W (.Subscript a (.Slice none none (some (.UnaryOp .USub (.Constant (.int 1) k p1) p2)) p3) pos) (Fm.fUn Fm.gRev ma) := ⟨PE.imp (pe_revL ha.p) fun σ H Q ⟨G, ι, Γ, μ, o, h⟩ =>
  ⟨G, ι, Γ, μ, o, Af.bind h fun x μ1 v G1 ι1 H1 _ e1 o1 r1 h1 => by
    obtain ⟨z, e, h2⟩ := Af.of h1
    obtain ⟨xs, e2, e3⟩ := bnd e
    cases e3
    obtain ⟨a, vs, rfl, r2, r3⟩ := lstOf_of o1.m r1 e2
    exact ⟨a, vs, rfl, SqL.of r2, newF o1.m r3.reverse fun p H' e' m' f' => af_new o1 h2 e' m' f'⟩⟩⟩
end
end L3

set_option linter.all false
set_option maxRecDepth 100000
set_option maxHeartbeats 4000000
/-! PL0: reckoning with mirrors. -/
namespace Fm
open PySem
theorem gc_len {b : Bool} {μ μ' : Mem} (h : μ'.length = μ.length) : gcM b μ μ' = μ' := by
  unfold gcM
  split
  · rw [← h]
    exact List.take_length
  · rfl
theorem gc_self {b : Bool} {μ : Mem} : gcM b μ μ = μ := gc_len rfl
theorem gc_set {b : Bool} {μ : Mem} {i : Nat} {o : Option MO} : gcM b μ (μ.set i o) = μ.set i o := gc_len (List.length_set ..)
mutual
theorem Vl.und_up {n m : Nat} (h : n ≤ m) : ∀ {v : Vl}, v.und n = true → v.und m = true
  | .non, _ => rfl
  | .bl _, _ => rfl
  | .int _, _ => rfl
  | .str _, _ => rfl
  | .scr _, _ => rfl
  | .tup xs, u => Vl.undA_up h (xs := xs) u
  | .lst xs, u => Vl.undA_up h (xs := xs) u
  | .dct _ xs, u => Vl.undA_up h (xs := xs) u
  | .ref i, u => by
    have u' := of_decide_eq_true u
    exact decide_eq_true (Nat.lt_of_lt_of_le u' h)
theorem Vl.undA_up {n m : Nat} (h : n ≤ m) : ∀ {xs : List Vl}, Vl.undA n xs = true → Vl.undA m xs = true
  | [], _ => rfl
  | x :: r, u => by
    unfold Vl.undA at u ⊢
    rw [Bool.and_eq_true] at u ⊢
    exact ⟨Vl.und_up h u.1, Vl.undA_up h u.2⟩
end
theorem MO.und_up {n m : Nat} (h : n ≤ m) {o : MO} (u : o.und n = true) : o.und m = true := by
  cases o <;> exact Vl.undA_up h u
/-- what a callee made is forgotten -/
theorem gc_app {μ ν : Mem} {b : Bool} (h : b = true) : gcM b μ (μ ++ ν) = μ := by
  unfold gcM
  rw [if_pos]
  · exact List.take_left
  · refine ⟨h, fun i hi => .inl ?_⟩
    rw [List.getElem?_append_left hi]
theorem gc_app_set {μ ν : Mem} {b : Bool} {i : Nat} {o : MO} (h : b = true) (u : o.und 0 = true) : gcM b μ (μ.set i (some o) ++ ν) = μ.set i (some o) := by
  unfold gcM
  have l : (μ.set i (some o)).length = μ.length := List.length_set ..
  rw [if_pos]
  · rw [← l]
    exact List.take_left
  · refine ⟨h, fun j hj => ?_⟩
    rw [List.getElem?_append_left (by rw [l]; exact hj)]
    by_cases e : i = j
    · subst e
      rw [List.getElem?_set_self hj]
      exact .inr ⟨_, rfl, fun m e => by cases e; exact MO.und_up (Nat.zero_le _) u⟩
    · rw [List.getElem?_set_ne e]
      exact .inl rfl
theorem args1 {a : Vl} {n : Nat} : args (n + 1) [a] = some a :: List.replicate n none := rfl
/-! ### the box -/
def boxO (ns : List Int) (p l t s : Int) : MO := .lst [.lst (ns.map .int), .int p, .int l, .int t, .int s]
/-- at b stands a box -/
structure Bx (μ : Mem) (b : Nat) : Prop where
  ex : ∃ ns p l t s, μ[b]? = some (some (boxO ns p l t s)) ∧ 0 ≤ p
theorem Bx.lt {μ : Mem} {b : Nat} (h : Bx μ b) : b < μ.length := by
  obtain ⟨_, _, _, _, _, h, _⟩ := h.ex
  exact (List.getElem?_eq_some_iff.mp h).1
/-- from μ to μ' only the box was turned -/
structure Bt (b : Nat) (μ μ' : Mem) : Prop where
  ex : ∃ ns p l t s, μ' = μ.set b (some (boxO ns p l t s)) ∧ 0 ≤ p
  bx : Bx μ b
theorem Bt.to {b : Nat} {μ μ' : Mem} (h : Bt b μ μ') : Bx μ' b := by
  obtain ⟨ns, p, l, t, s, rfl, hp⟩ := h.ex
  exact ⟨ns, p, l, t, s, List.getElem?_set_self h.bx.lt, hp⟩
theorem Bt.refl {b : Nat} {μ : Mem} (h : Bx μ b) : Bt b μ μ := by
  obtain ⟨ns, p, l, t, s, e, hp⟩ := h.ex
  refine ⟨⟨ns, p, l, t, s, ?_, hp⟩, h⟩
  obtain ⟨h1, h2⟩ := List.getElem?_eq_some_iff.mp e
  rw [← h2]
  exact (List.set_getElem_self h1).symm
theorem Bt.trans {b : Nat} {μ μ1 μ2 : Mem} (h : Bt b μ μ1) (k : Bt b μ1 μ2) : Bt b μ μ2 := by
  obtain ⟨ns, p, l, t, s, rfl, hp⟩ := h.ex
  obtain ⟨ns', p', l', t', s', rfl, hp'⟩ := k.ex
  exact ⟨⟨ns', p', l', t', s', List.set_set .., hp'⟩, h.bx⟩
theorem Bt.len {b : Nat} {μ μ' : Mem} (h : Bt b μ μ') : μ'.length = μ.length := by
  obtain ⟨ns, p, l, t, s, rfl, hp⟩ := h.ex
  exact List.length_set ..
theorem Bt.gc {b : Nat} {μ μ' : Mem} {c : Bool} (h : Bt b μ μ') : gcM c μ μ' = μ' := gc_len h.len
theorem Bt.other {b i : Nat} {μ μ' : Mem} (h : Bt b μ μ') (n : i ≠ b) : μ'[i]? = μ[i]? := by
  obtain ⟨ns, p, l, t, s, rfl, hp⟩ := h.ex
  exact List.getElem?_set_ne (Ne.symm n)
end Fm

set_option linter.all false
set_option maxRecDepth 100000
set_option maxHeartbeats 4000000
/-! PS0: rules for simp. -/
namespace Fm
open PySem
section
variable {α β : Type} {Γ : En} {μ μ' : Mem}
@[simp] theorem s_bind_ok {x : α} {f : α → Mem → Rs β} : (Rs.ok x μ).bind f = f x μ := rfl
@[simp] theorem s_bind_no {f : α → Mem → Rs β} : (Rs.no : Rs α).bind f = .no := rfl
@[simp] theorem s_bind_ex {c : Str} {r : Option Int} {f : α → Mem → Rs β} : (Rs.ex c r μ : Rs α).bind f = .ex c r μ := rfl
@[simp] theorem s_of_some {x : α} : Rs.of (some x) μ = .ok x μ := rfl
@[simp] theorem s_of_none : Rs.of (none : Option α) μ = .no := rfl
@[simp] theorem s_st_ok {x : α} {f : α → Mem → So} : (Rs.ok x μ).st Γ f = f x μ := rfl
@[simp] theorem s_st_ex {c : Str} {r : Option Int} {f : α → Mem → So} : (Rs.ex c r μ : Rs α).st Γ f = some (.ex c r Γ, μ) := rfl
@[simp] theorem s_tame_ok {x : α} : (Rs.ok x μ).tame = .ok x μ := rfl
@[simp] theorem s_slot0 {x : Option Vl} {r : En} : slotV 0 (x :: r) = x := by cases x <;> rfl
@[simp] theorem s_slotS {i : Nat} {x : Option Vl} {r : En} : slotV (i + 1) (x :: r) = slotV i r := rfl
@[simp] theorem s_eVar {i : Nat} : eVar i Γ μ = Rs.of (slotV i Γ) μ := rfl
@[simp] theorem s_eC {x : Vl} : eC x Γ μ = .ok x μ := rfl
@[simp] theorem s_eOp {g : Vl → Vl → Mem → Option Vl} {a b : ME} : eOp g a b Γ μ = (a Γ μ).bind fun x μ1 => (b Γ μ1).bind fun y μ2 => Rs.of (g x y μ2) μ2 := rfl
@[simp] theorem s_fOp {g : Vl → Vl → Mem → Option MO} {a b : ME} : fOp g a b Γ μ = (a Γ μ).bind fun x μ1 => (b Γ μ1).bind fun y μ2 => Rs.of (g x y μ2) μ2 := rfl
@[simp] theorem s_eUn {g : Vl → Mem → Option Vl} {a : ME} : eUn g a Γ μ = (a Γ μ).bind fun x μ1 => Rs.of (g x μ1) μ1 := rfl
/-- by a bool -/
def bK (x : Vl) (f : Bool → Rs α) : Rs α := match getB x with
  | some c => f c
  | none => .no
@[simp] theorem s_bK {c : Bool} {f : Bool → Rs α} : bK (.bl c) f = f c := rfl
@[simp] theorem s_eAnd {a b : ME} : eAnd a b Γ μ = (a Γ μ).bind fun x μ1 => bK x fun c => if c = true then b Γ μ1 else .ok (.bl false) μ1 := by
  unfold eAnd bK
  congr
  funext x μ1
  cases getB x with
  | none => rfl
  | some c => cases c <;> rfl
@[simp] theorem s_eOr {a b : ME} : eOr a b Γ μ = (a Γ μ).bind fun x μ1 => bK x fun c => if c = true then .ok (.bl true) μ1 else b Γ μ1 := by
  unfold eOr bK
  congr
  funext x μ1
  cases getB x with
  | none => rfl
  | some c => cases c <;> rfl
@[simp] theorem s_eNot {a : ME} : eNot a Γ μ = (a Γ μ).bind fun x μ1 => bK x fun c => .ok (.bl (!c)) μ1 := by
  unfold eNot bK
  congr
@[simp] theorem s_eIf {t : MT} {a b : ME} : eIf t a b Γ μ = (t Γ μ).bind fun c μ1 => if c = true then a Γ μ1 else b Γ μ1 := by
  unfold eIf
  congr
  funext x μ1
  cases x <;> rfl
/-- the second half of a chain -/
def chK (o : Option Vl) (f g : Rs Vl) : Rs Vl := match o with
  | some (.bl true) => f
  | some (.bl false) => g
  | _ => .no
@[simp] theorem s_chK {c : Bool} {f g : Rs Vl} : chK (some (.bl c)) f g = if c = true then f else g := by cases c <;> rfl
@[simp] theorem s_eChain {g h : Vl → Vl → Mem → Option Vl} {a b c : ME} : eChain g h a b c Γ μ = (a Γ μ).bind fun x μ1 => (b Γ μ1).bind fun y μ2 => chK (g x y μ2) ((c Γ μ2).bind fun z μ3 => Rs.of (h y z μ3) μ3) (.ok (.bl false) μ2) := by
  unfold eChain chK
  congr
@[simp] theorem s_aNil : aNil Γ μ = .ok [] μ := rfl
@[simp] theorem s_aCons {a : ME} {r : MA} : aCons a r Γ μ = (a Γ μ).bind fun x μ1 => (r Γ μ1).bind fun xs μ2 => .ok (x :: xs) μ2 := rfl
theorem fits_of_le {xs : List α} (h : xs.length ≤ 10000000) : fits xs = some xs := if_pos h
@[simp] theorem s_fits0 : fits ([] : List α) = some [] := rfl
@[simp] theorem s_fits1 {a : α} : fits [a] = some [a] := rfl
@[simp] theorem s_fits2 {a b : α} : fits [a, b] = some [a, b] := rfl
@[simp] theorem s_fits3 {a b c : α} : fits [a, b, c] = some [a, b, c] := rfl
@[simp] theorem s_fits4 {a b c d : α} : fits [a, b, c, d] = some [a, b, c, d] := rfl
@[simp] theorem s_fits5 {a b c d e : α} : fits [a, b, c, d, e] = some [a, b, c, d, e] := rfl
@[simp] theorem s_fits6 {a b c d e f : α} : fits [a, b, c, d, e, f] = some [a, b, c, d, e, f] := rfl
def oK (o : Option α) (f : α → Rs β) : Rs β := match o with
  | some x => f x
  | none => .no
@[simp] theorem s_oK {x : α} {f : α → Rs β} : oK (some x) f = f x := rfl
@[simp] theorem s_oKn {f : α → Rs β} : oK (none : Option α) f = .no := rfl
@[simp] theorem s_eTup {as : MA} : eTup as Γ μ = (as Γ μ).bind fun xs μ1 => oK (fits xs) fun ys => .ok (.tup ys) μ1 := by
  unfold eTup oK
  congr
  funext x μ1
  cases fits x <;> rfl
@[simp] theorem s_fLst {as : MA} : fLst as Γ μ = (as Γ μ).bind fun xs μ1 => oK (fits xs) fun ys => .ok (.lst ys) μ1 := by
  unfold fLst oK
  congr
  funext x μ1
  cases fits x <;> rfl
def frzK (o : MO) (μ : Mem) : Rs Vl := match o with
  | .lst xs => .ok (.lst xs) μ
  | .dk _ kvs => .ok (.dct (kvs.map (·.1)) (kvs.map (·.2))) μ
  | _ => .no
@[simp] theorem s_frzL {xs : List Vl} : frzK (.lst xs) μ = .ok (.lst xs) μ := rfl
@[simp] theorem s_frzD {l : Bool} {kvs : List (Ky × Vl)} : frzK (.dk l kvs) μ = .ok (.dct (kvs.map (·.1)) (kvs.map (·.2))) μ := rfl
@[simp] theorem s_eFrz {f : MF} : eFrz f Γ μ = (f Γ μ).bind frzK := by
  unfold eFrz
  congr
@[simp] theorem s_eNew {f : MF} : eNew f Γ μ = (f Γ μ).bind fun o μ1 => .ok (.ref μ1.length) (μ1 ++ [some o]) := rfl
@[simp] theorem s_eB {g : List Vl → Mem → Option Vl} {as : MA} : eB g as Γ μ = (as Γ μ).bind fun xs μ1 => Rs.of (g xs μ1) μ1 := rfl
@[simp] theorem s_fB {g : List Vl → Mem → Option MO} {as : MA} : fB g as Γ μ = (as Γ μ).bind fun xs μ1 => Rs.of (g xs μ1) μ1 := rfl
@[simp] theorem s_iB {g : List Vl → Mem → Option (List Vl × Gd)} {as : MA} : iB g as Γ μ = (as Γ μ).bind fun xs μ1 => Rs.of (g xs μ1) μ1 := rfl
@[simp] theorem s_eCall {F : List Vl → Mem → Rs Vl} {as : MA} : eCall F as Γ μ = (as Γ μ).bind F := rfl
@[simp] theorem s_fCall {F : List Vl → Mem → Rs MO} {as : MA} : fCall F as Γ μ = (as Γ μ).bind F := rfl
@[simp] theorem s_oNo : oNo Γ μ = .ok none μ := rfl
@[simp] theorem s_oIs {a : ME} : oIs a Γ μ = (a Γ μ).bind fun x μ1 => oK (getI x) fun k => .ok (some k) μ1 := by
  unfold oIs oK
  congr
  funext x μ1
  cases getI x <;> rfl
@[simp] theorem s_eSl {g : Vl → Option Int → Option Int → Mem → Option Vl} {e : ME} {lo hi : MO'} : eSl g e lo hi Γ μ = (e Γ μ).bind fun x μ1 => (lo Γ μ1).bind fun l μ2 => (hi Γ μ2).bind fun h μ3 => Rs.of (g x l h μ3) μ3 := rfl
@[simp] theorem s_fSl {g : Vl → Option Int → Option Int → Mem → Option MO} {e : ME} {lo hi : MO'} : fSl g e lo hi Γ μ = (e Γ μ).bind fun x μ1 => (lo Γ μ1).bind fun l μ2 => (hi Γ μ2).bind fun h μ3 => Rs.of (g x l h μ3) μ3 := rfl
@[simp] theorem s_tB {e : ME} : tB e Γ μ = (e Γ μ).bind fun x μ1 => Rs.of (getB x) μ1 := rfl
@[simp] theorem s_tYes : tYes Γ μ = .ok true μ := rfl
@[simp] theorem s_tAnd {a b : MT} : tAnd a b Γ μ = (a Γ μ).bind fun c μ1 => if c = true then b Γ μ1 else .ok false μ1 := by
  unfold tAnd
  congr
  funext x μ1
  cases x <;> rfl
@[simp] theorem s_tOr {a b : MT} : tOr a b Γ μ = (a Γ μ).bind fun c μ1 => if c = true then .ok true μ1 else b Γ μ1 := by
  unfold tOr
  congr
  funext x μ1
  cases x <;> rfl
@[simp] theorem s_tNot {a : MT} : tNot a Γ μ = (a Γ μ).bind fun c μ1 => .ok (!c) μ1 := rfl
@[simp] theorem s_getB {b : Bool} : getB (.bl b) = some b := rfl
@[simp] theorem s_getI {i : Int} : getI (.int i) = some i := rfl
@[simp] theorem s_getT {xs : List Vl} : getT (.tup xs) = some xs := rfl
@[simp] theorem s_gName {i : Nat} {x : Vl} : gName i x Γ = some (Γ.set i (some x)) := rfl
@[simp] theorem s_gsNil : gsNil [] Γ = some Γ := rfl
@[simp] theorem s_gsCons {g : MG} {r : List Vl → En → Option En} {x : Vl} {xs : List Vl} : gsCons g r (x :: xs) Γ = (g x Γ).bind fun Γ1 => r xs Γ1 := rfl
@[simp] theorem s_gTup {n : Nat} {gs : List Vl → En → Option En} {xs : List Vl} : gTup n gs (.tup xs) Γ = if xs.length = n then gs xs Γ else none := rfl
@[simp] theorem s_sNext : sNext Γ μ = some (.nx Γ, μ) := rfl
/-- the rest of a block -/
def thenK (o : So) (b : MS) : So := match o with
  | some (.nx Γ1, μ1) => b Γ1 μ1
  | r => r
@[simp] theorem s_thenK {b : MS} : thenK (some (.nx Γ, μ)) b = b Γ μ := rfl
@[simp] theorem s_thenR {b : MS} {x : Vl} : thenK (some (.rt x, μ)) b = some (.rt x, μ) := rfl
@[simp] theorem s_thenB {b : MS} : thenK (some (.bk Γ, μ)) b = some (.bk Γ, μ) := rfl
@[simp] theorem s_thenC {b : MS} : thenK (some (.ct Γ, μ)) b = some (.ct Γ, μ) := rfl
@[simp] theorem s_thenF {b : MS} {i : Option Nat} {o : MO} : thenK (some (.rf i o, μ)) b = some (.rf i o, μ) := rfl
@[simp] theorem s_thenX {b : MS} {c : Str} {r : Option Int} : thenK (some (.ex c r Γ, μ)) b = some (.ex c r Γ, μ) := rfl
@[simp] theorem s_sSeq {a b : MS} : sSeq a b Γ μ = thenK (a Γ μ) b := rfl
@[simp] theorem s_thenIf {p : Prop} [Decidable p] {x y : So} {b : MS} : thenK (if p then x else y) b = if p then thenK x b else thenK y b := by split <;> rfl
def gK (o : Option En) (μ : Mem) : So := match o with
  | some Γ1 => some (.nx Γ1, μ)
  | none => none
@[simp] theorem s_gK : gK (some Γ) μ = some (.nx Γ, μ) := rfl
@[simp] theorem s_sAsg {e : ME} {g : MG} : sAsg e g Γ μ = (e Γ μ).st Γ fun x μ1 => gK (g x Γ) μ1 := by
  unfold sAsg gK
  congr
@[simp] theorem s_sDrop {e : ME} : sDrop e Γ μ = (e Γ μ).st Γ fun _ μ1 => some (.nx Γ, μ1) := rfl
@[simp] theorem s_sRet {e : ME} : sRet e Γ μ = (e Γ μ).st Γ fun x μ1 => some (.rt x, μ1) := rfl
@[simp] theorem s_sRetN : sRetN Γ μ = some (.rt .non, μ) := rfl
@[simp] theorem s_sRetF {f : MF} : sRetF f Γ μ = (f Γ μ).st Γ fun o μ1 => some (.rf none o, μ1) := rfl
@[simp] theorem s_sIf {t : MT} {a b : MS} : sIf t a b Γ μ = (t Γ μ).st Γ fun c μ1 => if c = true then a Γ μ1 else b Γ μ1 := by
  unfold sIf
  congr
  funext x μ1
  cases x <;> rfl
@[simp] theorem s_gAddI {a b : Int} : gAdd (.int a) (.int b) μ = some (.int (a + b)) := rfl
@[simp] theorem s_gSubI {a b : Int} : gSub (.int a) (.int b) μ = some (.int (a - b)) := rfl
theorem s_gMulI {a b : Int} (h : small a ∨ small b) : gMul (.int a) (.int b) μ = some (.int (a * b)) := if_pos h
theorem s_gDivI {a b : Int} (h : 0 < b ∧ b < 10 ^ 100) : gDiv (.int a) (.int b) μ = some (.int (a / b)) := if_pos h
theorem s_gModI {a b : Int} (h : 0 < b) : gMod (.int a) (.int b) μ = some (.int (a % b)) := if_pos h
@[simp] theorem s_gLt {a b : Int} : gLt (.int a) (.int b) μ = some (.bl (decide (a < b))) := rfl
@[simp] theorem s_gLe {a b : Int} : gLe (.int a) (.int b) μ = some (.bl (decide (a ≤ b))) := rfl
@[simp] theorem s_gGt {a b : Int} : gGt (.int a) (.int b) μ = some (.bl (decide (b < a))) := rfl
@[simp] theorem s_gGe {a b : Int} : gGe (.int a) (.int b) μ = some (.bl (decide (b ≤ a))) := rfl
@[simp] theorem s_gIsN {a : Vl} : gIsN a .non μ = some (.bl (isNon a)) := rfl
@[simp] theorem s_gIsnN {a : Vl} : gIsnN a .non μ = some (.bl (!isNon a)) := rfl
@[simp] theorem s_isNonN : isNon .non = true := rfl
@[simp] theorem s_isNonB {b : Bool} : isNon (.bl b) = false := rfl
@[simp] theorem s_isNonI {b : Int} : isNon (.int b) = false := rfl
@[simp] theorem s_isNonS {b : Str} : isNon (.str b) = false := rfl
@[simp] theorem s_isNonT {b : List Vl} : isNon (.tup b) = false := rfl
@[simp] theorem s_isNonL {b : List Vl} : isNon (.lst b) = false := rfl
@[simp] theorem s_isNonR {b : Nat} : isNon (.ref b) = false := rfl
@[simp] theorem s_gIx {x i : Vl} : gIx x i μ = (seqOf μ x).bind fun xs => (getI i).bind fun k => atI xs k := rfl
@[simp] theorem s_seqT {xs : List Vl} : seqOf μ (.tup xs) = some xs := rfl
@[simp] theorem s_seqL {xs : List Vl} : seqOf μ (.lst xs) = some xs := rfl
@[simp] theorem s_lstL {xs : List Vl} : lstOf μ (.lst xs) = some xs := rfl
theorem s_seqR {i : Nat} {xs : List Vl} (h : μ[i]? = some (some (.lst xs))) : seqOf μ (.ref i) = some xs := by
  unfold seqOf lstOf
  simp only [h]
theorem s_lstR {i : Nat} {xs : List Vl} (h : μ[i]? = some (some (.lst xs))) : lstOf μ (.ref i) = some xs := by
  unfold lstOf
  simp only [h]
theorem s_memL {i : Nat} {xs : List Vl} (h : μ[i]? = some (some (.lst xs))) : memL μ (.ref i) = some (i, xs) := by
  unfold memL
  simp only [h]
@[simp] theorem s_at0 {a : α} {r : List α} : atI (a :: r) 0 = some a := by simp [atI, ixN]
theorem atI_nat {xs : List α} {k : Nat} (h : k < xs.length) : atI xs (k : Int) = xs[k]? := by
  unfold atI ixN
  rw [if_pos (Int.natCast_nonneg k), if_pos (by omega)]
  simp
theorem atI_get {xs : List α} {i : Int} (h0 : 0 ≤ i) (h : i < xs.length) : ∃ x, atI xs i = some x ∧ xs[i.toNat]? = some x := by
  unfold atI ixN
  rw [if_pos h0, if_pos h]
  have hk : i.toNat < xs.length := by omega
  exact ⟨_, List.getElem?_eq_getElem hk, List.getElem?_eq_getElem hk⟩
@[simp] theorem s_at1 {a b : α} {r : List α} : atI (a :: b :: r) 1 = some b := (atI_nat (xs := a :: b :: r) (k := 1) (by simp)).trans rfl
@[simp] theorem s_at2 {a b c : α} {r : List α} : atI (a :: b :: c :: r) 2 = some c := (atI_nat (xs := a :: b :: c :: r) (k := 2) (by simp)).trans rfl
@[simp] theorem s_at3 {a b c d : α} {r : List α} : atI (a :: b :: c :: d :: r) 3 = some d := (atI_nat (xs := a :: b :: c :: d :: r) (k := 3) (by simp)).trans rfl
@[simp] theorem s_at4 {a b c d e : α} {r : List α} : atI (a :: b :: c :: d :: e :: r) 4 = some e := (atI_nat (xs := a :: b :: c :: d :: e :: r) (k := 4) (by simp)).trans rfl
@[simp] theorem s_bLenL {xs : List Vl} : bLen [.lst xs] μ = some (.int xs.length) := rfl
@[simp] theorem s_bLenT {xs : List Vl} : bLen [.tup xs] μ = some (.int xs.length) := rfl
@[simp] theorem s_bMax {a b : Int} : bMax2 [.int a, .int b] μ = some (.int (max a b)) := by
  have : (if b > a then b else a) = max a b := by simp only [Int.max_def]; split <;> split <;> omega
  simp only [bMax2, this]
@[simp] theorem s_bMin {a b : Int} : bMin2 [.int a, .int b] μ = some (.int (min a b)) := by
  have : (if b < a then b else a) = min a b := by simp only [Int.min_def]; split <;> split <;> omega
  simp only [bMin2, this]
@[simp] theorem s_bListT {xs : List Vl} : bList [.tup xs] μ = some (.lst xs) := rfl
@[simp] theorem s_bListL {xs : List Vl} : bList [.lst xs] μ = some (.lst xs) := rfl
@[simp] theorem s_bListS {xs : List Int} : bList [.scr xs] μ = some (.lst (xs.map .int)) := rfl
@[simp] theorem s_bTupL {xs : List Vl} : bTuple [.lst xs] μ = some (.tup xs) := rfl
@[simp] theorem s_fnV {k n : Nat} {b : MS} {xs : List Vl} : fnV k n b xs μ = if xs.length = k then outV μ (b (args n xs) μ) else .no := rfl
@[simp] theorem s_fnF {k n : Nat} {b : MS} {xs : List Vl} : fnF k n b xs μ = if xs.length = k then outF μ (b (args n xs) μ) else .no := rfl
@[simp] theorem s_outR {x : Vl} : outV μ (some (.rt x, μ')) = .ok x (gcM (x.und μ.length) μ μ') := rfl
@[simp] theorem s_outN : outV μ (some (.nx Γ, μ')) = .ok .non (gcM true μ μ') := rfl
@[simp] theorem s_outF {o : MO} : outF μ (some (.rf none o, μ')) = .ok o (gcM (o.und μ.length) μ μ') := rfl
@[simp] theorem s_outIf {p : Prop} [Decidable p] {x y : So} : outV μ (if p then x else y) = if p then outV μ x else outV μ y := by split <;> rfl
@[simp] theorem s_gc {b : Bool} : gcM b μ μ = μ := gc_self
@[simp] theorem s_gcS {b : Bool} {i : Nat} {o : Option MO} : gcM b μ (μ.set i o) = μ.set i o := gc_set
@[simp] theorem s_args {n : Nat} {xs : List Vl} : args n xs = xs.map some ++ List.replicate (n - xs.length) none := rfl
theorem setM_def {i : Nat} {o : MO} : setM μ i o = μ.set i (some o) := rfl
@[simp] theorem s_seqSet {b : Nat} {xs : List Vl} (h : b < μ.length) : seqOf (setM μ b (.lst xs)) (.ref b) = some xs := s_seqR (List.getElem?_set_self h)
@[simp] theorem s_lstSet {b : Nat} {xs : List Vl} (h : b < μ.length) : lstOf (setM μ b (.lst xs)) (.ref b) = some xs := s_lstR (List.getElem?_set_self h)
@[simp] theorem s_memSet {b : Nat} {xs : List Vl} (h : b < μ.length) : memL (setM μ b (.lst xs)) (.ref b) = some (b, xs) := s_memL (List.getElem?_set_self h)
@[simp] theorem s_setset {b : Nat} {x y : MO} : setM (setM μ b x) b y = setM μ b y := List.set_set ..
@[simp] theorem s_setlen {b : Nat} {x : MO} : (setM μ b x).length = μ.length := List.length_set ..
@[simp] theorem s_gcM {b : Bool} {i : Nat} {o : MO} : gcM b μ (setM μ i o) = setM μ i o := gc_set
@[simp] theorem s_set0 {a v : Vl} {r : List Vl} : setIx (a :: r) 0 v = some (v :: r) := by simp [setIx, ixN]
theorem setIx_nat {xs : List Vl} {k : Nat} {v : Vl} (h : k < xs.length) : setIx xs (k : Int) v = some (xs.set k v) := by
  unfold setIx ixN
  rw [if_pos (Int.natCast_nonneg k), if_pos (by omega)]
  simp
@[simp] theorem s_set1 {a b v : Vl} {r : List Vl} : setIx (a :: b :: r) 1 v = some (a :: v :: r) := (setIx_nat (xs := a :: b :: r) (k := 1) (by simp)).trans rfl
@[simp] theorem s_set2 {a b c v : Vl} {r : List Vl} : setIx (a :: b :: c :: r) 2 v = some (a :: b :: v :: r) := (setIx_nat (xs := a :: b :: c :: r) (k := 2) (by simp)).trans rfl
@[simp] theorem s_set3 {a b c d v : Vl} {r : List Vl} : setIx (a :: b :: c :: d :: r) 3 v = some (a :: b :: c :: v :: r) := (setIx_nat (xs := a :: b :: c :: d :: r) (k := 3) (by simp)).trans rfl
def soK {α : Type} (o : Option α) (f : α → So) : So := match o with
  | some x => f x
  | none => none
@[simp] theorem s_soK {x : α} {f : α → So} : soK (some x) f = f x := rfl
@[simp] theorem s_soKn {f : α → So} : soK (none : Option α) f = none := rfl
@[simp] theorem s_sSetIx {o b e : ME} : sSetIx o b e Γ μ = (e Γ μ).st Γ fun v μ1 => (o Γ μ1).st Γ fun x μ2 => (b Γ μ2).st Γ fun k μ3 => soK (memL μ3 x) fun p => soK (getI k) fun k => soK (setIx p.2 k v) fun ys => some (.nx Γ, setM μ3 p.1 (.lst ys)) := by
  unfold sSetIx soK
  congr
  funext v μ1
  congr
  funext x μ2
  congr
  funext k μ3
  cases memL μ3 x with
  | none => rfl
  | some p =>
    cases getI k with
    | none => rfl
    | some k => cases h : setIx p.2 k v <;> simp [h]
@[simp] theorem s_sApp {o e : ME} : sApp o e Γ μ = (o Γ μ).st Γ fun x μ1 => soK (memL μ1 x) fun _ => (e Γ μ1).st Γ fun v μ2 => soK (memL μ2 x) fun p => if p.2.length < cap then some (.nx Γ, setM μ2 p.1 (.lst (p.2 ++ [v]))) else none := by
  unfold sApp soK
  congr
  funext x μ1
  cases memL μ1 x with
  | none => rfl
  | some q =>
    simp only
    congr
    funext v μ2
    cases memL μ2 x <;> rfl
@[simp] theorem s_wip0 : wip [] Γ = Γ := rfl
@[simp] theorem s_wip1 {i : Nat} {r : List Nat} : wip (i :: r) Γ = wip r (Γ.set i none) := rfl
@[simp] theorem s_rng1 {j : Int} (h : j < 10 ^ 15) : rng1 [.int j] μ = some (ivs 0 j.toNat, .free) := if_pos h
@[simp] theorem s_sFor {it : MI} {g : MG} {b : MS} {ws : List Nat} : sFor it g b ws Γ μ = (it Γ μ).st Γ fun p μ1 => forGo g b p.2 ws p.1 (wip ws Γ) μ1 := rfl
@[simp] theorem s_iSeq {e : ME} : iSeq e Γ μ = (e Γ μ).bind fun x μ1 => Rs.of (srcOf μ1 x) μ1 := rfl
@[simp] theorem s_srcL {xs : List Vl} : srcOf μ (.lst xs) = some (xs, .free) := rfl
@[simp] theorem s_srcT {xs : List Vl} : srcOf μ (.tup xs) = some (xs, .free) := rfl
@[simp] theorem s_srcS {xs : List Int} : srcOf μ (.scr xs) = some (xs.map .int, .free) := rfl
end
end Fm

set_option linter.all false
set_option maxRecDepth 100000
/-! mirrors of the defs -/
namespace Q
open PySem Fm
noncomputable def m_is_weather : MS := sSeq (sAsg (eVar 0) (gTup 3 (gsCons (gName 1) (gsCons (gName 2) (gsCons (gName 3) gsNil)))))
  (sRet (eAnd (eChain gLe gLe (eC (.int 0)) (eVar 1) (eC (.int 100))) (eAnd (eChain gLe gLe (eC (.int 0)) (eVar 2) (eC (.int 9))) (eChain gLe gLe (eC (.int 0)) (eVar 3) (eC (.int 9))))))
noncomputable def F_is_weather : List Vl → Mem → Rs Vl := fnV 1 4 m_is_weather
noncomputable def B1_l_box : MS := sAsg (eOp gMod (eOp gAdd (eOp gAdd (eOp gMul (eVar 1) (eC (.int 48271))) (eOp gMod (eVar 2) (eC (.int 1000003)))) (eC (.int 11))) (eC (.int 2147483647))) (gName 1)
noncomputable def m_l_box : MS := sSeq (sAsg (eC (.int 7)) (gName 1))
  (sSeq (sFor (iSeq (eVar 0)) (gName 2) B1_l_box [2])
  (sRetF (fLst (aCons (eFrz (fB bList (aCons (eVar 0) aNil))) (aCons (eC (.int 0)) (aCons (eC (.int 0)) (aCons (eC (.int 0)) (aCons (eVar 1) aNil))))))))
noncomputable def F_l_box : List Vl → Mem → Rs MO := fnF 1 3 m_l_box
noncomputable def m_l_mixed : MS := sSeq (sAsg (eOp gMod (eOp gAdd (eOp gAdd (eOp gMul (eVar 0) (eC (.int 7919))) (eOp gMul (eVar 1) (eC (.int 104729)))) (eC (.int 17))) (eC (.int 2147483647))) (gName 2))
  (sRet (eOp gDiv (eOp gMod (eOp gAdd (eOp gAdd (eOp gMul (eVar 2) (eOp gAdd (eOp gMod (eVar 2) (eC (.int 9973))) (eC (.int 1)))) (eOp gMul (eVar 1) (eC (.int 31337)))) (eOp gMod (eOp gDiv (eVar 0) (eC (.int 1009))) (eC (.int 65521)))) (eC (.int 998244353))) (eC (.int 11))))
noncomputable def F_l_mixed : List Vl → Mem → Rs Vl := fnV 2 3 m_l_mixed
noncomputable def m_l_whole : MS := sRet (eAnd (eIsi .int (eVar 0)) (eNot (eIsi .bool (eVar 0))))
noncomputable def F_l_whole : List Vl → Mem → Rs Vl := fnV 1 1 m_l_whole
noncomputable def m_l_good_row : MS := sRet (eAnd (eChain gLe gLe (eC (.int 0)) (eOp gIx (eVar 0) (eC (.int 0))) (eC (.int 100))) (eAnd (eChain gLe gLe (eC (.int 0)) (eOp gIx (eVar 0) (eC (.int 1))) (eC (.int 9))) (eChain gLe gLe (eC (.int 0)) (eOp gIx (eVar 0) (eC (.int 2))) (eC (.int 9)))))
noncomputable def F_l_good_row : List Vl → Mem → Rs Vl := fnV 1 1 m_l_good_row
noncomputable def C1_is_round : ME := eCall F_is_weather (aCons (eVar 1) aNil)
noncomputable def m_is_round : MS := sRet (eAnd (eChain gLe gLe (eC (.int 1)) (eB bLen (aCons (eVar 0) aNil)) (eC (.int 12))) (eB bAll (aCons (eFrz (fComp (iSeq (eVar 0)) (gName 1) tYes C1_is_round [1])) aNil)))
noncomputable def F_is_round : List Vl → Mem → Rs Vl := fnV 1 2 m_is_round
noncomputable def m_l_take : MS := sSeq (sSetIx (eVar 0) (eC (.int 3)) (eOp gAdd (eOp gIx (eVar 0) (eC (.int 3))) (eC (.int 1))))
  (sSeq (sIf (tB (eOp gGt (eOp gIx (eVar 0) (eC (.int 2))) (eC (.int 0)))) (sSeq (sAsg (eOp gIx (eVar 0) (eC (.int 2))) (gName 2))
  (sSeq (sSetIx (eVar 0) (eC (.int 2)) (eOp gDiv (eVar 2) (eVar 1)))
  (sRet (eOp gMod (eVar 2) (eVar 1))))) sNext)
  (sSeq (sIf (tB (eOp gGe (eOp gIx (eVar 0) (eC (.int 1))) (eB bLen (aCons (eOp gIx (eVar 0) (eC (.int 0))) aNil)))) (sRet (eOp gMod (eCall F_l_mixed (aCons (eOp gIx (eVar 0) (eC (.int 4))) (aCons (eOp gIx (eVar 0) (eC (.int 3))) aNil))) (eVar 1))) sNext)
  (sSeq (sAsg (eOp gIx (eOp gIx (eVar 0) (eC (.int 0))) (eOp gIx (eVar 0) (eC (.int 1)))) (gName 3))
  (sSeq (sSetIx (eVar 0) (eC (.int 1)) (eOp gAdd (eOp gIx (eVar 0) (eC (.int 1))) (eC (.int 1))))
  (sSeq (sIf (tB (eOp gLt (eVar 3) (eOp gPow (eC (.int 10)) (eC (.int 18))))) (sRet (eOp gMod (eCall F_l_mixed (aCons (eVar 3) (aCons (eOp gIx (eVar 0) (eC (.int 3))) aNil))) (eVar 1))) sNext)
  (sSeq (sSetIx (eVar 0) (eC (.int 2)) (eOp gDiv (eVar 3) (eVar 1)))
  (sRet (eOp gMod (eVar 3) (eVar 1)))))))))
noncomputable def F_l_take : List Vl → Mem → Rs Vl := fnV 2 4 m_l_take
noncomputable def m_l_odd : MS := sSeq (sAsg (eFrz (fLst (aCons (eOp gSub (eC (.int 0)) (eC (.int 1))) (aCons (eC (.int 1)) (aCons (eC (.int 100)) (aCons (eC (.int 101)) (aCons (eOp gSub (eOp gSub (eC (.int 0)) (eC (.int 1))) (eCall F_l_take (aCons (eVar 0) (aCons (eOp gPow (eC (.int 10)) (eC (.int 20))) aNil)))) (aCons (eC (.int 9)) (aCons (eC (.int 10)) (aCons (eC (.int 13)) (aCons (eC (.int 31)) (aCons (eOp gPow (eC (.int 10)) (eC (.int 40))) (aCons (eOp gAdd (eOp gPow (eC (.int 10)) (eC (.int 40))) (eC (.int 1))) (aCons (eC (.int 99)) aNil)))))))))))))) (gName 1))
  (sRet (eOp gIx (eVar 1) (eCall F_l_take (aCons (eVar 0) (aCons (eC (.int 12)) aNil)))))
noncomputable def F_l_odd : List Vl → Mem → Rs Vl := fnV 1 2 m_l_odd
noncomputable def m_l_weather : MS := sSeq (sAsg (eOp gIx (eFrz (fLst (aCons (eOp gAdd (eC (.int 40)) (eCall F_l_take (aCons (eVar 0) (aCons (eC (.int 20)) aNil)))) (aCons (eCall F_l_take (aCons (eVar 0) (aCons (eC (.int 101)) aNil))) (aCons (eC (.int 0)) (aCons (eC (.int 100)) (aCons (eC (.int 50)) aNil))))))) (eCall F_l_take (aCons (eVar 0) (aCons (eC (.int 5)) aNil)))) (gName 1))
  (sRet (eTup (aCons (eVar 1) (aCons (eCall F_l_take (aCons (eVar 0) (aCons (eC (.int 10)) aNil))) (aCons (eCall F_l_take (aCons (eVar 0) (aCons (eC (.int 10)) aNil))) aNil)))))
noncomputable def F_l_weather : List Vl → Mem → Rs Vl := fnV 1 2 m_l_weather
noncomputable def C1_l_round : ME := eCall F_l_weather (aCons (eVar 0) aNil)
noncomputable def m_l_round : MS := sRet (eFrz (fComp (iB rng1 (aCons (eOp gAdd (eC (.int 1)) (eCall F_l_take (aCons (eVar 0) (aCons (eOp gIx (eFrz (fLst (aCons (eC (.int 1)) (aCons (eC (.int 3)) (aCons (eC (.int 12)) aNil))))) (eCall F_l_take (aCons (eVar 0) (aCons (eC (.int 3)) aNil)))) aNil)))) aNil)) (gName 1) tYes C1_l_round [1]))
noncomputable def F_l_round : List Vl → Mem → Rs Vl := fnV 1 2 m_l_round
noncomputable def m_l_bent_row : MS := sSeq (sIf (tB (eOp gEq (eCall F_l_take (aCons (eVar 0) (aCons (eC (.int 2)) aNil))) (eC (.int 0)))) (sRet (eVar 1)) sNext)
  (sSeq (sAsg (eCall F_l_take (aCons (eVar 0) (aCons (eC (.int 3)) aNil))) (gName 2))
  (sRet (eOp gAdd (eOp gAdd (eSl slT (eVar 1) oNo (oIs (eVar 2))) (eTup (aCons (eCall F_l_odd (aCons (eVar 0) aNil)) aNil))) (eSl slT (eVar 1) (oIs (eOp gAdd (eVar 2) (eC (.int 1)))) oNo))))
noncomputable def F_l_bent_row : List Vl → Mem → Rs Vl := fnV 2 3 m_l_bent_row
noncomputable def C1_l_alike (F : List Vl → Mem → Rs Vl) : ME := eCall F (aCons (eVar 2) (aCons (eVar 3) aNil))
noncomputable def m_l_alike (F : List Vl → Mem → Rs Vl) : MS := sSeq (sIf (tB (eOp gIsN (eVar 1) (eC .non))) (sRet (eOp gIsN (eVar 0) (eC .non))) sNext)
  (sSeq (sIf (tB (eIsi .bool (eVar 1))) (sRet (eAnd (eIsi .bool (eVar 0)) (eOp gEq (eVar 0) (eVar 1)))) sNext)
  (sSeq (sIf (tB (eIsi .int (eVar 1))) (sRet (eAnd (eCall F_l_whole (aCons (eVar 0) aNil)) (eOp gEq (eVar 0) (eVar 1)))) sNext)
  (sSeq (sIf (tB (eIsi .str (eVar 1))) (sRet (eAnd (eIsi .str (eVar 0)) (eOp gEq (eVar 0) (eVar 1)))) sNext)
  (sSeq (sIf (tOr (tB (eOp gNe (eIsi .list (eVar 1)) (eIsi .list (eVar 0)))) (tB (eOp gNe (eIsi .tuple (eVar 1)) (eIsi .tuple (eVar 0))))) (sRet (eC (.bl false))) sNext)
  (sRet (eAnd (eOp gEq (eB bLen (aCons (eVar 0) aNil)) (eB bLen (aCons (eVar 1) aNil))) (eB bAll (aCons (eFrz (fComp (iB bZip (aCons (eVar 0) (aCons (eVar 1) aNil))) (gTup 2 (gsCons (gName 2) (gsCons (gName 3) gsNil))) tYes (C1_l_alike F) [2, 3])) aNil))))))))
noncomputable def F_l_alike : Nat → List Vl → Mem → Rs Vl
  | 0 => fun _ _ => .no
  | n + 1 => fnV 2 4 (m_l_alike (F_l_alike n))
end Q

set_option linter.all false
set_option maxRecDepth 100000
set_option maxHeartbeats 4000000
namespace Q
open PySem Fm
theorem mixed_ok (a t : Int) (μ : Mem) : ∃ r, F_l_mixed [.int a, .int t] μ = .ok (.int r) μ ∧ 0 ≤ r := by
  have s1 : small (7919 : Int) := by decide
  have s2 : small (104729 : Int) := by decide
  have s3 : small (31337 : Int) := by decide
  have s4 : ∀ x : Int, small (x % 2147483647) := fun x => by unfold small; omega
  refine ⟨_, by simp [F_l_mixed, m_l_mixed, s_gMulI, s_gModI, s_gDivI, s1, s2, s3, s4]; rfl, ?_⟩
  omega
theorem take_ok {μ : Mem} {b : Nat} (h : Bx μ b) {k : Int} (h1 : 0 < k) (h2 : k < 10 ^ 100) : ∃ r μ', F_l_take [.ref b, .int k] μ = .ok (.int r) μ' ∧ Bt b μ μ' ∧ 0 ≤ r ∧ r < k := by
  obtain ⟨ns, p, l, t, s, e, hp⟩ := h.ex
  have hlt := h.lt
  unfold boxO at e
  have hd : ∀ a μ, gDiv (.int a) (.int k) μ = some (.int (a / k)) := fun _ _ => s_gDivI ⟨h1, h2⟩
  by_cases hl : 0 < l
  · refine ⟨_, _, by simp [F_l_take, m_l_take, s_seqR e, s_gModI, hd, h1, s_memL e, hlt, hl]; first | exact ⟨rfl, rfl⟩ | rfl, ⟨⟨ns, p, _, _, s, rfl, hp⟩, h⟩, Int.emod_nonneg _ (by omega), Int.emod_lt_of_pos _ h1⟩
  · by_cases hq : (ns.length : Int) ≤ p
    · obtain ⟨r, hr, _⟩ := mixed_ok s (t + 1) (setM μ b (.lst [.lst (ns.map .int), .int p, .int l, .int (t + 1), .int s]))
      refine ⟨_, _, by simp [F_l_take, m_l_take, s_seqR e, s_gModI, hd, h1, s_memL e, hlt, hl, hq, hr]; first | exact ⟨rfl, rfl⟩ | rfl, ⟨⟨ns, p, _, _, s, rfl, hp⟩, h⟩, Int.emod_nonneg _ (by omega), Int.emod_lt_of_pos _ h1⟩
    · obtain ⟨x, hx, hx'⟩ := atI_get (xs := ns.map Vl.int) hp (by rw [List.length_map]; omega)
      obtain ⟨c, rfl⟩ : ∃ c, x = .int c := by
        rw [List.getElem?_map] at hx'
        cases q : ns[p.toNat]? with
        | none => rw [q] at hx'; cases hx'
        | some c => rw [q] at hx'; cases hx'; exact ⟨c, rfl⟩
      by_cases hc : c < 1000000000000000000
      · obtain ⟨r, hr, _⟩ := mixed_ok c (t + 1) (setM μ b (.lst [.lst (ns.map .int), .int (p + 1), .int l, .int (t + 1), .int s]))
        refine ⟨_, _, by simp [F_l_take, m_l_take, s_seqR e, s_gModI, hd, h1, s_memL e, hlt, hl, hq, hr, hx, hc, gPow, gI, small]; first | exact ⟨rfl, rfl⟩ | rfl, ⟨⟨ns, p + 1, _, _, s, rfl, by omega⟩, h⟩, Int.emod_nonneg _ (by omega), Int.emod_lt_of_pos _ h1⟩
      · refine ⟨_, _, by simp [F_l_take, m_l_take, s_seqR e, s_gModI, hd, h1, s_memL e, hlt, hl, hq, hx, hc, gPow, gI, small]; first | exact ⟨rfl, rfl⟩ | rfl, ⟨⟨ns, p + 1, _, _, s, rfl, by omega⟩, h⟩, Int.emod_nonneg _ (by omega), Int.emod_lt_of_pos _ h1⟩
theorem box_ok (ns : List Int) (μ : Mem) : ∃ s, F_l_box [.scr ns] μ = .ok (boxO ns 0 0 0 s) μ := by
  have loop : ∀ (xs : List Int) (seed : Int) (c : Option Vl), ∃ s, forGo (gName 2) B1_l_box .free [2] (xs.map .int) [some (.scr ns), some (.int seed), none] μ = some (.nx [some (.scr ns), some (.int s), none], μ) := by
    intro xs
    induction xs with
    | nil =>
      intro seed _
      exact ⟨seed, by simp [forGo, Gd.ok]⟩
    | cons x r ih =>
      intro seed _
      have s1 : small (48271 : Int) := by decide
      obtain ⟨s, hs⟩ := ih ((seed * 48271 + x % 1000003 + 11) % 2147483647) none
      refine ⟨s, ?_⟩
      have st : B1_l_box [some (.scr ns), some (.int seed), some (.int x)] μ = some (.nx [some (.scr ns), some (.int ((seed * 48271 + x % 1000003 + 11) % 2147483647)), some (.int x)], μ) := by
        simp [B1_l_box, s_gMulI, s_gModI, s1]
      simp [forGo, Gd.ok, st, hs]
  obtain ⟨s, hs⟩ := loop ns 7 none
  refine ⟨s, ?_⟩
  simp [F_l_box, m_l_box, hs, boxO]
/-- a row of weather -/
def rowV (r : Int × Int × Int) : Vl := .tup [.int r.1, .int r.2.1, .int r.2.2]
def RowOk (r : Int × Int × Int) : Prop := 0 ≤ r.1 ∧ r.1 ≤ 100 ∧ 0 ≤ r.2.1 ∧ r.2.1 ≤ 9 ∧ 0 ≤ r.2.2 ∧ r.2.2 ≤ 9
theorem weather_ok {μ : Mem} {b : Nat} (h : Bx μ b) : ∃ r μ', F_l_weather [.ref b] μ = .ok (rowV r) μ' ∧ Bt b μ μ' ∧ RowOk r := by
  obtain ⟨x1, μ1, e1, t1, a1, c1⟩ := take_ok h (k := 20) (by decide) (by decide)
  obtain ⟨x2, μ2, e2, t2, a2, c2⟩ := take_ok t1.to (k := 101) (by decide) (by decide)
  obtain ⟨x3, μ3, e3, t3, a3, c3⟩ := take_ok t2.to (k := 5) (by decide) (by decide)
  obtain ⟨x4, μ4, e4, t4, a4, c4⟩ := take_ok t3.to (k := 10) (by decide) (by decide)
  obtain ⟨x5, μ5, e5, t5, a5, c5⟩ := take_ok t4.to (k := 10) (by decide) (by decide)
  have t := (((t1.trans t2).trans t3).trans t4).trans t5
  have q : x3 = 0 ∨ x3 = 1 ∨ x3 = 2 ∨ x3 = 3 ∨ x3 = 4 := by omega
  have fin : ∀ l : Int, 0 ≤ l → l ≤ 100 → (atI [Vl.int (40 + x1), .int x2, .int 0, .int 100, .int 50] x3 = some (.int l)) → ∃ r μ', F_l_weather [.ref b] μ = .ok (rowV r) μ' ∧ Bt b μ μ' ∧ RowOk r := by
    intro l h0 h1 hl
    refine ⟨(l, x4, x5), μ5, ?_, t, h0, h1, a4, by show x4 ≤ 9; omega, a5, by show x5 ≤ 9; omega⟩
    simp [F_l_weather, m_l_weather, e1, e2, e3, e4, e5, hl, rowV, Vl.und, Vl.undA, t.gc]
  rcases q with rfl | rfl | rfl | rfl | rfl
  · exact fin (40 + x1) (by omega) (by omega) (by simp)
  · exact fin x2 (by omega) (by omega) (by simp)
  · exact fin 0 (by omega) (by omega) (by simp)
  · exact fin 100 (by omega) (by omega) (by simp)
  · exact fin 50 (by omega) (by omega) (by simp)
/-! ### alike -/
inductive All2 {α β : Type} (R : α → β → Prop) : List α → List β → Prop
  | nil : All2 R [] []
  | cons {a : α} {b : β} {as : List α} {bs : List β} : R a b → All2 R as bs → All2 R (a :: as) (b :: bs)
/-- flat values that may be compared -/
def flat1 : Vl → Bool
  | .non => true
  | .bl _ => true
  | .int _ => true
  | .str x => PyData.canLay0 (.str x)
  | _ => false
def Alk (μ : Mem) : Nat → Vl → Vl → Prop
  | 0, _, _ => False
  | n + 1, v, w => (v = w ∧ flat1 v = true) ∨ (∃ xs ys, v = .tup xs ∧ w = .tup ys ∧ xs.length ≤ 10000000 ∧ All2 (Alk μ n) xs ys) ∨ ∃ xs ys, lstOf μ v = some xs ∧ lstOf μ w = some ys ∧ xs.length ≤ 10000000 ∧ All2 (Alk μ n) xs ys
theorem All2.len {α β : Type} {R : α → β → Prop} {as : List α} {bs : List β} (h : All2 R as bs) : as.length = bs.length := by
  induction h with
  | nil => rfl
  | cons _ _ ih => simp [ih]
theorem guard_ok {v : Vl} {μ : Mem} : (guardOf v μ).ok μ := by
  unfold guardOf
  split
  · split
    · simpa [Gd.ok]
    · trivial
  · trivial
@[simp] theorem eq_int {a b : Int} {μ : Mem} : gEq (.int a) (.int b) μ = some (.bl (decide (a = b))) := by
  unfold gEq gEqB depthP pyV
  simp [SeqAt.shaped, PyData.eqv, PyData.canLay0, PyData.depth]
  by_cases h : a = b <;> simp [h]
@[simp] theorem ne_int {a b : Int} {μ : Mem} : gNe (.int a) (.int b) μ = some (.bl (!decide (a = b))) := by
  unfold gNe gEqB depthP pyV
  simp [SeqAt.shaped, PyData.eqv, PyData.canLay0, PyData.depth]
  by_cases h : a = b <;> simp [h]
@[simp] theorem eq_bl {a b : Bool} {μ : Mem} : gEq (.bl a) (.bl b) μ = some (.bl (a == b)) := by
  unfold gEq gEqB depthP pyV
  simp [SeqAt.shaped, PyData.eqv, PyData.canLay0, PyData.depth]
@[simp] theorem ne_bl {a b : Bool} {μ : Mem} : gNe (.bl a) (.bl b) μ = some (.bl (!(a == b))) := by
  unfold gNe gEqB depthP pyV
  simp [SeqAt.shaped, PyData.eqv, PyData.canLay0, PyData.depth]
theorem eq_str {a b : Str} {μ : Mem} (h : PyData.canLay0 (.str a) = true) (k : PyData.canLay0 (.str b) = true) : gEq (.str a) (.str b) μ = some (.bl (a == b)) := by
  unfold gEq gEqB depthP pyV
  simp [SeqAt.shaped, PyData.eqv, PyData.depth, h, k]
@[simp] theorem s_eIsi {T : Ty} {a : ME} {Γ : En} {μ : Mem} : eIsi T a Γ μ = (a Γ μ).bind fun x μ1 => Rs.of ((isiB μ1 T x).map .bl) μ1 := rfl
theorem isi_lst {μ : Mem} {v : Vl} {xs : List Vl} (h : lstOf μ v = some xs) (T : Ty) : isiB μ T v = some (match T with | .list => true | _ => false) := by
  unfold lstOf at h
  split at h
  · cases T <;> rfl
  · split at h
    · rename_i q
      cases T <;> (unfold isiB; simp only [q])
    · cases h
  · cases h
theorem non_lst {μ : Mem} {v : Vl} {xs : List Vl} (h : lstOf μ v = some xs) : isNon v = false := by
  cases v <;> first | rfl | cases h
theorem len_lst {μ : Mem} {v : Vl} {xs : List Vl} (h : lstOf μ v = some xs) : bLen [v] μ = some (.int xs.length) := by
  unfold lstOf at h
  split at h
  · cases h
    rfl
  · split at h
    · rename_i q
      cases h
      show (seqOf μ (.ref _)).bind _ = _
      rw [s_seqR q]
      rfl
    · cases h
  · cases h
theorem zip_lst {μ : Mem} {v w : Vl} {xs ys : List Vl} (h : lstOf μ v = some xs) (k : lstOf μ w = some ys) : bZip [v, w] μ = some ((xs.zip ys).map fun p => .tup [p.1, p.2], .both (guardOf v μ) (guardOf w μ)) := by
  cases v <;> first | (cases h; done) | skip
  · cases w <;> first | (cases k; done) | skip
    · simp only [bZip, h, k]
    · simp only [bZip, h, k]
  · simp only [bZip, h, k]
theorem pairs_go {μ : Mem} {F : List Vl → Mem → Rs Vl} {gd : Gd} (hg : gd.ok μ) {a c : Vl} : ∀ {xs ys : List Vl}, All2 (fun x y => F [x, y] μ = .ok (.bl true) μ) xs ys →
    compGo (gTup 2 (gsCons (gName 2) (gsCons (gName 3) gsNil))) tYes (C1_l_alike F) gd [some a, some c, none, none] ((xs.zip ys).map fun p => .tup [p.1, p.2]) μ = .ok (List.replicate xs.length (.bl true)) μ
  | _, _, .nil => by simp [compGo, hg]
  | _, _, .cons h r => by
    have st : ∀ x y, C1_l_alike F [some a, some c, some x, some y] μ = F [x, y] μ := fun x y => by simp [C1_l_alike]
    simp [compGo, hg, h, st, pairs_go hg r, List.replicate]
theorem all_true {n : Nat} {μ : Mem} : bAll [.lst (List.replicate n (.bl true))] μ = some (.bl true) := by
  have h : ∀ n, bools (List.replicate n (.bl true)) = some (List.replicate n true) := by
    intro n
    induction n with
    | zero => rfl
    | succ n ih =>
      unfold bools at ih ⊢
      simp [List.replicate, mapO, ih]
  show ((lstOf μ (.lst (List.replicate n (.bl true)))).bind fun xs => (bools xs).bind fun bs => some (Vl.bl (bs.all id))) = some (Vl.bl true)
  simp [h]
theorem All2.imp {α β : Type} {R S : α → β → Prop} (h : ∀ a b, R a b → S a b) {as : List α} {bs : List β} (k : All2 R as bs) : All2 S as bs := by
  induction k with
  | nil => exact .nil
  | cons x _ ih => exact .cons (h _ _ x) ih
theorem alike_ok {μ : Mem} : ∀ (n : Nat) {v w : Vl}, Alk μ n v w → F_l_alike n [v, w] μ = .ok (.bl true) μ
  | 0, _, _, h => False.elim h
  | n + 1, v, w, h => by
    rcases h with ⟨rfl, h⟩ | ⟨xs, ys, rfl, rfl, hz, h⟩ | ⟨xs, ys, hx, hy, hz, h⟩
    · cases v with
      | non => simp [F_l_alike, m_l_alike]
      | bl b => simp [F_l_alike, m_l_alike, isiB]
      | int i => simp [F_l_alike, m_l_alike, isiB, F_l_whole, m_l_whole]
      | str x =>
        have q : gEq (.str x) (.str x) μ = some (.bl (x == x)) := eq_str h h
        simp [F_l_alike, m_l_alike, isiB, q]
      | _ => cases h
    · have e := h.len
      have q := pairs_go (μ := μ) (gd := .free) trivial (a := .tup xs) (c := .tup ys) (All2.imp (fun a b => alike_ok n) h)
      have l : ((xs.zip ys).map fun p => Vl.tup [p.1, p.2]).length ≤ cap := by
        rw [List.length_map, List.length_zip]
        show min xs.length ys.length ≤ 10000000
        omega
      have z : bZip [.tup xs, .tup ys] μ = some ((xs.zip ys).map fun p => .tup [p.1, p.2], .free) := rfl
      have l2 : ys.length ≤ cap := by show ys.length ≤ 10000000; omega
      simp [F_l_alike, m_l_alike, isiB, e, z, fComp, l2, q, all_true]
    · have e := h.len
      have q := pairs_go (μ := μ) (gd := .both (guardOf v μ) (guardOf w μ)) ⟨guard_ok, guard_ok⟩ (a := v) (c := w) (All2.imp (fun a b => alike_ok n) h)
      have l2 : ys.length ≤ cap := by show ys.length ≤ 10000000; omega
      simp [F_l_alike, m_l_alike, isi_lst hx, isi_lst hy, non_lst hy, len_lst hx, len_lst hy, e, zip_lst hx hy, fComp, l2, q, all_true]
theorem alike_int {μ : Mem} {n : Nat} {i : Int} : F_l_alike (n + 1) [.int i, .int i] μ = .ok (.bl true) μ := alike_ok (n + 1) (.inl ⟨rfl, rfl⟩)
theorem alike_bl {μ : Mem} {n : Nat} {i : Bool} : F_l_alike (n + 1) [.bl i, .bl i] μ = .ok (.bl true) μ := alike_ok (n + 1) (.inl ⟨rfl, rfl⟩)
/-- the block goes on, and J holds -/
def Nx (J : En → Mem → Prop) (o : So) : Prop := ∃ Γ μ, o = some (.nx Γ, μ) ∧ J Γ μ
@[simp] theorem nx_some {J : En → Mem → Prop} {Γ : En} {μ : Mem} : Nx J (some (.nx Γ, μ)) ↔ J Γ μ := ⟨fun ⟨_, _, e, h⟩ => by cases e; exact h, fun h => ⟨_, _, rfl, h⟩⟩
theorem for_keep {g : MG} {b : MS} {gd : Gd} {ws : List Nat} (I : En → Mem → Prop) (hgd : ∀ Γ μ, I Γ μ → gd.ok μ) : ∀ {xs : List Vl}, (∀ x ∈ xs, ∀ Γ μ, I Γ μ → ∃ Γ1, g x Γ = some Γ1 ∧ Nx (fun Γ2 μ2 => I (wip ws Γ2) μ2) (b Γ1 μ)) → ∀ {Γ μ}, I Γ μ → ∃ Γ' μ', forGo g b gd ws xs Γ μ = some (.nx Γ', μ') ∧ I Γ' μ'
  | [], _, Γ, μ, h => ⟨Γ, μ, by simp [forGo, hgd Γ μ h], h⟩
  | x :: r, step, Γ, μ, h => by
    obtain ⟨Γ1, e1, Γ2, μ2, e2, h2⟩ := step x List.mem_cons_self Γ μ h
    obtain ⟨Γ', μ', e3, h3⟩ := for_keep I hgd (xs := r) (fun y hy => step y (List.mem_cons_of_mem _ hy)) h2
    exact ⟨Γ', μ', by simp [forGo, hgd Γ μ h, e1, e2, e3], h3⟩
/-! ### comprehensions -/
theorem comp_all {g : MG} {e : ME} {gd : Gd} {Γ : En} (I : Mem → Prop) (R : Vl → Prop) (hgd : ∀ μ, I μ → gd.ok μ) : ∀ {xs : List Vl}, (∀ x ∈ xs, ∀ μ, I μ → ∃ Γ1, g x Γ = some Γ1 ∧ ∃ y μ', e Γ1 μ = .ok y μ' ∧ R y ∧ I μ') → ∀ {μ}, I μ →
    ∃ ys μ', compGo g tYes e gd Γ xs μ = .ok ys μ' ∧ ys.length = xs.length ∧ (∀ y ∈ ys, R y) ∧ I μ'
  | [], _, μ, h => ⟨[], μ, by simp [compGo, hgd μ h], rfl, by simp, h⟩
  | x :: r, step, μ, h => by
    obtain ⟨Γ1, e1, y, μ1, e2, hy, h1⟩ := step x List.mem_cons_self μ h
    obtain ⟨ys, μ2, e3, l, hr, h2⟩ := comp_all I R hgd (xs := r) (fun z hz => step z (List.mem_cons_of_mem _ hz)) h1
    exact ⟨y :: ys, μ2, by simp [compGo, hgd μ h, e1, e2, e3], by simp [l], by simpa using ⟨hy, hr⟩, h2⟩
/-- each item by a function -/
theorem comp_map {α : Type} {g : MG} {e : ME} {gd : Gd} {Γ : En} {μ : Mem} (enc : α → Vl) (f : α → Vl) (hgd : gd.ok μ) : ∀ {xs : List α}, (∀ x ∈ xs, ∃ Γ1, g (enc x) Γ = some Γ1 ∧ e Γ1 μ = .ok (f x) μ) → compGo g tYes e gd Γ (xs.map enc) μ = .ok (xs.map f) μ
  | [], _ => by simp [compGo, hgd]
  | x :: r, step => by
    obtain ⟨Γ1, e1, e2⟩ := step x List.mem_cons_self
    have ih := comp_map enc f hgd (xs := r) (fun z hz => step z (List.mem_cons_of_mem _ hz))
    simp [compGo, hgd, e1, e2, ih]
theorem all_bools {bs : List Bool} {μ : Mem} : bAll [.lst (bs.map .bl)] μ = some (.bl (bs.all id)) := by
  have h : bools (bs.map .bl) = some bs := by
    induction bs with
    | nil => rfl
    | cons b r ih =>
      unfold bools at ih ⊢
      simp [mapO, ih]
  show ((lstOf μ (.lst (bs.map .bl))).bind fun xs => (bools xs).bind fun bs => some (Vl.bl (bs.all id))) = some (Vl.bl (bs.all id))
  simp [h]
/-! ### rows of weather -/
abbrev Row := Int × Int × Int
instance (r : Row) : Decidable (RowOk r) := by unfold RowOk; infer_instance
theorem ite_dec {p : Prop} [Decidable p] {q : Bool} {μ : Mem} : (if p then Rs.ok (Vl.bl q) μ else .ok (.bl false) μ) = .ok (.bl (decide p && q)) μ := by
  by_cases h : p <;> simp [h]
theorem is_weather_ok {r : Row} {μ : Mem} : F_is_weather [rowV r] μ = .ok (.bl (decide (RowOk r))) μ := by
  obtain ⟨l, s, t⟩ := r
  simp only [F_is_weather, m_is_weather, rowV]
  by_cases h1 : 0 ≤ l <;> by_cases h2 : l ≤ 100 <;> by_cases h3 : 0 ≤ s <;> by_cases h4 : s ≤ 9 <;> by_cases h5 : 0 ≤ t <;> by_cases h6 : t ≤ 9 <;> simp [RowOk, h1, h2, h3, h4, h5, h6]
theorem good_row_ok {r : Row} {μ : Mem} : F_l_good_row [rowV r] μ = .ok (.bl (decide (RowOk r))) μ := by
  obtain ⟨l, s, t⟩ := r
  simp only [F_l_good_row, m_l_good_row, rowV]
  by_cases h1 : 0 ≤ l <;> by_cases h2 : l ≤ 100 <;> by_cases h3 : 0 ≤ s <;> by_cases h4 : s ≤ 9 <;> by_cases h5 : 0 ≤ t <;> by_cases h6 : t ≤ 9 <;> simp [RowOk, h1, h2, h3, h4, h5, h6]
def roundB (rs : List Row) : Bool := decide (1 ≤ rs.length ∧ rs.length ≤ 12) && (rs.map fun r => decide (RowOk r)).all id
theorem is_round_ok {rs : List Row} {μ : Mem} {v : Vl} (hv : lstOf μ v = some (rs.map rowV)) (hz : rs.length ≤ 1000) : F_is_round [v] μ = .ok (.bl (roundB rs)) μ := by
  have hs : ∃ gd, srcOf μ v = some (rs.map rowV, gd) ∧ gd.ok μ := by
    unfold lstOf at hv
    split at hv
    · cases hv
      exact ⟨.free, rfl, trivial⟩
    · split at hv
      · rename_i q
        cases hv
        exact ⟨.same _ (.lst (rs.map rowV)), by simp only [srcOf, q], q⟩
      · cases hv
    · cases hv
  obtain ⟨gd, hs, hg⟩ := hs
  have cp := comp_map (g := gName 1) (e := C1_is_round) (gd := gd) (Γ := [some v, none]) (μ := μ) rowV (fun r => .bl (decide (RowOk r))) hg (xs := rs) (fun x _ => ⟨_, rfl, by simp [C1_is_round, is_weather_ok]⟩)
  have hz' : rs.length ≤ cap := by show _ ≤ 10000000; omega
  have l := len_lst hv
  rw [List.length_map] at l
  have ab := all_bools (bs := rs.map fun r => decide (RowOk r)) (μ := μ)
  rw [List.map_map] at ab
  have ab' : bAll [.lst (rs.map fun r => .bl (decide (RowOk r)))] μ = some (.bl ((rs.map fun r => decide (RowOk r)).all id)) := ab
  simp only [F_is_round, m_is_round]
  unfold roundB
  by_cases h1 : 1 ≤ rs.length
  · have h1' : (1 : Int) ≤ (rs.length : Int) := by omega
    by_cases h2 : rs.length ≤ 12
    · have h2' : (rs.length : Int) ≤ 12 := by omega
      simp [l, h1, h1', h2, h2', fComp, hs, hz', cp, ab']
    · have h2' : ¬ (rs.length : Int) ≤ 12 := by omega
      simp [l, h1, h1', h2, h2']
  · have h1' : ¬ (1 : Int) ≤ (rs.length : Int) := by omega
    simp [l, h1, h1']
theorem odd_ok {μ : Mem} {b : Nat} (h : Bx μ b) : ∃ x μ', F_l_odd [.ref b] μ = .ok (.int x) μ' ∧ Bt b μ μ' := by
  obtain ⟨x1, μ1, e1, t1, a1, c1⟩ := take_ok h (k := 100000000000000000000) (by decide) (by decide)
  obtain ⟨x2, μ2, e2, t2, a2, c2⟩ := take_ok t1.to (k := 12) (by decide) (by decide)
  obtain ⟨y, hy, hy'⟩ := atI_get (xs := [Vl.int (-1), .int 1, .int 100, .int 101, .int (-1 - x1), .int 9, .int 10, .int 13, .int 31, .int 10000000000000000000000000000000000000000, .int 10000000000000000000000000000000000000001, .int 99]) (i := x2) a2 (by simpa using c2)
  have hm := List.mem_of_getElem? hy'
  obtain ⟨z, rfl⟩ : ∃ z, y = .int z := by
    simp only [List.mem_cons, List.not_mem_nil, or_false] at hm
    rcases hm with h | h | h | h | h | h | h | h | h | h | h | h <;> exact ⟨_, h⟩
  exact ⟨z, μ2, by simp [F_l_odd, m_l_odd, e1, e2, fits, cap, gPow, gI, small, hy, (t1.trans t2).gc], t1.trans t2⟩
theorem slT_row {r : Row} {μ : Mem} {at_ : Int} (h0 : 0 ≤ at_) (h1 : at_ < 3) {x : Int} : ∃ r' : Row, ∃ p q, slT (rowV r) none (some at_) μ = some (.tup p) ∧ slT (rowV r) (some (at_ + 1)) none μ = some (.tup q) ∧ p ++ .int x :: q = [.int r'.1, .int r'.2.1, .int r'.2.2] ∧ p.length ≤ 3 ∧ q.length ≤ 3 := by
  obtain ⟨l, s, t⟩ := r
  have q : at_ = 0 ∨ at_ = 1 ∨ at_ = 2 := by omega
  rcases q with rfl | rfl | rfl
  · exact ⟨(x, s, t), _, _, rfl, rfl, rfl, by simp [cut, sIx], by simp [cut, sIx]⟩
  · exact ⟨(l, x, t), _, _, rfl, rfl, rfl, by simp [cut, sIx], by simp [cut, sIx]⟩
  · exact ⟨(l, s, x), _, _, rfl, rfl, rfl, by simp [cut, sIx], by simp [cut, sIx]⟩
theorem bent_row_ok {μ : Mem} {b : Nat} (h : Bx μ b) (r : Row) : ∃ r' μ', F_l_bent_row [.ref b, rowV r] μ = .ok (rowV r') μ' ∧ Bt b μ μ' := by
  obtain ⟨x1, μ1, e1, t1, a1, c1⟩ := take_ok h (k := 2) (by decide) (by decide)
  by_cases hx : x1 = 0
  · subst hx
    exact ⟨r, μ1, by simp [F_l_bent_row, m_l_bent_row, e1, t1.gc], t1⟩
  · obtain ⟨x2, μ2, e2, t2, a2, c2⟩ := take_ok t1.to (k := 3) (by decide) (by decide)
    obtain ⟨x3, μ3, e3, t3⟩ := odd_ok t2.to
    obtain ⟨r', p, q, s1, s2, s3, l1, l2⟩ := slT_row (r := r) (μ := μ2) a2 c2 (x := x3)
    have s1' : slT (rowV r) none (some x2) μ2 = some (.tup p) := s1
    have s2' : slT (rowV r) (some (x2 + 1)) none μ3 = some (.tup q) := s2
    have t := (t1.trans t2).trans t3
    have g1 : gAdd (.tup p) (.tup [.int x3]) μ3 = some (.tup (p ++ [.int x3])) := if_pos (by show _ ≤ 10000000; simp; omega)
    have g2 : gAdd (.tup (p ++ [.int x3])) (.tup q) μ3 = some (.tup (p ++ [.int x3] ++ q)) := if_pos (by show _ ≤ 10000000; simp; omega)
    refine ⟨r', μ3, ?_, t⟩
    have s3' : p ++ [.int x3] ++ q = [.int r'.1, .int r'.2.1, .int r'.2.2] := by rw [← s3]; simp
    rw [s3'] at g2
    simp [F_l_bent_row, m_l_bent_row, e1, hx, e2, s1', e3, s2', g1, g2, t.gc]
    rfl
/-! ### == -/
theorem mapO_map {α β γ : Type} {f : β → Option γ} {g : α → β} {h : α → γ} : ∀ {xs : List α}, (∀ x ∈ xs, f (g x) = some (h x)) → mapO f (xs.map g) = some (xs.map h)
  | [], _ => rfl
  | x :: r, k => by
    have e1 := k x List.mem_cons_self
    have e2 := mapO_map (f := f) (g := g) (h := h) (xs := r) fun y hy => k y (List.mem_cons_of_mem _ hy)
    show (f (g x)).bind _ = _
    rw [e1]
    show (mapO f (r.map g)).bind _ = _
    rw [e2]
    rfl
theorem pyV_depth {μ : Mem} : ∀ (n : Nat) (v : Vl) (d : PyData), pyV n μ v = some d → d.depth ≤ n := by
  intro n
  induction n with
  | zero =>
    intro v d h
    cases h
  | succ n ih =>
    have all : ∀ (xs : List Vl) (ds : List PyData), mapO (pyV n μ) xs = some ds → PyData.depthAll ds ≤ n := by
      intro xs
      induction xs with
      | nil =>
        intro ds h
        cases h
        exact Nat.zero_le _
      | cons x r ih2 =>
        intro ds h
        obtain ⟨y, e1, e2⟩ := Option.bind_eq_some_iff.mp (show (pyV n μ x).bind _ = some ds from h)
        obtain ⟨ys, e3, e4⟩ := Option.bind_eq_some_iff.mp e2
        cases e4
        have h1 := ih x y e1
        have h2 := ih2 ys e3
        rw [PyData.depthAll]
        omega
    intro v d h
    unfold pyV at h
    split at h
    · cases h; simp [PyData.depth]
    · cases h; simp [PyData.depth]
    · cases h; simp [PyData.depth]
    · cases h; simp [PyData.depth]
    · obtain ⟨ys, e1, e2⟩ := Option.bind_eq_some_iff.mp h
      cases e2
      have := all _ _ e1
      rw [PyData.depth]
      omega
    · obtain ⟨ys, e1, e2⟩ := Option.bind_eq_some_iff.mp h
      cases e2
      have := all _ _ e1
      rw [PyData.depth]
      omega
    · split at h
      · obtain ⟨ys, e1, e2⟩ := Option.bind_eq_some_iff.mp h
        cases e2
        have := all _ _ e1
        rw [PyData.depth]
        omega
      · cases h
    · cases h
theorem shaped_py {μ : Mem} {v : Vl} {d : PyData} (h : pyV depthP μ v = some d) (c : d.canLay0 = true) : SeqAt.shaped d = true := by
  have := pyV_depth _ _ _ h
  unfold depthP at this
  unfold SeqAt.shaped
  rw [c]
  simp
  omega
theorem eq_by {μ : Mem} {a b : Vl} {x y : PyData} (ha : pyV depthP μ a = some x) (hb : pyV depthP μ b = some y) (ca : x.canLay0 = true) (cb : y.canLay0 = true) : gEq a b μ = some (.bl (PyData.eqv x y)) ∧ gNe a b μ = some (.bl (!PyData.eqv x y)) := by
  unfold gEq gNe gEqB
  simp [ha, hb, shaped_py ha ca, shaped_py hb cb]
theorem eq_same {μ : Mem} {a b : Vl} {d : PyData} (ha : pyV depthP μ a = some d) (hb : pyV depthP μ b = some d) (c : d.canLay0 = true) : gEq a b μ = some (.bl true) ∧ gNe a b μ = some (.bl false) := by
  have := eq_by ha hb c c
  rw [SeqAt.eqv_refl d c] at this
  exact this
def rowP (r : Row) : PyData := .tuple [.int r.1, .int r.2.1, .int r.2.2]
theorem py_row {n : Nat} {μ : Mem} {r : Row} : pyV (n + 2) μ (rowV r) = some (rowP r) := by simp [pyV, rowV, rowP, mapO]
theorem canLay_map {α : Type} {f : α → PyData} : ∀ {xs : List α}, (∀ x ∈ xs, (f x).canLay0 = true) → PyData.canLayAll0 (xs.map f) = true
  | [], _ => rfl
  | x :: r, h => by
    rw [List.map_cons, PyData.canLayAll0, h x List.mem_cons_self, canLay_map fun y hy => h y (List.mem_cons_of_mem _ hy)]
    rfl
theorem can_row {r : Row} : (rowP r).canLay0 = true := by simp [rowP, PyData.canLay0, PyData.canLayAll0]
theorem py_lst {α : Type} {n : Nat} {μ : Mem} {v : Vl} {f : α → Vl} {g : α → PyData} {xs : List α} (hv : lstOf μ v = some (xs.map f)) (h : ∀ x ∈ xs, pyV n μ (f x) = some (g x)) : pyV (n + 1) μ v = some (.list (xs.map g)) := by
  have e := mapO_map h
  unfold lstOf at hv
  split at hv
  · cases hv
    simp [pyV, e]
  · split at hv
    · rename_i q
      cases hv
      simp [pyV, q, e]
    · cases hv
  · cases hv
theorem rows_same {μ : Mem} {v w : Vl} {rs : List Row} (hv : lstOf μ v = some (rs.map rowV)) (hw : lstOf μ w = some (rs.map rowV)) : gEq v w μ = some (.bl true) ∧ gNe v w μ = some (.bl false) :=
  eq_same (py_lst (n := 8) hv fun _ _ => py_row) (py_lst (n := 8) hw fun _ _ => py_row) (by rw [PyData.canLay0]; exact canLay_map fun _ _ => can_row)
theorem _root_.Fm.Bx.app {μ ν : Mem} {b : Nat} (h : Bx μ b) : Bx (μ ++ ν) b := by
  obtain ⟨ns, p, l, t, s, e, hp⟩ := h.ex
  exact ⟨ns, p, l, t, s, by rw [List.getElem?_append_left h.lt]; exact e, hp⟩
theorem add_lst {μ : Mem} {a b : List Vl} (h : a.length + b.length ≤ 10000000) : gAdd (.lst a) (.lst b) μ = some (.lst (a ++ b)) := if_pos h
end Q

set_option linter.all false
set_option maxRecDepth 100000
set_option maxHeartbeats 4000000
/-! PS1: more rules for simp; things at the memory's end. -/
namespace Fm
open PySem
section
variable {α β : Type} {Γ : En} {μ μ' : Mem}
@[simp] theorem s_fUn {g : Vl → Mem → Option MO} {a : ME} : fUn g a Γ μ = (a Γ μ).bind fun x μ1 => Rs.of (g x μ1) μ1 := rfl
@[simp] theorem s_gNeg {a : Int} : gNeg (.int a) μ = some (.int (-a)) := rfl
@[simp] theorem s_gRevL {xs : List Vl} : gRev (.lst xs) μ = some (.lst xs.reverse) := rfl
@[simp] theorem s_ePop {e : ME} : ePop e Γ μ = (e Γ μ).bind fun x μ1 => oK (memL μ1 x) fun p => oK (p.2[p.2.length - 1]?) fun y => .ok y (setM μ1 p.1 (.lst p.2.dropLast)) := by
  unfold ePop oK
  congr
  funext x μ1
  cases memL μ1 x with
  | none => rfl
  | some q =>
    simp only
    cases q.2[q.2.length - 1]? <;> rfl
@[simp] theorem s_eClr {e : ME} : eClr e Γ μ = (e Γ μ).bind fun x μ1 => oK (memL μ1 x) fun p => .ok .non (setM μ1 p.1 (.lst [])) := by
  unfold eClr oK
  congr
  funext x μ1
  cases memL μ1 x <;> rfl
theorem ixN_last {n : Nat} : ixN (n + 1) (-1) = some n := by
  unfold ixN
  rw [if_neg (by decide), if_pos (by omega)]
  congr 1
  omega
@[simp] theorem at_last {xs : List α} {x : α} : atI (xs ++ [x]) (-1) = some x := by
  unfold atI
  rw [List.length_append]
  show (ixN (xs.length + 1) (-1)).bind _ = _
  rw [ixN_last]
  simp
@[simp] theorem set_last {xs : List Vl} {x v : Vl} : setIx (xs ++ [x]) (-1) v = some (xs ++ [v]) := by
  unfold setIx
  rw [List.length_append]
  show (ixN (xs.length + 1) (-1)).bind _ = _
  rw [ixN_last]
  simp
@[simp] theorem get_end {o : Option MO} {r : Mem} : (μ ++ o :: r)[μ.length]? = some o := by simp
@[simp] theorem get_end1 {a o : Option MO} {r : Mem} : (μ ++ a :: o :: r)[μ.length + 1]? = some o := by simp [List.getElem?_append_right]
@[simp] theorem set_end {o : MO} {a : Option MO} {r : Mem} : setM (μ ++ a :: r) μ.length o = μ ++ some o :: r := by simp [setM]
@[simp] theorem set_end1 {o : MO} {a b : Option MO} {r : Mem} : setM (μ ++ a :: b :: r) (μ.length + 1) o = μ ++ a :: some o :: r := by simp [setM, List.set_append]
@[simp] theorem mem_end {xs : List Vl} {r : Mem} : memL (μ ++ some (.lst xs) :: r) (.ref μ.length) = some (μ.length, xs) := s_memL get_end
@[simp] theorem mem_end1 {xs : List Vl} {a : Option MO} {r : Mem} : memL (μ ++ a :: some (.lst xs) :: r) (.ref (μ.length + 1)) = some (μ.length + 1, xs) := s_memL get_end1
@[simp] theorem lst_end {xs : List Vl} {r : Mem} : lstOf (μ ++ some (.lst xs) :: r) (.ref μ.length) = some xs := s_lstR get_end
@[simp] theorem lst_end1 {xs : List Vl} {a : Option MO} {r : Mem} : lstOf (μ ++ a :: some (.lst xs) :: r) (.ref (μ.length + 1)) = some xs := s_lstR get_end1
@[simp] theorem seq_end {xs : List Vl} {r : Mem} : seqOf (μ ++ some (.lst xs) :: r) (.ref μ.length) = some xs := s_seqR get_end
@[simp] theorem seq_end1 {xs : List Vl} {a : Option MO} {r : Mem} : seqOf (μ ++ a :: some (.lst xs) :: r) (.ref (μ.length + 1)) = some xs := s_seqR get_end1
@[simp] theorem len_end {xs : List Vl} {r : Mem} : bLen [.ref μ.length] (μ ++ some (.lst xs) :: r) = some (.int xs.length) := Q.len_lst lst_end
@[simp] theorem len_end1 {xs : List Vl} {a : Option MO} {r : Mem} : bLen [.ref (μ.length + 1)] (μ ++ a :: some (.lst xs) :: r) = some (.int xs.length) := Q.len_lst lst_end1
@[simp] theorem gc_end {ν : Mem} : gcM true μ (μ ++ ν) = μ := gc_app rfl
/-- values without refs -/
def Pure (v : Vl) : Prop := v.und 0 = true ∧ ∀ n μ, rchV n μ v = []
theorem undA_all {n : Nat} : ∀ {xs : List Vl}, (∀ x ∈ xs, x.und n = true) → Vl.undA n xs = true
  | [], _ => rfl
  | x :: r, h => by
    unfold Vl.undA
    rw [h x List.mem_cons_self, undA_all fun y hy => h y (List.mem_cons_of_mem _ hy)]
    rfl
theorem flat_nil {f : Vl → List Nat} : ∀ {xs : List Vl}, (∀ x ∈ xs, f x = []) → flatL f xs = []
  | [], _ => rfl
  | x :: r, h => by
    show f x ++ flatL f r = []
    rw [h x List.mem_cons_self, flat_nil fun y hy => h y (List.mem_cons_of_mem _ hy)]
    rfl
theorem pure_tup {xs : List Vl} (h : ∀ x ∈ xs, Pure x) : Pure (.tup xs) := ⟨undA_all fun x hx => (h x hx).1, fun n μ => by
  cases n with
  | zero => rfl
  | succ n => exact flat_nil fun x hx => (h x hx).2 n μ⟩
theorem pure_lst {xs : List Vl} (h : ∀ x ∈ xs, Pure x) : Pure (.lst xs) := ⟨undA_all fun x hx => (h x hx).1, fun n μ => by
  cases n with
  | zero => rfl
  | succ n => exact flat_nil fun x hx => (h x hx).2 n μ⟩
theorem pure_int {i : Int} : Pure (.int i) := ⟨rfl, fun n μ => by cases n <;> rfl⟩
theorem pure_row {r : Q.Row} : Pure (Q.rowV r) := pure_tup (by simp [pure_int])
theorem Pure.und {v : Vl} (h : Pure v) (n : Nat) : v.und n = true := Vl.und_up (Nat.zero_le _) h.1
theorem mapO_id {f : Vl → Option Vl} : ∀ {xs : List Vl}, (∀ x ∈ xs, f x = some x) → mapO f xs = some xs
  | [], _ => rfl
  | x :: r, h => by
    show (f x).bind _ = _
    rw [h x List.mem_cons_self]
    show (mapO f r).bind _ = _
    rw [mapO_id fun y hy => h y (List.mem_cons_of_mem _ hy)]
    rfl
theorem frz_pure {n : Nat} {v : Vl} (h : Pure v) : frzV n μ v = some v := by
  cases n <;> (unfold frzV; rw [if_pos h.1])
theorem kill_end {o : Option MO} : kill [μ.length] (μ ++ [o]) = μ ++ [none] := by
  unfold kill
  rw [List.mapIdx_append]
  congr 1
  · apply List.ext_getElem
    · simp
    · intro i h1 h2
      rw [List.getElem_mapIdx, if_neg]
      simp
      omega
  · simp
/-- the last thing of the memory, a list of values without refs, is frozen -/
theorem deep_end {xs : List Vl} (h : ∀ x ∈ xs, Pure x) {e : ME} (he : e Γ (μ ++ [some (.lst xs)]) = .ok (.ref μ.length) (μ ++ [some (.lst xs)])) : eDeep e Γ (μ ++ [some (.lst xs)]) = .ok (.lst xs) (μ ++ [none]) := by
  have h1 : frzV depthF (μ ++ [some (.lst xs)]) (.ref μ.length) = some (.lst xs) := by
    unfold depthF frzV
    rw [if_neg (by simp [Vl.und])]
    simp only [get_end]
    rw [mapO_id fun x hx => frz_pure (h x hx)]
    rfl
  have h2 : rchV depthF (μ ++ [some (.lst xs)]) (.ref μ.length) = [μ.length] := by
    unfold depthF rchV
    simp only [get_end]
    rw [flat_nil fun x hx => (h x hx).2 _ _]
  unfold eDeep
  rw [he]
  simp only [s_bind_ok, h1, h2, kill_end]
end
end Fm
namespace Q
open PySem Fm
theorem for_idx {g : MG} {b : MS} {gd : Gd} {ws : List Nat} (I : Nat → En → Mem → Prop) (hgd : ∀ k Γ μ, I k Γ μ → gd.ok μ) : ∀ {xs : List Vl} {k : Nat}, (∀ x ∈ xs, ∀ k Γ μ, I k Γ μ → ∃ Γ1, g x Γ = some Γ1 ∧ Nx (fun Γ2 μ2 => I (k + 1) (wip ws Γ2) μ2) (b Γ1 μ)) → ∀ {Γ μ}, I k Γ μ → ∃ Γ' μ', forGo g b gd ws xs Γ μ = some (.nx Γ', μ') ∧ I (k + xs.length) Γ' μ'
  | [], k, _, Γ, μ, h => ⟨Γ, μ, by simp [forGo, hgd k Γ μ h], h⟩
  | x :: r, k, step, Γ, μ, h => by
    obtain ⟨Γ1, e1, Γ2, μ2, e2, h2⟩ := step x List.mem_cons_self k Γ μ h
    obtain ⟨Γ', μ', e3, h3⟩ := for_idx I hgd (xs := r) (k := k + 1) (fun y hy => step y (List.mem_cons_of_mem _ hy)) h2
    exact ⟨Γ', μ', by simp [forGo, hgd k Γ μ h, e1, e2, e3], by rw [List.length_cons, show k + (r.length + 1) = k + 1 + r.length by omega]; exact h3⟩
theorem all2_map {α : Type} {R : Vl → Vl → Prop} {f : α → Vl} : ∀ {xs : List α}, (∀ x ∈ xs, R (f x) (f x)) → All2 R (xs.map f) (xs.map f)
  | [], _ => .nil
  | x :: r, h => .cons (h x List.mem_cons_self) (all2_map fun y hy => h y (List.mem_cons_of_mem _ hy))
theorem alk_int {μ : Mem} {n : Nat} {i : Int} : Alk μ (n + 1) (.int i) (.int i) := .inl ⟨rfl, rfl⟩
theorem alk_row {μ : Mem} {n : Nat} {r : Row} : Alk μ (n + 2) (rowV r) (rowV r) := .inr (.inl ⟨_, _, rfl, rfl, by simp, .cons alk_int (.cons alk_int (.cons alk_int .nil))⟩)
theorem alk_rows {μ : Mem} {n : Nat} {v w : Vl} {rs : List Row} (hv : lstOf μ v = some (rs.map rowV)) (hw : lstOf μ w = some (rs.map rowV)) (l : rs.length ≤ 100000) : Alk μ (n + 3) v w :=
  .inr (.inr ⟨_, _, hv, hw, by rw [List.length_map]; omega, all2_map fun _ _ => alk_row⟩)
theorem src_lst {μ : Mem} {v : Vl} {xs : List Vl} (hv : lstOf μ v = some xs) : ∃ gd, srcOf μ v = some (xs, gd) ∧ ∀ ν, gd.ok (μ ++ ν) := by
  unfold lstOf at hv
  split at hv
  · cases hv
    exact ⟨.free, rfl, fun _ => trivial⟩
  · split at hv
    · rename_i q
      cases hv
      rename_i i _
      exact ⟨.same i (.lst xs), by simp only [srcOf, q], fun ν => by
        show (μ ++ ν)[i]? = _
        rw [List.getElem?_append_left (List.getElem?_eq_some_iff.mp q).1]
        exact q⟩
    · cases hv
  · cases hv
theorem eq_pair {μ : Mem} {a b c d : Int} : gEq (.tup [.int a, .int b]) (.tup [.int c, .int d]) μ = some (.bl (decide (a = c ∧ b = d))) := by
  have h1 : pyV depthP μ (.tup [.int a, .int b]) = some (.tuple [.int a, .int b]) := by simp [depthP, pyV, mapO]
  have h2 : pyV depthP μ (.tup [.int c, .int d]) = some (.tuple [.int c, .int d]) := by simp [depthP, pyV, mapO]
  rw [(eq_by h1 h2 (by simp [PyData.canLay0, PyData.canLayAll0]) (by simp [PyData.canLay0, PyData.canLayAll0])).1]
  congr 2
  by_cases e1 : a = c <;> by_cases e2 : b = d <;> simp [PyData.eqv, PyData.eqvAll, e1, e2]
end Q

set_option linter.all false
set_option maxRecDepth 100000
/-! mirrors of the defs -/
namespace Q
open PySem Fm
noncomputable def m_laid : MS := sRetF (fOp gCat (eFrz (fB bList (aCons (eVar 0) aNil))) (eFrz (fLst (aCons (eVar 1) aNil))))
noncomputable def F_laid : List Vl → Mem → Rs MO := fnF 2 2 m_laid
noncomputable def B1_taken : MS := sSeq (sAsg (ePop (eVar 2)) (gTup 3 (gsCons (gName 4) (gsCons (gName 5) (gsCons (gName 6) gsNil)))))
  (sSeq (sAsg (eB bMin2 (aCons (eVar 1) (aCons (eVar 6) aNil))) (gName 7))
  (sSeq (sApp (eVar 3) (eTup (aCons (eVar 4) (aCons (eVar 5) (aCons (eVar 7) aNil)))))
  (sSeq (sIf (tB (eOp gLt (eVar 7) (eVar 6))) (sApp (eVar 2) (eTup (aCons (eVar 4) (aCons (eVar 5) (aCons (eOp gSub (eVar 6) (eVar 7)) aNil))))) sNext)
  (sAsg (eOp gSub (eVar 1) (eVar 7)) (gName 1)))))
noncomputable def m_taken : MS := sSeq (sAsg (eNew (fB bList (aCons (eVar 0) aNil))) (gName 2))
  (sSeq (sAsg (eNew (fLst aNil)) (gName 3))
  (sSeq (sWhile (tAnd (tB (eOp gGt (eVar 1) (eC (.int 0)))) (tB (eOp gGt (eB bLen (aCons (eVar 2) aNil)) (eC (.int 0))))) B1_taken [4, 5, 6, 7] 100000)
  (sRet (eTup (aCons (eVar 2) (aCons (eVar 3) aNil))))))
noncomputable def F_taken : List Vl → Mem → Rs Vl := fnV 2 8 m_taken
noncomputable def m_depth : MS := sRet (eB bSum (aCons (eFrz (fComp (iSeq (eVar 0)) (gTup 3 (gsCons (gName 1) (gsCons (gName 2) (gsCons (gName 3) gsNil)))) tYes (eVar 3) [1, 2, 3])) aNil))
noncomputable def F_depth : List Vl → Mem → Rs Vl := fnV 1 4 m_depth
noncomputable def B1_l_runs : MS := sIf (tAnd (tB (eOp gGt (eB bLen (aCons (eVar 1) aNil)) (eC (.int 0)))) (tB (eOp gEq (eSl slT (eOp gIx (eVar 1) (eUn gNeg (eC (.int 1)))) oNo (oIs (eC (.int 2)))) (eTup (aCons (eVar 2) (aCons (eVar 3) aNil)))))) (sSetIx (eVar 1) (eUn gNeg (eC (.int 1))) (eTup (aCons (eVar 2) (aCons (eVar 3) (aCons (eOp gAdd (eOp gIx (eOp gIx (eVar 1) (eUn gNeg (eC (.int 1)))) (eC (.int 2))) (eC (.int 1))) aNil))))) (sApp (eVar 1) (eTup (aCons (eVar 2) (aCons (eVar 3) (aCons (eC (.int 1)) aNil)))))
noncomputable def m_l_runs : MS := sSeq (sAsg (eNew (fLst aNil)) (gName 1))
  (sSeq (sFor (iSeq (eVar 0)) (gTup 3 (gsCons (gName 2) (gsCons (gName 3) (gsCons (gName 4) gsNil)))) B1_l_runs [2, 3, 4])
  (sRet (eDeep (eVar 1))))
noncomputable def F_l_runs : List Vl → Mem → Rs Vl := fnV 1 5 m_l_runs
noncomputable def m_l_far : MS := sRet (eCall F_l_take (aCons (eVar 0) (aCons (eOp gIx (eFrz (fLst (aCons (eC (.int 100)) (aCons (eOp gPow (eC (.int 10)) (eC (.int 9))) (aCons (eOp gPow (eC (.int 10)) (eC (.int 20))) (aCons (eOp gSub (eOp gPow (eC (.int 10)) (eC (.int 40))) (eC (.int 99))) aNil)))))) (eCall F_l_take (aCons (eVar 0) (aCons (eC (.int 4)) aNil)))) aNil)))
noncomputable def F_l_far : List Vl → Mem → Rs Vl := fnV 1 1 m_l_far
noncomputable def B1_law : MS := sApp (eVar 2) (eTup (aCons (eVar 3) (aCons (eVar 5) (aCons (eVar 6) aNil))))
noncomputable def B2_law : MS := sSeq (sAsg (eOp gAdd (eOp gAdd (eVar 3) (eC (.int 1))) (eCall F_l_take (aCons (eVar 1) (aCons (eC (.int 2)) aNil)))) (gName 3))
  (sSeq (sAsg (eCall F_l_take (aCons (eVar 1) (aCons (eC (.int 30)) aNil))) (gName 5))
  (sFor (iB rng1 (aCons (eOp gAdd (eC (.int 1)) (eCall F_l_take (aCons (eVar 1) (aCons (eC (.int 9)) aNil)))) aNil)) (gName 6) B1_law [6]))
noncomputable def C3_law : ME := eOp gIx (eVar 12) (eC (.int 2))
noncomputable def B4_law : MS := sSeq (sIf (tNot (tB (eCall (F_l_alike 5) (aCons (eFrz (fCall F_laid (aCons (eFrz (fB bList (aCons (eVar 11) aNil))) (aCons (eVar 10) aNil)))) (aCons (eOp gAdd (eVar 11) (eFrz (fLst (aCons (eVar 10) aNil)))) aNil))))) (sRet (eC (.bl false))) sNext)
  (sIf (tNot (tB (eCall (F_l_alike 5) (aCons (eCall F_depth (aCons (eFrz (fB bList (aCons (eVar 11) aNil))) aNil)) (aCons (eB bSum (aCons (eFrz (fComp (iSeq (eVar 11)) (gName 12) tYes C3_law [12])) aNil)) aNil))))) (sRet (eC (.bl false))) sNext)
noncomputable def B5_law : MS := sSeq (sAsg (eOp gSub (eB bLen (aCons (eVar 2) aNil)) (eB bMin2 (aCons (eVar 14) (aCons (eB bLen (aCons (eVar 2) aNil)) aNil)))) (gName 15))
  (sSeq (sAsg (eTup (aCons (eCall F_l_runs (aCons (eFrz (fSl slL (eVar 2) oNo (oIs (eVar 15)))) aNil)) (aCons (eFrz (fUn gRev (eCall F_l_runs (aCons (eFrz (fSl slL (eVar 2) (oIs (eVar 15)) oNo)) aNil)))) aNil))) (gName 16))
  (sSeq (sAsg (eCall F_taken (aCons (eVar 8) (aCons (eVar 14) aNil))) (gName 17))
  (sSeq (sIf (tOr (tNot (tB (eCall (F_l_alike 5) (aCons (eVar 17) (aCons (eVar 16) aNil))))) (tB (eOp gNe (eVar 8) (eVar 7)))) (sRet (eC (.bl false))) sNext)
  (sSeq (sApp (eOp gIx (eVar 17) (eC (.int 0))) (eVar 9))
  (sSeq (sDrop (eClr (eOp gIx (eVar 17) (eC (.int 1)))))
  (sIf (tNot (tB (eCall (F_l_alike 5) (aCons (eCall F_taken (aCons (eVar 8) (aCons (eVar 14) aNil))) (aCons (eVar 16) aNil))))) (sRet (eC (.bl false))) sNext))))))
noncomputable def R15_law : MS := sRet (eAnd (eCall (F_l_alike 5) (aCons (eCall F_depth (aCons (eFrz (fLst aNil)) aNil)) (aCons (eC (.int 0)) aNil))) (eCall (F_l_alike 5) (aCons (eCall F_taken (aCons (eFrz (fLst aNil)) (aCons (eC (.int 4)) aNil))) (aCons (eTup (aCons (eFrz (fLst aNil)) (aCons (eFrz (fLst aNil)) aNil))) aNil))))
noncomputable def R14_law : MS := sSeq (sFor (iSeq (eVar 13)) (gName 14) B5_law [14, 15, 16, 17])
  R15_law
noncomputable def R13_law : MS := sSeq (sIf (tB (eOp gGt (eB bLen (aCons (eVar 7) aNil)) (eC (.int 0)))) (sAsg (eOp gAdd (eVar 13) (eFrz (fLst (aCons (eOp gIx (eOp gIx (eVar 7) (eUn gNeg (eC (.int 1)))) (eC (.int 2))) (aCons (eOp gAdd (eOp gIx (eOp gIx (eVar 7) (eUn gNeg (eC (.int 1)))) (eC (.int 2))) (eC (.int 1))) aNil))))) (gName 13)) sNext)
  R14_law
noncomputable def R12_law : MS := sSeq (sAsg (eFrz (fLst (aCons (eC (.int 0)) (aCons (eC (.int 1)) (aCons (eB bLen (aCons (eVar 2) aNil)) (aCons (eOp gAdd (eB bLen (aCons (eVar 2) aNil)) (eC (.int 3))) (aCons (eCall F_l_take (aCons (eVar 1) (aCons (eOp gAdd (eB bLen (aCons (eVar 2) aNil)) (eC (.int 1))) aNil))) aNil))))))) (gName 13))
  R13_law
noncomputable def R11_law : MS := sSeq (sIf (tOr (tNot (tB (eCall (F_l_alike 5) (aCons (eFrz (fCall F_laid (aCons (eVar 8) (aCons (eVar 9) aNil)))) (aCons (eOp gAdd (eVar 7) (eFrz (fLst (aCons (eVar 9) aNil)))) aNil))))) (tB (eOp gNe (eVar 8) (eVar 7)))) (sRet (eC (.bl false))) sNext)
  R12_law
noncomputable def R10_law : MS := sSeq (sFor (iSeq (eTup (aCons (eFrz (fSl slL (eVar 7) oNo (oIs (eC (.int 1))))) (aCons (eVar 7) (aCons (eFrz (fLst aNil)) aNil))))) (gName 11) B4_law [11])
  R11_law
noncomputable def R9_law : MS := sSeq (sAsg (eTup (aCons (eOp gAdd (eVar 3) (eC (.int 2))) (aCons (eOp gIx (eVar 9) (eC (.int 1))) (aCons (eOp gSub (eC (.int 10)) (eOp gIx (eVar 9) (eC (.int 2)))) aNil)))) (gName 10))
  R10_law
noncomputable def R8_law : MS := sSeq (sDrop (eClr (eNew (fCall F_laid (aCons (eVar 8) (aCons (eVar 9) aNil))))))
  R9_law
noncomputable def R7_law : MS := sSeq (sIf (tOr (tNot (tB (eCall (F_l_alike 5) (aCons (eFrz (fCall F_laid (aCons (eVar 8) (aCons (eVar 9) aNil)))) (aCons (eOp gAdd (eVar 7) (eFrz (fLst (aCons (eVar 9) aNil)))) aNil))))) (tOr (tB (eOp gNe (eVar 8) (eVar 7))) (tNot (tB (eCall (F_l_alike 5) (aCons (eCall F_depth (aCons (eVar 8) aNil)) (aCons (eB bLen (aCons (eVar 2) aNil)) aNil))))))) (sRet (eC (.bl false))) sNext)
  R8_law
noncomputable def R6_law : MS := sSeq (sAsg (eTup (aCons (eOp gAdd (eVar 3) (eC (.int 1))) (aCons (eCall F_l_take (aCons (eVar 1) (aCons (eC (.int 30)) aNil))) (aCons (eOp gAdd (eC (.int 1)) (eCall F_l_take (aCons (eVar 1) (aCons (eC (.int 9)) aNil)))) aNil)))) (gName 9))
  R7_law
noncomputable def R5_law : MS := sSeq (sAsg (eFrz (fB bList (aCons (eVar 7) aNil))) (gName 8))
  R6_law
noncomputable def R4_law : MS := sSeq (sAsg (eCall F_l_runs (aCons (eVar 2) aNil)) (gName 7))
  R5_law
noncomputable def R3_law : MS := sSeq (sFor (iB rng1 (aCons (eCall F_l_take (aCons (eVar 1) (aCons (eC (.int 31)) aNil))) aNil)) (gName 4) B2_law [4, 5, 6])
  R4_law
noncomputable def R2_law : MS := sSeq (sAsg (eCall F_l_far (aCons (eVar 1) aNil)) (gName 3))
  R3_law
noncomputable def R1_law : MS := sSeq (sAsg (eNew (fLst aNil)) (gName 2))
  R2_law
noncomputable def m_law : MS := sSeq (sAsg (eNew (fCall F_l_box (aCons (eVar 0) aNil))) (gName 1))
  R1_law
noncomputable def F_law : List Vl → Mem → Rs Vl := fnV 1 18 m_law
end Q

set_option linter.all false
set_option maxRecDepth 100000
set_option maxHeartbeats 4000000
namespace Q
open PySem Fm
/-! ### piles, plainly; lists of runs are told from the top -/
def key (h : Row) : Int × Int := (h.1, h.2.1)
def gstep : List Row → Int × Int → List Row
  | [], k => [(k.1, k.2, 1)]
  | r :: rest, k => if key r = k then (r.1, r.2.1, r.2.2 + 1) :: rest else (k.1, k.2, 1) :: r :: rest
def grp (ks : List (Int × Int)) : List Row := ks.foldl gstep []
def ex : List Row → List (Int × Int)
  | [] => []
  | r :: rest => ex rest ++ List.replicate r.2.2.toNat (key r)
def Good : List Row → Prop
  | [] => True
  | r :: rest => 1 ≤ r.2.2 ∧ (∀ q ∈ rest, q.1 < r.1) ∧ Good rest
def tk : List Row → Int → List Row × List Row
  | [], _ => ([], [])
  | r :: rest, m => if m ≤ 0 then (r :: rest, []) else if m < r.2.2 then ((r.1, r.2.1, r.2.2 - m) :: rest, [(r.1, r.2.1, m)]) else ((tk rest (m - r.2.2)).1, r :: (tk rest (m - r.2.2)).2)
theorem fold_inc {k : Int × Int} {acc : List Row} : ∀ (n : Nat) (c : Int), (List.replicate n k).foldl gstep ((k.1, k.2, c) :: acc) = (k.1, k.2, c + n) :: acc
  | 0, c => by simp
  | n + 1, c => by
    rw [List.replicate_succ, List.foldl_cons]
    show (List.replicate n k).foldl gstep (if key (k.1, k.2, c) = k then (k.1, k.2, c + 1) :: acc else _) = _
    rw [if_pos (show key (k.1, k.2, c) = k from rfl), fold_inc n (c + 1)]
    congr 3
    omega
theorem fold_rep {k : Int × Int} {acc : List Row} (h : ∀ r ∈ acc, key r ≠ k) {n : Nat} (h1 : 1 ≤ n) : (List.replicate n k).foldl gstep acc = (k.1, k.2, (n : Int)) :: acc := by
  obtain ⟨n, rfl⟩ : ∃ m, n = m + 1 := ⟨n - 1, by omega⟩
  rw [List.replicate_succ, List.foldl_cons]
  have : gstep acc k = (k.1, k.2, 1) :: acc := by
    cases acc with
    | nil => rfl
    | cons r rest => exact if_neg (h r List.mem_cons_self)
  rw [this, fold_inc]
  congr 3
  omega
theorem fold_keys : ∀ (ks : List (Int × Int)) (acc : List Row) (r : Row), r ∈ ks.foldl gstep acc → key r ∈ ks ∨ ∃ q ∈ acc, key q = key r
  | [], acc, r, h => .inr ⟨r, h, rfl⟩
  | k :: ks, acc, r, h => by
    rcases fold_keys ks (gstep acc k) r h with h | ⟨q, h1, h2⟩
    · exact .inl (List.mem_cons_of_mem _ h)
    · cases acc with
      | nil =>
        have e := List.mem_singleton.mp h1
        subst e
        exact .inl (by rw [← h2]; exact List.mem_cons_self)
      | cons p rest =>
        have h1 : q ∈ (if key p = k then (p.1, p.2.1, p.2.2 + 1) :: rest else (k.1, k.2, 1) :: p :: rest) := h1
        split at h1
        · rename_i hk
          rcases List.mem_cons.mp h1 with e | h1
          · subst e
            exact .inl (by rw [← h2, ← hk]; exact List.mem_cons_self)
          · exact .inr ⟨q, List.mem_cons_of_mem _ h1, h2⟩
        · rcases List.mem_cons.mp h1 with e | h1
          · subst e
            exact .inl (by rw [← h2]; exact List.mem_cons_self)
          · exact .inr ⟨q, h1, h2⟩
theorem grp_app {ks : List (Int × Int)} {k : Int × Int} {n : Nat} (h : ∀ x ∈ ks, x.1 < k.1) (h1 : 1 ≤ n) : grp (ks ++ List.replicate n k) = (k.1, k.2, (n : Int)) :: grp ks := by
  unfold grp
  rw [List.foldl_append, fold_rep _ h1]
  intro r hr e
  rcases fold_keys ks [] r hr with h2 | ⟨q, h2, _⟩
  · have := h _ h2
    rw [e] at this
    omega
  · cases h2
theorem mem_ex : ∀ {rr : List Row} {x : Int × Int}, x ∈ ex rr → ∃ r ∈ rr, r.1 = x.1
  | r :: rest, x, h => by
    rcases List.mem_append.mp h with h | h
    · obtain ⟨q, h1, h2⟩ := mem_ex h
      exact ⟨q, List.mem_cons_of_mem _ h1, h2⟩
    · have := (List.mem_replicate.mp h).2
      subst this
      exact ⟨r, List.mem_cons_self, rfl⟩
theorem ex_lt {r : Row} {rest : List Row} (h : ∀ q ∈ rest, q.1 < r.1) : ∀ x ∈ ex rest, x.1 < (key r).1 := fun x hx => by
  obtain ⟨q, h1, h2⟩ := mem_ex hx
  rw [← h2]
  exact h q h1
theorem grp_ex : ∀ {rr : List Row}, Good rr → grp (ex rr) = rr
  | [], _ => rfl
  | r :: rest, ⟨h1, h2, h3⟩ => by
    show grp (ex rest ++ List.replicate r.2.2.toNat (key r)) = _
    rw [grp_app (ex_lt h2) (by omega), grp_ex h3]
    obtain ⟨y, p, c⟩ := r
    show (y, p, ((c.toNat : Nat) : Int)) :: rest = _
    rw [Int.toNat_of_nonneg (by show 0 ≤ c; have : 1 ≤ c := h1; omega)]
theorem split_ok : ∀ {rr : List Row} {m : Int}, Good rr → 0 ≤ m → grp ((ex rr).take ((ex rr).length - min m.toNat (ex rr).length)) = (tk rr m).1 ∧ grp ((ex rr).drop ((ex rr).length - min m.toNat (ex rr).length)) = (tk rr m).2
  | [], m, _, _ => by simp [ex, grp, tk]
  | r :: rest, m, ⟨h1, h2, h3⟩, hm => by
    obtain ⟨y, p, c⟩ := r
    have h1' : 1 ≤ c := h1
    have hl : (ex ((y, p, c) :: rest)).length = (ex rest).length + c.toNat := by
      show (ex rest ++ List.replicate c.toNat (y, p)).length = _
      simp
    have hk : ∀ x ∈ ex rest, x.1 < (y, p).1 := ex_lt h2
    unfold tk
    by_cases hm0 : m ≤ 0
    · have : m = 0 := by omega
      subst this
      have e : (ex ((y, p, c) :: rest)).length - min (0 : Int).toNat (ex ((y, p, c) :: rest)).length = (ex ((y, p, c) :: rest)).length := by simp
      rw [e, List.take_length, List.drop_length, grp_ex (rr := (y, p, c) :: rest) ⟨h1, h2, h3⟩]
      exact ⟨rfl, rfl⟩
    · rw [if_neg hm0]
      by_cases hmc : m < c
      · rw [if_pos hmc, hl]
        have e : (ex rest).length + c.toNat - min m.toNat ((ex rest).length + c.toNat) = (ex rest).length + (c.toNat - m.toNat) := by omega
        rw [e]
        show grp ((ex rest ++ List.replicate c.toNat (y, p)).take _) = _ ∧ grp ((ex rest ++ List.replicate c.toNat (y, p)).drop _) = _
        rw [List.take_length_add_append, List.drop_length_add_append, List.take_replicate, List.drop_replicate]
        have a1 : min (c.toNat - m.toNat) c.toNat = c.toNat - m.toNat := by omega
        have a2 : c.toNat - (c.toNat - m.toNat) = m.toNat := by omega
        rw [a1, a2, grp_app hk (by omega), grp_ex h3]
        have q := grp_app (ks := []) (k := (y, p)) (n := m.toNat) (by simp) (by omega)
        rw [List.nil_append] at q
        rw [q]
        have b1 : ((c.toNat - m.toNat : Nat) : Int) = c - m := by omega
        have b2 : ((m.toNat : Nat) : Int) = m := by omega
        rw [b1, b2]
        exact ⟨rfl, rfl⟩
      · rw [if_neg hmc, hl]
        obtain ⟨i1, i2⟩ := split_ok (rr := rest) (m := m - c) h3 (by omega)
        have e : (ex rest).length + c.toNat - min m.toNat ((ex rest).length + c.toNat) = (ex rest).length - min (m - c).toNat (ex rest).length := by omega
        rw [e]
        show grp ((ex rest ++ List.replicate c.toNat (y, p)).take _) = _ ∧ grp ((ex rest ++ List.replicate c.toNat (y, p)).drop _) = _
        rw [List.take_append_of_le_length (by omega), List.drop_append_of_le_length (by omega), grp_app (fun x hx => hk x (List.mem_of_mem_drop hx)) (by omega), i1, i2]
        have b1 : ((c.toNat : Nat) : Int) = c := by omega
        rw [b1]
        exact ⟨rfl, rfl⟩
theorem tk_len : ∀ {rr : List Row} {m : Int}, (tk rr m).1.length ≤ rr.length ∧ (tk rr m).2.length ≤ rr.length
  | [], _ => ⟨Nat.le_refl _, Nat.le_refl _⟩
  | r :: rest, m => by
    unfold tk
    split
    · simp
    · split
      · simp
      · have := tk_len (rr := rest) (m := m - r.2.2)
        simp
        omega
/-! ### the mirrors -/
theorem runs_ok {μ : Mem} {v : Vl} {hs : List Row} (hv : lstOf μ v = some (hs.map rowV)) (hz : hs.length ≤ 1000) : F_l_runs [v] μ = .ok (.lst ((grp (hs.map key)).reverse.map rowV)) μ := by
  obtain ⟨gd, hsrc, hgd⟩ := src_lst hv
  obtain ⟨gd2, hsrc2, _⟩ := src_lst (show lstOf (μ ++ [some (.lst [])]) v = some (hs.map rowV) by
    unfold lstOf at hv ⊢
    split at hv
    · exact hv
    · split at hv
      · rename_i q
        simp only [List.getElem?_append_left (List.getElem?_eq_some_iff.mp q).1, q, hv]
      · cases hv
    · cases hv)
  have src' : srcOf (μ ++ [some (.lst [])]) v = some (hs.map rowV, gd) := by
    cases v <;> first | exact hsrc | skip
    rename_i i
    have hi : ∃ o, μ[i]? = some o := by
      unfold lstOf at hv
      simp only at hv
      split at hv
      · exact ⟨_, by assumption⟩
      · cases hv
    obtain ⟨o, ho⟩ := hi
    unfold srcOf at hsrc ⊢
    simp only [List.getElem?_append_left (List.getElem?_eq_some_iff.mp ho).1]
    exact hsrc
  have step : ∀ (acc : List Row) (h : Row), acc.length ≤ 2000 → B1_l_runs [some v, some (.ref μ.length), some (.int h.1), some (.int h.2.1), some (.int h.2.2)] (μ ++ [some (.lst (acc.reverse.map rowV))]) = some (.nx [some v, some (.ref μ.length), some (.int h.1), some (.int h.2.1), some (.int h.2.2)], μ ++ [some (.lst ((gstep acc (key h)).reverse.map rowV))]) := by
    intro acc h ha
    cases acc with
    | nil => simp [B1_l_runs, gstep, rowV, key, cap]
    | cons r rest =>
      have e : ((r :: rest).reverse.map rowV) = rest.reverse.map rowV ++ [rowV r] := by simp
      have l : (rest.reverse.map rowV ++ [rowV r]).length < cap := by
        simp at ha
        simp [cap]
        omega
      have s : ∀ μ, slT (rowV r) none (some 2) μ = some (.tup [.int r.1, .int r.2.1]) := fun μ => rfl
      have i2 : ∀ μ, seqOf μ (rowV r) = some [.int r.1, .int r.2.1, .int r.2.2] := fun μ => rfl
      have gi : gIx (.ref μ.length) (.int (-1)) (μ ++ [some (.lst (rest.reverse.map rowV ++ [rowV r]))]) = some (rowV r) := by simp [gIx]
      rw [e]
      by_cases hk : key r = key h
      · have hk1 : r.1 = h.1 := congrArg (fun k : Int × Int => k.1) hk
        have hk2 : r.2.1 = h.2.1 := congrArg (fun k : Int × Int => k.2) hk
        have sg : gstep (r :: rest) (key h) = (r.1, r.2.1, r.2.2 + 1) :: rest := if_pos hk
        rw [sg]
        simp [B1_l_runs, s, gi, i2, eq_pair, hk1, hk2]
        rfl
      · have sg : gstep (r :: rest) (key h) = (h.1, h.2.1, 1) :: r :: rest := if_neg hk
        have hn : ¬ (r.1 = h.1 ∧ r.2.1 = h.2.1) := fun ⟨a, b⟩ => hk (by unfold key; rw [a, b])
        rw [sg]
        have l' : (rest.length : Nat) + 1 < cap := by simpa using l
        simp [B1_l_runs, s, gi, i2, eq_pair, hn, l']
        rfl
  have glen : ∀ (acc : List Row) k, (gstep acc k).length ≤ acc.length + 1 := by
    intro acc k
    cases acc with
    | nil => simp [gstep]
    | cons r rest =>
      show (if key r = k then (r.1, r.2.1, r.2.2 + 1) :: rest else (k.1, k.2, 1) :: r :: rest).length ≤ _
      split <;> simp
  have loop : ∀ (xs acc : List Row), acc.length + xs.length ≤ 2000 → forGo (gTup 3 (gsCons (gName 2) (gsCons (gName 3) (gsCons (gName 4) gsNil)))) B1_l_runs gd [2, 3, 4] (xs.map rowV) [some v, some (.ref μ.length), none, none, none] (μ ++ [some (.lst (acc.reverse.map rowV))])
      = some (.nx [some v, some (.ref μ.length), none, none, none], μ ++ [some (.lst (((xs.map key).foldl gstep acc).reverse.map rowV))]) := by
    intro xs
    induction xs with
    | nil =>
      intro acc _
      simp [forGo, hgd]
    | cons x r ih =>
      intro acc ha
      rw [List.length_cons] at ha
      have st := step acc x (by omega)
      have i := ih (gstep acc (key x)) (by have := glen acc (key x); omega)
      have g : gTup 3 (gsCons (gName 2) (gsCons (gName 3) (gsCons (gName 4) gsNil))) (rowV x) [some v, some (.ref μ.length), none, none, none] = some [some v, some (.ref μ.length), some (.int x.1), some (.int x.2.1), some (.int x.2.2)] := by simp [rowV]
      simp [forGo, hgd, g, st, -List.map_reverse]
      exact i
  have lp := loop hs [] (by simp; omega)
  simp only [List.reverse_nil, List.map_nil] at lp
  have dp := deep_end (μ := μ) (Γ := [some v, some (.ref μ.length), none, none, none]) (xs := ((hs.map key).foldl gstep []).reverse.map rowV) (e := eVar 1) (by
    intro x hx
    obtain ⟨r, _, rfl⟩ := List.mem_map.mp hx
    exact pure_row) (by simp)
  have u : (Vl.lst ((grp (hs.map key)).reverse.map rowV)).und μ.length = true := (pure_lst (by
    intro x hx
    obtain ⟨r, _, rfl⟩ := List.mem_map.mp hx
    exact pure_row)).und _
  simp [F_l_runs, m_l_runs, src', lp, dp, -List.map_reverse]
  exact ⟨rfl, gc_app u⟩
theorem taken_loop {μ : Mem} {a : Option Vl} : ∀ (rr fd : List Row) (m : Int) (n : Nat), rr.length < n → fd.length + rr.length ≤ 2000 → ∃ m' : Int,
    whileGo (tAnd (tB (eOp gGt (eVar 1) (eC (.int 0)))) (tB (eOp gGt (eB bLen (aCons (eVar 2) aNil)) (eC (.int 0))))) B1_taken [4, 5, 6, 7] n [a, some (.int m), some (.ref μ.length), some (.ref (μ.length + 1)), none, none, none, none] (μ ++ [some (.lst (rr.reverse.map rowV)), some (.lst (fd.map rowV))])
      = some (.nx [a, some (.int m'), some (.ref μ.length), some (.ref (μ.length + 1)), none, none, none, none], μ ++ [some (.lst ((tk rr m).1.reverse.map rowV)), some (.lst ((fd ++ (tk rr m).2).map rowV))])
  | [], fd, m, n + 1, _, _ => by
    by_cases hm : 0 < m
    · exact ⟨m, by simp [whileGo, hm, tk]⟩
    · exact ⟨m, by simp [whileGo, hm, tk]⟩
  | r :: rest, fd, m, n + 1, hn, hf => by
    rw [List.length_cons] at hn hf
    unfold tk
    by_cases hm : 0 < m
    · rw [if_neg (by omega)]
      have e : ((r :: rest).reverse.map rowV) = rest.reverse.map rowV ++ [rowV r] := by simp
      have tst : (tAnd (tB (eOp gGt (eVar 1) (eC (.int 0)))) (tB (eOp gGt (eB bLen (aCons (eVar 2) aNil)) (eC (.int 0))))) [a, some (.int m), some (.ref μ.length), some (.ref (μ.length + 1)), none, none, none, none] (μ ++ [some (.lst (rest.reverse.map rowV ++ [rowV r])), some (.lst (fd.map rowV))]) = .ok true (μ ++ [some (.lst (rest.reverse.map rowV ++ [rowV r])), some (.lst (fd.map rowV))]) := by
        simp [hm, -List.map_reverse]
      have g : ∀ Γ : En, gTup 3 (gsCons (gName 4) (gsCons (gName 5) (gsCons (gName 6) gsNil))) (rowV r) Γ = some (((Γ.set 4 (some (.int r.1))).set 5 (some (.int r.2.1))).set 6 (some (.int r.2.2))) := fun Γ => by simp [rowV]
      have lf : fd.length < cap := by show _ < 10000000; omega
      have lr : rest.length < cap := by show _ < 10000000; omega
      have la : (rest.reverse.map rowV ++ [rowV r])[rest.length]? = some (rowV r) := by simp
      by_cases hc : m < r.2.2
      · rw [if_pos hc]
        obtain ⟨n', rfl⟩ : ∃ k, n = k + 1 := ⟨n - 1, by omega⟩
        have mn : min m r.2.2 = m := by omega
        have body : B1_taken [a, some (.int m), some (.ref μ.length), some (.ref (μ.length + 1)), none, none, none, none] (μ ++ [some (.lst (rest.reverse.map rowV ++ [rowV r])), some (.lst (fd.map rowV))])
            = some (.nx [a, some (.int 0), some (.ref μ.length), some (.ref (μ.length + 1)), some (.int r.1), some (.int r.2.1), some (.int r.2.2), some (.int m)], μ ++ [some (.lst (rest.reverse.map rowV ++ [rowV (r.1, r.2.1, r.2.2 - m)])), some (.lst (fd.map rowV ++ [rowV (r.1, r.2.1, m)]))]) := by
          simp [B1_taken, g, mn, hc, lf, lr, -List.map_reverse, la]
          exact ⟨rfl, rfl⟩
        refine ⟨0, ?_⟩
        rw [e]
        conv => lhs; unfold whileGo
        rw [tst]
        simp only [s_st_ok]
        rw [body]
        simp [whileGo]
      · rw [if_neg hc]
        have mn : min m r.2.2 = r.2.2 := by omega
        have body : B1_taken [a, some (.int m), some (.ref μ.length), some (.ref (μ.length + 1)), none, none, none, none] (μ ++ [some (.lst (rest.reverse.map rowV ++ [rowV r])), some (.lst (fd.map rowV))])
            = some (.nx [a, some (.int (m - r.2.2)), some (.ref μ.length), some (.ref (μ.length + 1)), some (.int r.1), some (.int r.2.1), some (.int r.2.2), some (.int r.2.2)], μ ++ [some (.lst (rest.reverse.map rowV)), some (.lst ((fd ++ [r]).map rowV))]) := by
          simp [B1_taken, g, mn, lf, lr, -List.map_reverse, la]
          rfl
        obtain ⟨m', ih⟩ := taken_loop (μ := μ) (a := a) rest (fd ++ [r]) (m - r.2.2) n (by omega) (by simp; omega)
        refine ⟨m', ?_⟩
        rw [e]
        rw [List.append_assoc] at ih
        refine Eq.trans ?_ ih
        conv => lhs; unfold whileGo
        rw [tst]
        simp only [s_st_ok]
        rw [body]
        simp
    · rw [if_pos (by omega)]
      exact ⟨m, by simp [whileGo, hm]⟩
  | _, _, _, 0, h, _ => absurd h (by omega)
theorem taken_ok {μ : Mem} {v : Vl} {rr : List Row} {m : Int} (hv : v = .lst (rr.reverse.map rowV)) (hz : rr.length ≤ 1000) : F_taken [v, .int m] μ = .ok (.tup [.ref μ.length, .ref (μ.length + 1)]) (μ ++ [some (.lst ((tk rr m).1.reverse.map rowV)), some (.lst ((tk rr m).2.map rowV))]) := by
  subst hv
  obtain ⟨m', lp⟩ := taken_loop (μ := μ) (a := some (.lst (rr.reverse.map rowV))) rr [] m 100000 (by omega) (by simp; omega)
  rw [List.map_nil, List.nil_append] at lp
  have u : (Vl.tup [.ref μ.length, .ref (μ.length + 1)]).und μ.length = false := by simp [Vl.und, Vl.undA]
  have gc : ∀ ν, gcM false μ ν = ν := fun ν => by unfold gcM; rw [if_neg (by simp)]
  simp [F_taken, m_taken, sWhile, lp, u, gc, -List.map_reverse]
theorem laid_ok {μ : Mem} {rs : List Row} {r : Row} (hz : rs.length ≤ 1000) : F_laid [.lst (rs.map rowV), rowV r] μ = .ok (.lst ((rs ++ [r]).map rowV)) μ := by
  have g : gCat (.lst (rs.map rowV)) (.lst [rowV r]) μ = some (.lst ((rs ++ [r]).map rowV)) := by
    unfold gCat
    simp only [s_lstL]
    rw [if_pos (by show _ ≤ 10000000; simp; omega)]
    simp
  simp [F_laid, m_laid, g]
theorem depth_ok {μ : Mem} {rs : List Row} (hz : rs.length ≤ 1000) : F_depth [.lst (rs.map rowV)] μ = .ok (.int (rs.map fun r => r.2.2).sum) μ := by
  have cp := comp_map (g := gTup 3 (gsCons (gName 1) (gsCons (gName 2) (gsCons (gName 3) gsNil)))) (e := eVar 3) (gd := .free) (Γ := [some (.lst (rs.map rowV)), none, none, none]) (μ := μ) rowV (fun r => .int r.2.2) trivial (xs := rs) (fun x _ => ⟨[some (.lst (rs.map rowV)), some (.int x.1), some (.int x.2.1), some (.int x.2.2)], by simp [rowV], by simp⟩)
  have hz' : rs.length ≤ cap := by show _ ≤ 10000000; omega
  have sm : bSum [.lst (rs.map fun r => .int r.2.2)] μ = some (.int (rs.map fun r => r.2.2).sum) := by
    have : intsOf (rs.map fun r => .int r.2.2) = some (rs.map fun r => r.2.2) := mapO_map fun _ _ => rfl
    show ((lstOf μ (.lst (rs.map fun r => .int r.2.2))).bind fun xs => (intsOf xs).bind fun ns => some (Vl.int ns.sum)) = _
    simp [this]
  simp [F_depth, m_depth, fComp, hz', cp, sm]
/-! ### the law -/
def Rt (o : So) : Prop := ∃ μ', o = some (.rt (.bl true), μ')
theorem bx_set1 {μ : Mem} {o : MO} (h : Bx μ 0) : Bx (setM μ 1 o) 0 := by
  obtain ⟨ns', p, l, t, s, e, hp⟩ := h.ex
  exact ⟨ns', p, l, t, s, by unfold setM; rw [List.getElem?_set_ne (by decide)]; exact e, hp⟩
theorem cut_hi {xs : List Vl} {k : Nat} (h : k ≤ xs.length) : cut xs none (some (k : Int)) = xs.take k := by
  unfold cut sIx
  simp only
  rw [if_neg (by omega)]
  simp
theorem cut_lo {xs : List Vl} {k : Nat} (h : k ≤ xs.length) : cut xs (some (k : Int)) none = xs.drop k := by
  unfold cut sIx
  simp only
  rw [if_neg (by omega)]
  simp
  rw [Nat.min_eq_left h]
  exact List.take_of_length_le (by simp)
theorem add_row {μ : Mem} {rs : List Row} {r : Row} (hz : rs.length ≤ 1000) : gAdd (.lst (rs.map rowV)) (.lst [rowV r]) μ = some (.lst ((rs ++ [r]).map rowV)) := by
  rw [add_lst (by simp; omega)]
  simp
theorem sum_ex : ∀ {rr : List Row}, Good rr → (rr.reverse.map fun r => r.2.2).sum = ((ex rr).length : Int)
  | [], _ => rfl
  | r :: rest, ⟨h1, h2, h3⟩ => by
    have i := sum_ex h3
    rw [List.reverse_cons, List.map_append, List.sum_append, i]
    show _ = (((ex rest) ++ List.replicate r.2.2.toNat (key r)).length : Int)
    simp
    omega
theorem B4_ok {μ : Mem} {Γ : En} {qs : List Row} {o : Row} (hz : qs.length ≤ 900) (h11 : slotV 11 Γ = some (.lst (qs.map rowV))) (h10 : slotV 10 Γ = some (rowV o)) (hΓ : Γ.length = 18) : B4_law Γ μ = some (.nx Γ, μ) := by
  have a1 := alike_ok (μ := μ) 5 (alk_rows (n := 2) (v := .lst ((qs ++ [o]).map rowV)) (w := .lst ((qs ++ [o]).map rowV)) rfl rfl (by simp; omega))
  have cp := comp_map (g := gName 12) (e := C3_law) (gd := .free) (Γ := Γ.set 12 none) (μ := μ) rowV (fun r => .int r.2.2) trivial (xs := qs) (fun x _ => ⟨_, rfl, by
    have : slotV 12 ((Γ.set 12 none).set 12 (some (rowV x))) = some (rowV x) := by
      unfold slotV
      rw [List.getElem?_set_self (by simp [hΓ])]
    have sq : seqOf μ (rowV x) = some [.int x.1, .int x.2.1, .int x.2.2] := rfl
    simp only [C3_law, s_eOp, s_eVar, this, s_of_some, s_bind_ok, s_eC, gIx, sq, s_getI, Option.bind_some, s_at2]⟩)
  have sm : bSum [.lst (qs.map fun r => .int r.2.2)] μ = some (.int (qs.map fun r => r.2.2).sum) := by
    have : intsOf (qs.map fun r => .int r.2.2) = some (qs.map fun r => r.2.2) := mapO_map fun _ _ => rfl
    show ((lstOf μ (.lst (qs.map fun r => .int r.2.2))).bind fun xs => (intsOf xs).bind fun ns => some (Vl.int ns.sum)) = _
    simp [this]
  have hz' : qs.length ≤ cap := by show _ ≤ 10000000; omega
  simp [B4_law, h11, h10, laid_ok (show qs.length ≤ 1000 by omega), add_row (show qs.length ≤ 1000 by omega), a1, depth_ok (show qs.length ≤ 1000 by omega), fComp, hz', cp, sm, alike_int, -List.map_append]
theorem for_to {g : MG} {b : MS} {gd : Gd} {ws : List Nat} (I : Nat → En → Mem → Prop) (K : Nat) (hgd : ∀ k Γ μ, I k Γ μ → gd.ok μ) : ∀ {xs : List Vl} {k : Nat}, k + xs.length ≤ K → (∀ x ∈ xs, ∀ k Γ μ, k < K → I k Γ μ → ∃ Γ1, g x Γ = some Γ1 ∧ Nx (fun Γ2 μ2 => I (k + 1) (wip ws Γ2) μ2) (b Γ1 μ)) → ∀ {Γ μ}, I k Γ μ → ∃ Γ' μ', forGo g b gd ws xs Γ μ = some (.nx Γ', μ') ∧ I (k + xs.length) Γ' μ'
  | [], k, _, _, Γ, μ, h => ⟨Γ, μ, by simp [forGo, hgd k Γ μ h], h⟩
  | x :: r, k, hk, step, Γ, μ, h => by
    rw [List.length_cons] at hk
    obtain ⟨Γ1, e1, Γ2, μ2, e2, h2⟩ := step x List.mem_cons_self k Γ μ (by omega) h
    obtain ⟨Γ', μ', e3, h3⟩ := for_to I K hgd (xs := r) (k := k + 1) (by omega) (fun y hy => step y (List.mem_cons_of_mem _ hy)) h2
    exact ⟨Γ', μ', by simp [forGo, hgd k Γ μ h, e1, e2, e3], by rw [List.length_cons, show k + (r.length + 1) = k + 1 + r.length by omega]; exact h3⟩
def G0 (ns : List Int) (y : Int) : En := [some (.scr ns), some (.ref 0), some (.ref 1), some (.int y), none, none, none, none, none, none, none, none, none, none, none, none, none, none]
structure J (k : Nat) (y : Int) (hs rr : List Row) (μ : Mem) : Prop where
  bx : Bx μ 0
  l2 : μ.length = 2
  m1 : μ[1]? = some (some (.lst (hs.map rowV)))
  ky : hs.map key = ex rr
  gd : Good rr
  hy : ∀ r ∈ rr, r.1 ≤ y
  ln : rr.length = k
  bd : (ex rr).length ≤ 9 * k
theorem B2_ok {ns : List Int} {k : Nat} {y : Int} {hs rr : List Row} {μ : Mem} {t : Vl} (hk : k < 31) (h : J k y hs rr μ) : ∃ Γ2 y' hs' rr' μ', B2_law ((G0 ns y).set 4 (some t)) μ = some (.nx Γ2, μ') ∧ wip [4, 5, 6] Γ2 = G0 ns y' ∧ J (k + 1) y' hs' rr' μ' := by
  obtain ⟨x1, μ1, e1, t1, a1, c1⟩ := take_ok h.bx (k := 2) (by decide) (by decide)
  obtain ⟨x2, μ2, e2, t2, a2, c2⟩ := take_ok t1.to (k := 30) (by decide) (by decide)
  obtain ⟨x3, μ3, e3, t3, a3, c3⟩ := take_ok t2.to (k := 9) (by decide) (by decide)
  have T := (t1.trans t2).trans t3
  have m3 : μ3[1]? = some (some (.lst (hs.map rowV))) := by rw [T.other (by decide)]; exact h.m1
  have hhs : hs.length ≤ 9 * k := by
    have := congrArg List.length h.ky
    rw [List.length_map] at this
    rw [this]
    exact h.bd
  have h15 : 1 + x3 < 10 ^ 15 := by omega
  let Γa : En := [some (.scr ns), some (.ref 0), some (.ref 1), some (.int (y + 1 + x1)), some t, some (.int x2), none, none, none, none, none, none, none, none, none, none, none, none]
  obtain ⟨Γ', μ', e4, rfl, ext, bx4, l4, m4, ke, le⟩ := for_to (g := gName 6) (b := B1_law) (gd := .free) (ws := [6])
    (fun j Γ μ => Γ = Γa ∧ ∃ ext : List Row, Bx μ 0 ∧ μ.length = 2 ∧ μ[1]? = some (some (.lst ((hs ++ ext).map rowV))) ∧ ext.map key = List.replicate j (y + 1 + x1, x2) ∧ ext.length = j) 20 (fun _ _ _ _ => trivial) (xs := ivs 0 (1 + x3).toNat) (k := 0) (by simp [ivs]; omega) (by
      rintro x hx j Γ μ hj ⟨rfl, ext, bx, l, m, ke, le⟩
      obtain ⟨i, rfl⟩ : ∃ i, x = .int i := by
        unfold ivs at hx
        obtain ⟨q, _, rfl⟩ := List.mem_map.mp hx
        exact ⟨_, rfl⟩
      refine ⟨_, rfl, ?_⟩
      have lc : hs.length + ext.length < cap := by show _ < 10000000; omega
      have st : B1_law (Γa.set 6 (some (.int i))) μ = some (.nx (Γa.set 6 (some (.int i))), setM μ 1 (.lst ((hs ++ ext ++ [(y + 1 + x1, x2, i)]).map rowV))) := by
        simp [B1_law, Γa, s_memL m, lc]
        rfl
      rw [st]
      refine nx_some.mpr ⟨by simp [Γa], ext ++ [(y + 1 + x1, x2, i)], bx_set1 bx, by rw [s_setlen]; exact l, ?_, ?_, by simp [le]⟩
      · rw [← List.append_assoc]
        exact List.getElem?_set_self (by omega)
      · rw [List.map_append, ke, List.replicate_succ']
        rfl) (Γ := Γa) (μ := μ3) ⟨rfl, [], T.to, by rw [T.len]; exact h.l2, by simpa using m3, rfl, rfl⟩
  refine ⟨Γa, y + 1 + x1, hs ++ ext, (y + 1 + x1, x2, 1 + x3) :: rr, μ', ?_, by simp [Γa, G0], bx4, l4, m4, ?_, ⟨by show 1 ≤ 1 + x3; omega, fun q hq => by have := h.hy q hq; show q.1 < y + 1 + x1; omega, h.gd⟩, ?_, by simp [h.ln], ?_⟩
  · have e4' := e4
    simp only [Γa] at e4'
    simp [B2_law, G0, e1, e2, e3, s_rng1 h15, e4']
    rfl
  · rw [List.map_append, h.ky, ke]
    simp [ivs, ex, key]
  · intro q hq
    rcases List.mem_cons.mp hq with rfl | hq
    · exact Int.le_refl _
    · have := h.hy q hq
      omega
  · have := h.bd
    simp [ex]
    omega
/-- what stands in the slots from the runs on -/
def G7 (ns : List Int) (y : Int) (rs : List Row) (a b c d : Option Vl) : En := [some (.scr ns), some (.ref 0), some (.ref 1), some (.int y), none, none, none, some (.lst (rs.map rowV)), some (.lst (rs.map rowV)), a, b, none, none, c, d, none, none, none]
theorem hands_len {k : Nat} {y : Int} {hs rr : List Row} {μ : Mem} (h : J k y hs rr μ) : hs.length = (ex rr).length := by
  have := congrArg List.length h.ky
  rw [List.length_map] at this
  exact this
theorem B5_ok {ns : List Int} {y : Int} {rr hs : List Row} {run : Row} {b c : Option Vl} {μ : Mem} {m : Int} (hg : Good rr) (ky : hs.map key = ex rr) (m1 : μ[1]? = some (some (.lst (hs.map rowV)))) (hr : rr.length ≤ 100) (hh : hs.length ≤ 1000) (hm : 0 ≤ m) :
    ∃ Γ2 μ', B5_law (G7 ns y rr.reverse (some (rowV run)) b c (some (.int m))) μ = some (.nx Γ2, μ') ∧ wip [14, 15, 16, 17] Γ2 = G7 ns y rr.reverse (some (rowV run)) b c none ∧ μ'[1]? = some (some (.lst (hs.map rowV))) := by
  have lo := s_lstR m1
  have ll := len_lst lo
  rw [List.length_map] at ll
  have hl : hs.length = (ex rr).length := by
    have := congrArg List.length ky
    rw [List.length_map] at this
    exact this
  obtain ⟨s1, s2⟩ := split_ok hg hm
  rw [← hl] at s1 s2
  have est : (hs.length : Int) - min m (hs.length : Int) = ((hs.length - min m.toNat hs.length : Nat) : Int) := by omega
  generalize hst : hs.length - min m.toNat hs.length = st at s1 s2 est
  have lst_ : st ≤ hs.length := by omega
  have c1 : slL (.ref 1) none (some (st : Int)) μ = some (.lst ((hs.take st).map rowV)) := by
    show (lstOf μ (.ref 1)).bind _ = _
    rw [lo]
    show some (MO.lst (cut (hs.map rowV) none (some (st : Int)))) = _
    rw [cut_hi (by rw [List.length_map]; exact lst_), List.map_take]
  have c2 : slL (.ref 1) (some (st : Int)) none μ = some (.lst ((hs.drop st).map rowV)) := by
    show (lstOf μ (.ref 1)).bind _ = _
    rw [lo]
    show some (MO.lst (cut (hs.map rowV) (some (st : Int)) none)) = _
    rw [cut_lo (by rw [List.length_map]; exact lst_), List.map_drop]
  have r1 := runs_ok (μ := μ) (v := .lst ((hs.take st).map rowV)) rfl (by rw [List.length_take]; omega)
  have r2 := runs_ok (μ := μ) (v := .lst ((hs.drop st).map rowV)) rfl (by rw [List.length_drop]; omega)
  rw [show (hs.take st).map key = (ex rr).take st by rw [List.map_take, ky], s1] at r1
  rw [show (hs.drop st).map key = (ex rr).drop st by rw [List.map_drop, ky], s2] at r2
  have rv : ((tk rr m).2.reverse.map rowV).reverse = (tk rr m).2.map rowV := by simp
  have tl := tk_len (rr := rr) (m := m)
  have alk : ∀ μ0 : Mem, Alk (μ0 ++ [some (.lst ((tk rr m).1.reverse.map rowV)), some (.lst ((tk rr m).2.map rowV))]) 5 (.tup [.ref μ0.length, .ref (μ0.length + 1)]) (.tup [.lst ((tk rr m).1.reverse.map rowV), .lst ((tk rr m).2.map rowV)]) := fun μ0 =>
    .inr (.inl ⟨_, _, rfl, rfl, by simp, .cons (alk_rows (n := 1) lst_end rfl (by rw [List.length_reverse]; omega)) (.cons (alk_rows (n := 1) lst_end1 rfl (by omega)) .nil)⟩)
  have al : ∀ μ0 : Mem, F_l_alike 5 [.tup [.ref μ0.length, .ref (μ0.length + 1)], .tup [.lst ((tk rr m).1.reverse.map rowV), .lst ((tk rr m).2.map rowV)]] (μ0 ++ [some (.lst ((tk rr m).1.reverse.map rowV)), some (.lst ((tk rr m).2.map rowV))]) = .ok (.bl true) (μ0 ++ [some (.lst ((tk rr m).1.reverse.map rowV)), some (.lst ((tk rr m).2.map rowV))]) := fun μ0 => alike_ok 5 (alk μ0)
  have tkn : ∀ μ0, F_taken [.lst (rr.reverse.map rowV), .int m] μ0 = _ := fun μ0 => taken_ok (μ := μ0) (m := m) rfl (show rr.length ≤ 1000 by omega)
  have ne := fun μ0 => (rows_same (μ := μ0) (v := .lst (rr.reverse.map rowV)) (w := .lst (rr.reverse.map rowV)) rfl rfl).2
  have lc : (tk rr m).1.length < cap := by show _ < 10000000; omega
  let μa : Mem := μ ++ [some (.lst ((tk rr m).1.reverse.map rowV ++ [rowV run])), some (.lst [])]
  have go : B5_law (G7 ns y rr.reverse (some (rowV run)) b c (some (.int m))) μ = some (.nx [some (.scr ns), some (.ref 0), some (.ref 1), some (.int y), none, none, none, some (.lst (rr.reverse.map rowV)), some (.lst (rr.reverse.map rowV)), some (rowV run), b, none, none, c, some (.int m), some (.int st), some (.tup [.lst ((tk rr m).1.reverse.map rowV), .lst ((tk rr m).2.map rowV)]), some (.tup [.ref μ.length, .ref (μ.length + 1)])], μa ++ [some (.lst ((tk rr m).1.reverse.map rowV)), some (.lst ((tk rr m).2.map rowV))]) := by
    have t2 := tkn μa
    have a2 := al μa
    have hlen : μa.length = μ.length + 2 := by simp [μa]
    rw [hlen] at a2
    have i0 : ∀ (a b : Vl) (μ : Mem), gIx (.tup [a, b]) (.int 0) μ = some a := fun _ _ _ => rfl
    have i1 : ∀ (a b : Vl) (μ : Mem), gIx (.tup [a, b]) (.int 1) μ = some b := fun _ _ _ => rfl
    simp only [μa] at t2 a2 ⊢
    simp [B5_law, G7, ll, est, c1, c2, r1, r2, rv, tkn, al, ne, lc, t2, a2, -List.map_reverse, -List.append_assoc, -List.map_take, -List.map_drop]
  have lt1 := (List.getElem?_eq_some_iff.mp m1).1
  refine ⟨_, _, go, by simp [G7], ?_⟩
  rw [List.getElem?_append_left (by simp [μa])]
  simp only [μa]
  rw [List.getElem?_append_left lt1]
  exact m1
theorem R15_ok {Γ : En} {μ : Mem} : Rt (R15_law Γ μ) := by
  have d := depth_ok (μ := μ) (rs := []) (by simp)
  have t := taken_ok (μ := μ) (v := .lst []) (rr := []) (m := 4) rfl (by simp)
  have e := alike_ok (μ := μ ++ [some (.lst []), some (.lst [])]) 5 (v := .tup [.ref μ.length, .ref (μ.length + 1)]) (w := .tup [.lst [], .lst []]) (.inr (.inl ⟨_, _, rfl, rfl, by simp, .cons (alk_rows (n := 1) (rs := []) lst_end rfl (by simp)) (.cons (alk_rows (n := 1) (rs := []) lst_end1 rfl (by simp)) .nil)⟩))
  simp [tk] at d t
  exact ⟨_, by simp [R15_law, d, t, e, alike_int]; rfl⟩
theorem R14_ok {ns : List Int} {y : Int} {rr hs : List Row} {run : Row} {b : Option Vl} {μ : Mem} {ms : List Int} (hg : Good rr) (ky : hs.map key = ex rr) (m1 : μ[1]? = some (some (.lst (hs.map rowV)))) (hr : rr.length ≤ 100) (hh : hs.length ≤ 1000) (hm : ∀ m ∈ ms, 0 ≤ m) :
    Rt (R14_law (G7 ns y rr.reverse (some (rowV run)) b (some (.lst (ms.map .int))) none) μ) := by
  obtain ⟨Γ', μ', e, rfl, m'⟩ := for_keep (g := gName 14) (b := B5_law) (gd := .free) (ws := [14, 15, 16, 17])
    (fun Γ μ => Γ = G7 ns y rr.reverse (some (rowV run)) b (some (.lst (ms.map .int))) none ∧ μ[1]? = some (some (.lst (hs.map rowV)))) (fun _ _ _ => trivial) (xs := ms.map .int) (by
      rintro x hx Γ μ ⟨rfl, hμ⟩
      obtain ⟨m, h1, rfl⟩ := List.mem_map.mp hx
      obtain ⟨Γ2, μ2, e1, e2, e3⟩ := B5_ok (ns := ns) (y := y) (run := run) (b := b) (c := some (.lst (ms.map .int))) hg ky hμ hr hh (hm m h1)
      refine ⟨_, rfl, Γ2, μ2, ?_, e2, e3⟩
      rw [← e1]
      simp [G7]) (Γ := G7 ns y rr.reverse (some (rowV run)) b (some (.lst (ms.map .int))) none) (μ := μ) ⟨rfl, m1⟩
  obtain ⟨μ2, e2⟩ := R15_ok (Γ := G7 ns y rr.reverse (some (rowV run)) b (some (.lst (ms.map .int))) none) (μ := μ')
  have w : wip [14, 15, 16, 17] (G7 ns y rr.reverse (some (rowV run)) b (some (.lst (ms.map .int))) none) = G7 ns y rr.reverse (some (rowV run)) b (some (.lst (ms.map .int))) none := by simp [G7]
  have s13 : slotV 13 (G7 ns y rr.reverse (some (rowV run)) b (some (.lst (ms.map .int))) none) = some (.lst (ms.map .int)) := by simp [G7]
  refine ⟨μ2, ?_⟩
  simp only [R14_law, s_sSeq, s_sFor, s_iSeq, s_eVar, s13, s_of_some, s_bind_ok, s_srcL, s_st_ok, w, e, s_thenK, e2]
theorem R12_ok {ns : List Int} {y : Int} {rr hs : List Row} {run : Row} {b : Option Vl} {μ : Mem} (bx : Bx μ 0) (hg : Good rr) (ky : hs.map key = ex rr) (m1 : μ[1]? = some (some (.lst (hs.map rowV)))) (hr : rr.length ≤ 100) (hh : hs.length ≤ 1000) :
    Rt (R12_law (G7 ns y rr.reverse (some (rowV run)) b none none) μ) := by
  have ll := len_lst (s_lstR m1)
  rw [List.length_map] at ll
  obtain ⟨x, μ1, e1, t1, a1, c1⟩ := take_ok bx (k := (hs.length : Int) + 1) (by omega) (by omega)
  have m1' : μ1[1]? = some (some (.lst (hs.map rowV))) := by rw [t1.other (by decide)]; exact m1
  have st : R12_law (G7 ns y rr.reverse (some (rowV run)) b none none) μ = R13_law (G7 ns y rr.reverse (some (rowV run)) b (some (.lst ([0, 1, (hs.length : Int), (hs.length : Int) + 3, x].map .int))) none) μ1 := by
    simp [R12_law, G7, ll, e1]
  rw [st]
  cases rr with
  | nil =>
    have : R13_law (G7 ns y [].reverse (some (rowV run)) b (some (.lst ([0, 1, (hs.length : Int), (hs.length : Int) + 3, x].map .int))) none) μ1 = R14_law (G7 ns y [].reverse (some (rowV run)) b (some (.lst ([0, 1, (hs.length : Int), (hs.length : Int) + 3, x].map .int))) none) μ1 := by
      simp [R13_law, G7]
    rw [this]
    exact R14_ok hg ky m1' hr hh (by simp; omega)
  | cons r rest =>
    have h1 : 1 ≤ r.2.2 := hg.1
    have er : ((r :: rest).reverse.map rowV) = rest.reverse.map rowV ++ [rowV r] := by simp
    have gi : seqOf μ1 (rowV r) = some [.int r.1, .int r.2.1, .int r.2.2] := rfl
    have ga : gAdd (.lst ([0, 1, (hs.length : Int), (hs.length : Int) + 3, x].map .int)) (.lst ([r.2.2, r.2.2 + 1].map .int)) μ1 = some (.lst ([0, 1, (hs.length : Int), (hs.length : Int) + 3, x, r.2.2, r.2.2 + 1].map .int)) := by
      rw [add_lst (by simp)]
      rfl
    have : R13_law (G7 ns y (r :: rest).reverse (some (rowV run)) b (some (.lst ([0, 1, (hs.length : Int), (hs.length : Int) + 3, x].map .int))) none) μ1 = R14_law (G7 ns y (r :: rest).reverse (some (rowV run)) b (some (.lst ([0, 1, (hs.length : Int), (hs.length : Int) + 3, x, r.2.2, r.2.2 + 1].map .int))) none) μ1 := by
      simp only [G7, er]
      simp only [List.map_cons, List.map_nil] at ga ⊢
      simp [R13_law, gi, ga, -List.map_reverse]
    rw [this]
    exact R14_ok hg ky m1' hr hh (by simp; omega)
theorem R4_ok {ns : List Int} {k : Nat} {y : Int} {hs rr : List Row} {μ : Mem} (hk : k ≤ 31) (h : J k y hs rr μ) : Rt (R4_law (G0 ns y) μ) := by
  have hl := hands_len h
  have hb := h.bd
  have hr : rr.length ≤ 100 := by rw [h.ln]; omega
  have r1 := runs_ok (μ := μ) (v := .ref 1) (s_lstR h.m1) (by omega)
  rw [h.ky, grp_ex h.gd] at r1
  obtain ⟨p, μ1, e1, t1, a1, c1⟩ := take_ok h.bx (k := 30) (by decide) (by decide)
  obtain ⟨c, μ2, e2, t2, a2, c2⟩ := take_ok t1.to (k := 9) (by decide) (by decide)
  have T := t1.trans t2
  have m2 : μ2[1]? = some (some (.lst (hs.map rowV))) := by rw [T.other (by decide)]; exact h.m1
  have s1 : R4_law (G0 ns y) μ = R7_law (G7 ns y rr.reverse (some (rowV (y + 1, p, 1 + c))) none none none) μ2 := by
    simp [R4_law, R5_law, R6_law, G0, G7, r1, e1, e2, -List.map_reverse]
    rfl
  rw [s1]
  have hrr : rr.reverse.length ≤ 1000 := by rw [List.length_reverse]; omega
  have al : ∀ μ0 : Mem, F_l_alike 5 [.lst ((rr.reverse ++ [(y + 1, p, 1 + c)]).map rowV), .lst ((rr.reverse ++ [(y + 1, p, 1 + c)]).map rowV)] μ0 = .ok (.bl true) μ0 := fun μ0 => alike_ok 5 (alk_rows (n := 2) rfl rfl (by simp; omega))
  have ne := fun μ0 => (rows_same (μ := μ0) (v := .lst (rr.reverse.map rowV)) (w := .lst (rr.reverse.map rowV)) rfl rfl).2
  have ld := fun μ0 => laid_ok (μ := μ0) (rs := rr.reverse) (r := (y + 1, p, 1 + c)) hrr
  have ad := fun μ0 => add_row (μ := μ0) (rs := rr.reverse) (r := (y + 1, p, 1 + c)) hrr
  have dp := depth_ok (μ := μ2) hrr
  rw [sum_ex h.gd, ← hl] at dp
  have ll := len_lst (s_lstR m2)
  rw [List.length_map] at ll
  have s2 : R7_law (G7 ns y rr.reverse (some (rowV (y + 1, p, 1 + c))) none none none) μ2 = R8_law (G7 ns y rr.reverse (some (rowV (y + 1, p, 1 + c))) none none none) μ2 := by
    simp [R7_law, G7, ld, ad, al, ne, dp, ll, alike_int, -List.map_reverse, -List.map_append]
  rw [s2]
  have sq : ∀ μ0, seqOf μ0 (rowV (y + 1, p, 1 + c)) = some [.int (y + 1), .int p, .int (1 + c)] := fun μ0 => rfl
  have s3 : R8_law (G7 ns y rr.reverse (some (rowV (y + 1, p, 1 + c))) none none none) μ2 = R10_law (G7 ns y rr.reverse (some (rowV (y + 1, p, 1 + c))) (some (rowV (y + 2, p, 10 - (1 + c)))) none none) (μ2 ++ [some (.lst [])]) := by
    simp [R8_law, R9_law, G7, ld, sq, -List.map_reverse, -List.map_append]
    rfl
  rw [s3]
  have bx3 : Bx (μ2 ++ [some (.lst [])]) 0 := T.to.app
  have m3 : (μ2 ++ [some (.lst [])])[1]? = some (some (.lst (hs.map rowV))) := by
    rw [List.getElem?_append_left (List.getElem?_eq_some_iff.mp m2).1]
    exact m2
  generalize μ2 ++ [some (.lst [])] = μ3 at bx3 m3
  obtain ⟨Γ', μ', e4, rfl, rfl⟩ := for_keep (g := gName 11) (b := B4_law) (gd := .free) (ws := [11])
    (fun Γ μ => Γ = G7 ns y rr.reverse (some (rowV (y + 1, p, 1 + c))) (some (rowV (y + 2, p, 10 - (1 + c)))) none none ∧ μ = μ3) (fun _ _ _ => trivial) (xs := [.lst ((rr.reverse.take 1).map rowV), .lst (rr.reverse.map rowV), .lst []]) (by
      rintro x hx Γ μ ⟨rfl, rfl⟩
      obtain ⟨qs, hq, rfl⟩ : ∃ qs : List Row, qs.length ≤ 900 ∧ x = .lst (qs.map rowV) := by
        simp only [List.mem_cons, List.not_mem_nil, or_false] at hx
        rcases hx with rfl | rfl | rfl
        · exact ⟨_, by rw [List.length_take]; omega, rfl⟩
        · exact ⟨rr.reverse, by rw [List.length_reverse]; omega, rfl⟩
        · exact ⟨[], by simp, rfl⟩
      refine ⟨_, rfl, ?_⟩
      rw [B4_ok (qs := qs) (o := (y + 2, p, 10 - (1 + c))) hq (by simp [G7]) (by simp [G7]) (by simp [G7])]
      exact nx_some.mpr ⟨by simp [G7], rfl⟩) (Γ := G7 ns y rr.reverse (some (rowV (y + 1, p, 1 + c))) (some (rowV (y + 2, p, 10 - (1 + c)))) none none) (μ := μ3) ⟨rfl, rfl⟩
  have ct : cut (rr.reverse.map rowV) none (some 1) = (rr.reverse.take 1).map rowV := by
    cases hq : rr.reverse.map rowV with
    | nil =>
      rw [List.map_take, hq]
      rfl
    | cons a r =>
      have := cut_hi (xs := a :: r) (k := 1) (by simp)
      rw [List.map_take, hq]
      exact this
  have sl : slL (.lst (rr.reverse.map rowV)) none (some 1) μ' = some (.lst ((rr.reverse.take 1).map rowV)) := by
    show (lstOf μ' (.lst (rr.reverse.map rowV))).bind _ = _
    rw [s_lstL]
    show some (MO.lst (cut (rr.reverse.map rowV) none (some 1))) = _
    rw [ct]
  have s4 : R10_law (G7 ns y rr.reverse (some (rowV (y + 1, p, 1 + c))) (some (rowV (y + 2, p, 10 - (1 + c)))) none none) μ' = R11_law (G7 ns y rr.reverse (some (rowV (y + 1, p, 1 + c))) (some (rowV (y + 2, p, 10 - (1 + c)))) none none) μ' := by
    simp only [G7] at e4 ⊢
    simp [R10_law, sl, e4, -List.map_reverse, -List.map_take]
  rw [s4]
  have s5 : R11_law (G7 ns y rr.reverse (some (rowV (y + 1, p, 1 + c))) (some (rowV (y + 2, p, 10 - (1 + c)))) none none) μ' = R12_law (G7 ns y rr.reverse (some (rowV (y + 1, p, 1 + c))) (some (rowV (y + 2, p, 10 - (1 + c)))) none none) μ' := by
    simp [R11_law, G7, ld, ad, al, ne, -List.map_reverse, -List.map_append]
  rw [s5]
  exact R12_ok bx3 h.gd h.ky m3 hr (by omega)
theorem far_ok {μ : Mem} {b : Nat} (h : Bx μ b) : ∃ r μ', F_l_far [.ref b] μ = .ok (.int r) μ' ∧ Bt b μ μ' := by
  obtain ⟨x, μ1, e1, t1, a1, c1⟩ := take_ok h (k := 4) (by decide) (by decide)
  have q : x = 0 ∨ x = 1 ∨ x = 2 ∨ x = 3 := by omega
  have fin : ∀ k : Int, 0 < k → k < 10 ^ 100 → atI [Vl.int 100, .int 1000000000, .int 100000000000000000000, .int 9999999999999999999999999999999999999901] x = some (.int k) → ∃ r μ', F_l_far [.ref b] μ = .ok (.int r) μ' ∧ Bt b μ μ' := by
    intro k h0 h1 hk
    obtain ⟨z, μ2, e2, t2, _, _⟩ := take_ok t1.to h0 h1
    exact ⟨z, μ2, by simp [F_l_far, m_l_far, e1, gPow, gI, small, hk, e2, (t1.trans t2).gc], t1.trans t2⟩
  rcases q with rfl | rfl | rfl | rfl
  · exact fin _ (by decide) (by decide) s_at0
  · exact fin _ (by decide) (by decide) s_at1
  · exact fin _ (by decide) (by decide) s_at2
  · exact fin _ (by decide) (by decide) s_at3
theorem law_true (ns : List Int) (hl : ns.length ≤ 63) : ∃ μ', F_law [.scr ns] [] = .ok (.bl true) μ' := by
  obtain ⟨sd, hb⟩ := box_ok ns []
  have bx0 : Bx [some (boxO ns 0 0 0 sd), some (.lst [])] 0 := ⟨ns, 0, 0, 0, sd, rfl, by decide⟩
  obtain ⟨y, μ1, e1, t1⟩ := far_ok bx0
  obtain ⟨x, μ2, e2, t2, a2, c2⟩ := take_ok t1.to (k := 31) (by decide) (by decide)
  have T := t1.trans t2
  have m2 : μ2[1]? = some (some (.lst (([] : List Row).map rowV))) := by rw [T.other (by decide)]; rfl
  obtain ⟨Γ', μ', e3, y', hs, rr, rfl, j⟩ := for_to (g := gName 4) (b := B2_law) (gd := .free) (ws := [4, 5, 6]) (fun k Γ μ => ∃ y hs rr, Γ = G0 ns y ∧ J k y hs rr μ) 31 (fun _ _ _ _ => trivial) (xs := ivs 0 x.toNat) (k := 0) (by simp [ivs]; omega) (by
    rintro t ht k Γ μ hk ⟨y, hs, rr, rfl, j⟩
    obtain ⟨Γ2, y', hs', rr', μ', e, w, j'⟩ := B2_ok (ns := ns) (t := t) hk j
    exact ⟨_, rfl, Γ2, μ', e, y', hs', rr', w, j'⟩) (Γ := G0 ns y) (μ := μ2) ⟨y, [], [], rfl, t2.to, by rw [T.len]; rfl, m2, rfl, trivial, by simp, rfl, by simp [ex]⟩
  obtain ⟨μ3, e4⟩ := R4_ok (ns := ns) (show 0 + (ivs 0 x.toNat).length ≤ 31 by simp [ivs]; omega) j
  have h15 : x < 10 ^ 15 := by omega
  have h0 : F_law [.scr ns] [] = outV [] (R4_law (G0 ns y') μ') := by
    simp only [G0] at e3 ⊢
    simp [F_law, m_law, hb, R1_law, R2_law, e1, R3_law, e2, s_rng1 h15, e3]
  exact ⟨_, by rw [h0, e4]; rfl⟩
end Q

set_option Elab.async false
set_option linter.all false
set_option maxRecDepth 100000
set_option maxHeartbeats 4000000
/-! the defs of the text, by the layer -/
namespace Q
open PySem L2 L3 RZ PyProof.Rows PySem.Spec
open Fm (Vl MO Mem En Rs ME MF MA MT MG MS MI Out So Gd Ky)
def top (i : Nat) : Stmt := PySem.Challenge.pw_firnfall_k15_hands_laid_and_taken.main.body.getD i (.Pass ⟨0, 0, 0, 0⟩)
structure Tx (mg : Str → Option Value) : Prop where
  b_all : mg "all" = none
  b_bool : mg "bool" = none
  b_int : mg "int" = none
  b_isinstance : mg "isinstance" = none
  b_len : mg "len" = none
  b_list : mg "list" = none
  b_min : mg "min" = none
  b_range : mg "range" = none
  b_str : mg "str" = none
  b_sum : mg "sum" = none
  b_tuple : mg "tuple" = none
  b_zip : mg "zip" = none
section
variable {P : Program} {w : World} {K : PySem.W.Frag} {mg : Str → Option Value} {base : Heap} {a : Addr} {fd : FuncData}
abbrev s_laid : Stmt := top 1
theorem sc_laid : FnScope ["runs", "run"] ["runs", "run"] (defScope s_laid) := ⟨rfl, rfl, rfl, by decide +kernel, rfl, by decide +kernel, by decide +kernel⟩
theorem d_laid (T : Tx mg)  : Bd P w K mg base "laid" (defBody s_laid) (defScope s_laid) a ["runs", "run"] 0 m_laid := fun cdv A outer s H E hr => by
  have tk : Takes (cxOf (L2.CX P w) P w K mg base ["runs", "run"] "laid" (defScope s_laid) a cdv A outer s H E) (wE E) := takes_of rfl rfl rfl rfl
  have nd := sc_laid.nd
  exact s1 (sretF (dopF o_cat (dl (dBF db_list T.b_list (dac (dv 0) danil))) (dl (dlst (dac (dv 1) danil)))))
theorem fd_laid (T : Tx mg)  (F : FunD K "laid" "laid" (defArgs s_laid) (defBody s_laid) (defScope s_laid) [] [] a fd) (hm : mg "laid" = some (.ref a)) : Fd P w K mg base "laid" 1 (spF K mg 2 F_laid) := fd_of F (okF F sc_laid (d_laid T )) hm (F.bindsN (ps := ["runs", "run"]) fun _ _ _ _ _ _ us hl => match us, hl with | [_, _], _ => rfl)
abbrev s_taken : Stmt := top 2
theorem sc_taken : FnScope ["runs", "many", "left", "found", "year", "place", "high", "off"] ["runs", "many"] (defScope s_taken) := ⟨rfl, rfl, rfl, by decide +kernel, rfl, by decide +kernel, by decide +kernel⟩
theorem d_taken (T : Tx mg)  : Bd P w K mg base "taken" (defBody s_taken) (defScope s_taken) a ["runs", "many", "left", "found", "year", "place", "high", "off"] 0 m_taken := fun cdv A outer s H E hr => by
  have tk : Takes (cxOf (L2.CX P w) P w K mg base ["runs", "many", "left", "found", "year", "place", "high", "off"] "taken" (defScope s_taken) a cdv A outer s H E) (wE E) := takes_of rfl rfl rfl rfl
  have nd := sc_taken.nd
  exact sc (sset 2 nd (dnew (dBF db_list T.b_list (dac (dv 0) danil)))) (sc (sset 3 nd (dnew (dlst danil))) (sc (swhile [4, 5, 6, 7] 100000 (passes_of rfl) (dtw (dtand (dcmpT o_gt (dv 1) di) (dtand1 (dcmpT o_gt (dB (db_len) T.b_len (dac (dv 2) danil)) di)))) (sc (sasg (dpop (dv 2)) (gt (gsc (gn 4 nd) (gsc (gn 5 nd) (gsc (gn 6 nd) gsn))))) (sc (sset 7 nd (dB (db_min2 rfl) T.b_min (dac (dv 1) (dac (dv 6) danil)))) (sc (sapp (dv 3) (dtup (dac (dv 4) (dac (dv 5) (dac (dv 7) danil))))) (sc (sif (dcmpT o_lt (dv 7) (dv 6)) (s1 (sapp (dv 2) (dtup (dac (dv 4) (dac (dv 5) (dac (dop o_sub (dv 6) (dv 7)) danil)))))) sn) (s1 (sset 1 nd (dop o_sub (dv 1) (dv 7))))))))) (s1 (sret (dtup (dac (dv 2) (dac (dv 3) danil)))))))
theorem fd_taken (T : Tx mg)  (F : FunD K "taken" "taken" (defArgs s_taken) (defBody s_taken) (defScope s_taken) [] [] a fd) (hm : mg "taken" = some (.ref a)) : Fd P w K mg base "taken" 1 (spV K mg 2 F_taken) := fd_of F (okV F sc_taken (d_taken T )) hm (F.bindsN (ps := ["runs", "many"]) fun _ _ _ _ _ _ us hl => match us, hl with | [_, _], _ => rfl)
abbrev s_depth : Stmt := top 3
theorem sc_depth : FnScope ["runs", "year", "place", "many"] ["runs"] (defScope s_depth) := ⟨rfl, rfl, rfl, by decide +kernel, rfl, by decide +kernel, by decide +kernel⟩
theorem d_depth (T : Tx mg)  : Bd P w K mg base "depth" (defBody s_depth) (defScope s_depth) a ["runs", "year", "place", "many"] 0 m_depth := fun cdv A outer s H E hr => by
  have tk : Takes (cxOf (L2.CX P w) P w K mg base ["runs", "year", "place", "many"] "depth" (defScope s_depth) a cdv A outer s H E) (wE E) := takes_of rfl rfl rfl rfl
  have nd := sc_depth.nd
  exact s1 (sret (dB (db_sum rfl) T.b_sum (dac (dl (fcomp (own := [("year", 1), ("place", 2), ("many", 3)]) nd (blkOk_by (by kernel_rfl)) (iseq (dv 0)) (fun _ _ _ _ _ => gt (gsc (gn 1 nd) (gsc (gn 2 nd) (gsc (gn 3 nd) gsn)))) (fun _ _ _ _ _ => cy) (fun _ _ _ _ _ => dv 3))) danil)))
theorem fd_depth (T : Tx mg)  (F : FunD K "depth" "depth" (defArgs s_depth) (defBody s_depth) (defScope s_depth) [] [] a fd) (hm : mg "depth" = some (.ref a)) : Fd P w K mg base "depth" 1 (spV K mg 1 F_depth) := fd_of F (okV F sc_depth (d_depth T )) hm (F.bindsN (ps := ["runs"]) fun _ _ _ _ _ _ us hl => match us, hl with | [_], _ => rfl)
abbrev s_l_box : Stmt := top 5
theorem sc_l_box : FnScope ["_law_script", "_law_seed", "_law_cell"] ["_law_script"] (defScope s_l_box) := ⟨rfl, rfl, rfl, by decide +kernel, rfl, by decide +kernel, by decide +kernel⟩
theorem d_l_box (T : Tx mg)  : Bd P w K mg base "_law_box" (defBody s_l_box) (defScope s_l_box) a ["_law_script", "_law_seed", "_law_cell"] 0 m_l_box := fun cdv A outer s H E hr => by
  have tk : Takes (cxOf (L2.CX P w) P w K mg base ["_law_script", "_law_seed", "_law_cell"] "_law_box" (defScope s_l_box) a cdv A outer s H E) (wE E) := takes_of rfl rfl rfl rfl
  have nd := sc_l_box.nd
  exact sc (sset 1 nd di) (sc (sfor [2] (passes_of rfl) (iseq (dv 0)) (gn 2 nd) (s1 (sset 1 nd (dop o_mod (dop o_add (dop o_add (dop o_mul (dv 1) di) (dop o_mod (dv 2) di)) di) di)))) (s1 (sretF (dlst (dac (dl (dBF db_list T.b_list (dac (dv 0) danil))) (dac di (dac di (dac di (dac (dv 1) danil)))))))))
theorem fd_l_box (T : Tx mg)  (F : FunD K "_law_box" "_law_box" (defArgs s_l_box) (defBody s_l_box) (defScope s_l_box) [] [] a fd) (hm : mg "_law_box" = some (.ref a)) : Fd P w K mg base "_law_box" 1 (spF K mg 1 F_l_box) := fd_of F (okF F sc_l_box (d_l_box T )) hm (F.bindsN (ps := ["_law_script"]) fun _ _ _ _ _ _ us hl => match us, hl with | [_], _ => rfl)
abbrev s_l_mixed : Stmt := top 6
theorem sc_l_mixed : FnScope ["_law_number", "_law_turn", "_law_one"] ["_law_number", "_law_turn"] (defScope s_l_mixed) := ⟨rfl, rfl, rfl, by decide +kernel, rfl, by decide +kernel, by decide +kernel⟩
theorem d_l_mixed (T : Tx mg)  : Bd P w K mg base "_law_mixed" (defBody s_l_mixed) (defScope s_l_mixed) a ["_law_number", "_law_turn", "_law_one"] 0 m_l_mixed := fun cdv A outer s H E hr => by
  have tk : Takes (cxOf (L2.CX P w) P w K mg base ["_law_number", "_law_turn", "_law_one"] "_law_mixed" (defScope s_l_mixed) a cdv A outer s H E) (wE E) := takes_of rfl rfl rfl rfl
  have nd := sc_l_mixed.nd
  exact sc (sset 2 nd (dop o_mod (dop o_add (dop o_add (dop o_mul (dv 0) di) (dop o_mul (dv 1) di)) di) di)) (s1 (sret (dop o_div (dop o_mod (dop o_add (dop o_add (dop o_mul (dv 2) (dop o_add (dop o_mod (dv 2) di) di)) (dop o_mul (dv 1) di)) (dop o_mod (dop o_div (dv 0) di) di)) di) di)))
theorem fd_l_mixed (T : Tx mg)  (F : FunD K "_law_mixed" "_law_mixed" (defArgs s_l_mixed) (defBody s_l_mixed) (defScope s_l_mixed) [] [] a fd) (hm : mg "_law_mixed" = some (.ref a)) : Fd P w K mg base "_law_mixed" 1 (spV K mg 2 F_l_mixed) := fd_of F (okV F sc_l_mixed (d_l_mixed T )) hm (F.bindsN (ps := ["_law_number", "_law_turn"]) fun _ _ _ _ _ _ us hl => match us, hl with | [_, _], _ => rfl)
abbrev s_l_whole : Stmt := top 8
theorem sc_l_whole : FnScope ["_law_found"] ["_law_found"] (defScope s_l_whole) := ⟨rfl, rfl, rfl, by decide +kernel, rfl, by decide +kernel, by decide +kernel⟩
theorem d_l_whole (T : Tx mg)  : Bd P w K mg base "_law_whole" (defBody s_l_whole) (defScope s_l_whole) a ["_law_found"] 0 m_l_whole := fun cdv A outer s H E hr => by
  have tk : Takes (cxOf (L2.CX P w) P w K mg base ["_law_found"] "_law_whole" (defScope s_l_whole) a cdv A outer s H E) (wE E) := takes_of rfl rfl rfl rfl
  have nd := sc_l_whole.nd
  exact s1 (sret (dand (dIsi .int T.b_isinstance T.b_int (dv 0)) (done (dnot (dIsi .bool T.b_isinstance T.b_bool (dv 0))))))
theorem fd_l_whole (T : Tx mg)  (F : FunD K "_law_whole" "_law_whole" (defArgs s_l_whole) (defBody s_l_whole) (defScope s_l_whole) [] [] a fd) (hm : mg "_law_whole" = some (.ref a)) : Fd P w K mg base "_law_whole" 1 (spV K mg 1 F_l_whole) := fd_of F (okV F sc_l_whole (d_l_whole T )) hm (F.bindsN (ps := ["_law_found"]) fun _ _ _ _ _ _ us hl => match us, hl with | [_], _ => rfl)
abbrev s_l_runs : Stmt := top 11
theorem sc_l_runs : FnScope ["_law_hands", "_law_found", "_law_year", "_law_place", "_law_layer"] ["_law_hands"] (defScope s_l_runs) := ⟨rfl, rfl, rfl, by decide +kernel, rfl, by decide +kernel, by decide +kernel⟩
theorem d_l_runs (T : Tx mg)  : Bd P w K mg base "_law_runs" (defBody s_l_runs) (defScope s_l_runs) a ["_law_hands", "_law_found", "_law_year", "_law_place", "_law_layer"] 0 m_l_runs := fun cdv A outer s H E hr => by
  have tk : Takes (cxOf (L2.CX P w) P w K mg base ["_law_hands", "_law_found", "_law_year", "_law_place", "_law_layer"] "_law_runs" (defScope s_l_runs) a cdv A outer s H E) (wE E) := takes_of rfl rfl rfl rfl
  have nd := sc_l_runs.nd
  exact sc (sset 1 nd (dnew (dlst danil))) (sc (sfor [2, 3, 4] (passes_of rfl) (iseq (dv 0)) (gt (gsc (gn 2 nd) (gsc (gn 3 nd) (gsc (gn 4 nd) gsn)))) (s1 (sif (dtw (dtand (dcmpT o_gt (dB (db_len) T.b_len (dac (dv 1) danil)) di) (dtand1 (dcmpT (o_eq (hu64 hr)) (dslT (dix (dv 1) (dneg di)) don (dos di)) (dtup (dac (dv 2) (dac (dv 3) danil))))))) (s1 (ssetIx (dv 1) (dneg di) (dtup (dac (dv 2) (dac (dv 3) (dac (dop o_add (dix (dix (dv 1) (dneg di)) di) di) danil)))))) (s1 (sapp (dv 1) (dtup (dac (dv 2) (dac (dv 3) (dac di danil))))))))) (s1 (sret (ddeep (dv 1)))))
theorem fd_l_runs (T : Tx mg)  (F : FunD K "_law_runs" "_law_runs" (defArgs s_l_runs) (defBody s_l_runs) (defScope s_l_runs) [] [] a fd) (hm : mg "_law_runs" = some (.ref a)) : Fd P w K mg base "_law_runs" 1 (spV K mg 1 F_l_runs) := fd_of F (okV F sc_l_runs (d_l_runs T )) hm (F.bindsN (ps := ["_law_hands"]) fun _ _ _ _ _ _ us hl => match us, hl with | [_], _ => rfl)
abbrev s_l_take : Stmt := top 7
theorem sc_l_take : FnScope ["_law_box_here", "_law_size", "_law_left", "_law_cell"] ["_law_box_here", "_law_size"] (defScope s_l_take) := ⟨rfl, rfl, rfl, by decide +kernel, rfl, by decide +kernel, by decide +kernel⟩
theorem d_l_take (T : Tx mg) (f_l_mixed : Fd P w K mg base "_law_mixed" 1 (spV K mg 2 F_l_mixed)) : Bd P w K mg base "_law_take" (defBody s_l_take) (defScope s_l_take) a ["_law_box_here", "_law_size", "_law_left", "_law_cell"] 1 m_l_take := fun cdv A outer s H E hr => by
  have tk : Takes (cxOf (L2.CX P w) P w K mg base ["_law_box_here", "_law_size", "_law_left", "_law_cell"] "_law_take" (defScope s_l_take) a cdv A outer s H E) (wE E) := takes_of rfl rfl rfl rfl
  have nd := sc_l_take.nd
  exact sc (ssetIx (dv 0) di (dop o_add (dix (dv 0) di) di)) (sc (sif (dcmpT o_gt (dix (dv 0) di) di) (sc (sset 2 nd (dix (dv 0) di)) (sc (ssetIx (dv 0) di (dop o_div (dv 2) (dv 1))) (s1 (sret (dop o_mod (dv 2) (dv 1)))))) sn) (sc (sif (dcmpT o_ge (dix (dv 0) di) (dB (db_len) T.b_len (dac (dix (dv 0) di) danil))) (s1 (sret (dop o_mod (dcall f_l_mixed (hr.mono (by decide)) tk (dac (dix (dv 0) di) (dac (dix (dv 0) di) danil)) fnV_len) (dv 1)))) sn) (sc (sset 3 nd (dix (dix (dv 0) di) (dix (dv 0) di))) (sc (ssetIx (dv 0) di (dop o_add (dix (dv 0) di) di)) (sc (sif (dcmpT o_lt (dv 3) (dop o_pow di di)) (s1 (sret (dop o_mod (dcall f_l_mixed (hr.mono (by decide)) tk (dac (dv 3) (dac (dix (dv 0) di) danil)) fnV_len) (dv 1)))) sn) (sc (ssetIx (dv 0) di (dop o_div (dv 3) (dv 1))) (s1 (sret (dop o_mod (dv 3) (dv 1))))))))))
theorem fd_l_take (T : Tx mg) (f_l_mixed : Fd P w K mg base "_law_mixed" 1 (spV K mg 2 F_l_mixed)) (F : FunD K "_law_take" "_law_take" (defArgs s_l_take) (defBody s_l_take) (defScope s_l_take) [] [] a fd) (hm : mg "_law_take" = some (.ref a)) : Fd P w K mg base "_law_take" 2 (spV K mg 2 F_l_take) := fd_of F (okV F sc_l_take (d_l_take T f_l_mixed)) hm (F.bindsN (ps := ["_law_box_here", "_law_size"]) fun _ _ _ _ _ _ us hl => match us, hl with | [_, _], _ => rfl)
abbrev s_l_far : Stmt := top 10
theorem sc_l_far : FnScope ["_law_box_here"] ["_law_box_here"] (defScope s_l_far) := ⟨rfl, rfl, rfl, by decide +kernel, rfl, by decide +kernel, by decide +kernel⟩
theorem d_l_far (T : Tx mg) (f_l_take : Fd P w K mg base "_law_take" 2 (spV K mg 2 F_l_take)) : Bd P w K mg base "_law_far" (defBody s_l_far) (defScope s_l_far) a ["_law_box_here"] 2 m_l_far := fun cdv A outer s H E hr => by
  have tk : Takes (cxOf (L2.CX P w) P w K mg base ["_law_box_here"] "_law_far" (defScope s_l_far) a cdv A outer s H E) (wE E) := takes_of rfl rfl rfl rfl
  have nd := sc_l_far.nd
  exact s1 (sret (dcall f_l_take (hr.mono (by decide)) tk (dac (dv 0) (dac (dix (dl (dlst (dac di (dac (dop o_pow di di) (dac (dop o_pow di di) (dac (dop o_sub (dop o_pow di di) di) danil)))))) (dcall f_l_take (hr.mono (by decide)) tk (dac (dv 0) (dac di danil)) fnV_len)) danil)) fnV_len))
theorem fd_l_far (T : Tx mg) (f_l_take : Fd P w K mg base "_law_take" 2 (spV K mg 2 F_l_take)) (F : FunD K "_law_far" "_law_far" (defArgs s_l_far) (defBody s_l_far) (defScope s_l_far) [] [] a fd) (hm : mg "_law_far" = some (.ref a)) : Fd P w K mg base "_law_far" 3 (spV K mg 1 F_l_far) := fd_of F (okV F sc_l_far (d_l_far T f_l_take)) hm (F.bindsN (ps := ["_law_box_here"]) fun _ _ _ _ _ _ us hl => match us, hl with | [_], _ => rfl)
abbrev s_l_alike : Stmt := top 9
theorem sc_l_alike : FnScope ["_law_found", "_law_due", "_law_one", "_law_other"] ["_law_found", "_law_due"] (defScope s_l_alike) := ⟨rfl, rfl, rfl, by decide +kernel, rfl, by decide +kernel, by decide +kernel⟩
theorem len_l_alike : ∀ (n : Nat) xs μ, F_l_alike n xs μ ≠ .no → xs.length = 2
  | 0, _, _, h => absurd rfl h
  | _ + 1, xs, μ, h => fnV_len xs μ h
theorem d_l_alike (T : Tx mg) (f_l_whole : Fd P w K mg base "_law_whole" 1 (spV K mg 1 F_l_whole)) {n : Nat} (f_l_alike : Fd P w K mg base "_law_alike" (n + 2) (spV K mg 2 (F_l_alike n))) : Bd P w K mg base "_law_alike" (defBody s_l_alike) (defScope s_l_alike) a ["_law_found", "_law_due", "_law_one", "_law_other"] (n + 2) (m_l_alike (F_l_alike n)) := fun cdv A outer s H E hr => by
  have tk : Takes (cxOf (L2.CX P w) P w K mg base ["_law_found", "_law_due", "_law_one", "_law_other"] "_law_alike" (defScope s_l_alike) a cdv A outer s H E) (wE E) := takes_of rfl rfl rfl rfl
  have nd := sc_l_alike.nd
  exact sc (sif (dcmpT o_isN (dv 1) dnon) (s1 (sret (dcmp o_isN (dv 0) dnon))) sn) (sc (sif (dtB (dIsi .bool T.b_isinstance T.b_bool (dv 1))) (s1 (sret (dand (dIsi .bool T.b_isinstance T.b_bool (dv 0)) (done (dcmp (o_eq (hu64 hr)) (dv 0) (dv 1)))))) sn) (sc (sif (dtB (dIsi .int T.b_isinstance T.b_int (dv 1))) (s1 (sret (dand (dcall f_l_whole (hr.mono (by omega)) tk (dac (dv 0) danil) fnV_len) (done (dcmp (o_eq (hu64 hr)) (dv 0) (dv 1)))))) sn) (sc (sif (dtB (dIsi .str T.b_isinstance T.b_str (dv 1))) (s1 (sret (dand (dIsi .str T.b_isinstance T.b_str (dv 0)) (done (dcmp (o_eq (hu64 hr)) (dv 0) (dv 1)))))) sn) (sc (sif (dtw (dtor (dcmpT (o_ne (hu64 hr)) (dIsi .list T.b_isinstance T.b_list (dv 1)) (dIsi .list T.b_isinstance T.b_list (dv 0))) (dtor1 (dcmpT (o_ne (hu64 hr)) (dIsi .tuple T.b_isinstance T.b_tuple (dv 1)) (dIsi .tuple T.b_isinstance T.b_tuple (dv 0)))))) (s1 (sret dbl)) sn) (s1 (sret (dand (dcmp (o_eq (hu64 hr)) (dB (db_len) T.b_len (dac (dv 0) danil)) (dB (db_len) T.b_len (dac (dv 1) danil))) (done (dB (db_all rfl) T.b_all (dac (dl (fcomp (own := [("_law_one", 2), ("_law_other", 3)]) nd (blkOk_by (by kernel_rfl)) (izip T.b_zip (dac (dv 0) (dac (dv 1) danil))) (fun _ _ _ _ _ => gt (gsc (gn 2 nd) (gsc (gn 3 nd) gsn))) (fun _ _ _ _ _ => cy) (fun _ _ _ _ _ => dcall f_l_alike hr takesN (dac (dv 2) (dac (dv 3) danil)) (len_l_alike _)))) danil))))))))))
theorem fd_l_alike (T : Tx mg) (f_l_whole : Fd P w K mg base "_law_whole" 1 (spV K mg 1 F_l_whole)) (F : FunD K "_law_alike" "_law_alike" (defArgs s_l_alike) (defBody s_l_alike) (defScope s_l_alike) [] [] a fd) (hm : mg "_law_alike" = some (.ref a)) : ∀ n, Fd P w K mg base "_law_alike" (n + 2) (spV K mg 2 (F_l_alike n))
  | 0 => ⟨_, _, _, fn_none, hm, F.kp, F.bindsN (ps := ["_law_found", "_law_due"]) fun _ _ _ _ _ _ us hl => match us, hl with | [_, _], _ => rfl⟩
  | n + 1 => fd_of F (okV F sc_l_alike (d_l_alike T f_l_whole (fd_l_alike T f_l_whole F hm n))) hm (F.bindsN (ps := ["_law_found", "_law_due"]) fun _ _ _ _ _ _ us hl => match us, hl with | [_, _], _ => rfl)
abbrev s_law : Stmt := top 12
theorem sc_law : FnScope ["_law_script", "_law_box_here", "_law_hands", "_law_year", "_law_turn", "_law_place", "_law_layer", "_law_runs_here", "_law_handed", "_law_run", "_law_other", "_law_some", "_law_one", "_law_tops", "_law_many", "_law_stay", "_law_due", "_law_told"] ["_law_script"] (defScope s_law) := ⟨rfl, rfl, rfl, by decide +kernel, rfl, by decide +kernel, by decide +kernel⟩
theorem d_law (T : Tx mg) (f_l_alike : Fd P w K mg base "_law_alike" 7 (spV K mg 2 (F_l_alike 5))) (f_l_box : Fd P w K mg base "_law_box" 1 (spF K mg 1 F_l_box)) (f_l_far : Fd P w K mg base "_law_far" 3 (spV K mg 1 F_l_far)) (f_l_runs : Fd P w K mg base "_law_runs" 1 (spV K mg 1 F_l_runs)) (f_l_take : Fd P w K mg base "_law_take" 2 (spV K mg 2 F_l_take)) (f_depth : Fd P w K mg base "depth" 1 (spV K mg 1 F_depth)) (f_laid : Fd P w K mg base "laid" 1 (spF K mg 2 F_laid)) (f_taken : Fd P w K mg base "taken" 1 (spV K mg 2 F_taken)) : Bd P w K mg base "law" (defBody s_law) (defScope s_law) a ["_law_script", "_law_box_here", "_law_hands", "_law_year", "_law_turn", "_law_place", "_law_layer", "_law_runs_here", "_law_handed", "_law_run", "_law_other", "_law_some", "_law_one", "_law_tops", "_law_many", "_law_stay", "_law_due", "_law_told"] 7 m_law := fun cdv A outer s H E hr => by
  have tk : Takes (cxOf (L2.CX P w) P w K mg base ["_law_script", "_law_box_here", "_law_hands", "_law_year", "_law_turn", "_law_place", "_law_layer", "_law_runs_here", "_law_handed", "_law_run", "_law_other", "_law_some", "_law_one", "_law_tops", "_law_many", "_law_stay", "_law_due", "_law_told"] "law" (defScope s_law) a cdv A outer s H E) (wE E) := takes_of rfl rfl rfl rfl
  have nd := sc_law.nd
  exact sc (sset 1 nd (dnew (dcallF f_l_box (hr.mono (by decide)) tk (dac (dv 0) danil) fnF_len))) (sc (sset 2 nd (dnew (dlst danil))) (sc (sset 3 nd (dcall f_l_far (hr.mono (by decide)) tk (dac (dv 1) danil) fnV_len)) (sc (sfor [4, 5, 6] (passes_of rfl) (irng1 T.b_range (dac (dcall f_l_take (hr.mono (by decide)) tk (dac (dv 1) (dac di danil)) fnV_len) danil)) (gn 4 nd) (sc (sset 3 nd (dop o_add (dop o_add (dv 3) di) (dcall f_l_take (hr.mono (by decide)) tk (dac (dv 1) (dac di danil)) fnV_len))) (sc (sset 5 nd (dcall f_l_take (hr.mono (by decide)) tk (dac (dv 1) (dac di danil)) fnV_len)) (s1 (sfor [6] (passes_of rfl) (irng1 T.b_range (dac (dop o_add di (dcall f_l_take (hr.mono (by decide)) tk (dac (dv 1) (dac di danil)) fnV_len)) danil)) (gn 6 nd) (s1 (sapp (dv 2) (dtup (dac (dv 3) (dac (dv 5) (dac (dv 6) danil))))))))))) (sc (sset 7 nd (dcall f_l_runs (hr.mono (by decide)) tk (dac (dv 2) danil) fnV_len)) (sc (sset 8 nd (dl (dBF db_list T.b_list (dac (dv 7) danil)))) (sc (sset 9 nd (dtup (dac (dop o_add (dv 3) di) (dac (dcall f_l_take (hr.mono (by decide)) tk (dac (dv 1) (dac di danil)) fnV_len) (dac (dop o_add di (dcall f_l_take (hr.mono (by decide)) tk (dac (dv 1) (dac di danil)) fnV_len)) danil))))) (sc (sif (dtw (dtor (dtnot (dtB (dcall f_l_alike (hr.mono (by decide)) tk (dac (dl (dcallF f_laid (hr.mono (by decide)) tk (dac (dv 8) (dac (dv 9) danil)) fnF_len)) (dac (dop o_add (dv 7) (dl (dlst (dac (dv 9) danil)))) danil)) (len_l_alike _)))) (dtor (dcmpT (o_ne (hu64 hr)) (dv 8) (dv 7)) (dtor1 (dtnot (dtB (dcall f_l_alike (hr.mono (by decide)) tk (dac (dcall f_depth (hr.mono (by decide)) tk (dac (dv 8) danil) fnV_len) (dac (dB (db_len) T.b_len (dac (dv 2) danil)) danil)) (len_l_alike _)))))))) (s1 (sret dbl)) sn) (sc (sexpr (dclr (dnew (dcallF f_laid (hr.mono (by decide)) tk (dac (dv 8) (dac (dv 9) danil)) fnF_len)))) (sc (sset 10 nd (dtup (dac (dop o_add (dv 3) di) (dac (dix (dv 9) di) (dac (dop o_sub di (dix (dv 9) di)) danil))))) (sc (sfor [11] (passes_of rfl) (iseq (dtup (dac (dl (dslL (dv 7) don (dos di))) (dac (dv 7) (dac (dl (dlst danil)) danil))))) (gn 11 nd) (sc (sif (dtnot (dtB (dcall f_l_alike (hr.mono (by decide)) tk (dac (dl (dcallF f_laid (hr.mono (by decide)) tk (dac (dl (dBF db_list T.b_list (dac (dv 11) danil))) (dac (dv 10) danil)) fnF_len)) (dac (dop o_add (dv 11) (dl (dlst (dac (dv 10) danil)))) danil)) (len_l_alike _)))) (s1 (sret dbl)) sn) (s1 (sif (dtnot (dtB (dcall f_l_alike (hr.mono (by decide)) tk (dac (dcall f_depth (hr.mono (by decide)) tk (dac (dl (dBF db_list T.b_list (dac (dv 11) danil))) danil) fnV_len) (dac (dB (db_sum rfl) T.b_sum (dac (dl (fcomp (own := [("_law_one", 12)]) nd (blkOk_by (by kernel_rfl)) (iseq (dv 11)) (fun _ _ _ _ _ => gn 12 nd) (fun _ _ _ _ _ => cy) (fun _ _ _ _ _ => dix (dv 12) di))) danil)) danil)) (len_l_alike _)))) (s1 (sret dbl)) sn)))) (sc (sif (dtw (dtor (dtnot (dtB (dcall f_l_alike (hr.mono (by decide)) tk (dac (dl (dcallF f_laid (hr.mono (by decide)) tk (dac (dv 8) (dac (dv 9) danil)) fnF_len)) (dac (dop o_add (dv 7) (dl (dlst (dac (dv 9) danil)))) danil)) (len_l_alike _)))) (dtor1 (dcmpT (o_ne (hu64 hr)) (dv 8) (dv 7))))) (s1 (sret dbl)) sn) (sc (sset 13 nd (dl (dlst (dac di (dac di (dac (dB (db_len) T.b_len (dac (dv 2) danil)) (dac (dop o_add (dB (db_len) T.b_len (dac (dv 2) danil)) di) (dac (dcall f_l_take (hr.mono (by decide)) tk (dac (dv 1) (dac (dop o_add (dB (db_len) T.b_len (dac (dv 2) danil)) di) danil)) fnV_len) danil)))))))) (sc (sif (dcmpT o_gt (dB (db_len) T.b_len (dac (dv 7) danil)) di) (s1 (sset 13 nd (dop o_add (dv 13) (dl (dlst (dac (dix (dix (dv 7) (dneg di)) di) (dac (dop o_add (dix (dix (dv 7) (dneg di)) di) di) danil))))))) sn) (sc (sfor [14, 15, 16, 17] (passes_of rfl) (iseq (dv 13)) (gn 14 nd) (sc (sset 15 nd (dop o_sub (dB (db_len) T.b_len (dac (dv 2) danil)) (dB (db_min2 rfl) T.b_min (dac (dv 14) (dac (dB (db_len) T.b_len (dac (dv 2) danil)) danil))))) (sc (sset 16 nd (dtup (dac (dcall f_l_runs (hr.mono (by decide)) tk (dac (dl (dslL (dv 2) don (dos (dv 15)))) danil) fnV_len) (dac (dl (drev (dcall f_l_runs (hr.mono (by decide)) tk (dac (dl (dslL (dv 2) (dos (dv 15)) don)) danil) fnV_len))) danil)))) (sc (sset 17 nd (dcall f_taken (hr.mono (by decide)) tk (dac (dv 8) (dac (dv 14) danil)) fnV_len)) (sc (sif (dtw (dtor (dtnot (dtB (dcall f_l_alike (hr.mono (by decide)) tk (dac (dv 17) (dac (dv 16) danil)) (len_l_alike _)))) (dtor1 (dcmpT (o_ne (hu64 hr)) (dv 8) (dv 7))))) (s1 (sret dbl)) sn) (sc (sapp (dix (dv 17) di) (dv 9)) (sc (sexpr (dclr (dix (dv 17) di))) (s1 (sif (dtnot (dtB (dcall f_l_alike (hr.mono (by decide)) tk (dac (dcall f_taken (hr.mono (by decide)) tk (dac (dv 8) (dac (dv 14) danil)) fnV_len) (dac (dv 16) danil)) (len_l_alike _)))) (s1 (sret dbl)) sn))))))))) (s1 (sret (dand (dcall f_l_alike (hr.mono (by decide)) tk (dac (dcall f_depth (hr.mono (by decide)) tk (dac (dl (dlst danil)) danil) fnV_len) (dac di danil)) (len_l_alike _)) (done (dcall f_l_alike (hr.mono (by decide)) tk (dac (dcall f_taken (hr.mono (by decide)) tk (dac (dl (dlst danil)) (dac di danil)) fnV_len) (dac (dtup (dac (dl (dlst danil)) (dac (dl (dlst danil)) danil))) danil)) (len_l_alike _))))))))))))))))))))
theorem fd_law (T : Tx mg) (f_l_alike : Fd P w K mg base "_law_alike" 7 (spV K mg 2 (F_l_alike 5))) (f_l_box : Fd P w K mg base "_law_box" 1 (spF K mg 1 F_l_box)) (f_l_far : Fd P w K mg base "_law_far" 3 (spV K mg 1 F_l_far)) (f_l_runs : Fd P w K mg base "_law_runs" 1 (spV K mg 1 F_l_runs)) (f_l_take : Fd P w K mg base "_law_take" 2 (spV K mg 2 F_l_take)) (f_depth : Fd P w K mg base "depth" 1 (spV K mg 1 F_depth)) (f_laid : Fd P w K mg base "laid" 1 (spF K mg 2 F_laid)) (f_taken : Fd P w K mg base "taken" 1 (spV K mg 2 F_taken)) (F : FunD K "law" "law" (defArgs s_law) (defBody s_law) (defScope s_law) [] [] a fd) (hm : mg "law" = some (.ref a)) : Fd P w K mg base "law" 8 (spV K mg 1 F_law) := fd_of F (okV F sc_law (d_law T f_l_alike f_l_box f_l_far f_l_runs f_l_take f_depth f_laid f_taken)) hm (F.bindsN (ps := ["_law_script"]) fun _ _ _ _ _ _ us hl => match us, hl with | [_], _ => rfl)
end
end Q

set_option Elab.async false
set_option linter.all false
set_option maxRecDepth 100000
set_option maxHeartbeats 0
namespace Q
open PySem PySem.Spec PyProof.Rows L2 L3
open Fm (Vl MO Mem En Rs ME MF MA MT MG MS MI Out So Gd Ky)
def dd_laid : He.DefD := ⟨("laid", none), "laid", "laid", defArgs s_laid, defBody s_laid, defScope s_laid, [], []⟩
def dd_taken : He.DefD := ⟨("taken", none), "taken", "taken", defArgs s_taken, defBody s_taken, defScope s_taken, [], []⟩
def dd_depth : He.DefD := ⟨("depth", none), "depth", "depth", defArgs s_depth, defBody s_depth, defScope s_depth, [], []⟩
def dd_l_box : He.DefD := ⟨("_law_box", none), "_law_box", "_law_box", defArgs s_l_box, defBody s_l_box, defScope s_l_box, [], []⟩
def dd_l_mixed : He.DefD := ⟨("_law_mixed", none), "_law_mixed", "_law_mixed", defArgs s_l_mixed, defBody s_l_mixed, defScope s_l_mixed, [], []⟩
def dd_l_whole : He.DefD := ⟨("_law_whole", none), "_law_whole", "_law_whole", defArgs s_l_whole, defBody s_l_whole, defScope s_l_whole, [], []⟩
def dd_l_runs : He.DefD := ⟨("_law_runs", none), "_law_runs", "_law_runs", defArgs s_l_runs, defBody s_l_runs, defScope s_l_runs, [], []⟩
def dd_l_take : He.DefD := ⟨("_law_take", none), "_law_take", "_law_take", defArgs s_l_take, defBody s_l_take, defScope s_l_take, [], []⟩
def dd_l_far : He.DefD := ⟨("_law_far", none), "_law_far", "_law_far", defArgs s_l_far, defBody s_l_far, defScope s_l_far, [], []⟩
def dd_l_alike : He.DefD := ⟨("_law_alike", none), "_law_alike", "_law_alike", defArgs s_l_alike, defBody s_l_alike, defScope s_l_alike, [], []⟩
def dd_law : He.DefD := ⟨("law", none), "law", "law", defArgs s_law, defBody s_law, defScope s_law, [], []⟩
def fn : List He.DefD := [dd_laid, dd_taken, dd_depth, dd_l_box, dd_l_mixed, dd_l_whole, dd_l_runs, dd_l_take, dd_l_far, dd_l_alike, dd_law]
def fa : List He.Fa := [.glo "laid", .glo "taken", .glo "depth", .glo "_law_box", .glo "_law_mixed", .glo "_law_whole", .glo "_law_runs", .glo "_law_take", .glo "_law_far", .glo "_law_alike", .glo "law", .free "all", .free "bool", .free "int", .free "isinstance", .free "len", .free "list", .free "min", .free "range", .free "str", .free "sum", .free "tuple", .free "zip"]
abbrev R : PySem.W.OpenRow := PySem.W.OpenLaw.row PySem.Challenge.rw_firnfall_k15_hands_laid_and_taken
abbrev hk : PySem.W.Hook := He.hookD 4 fa fn
def ob (s : PySem.W.SharedT) : He.AlD := He.obsDG 4 fa fn (HandSHeadRun.getT s)
theorem ob_eq (s : PySem.W.SharedT) : ob s = hk.obs s.abs := He.obsDG_eq (HandSHeadRun.getT_eq s)
theorem run (w : World) : HandSHeadRun.RunEq R (PySem.W.view R.prog [12]) hk ob 4000 ["laid", "taken", "depth", "_law_box", "_law_mixed", "_law_take", "_law_whole", "_law_alike", "_law_far", "_law_runs"] w := by
  intro os
  kernel_rfl
theorem facts {P : Program} {w : World} {K : PySem.W.Frag} {h : Heap} {mg : Str → Option Value} {f : Addr} (X : K.In h) (G : h.Ns mainGlobals mg) (hfa : mg ("law" : Str) = some (.ref f)) (c : He.SaysD fa fn K) :
    ∃ fd : FuncData, (∀ (s : Shared) (v : Value), BindsTo s fd ⟨[v], []⟩ [("_law_script", v)]) ∧ ∀ base : Heap, K.In base → base.Ns mainGlobals mg → FnOk P w K mg base L2.CX0 8 f fd ["_law_script"] (fun vs H Q _ => spV K mg 1 F_law vs H Q fun _ _ _ => False) := by
  have T : Tx mg := ⟨He.free_ok X G (c.fact 11 (f := .free "all") rfl), He.free_ok X G (c.fact 12 (f := .free "bool") rfl), He.free_ok X G (c.fact 13 (f := .free "int") rfl), He.free_ok X G (c.fact 14 (f := .free "isinstance") rfl), He.free_ok X G (c.fact 15 (f := .free "len") rfl), He.free_ok X G (c.fact 16 (f := .free "list") rfl), He.free_ok X G (c.fact 17 (f := .free "min") rfl), He.free_ok X G (c.fact 18 (f := .free "range") rfl), He.free_ok X G (c.fact 19 (f := .free "str") rfl), He.free_ok X G (c.fact 20 (f := .free "sum") rfl), He.free_ok X G (c.fact 21 (f := .free "tuple") rfl), He.free_ok X G (c.fact 22 (f := .free "zip") rfl)⟩
  obtain ⟨fd_0, F_0⟩ := c.def_ 0 (d := dd_laid) rfl
  have g_0 := He.glo_ok X G (c.fact 0 (f := .glo "laid") rfl)
  obtain ⟨fd_1, F_1⟩ := c.def_ 1 (d := dd_taken) rfl
  have g_1 := He.glo_ok X G (c.fact 1 (f := .glo "taken") rfl)
  obtain ⟨fd_2, F_2⟩ := c.def_ 2 (d := dd_depth) rfl
  have g_2 := He.glo_ok X G (c.fact 2 (f := .glo "depth") rfl)
  obtain ⟨fd_3, F_3⟩ := c.def_ 3 (d := dd_l_box) rfl
  have g_3 := He.glo_ok X G (c.fact 3 (f := .glo "_law_box") rfl)
  obtain ⟨fd_4, F_4⟩ := c.def_ 4 (d := dd_l_mixed) rfl
  have g_4 := He.glo_ok X G (c.fact 4 (f := .glo "_law_mixed") rfl)
  obtain ⟨fd_5, F_5⟩ := c.def_ 5 (d := dd_l_whole) rfl
  have g_5 := He.glo_ok X G (c.fact 5 (f := .glo "_law_whole") rfl)
  obtain ⟨fd_6, F_6⟩ := c.def_ 6 (d := dd_l_runs) rfl
  have g_6 := He.glo_ok X G (c.fact 6 (f := .glo "_law_runs") rfl)
  obtain ⟨fd_7, F_7⟩ := c.def_ 7 (d := dd_l_take) rfl
  have g_7 := He.glo_ok X G (c.fact 7 (f := .glo "_law_take") rfl)
  obtain ⟨fd_8, F_8⟩ := c.def_ 8 (d := dd_l_far) rfl
  have g_8 := He.glo_ok X G (c.fact 8 (f := .glo "_law_far") rfl)
  obtain ⟨fd_9, F_9⟩ := c.def_ 9 (d := dd_l_alike) rfl
  have g_9 := He.glo_ok X G (c.fact 9 (f := .glo "_law_alike") rfl)
  obtain ⟨fd_10, F_10⟩ := c.def_ 10 (d := dd_law) rfl
  have g_10 := He.glo_ok X G (c.fact 10 (f := .glo "law") rfl)
  have e := hfa.symm.trans g_10
  cases e
  have b := FunD.bindsA (ps := ["_law_script"]) F_10 fun _ _ _ _ _ _ us hl => match us, hl with | [_], _ => rfl
  refine ⟨fd_10, fun s v => b s [v] rfl, fun base _ _ => ?_⟩
  have f_laid : Fd P w K mg base "laid" 1 (spF K mg 2 F_laid) := fd_laid T  F_0 g_0
  have f_taken : Fd P w K mg base "taken" 1 (spV K mg 2 F_taken) := fd_taken T  F_1 g_1
  have f_depth : Fd P w K mg base "depth" 1 (spV K mg 1 F_depth) := fd_depth T  F_2 g_2
  have f_l_box : Fd P w K mg base "_law_box" 1 (spF K mg 1 F_l_box) := fd_l_box T  F_3 g_3
  have f_l_mixed : Fd P w K mg base "_law_mixed" 1 (spV K mg 2 F_l_mixed) := fd_l_mixed T  F_4 g_4
  have f_l_whole : Fd P w K mg base "_law_whole" 1 (spV K mg 1 F_l_whole) := fd_l_whole T  F_5 g_5
  have f_l_runs : Fd P w K mg base "_law_runs" 1 (spV K mg 1 F_l_runs) := fd_l_runs T  F_6 g_6
  have f_l_take : Fd P w K mg base "_law_take" 2 (spV K mg 2 F_l_take) := fd_l_take T f_l_mixed F_7 g_7
  have f_l_far : Fd P w K mg base "_law_far" 3 (spV K mg 1 F_l_far) := fd_l_far T f_l_take F_8 g_8
  have f_l_alike : Fd P w K mg base "_law_alike" 7 (spV K mg 2 (F_l_alike 5)) := fd_l_alike T f_l_whole F_9 g_9 5
  exact fn_cx0 (okV F_10 sc_law (d_law T f_l_alike f_l_box f_l_far f_l_runs f_l_take f_depth f_laid f_taken))
end Q
open PySem PySem.W PySem.Calls PyProof.Rows
theorem PySem.Challenge.cw_firnfall_k15_hands_laid_and_taken_holds : PySem.Challenge.rw_firnfall_k15_hands_laid_and_taken.Holds := by
  w_on; o_law
  refine HandSHeadRun.head_any (r := OpenLaw.row PySem.Challenge.rw_firnfall_k15_hands_laid_and_taken) (q := view (OpenLaw.row PySem.Challenge.rw_firnfall_k15_hands_laid_and_taken).prog [12]) (H := Q.hk) (ob := Q.ob) (M := 4000) (loose := ["laid", "taken", "depth", "_law_box", "_law_mixed", "_law_take", "_law_whole", "_law_alike", "_law_far", "_law_runs"]) (d := HandSHeadRun.topDef (OpenLaw.row PySem.Challenge.rw_firnfall_k15_hands_laid_and_taken).prog 12) (kwd := []) Q.ob_eq
    (by kernel_rfl) (fun s => by kernel_rfl) Q.run (by kernel_rfl) (by kernel_rfl) (by kernel_rfl) (by rfl) (by first | assumption | decide +kernel) (by decide +kernel) ⟨rfl, rfl, rfl, rfl, rfl, by decide +kernel⟩ ?hw ?hc
  case hw => w_witness2
  case hc =>
    refine L2.walk_ofE (l := PySem.Challenge.rw_firnfall_k15_hands_laid_and_taken) (n := 63) (k := 8) (x := "_law_script") (CX := L2.CX0) rfl (by decide) (by kernel_rfl) ⟨rfl, by decide, by decide⟩ ?F (fun _ _ _ _ z => z)
    intro w mg fa h Y G hmg0
    obtain ⟨K, KX, c⟩ := Y
    have hmg : mg ("law" : PySem.Str) = some (.ref fa) := by
      have e : (HandSHeadRun.topDef (OpenLaw.row PySem.Challenge.rw_firnfall_k15_hands_laid_and_taken).prog 12).name = ("law" : PySem.Str) := by kernel_rfl
      rw [← e]
      exact hmg0
    obtain ⟨fd, hb, hF⟩ := Q.facts (P := (PySem.Challenge.rw_firnfall_k15_hands_laid_and_taken).prog) (w := w) KX G hmg c
    exact ⟨K, fd, fun vs H Q _ => L3.spV K mg 1 _root_.Q.F_law vs H Q fun _ _ _ => False, KX, hb, fun H a ns hl _ hS => L3.law_start (Q.law_true ns hl) hS, hF⟩

