import PyProof.Rows.All
import Wide.All
import OpenK.AllK
import Wide.FinOn
import PySem.PyData
import PyProof.EqLayable
import KE.SortData
import HandS.Dict
import HandS.Words
import HandS.Head0
import HandS.Head1
import HandS.Head2
import HandS.HeadEnd
import HandS.HeadHook1
import HandS.HeadHook2
import HandS.ForMost
import HandS.ForExc
import HandS.IsInst
import HandS.Wide
import HandS.EndBits
import HandS.TupAny
import HandS.TryMany
import HandS.ExcCtx
import HandS.HotCalls
import HandS.Zip
import PyProof.LongRange
import HandS.Defaults
import HandS.Style
import HandS.SortInts
import KE.SortKeyHeap
import HandS.SortKw
import HandS.TupMul
import HandS.CallSlots
import HandS.WordsDict
import HandS.Iter
import HandS.More
import HandS.WideBits
import HandS.Rev
import HandS.ReCall
import KE.KIndexOf
import PyProof.P3Eq
import KE.KStateDown
import PySem.Challenge.RW_firnfall_k06_whole_lanes_keep_their_side
set_option Elab.async false
section
set_option linter.all false
namespace Fm
open PySem
abbrev Ky := Sum Int Str
inductive Vl where
  | non
  | bl (b : Bool)
  | int (i : Int)
  | str (s : Str)
  | tup (xs : List Vl)
  | lst (xs : List Vl)
  | dct (ks : List Ky) (vs : List Vl)
  | dtt (ks : List (List Ky)) (vs : List Vl)
  | ins (c : Str) (ns : List Str) (vs : List Vl)
  | ltup (ns : List Int)
  | adr (a : Nat)
  | scr (ns : List Int)
  | ref (i : Nat)
inductive MO where
  | lst (xs : List Vl)
  | dk (l : Bool) (kvs : List (Ky × Vl))
  | dt (l : Bool) (kvs : List (List Ky × Vl))
  | ins (c : Str) (fs : List (Str × Vl))
abbrev Mem := List (Option MO)
abbrev En := List (Option Vl)
inductive Rs (α : Type) where
  | no
  | ok (x : α) (μ : Mem)
  | ex (c : Str) (r : Option Int) (μ : Mem)
def Rs.bind {α β : Type} (r : Rs α) (f : α -> Mem -> Rs β) : Rs β := match r with
  | .no => .no
  | .ok x μ => f x μ
  | .ex c r μ => .ex c r μ
theorem Rs.bind_ok {α β : Type} {x : α} {μ : Mem} {f : α -> Mem -> Rs β} : (Rs.ok x μ).bind f = f x μ := rfl
def Rs.of {α : Type} (o : Option α) (μ : Mem) : Rs α := match o with
  | some x => .ok x μ
  | none => .no
def Rs.tame {α : Type} (r : Rs α) : Rs α := match r with
  | .ex _ _ _ => .no
  | .ok x μ => .ok x μ
  | .no => .no
theorem Rs.tame_ok {α : Type} {x : α} {μ : Mem} : (Rs.ok x μ).tame = .ok x μ := rfl
abbrev ME := En -> Mem -> Rs Vl
abbrev MF := En -> Mem -> Rs MO
abbrev MA := En -> Mem -> Rs (List Vl)
abbrev MT := En -> Mem -> Rs Bool
abbrev MO' := En -> Mem -> Rs (Option Int)
abbrev MG := Vl -> En -> Option En
inductive Out where
  | nx (Γ : En)
  | rt (x : Vl)
  | rf (i : Option Nat) (o : MO)
  | bk (Γ : En)
  | ct (Γ : En)
  | ex (c : Str) (r : Option Int) (Γ : En)
abbrev So := Option (Out × Mem)
abbrev MS := En -> Mem -> So
def Rs.st {α : Type} (r : Rs α) (Γ : En) (f : α -> Mem -> So) : So := match r with
  | .no => none
  | .ok x μ => f x μ
  | .ex c r μ => some (.ex c r Γ, μ)
mutual
def Vl.und (n : Nat) : Vl -> Bool
  | .non => true
  | .bl _ => true
  | .int _ => true
  | .str _ => true
  | .tup xs => Vl.undA n xs
  | .lst xs => Vl.undA n xs
  | .dct _ vs => Vl.undA n vs
  | .dtt _ vs => Vl.undA n vs
  | .ins _ _ vs => Vl.undA n vs
  | .ltup _ => true
  | .adr _ => true
  | .scr _ => true
  | .ref i => decide (i < n)
def Vl.undA (n : Nat) : List Vl -> Bool
  | [] => true
  | x :: r => Vl.und n x && Vl.undA n r
end
def MO.und (n : Nat) : MO -> Bool
  | .lst xs => Vl.undA n xs
  | .dk _ kvs => Vl.undA n (kvs.map (·.2))
  | .dt _ kvs => Vl.undA n (kvs.map (·.2))
  | .ins _ fs => Vl.undA n (fs.map (·.2))
def Cln (μ μ' : Mem) : Prop := ∀ i, i < μ.length -> μ'[i]? = μ[i]? \/ ∃ o, μ'[i]? = some o /\ ∀ m, o = some m -> m.und μ.length = true
open Classical in
noncomputable def gcM (b : Bool) (μ μ' : Mem) : Mem := if b = true /\ Cln μ μ' then μ'.take μ.length else μ'
noncomputable def gcV (μ : Mem) (v : Vl) (μ' : Mem) : Rs Vl := .ok v (gcM (v.und μ.length) μ μ')
noncomputable def gcF (μ : Mem) (o : MO) (μ' : Mem) : Rs MO := .ok o (gcM (o.und μ.length) μ μ')
def slotV (i : Nat) (Γ : En) : Option Vl := match Γ[i]? with
  | some (some x) => some x
  | _ => none
def eVar (i : Nat) : ME := fun Γ μ => Rs.of (slotV i Γ) μ
def eC (x : Vl) : ME := fun _ μ => .ok x μ
def eOp (g : Vl -> Vl -> Mem -> Option Vl) (a b : ME) : ME := fun Γ μ => (a Γ μ).bind fun x μ1 => (b Γ μ1).bind fun y μ2 => Rs.of (g x y μ2) μ2
def fOp (g : Vl -> Vl -> Mem -> Option MO) (a b : ME) : MF := fun Γ μ => (a Γ μ).bind fun x μ1 => (b Γ μ1).bind fun y μ2 => Rs.of (g x y μ2) μ2
def eUn (g : Vl -> Mem -> Option Vl) (a : ME) : ME := fun Γ μ => (a Γ μ).bind fun x μ1 => Rs.of (g x μ1) μ1
def getB : Vl -> Option Bool
  | .bl b => some b
  | _ => none
def getI : Vl -> Option Int
  | .int i => some i
  | _ => none
def getT : Vl -> Option (List Vl)
  | .tup xs => some xs
  | _ => none
def lstOf (μ : Mem) : Vl -> Option (List Vl)
  | .lst xs => some xs
  | .ref i => match μ[i]? with
    | some (some (.lst xs)) => some xs
    | _ => none
  | _ => none
def seqOf (μ : Mem) : Vl -> Option (List Vl)
  | .tup xs => some xs
  | .ltup ns => some (ns.map .int)
  | v => lstOf μ v
def eAnd (a b : ME) : ME := fun Γ μ => (a Γ μ).bind fun x μ1 => match getB x with
  | some true => b Γ μ1
  | some false => .ok (.bl false) μ1
  | none => .no
def eOr (a b : ME) : ME := fun Γ μ => (a Γ μ).bind fun x μ1 => match getB x with
  | some true => .ok (.bl true) μ1
  | some false => b Γ μ1
  | none => .no
def eNot (a : ME) : ME := fun Γ μ => (a Γ μ).bind fun x μ1 => match getB x with
  | some c => .ok (.bl (!c)) μ1
  | none => .no
def eChain (g h : Vl -> Vl -> Mem -> Option Vl) (a b c : ME) : ME := fun Γ μ => (a Γ μ).bind fun x μ1 => (b Γ μ1).bind fun y μ2 => match g x y μ2 with
  | some (.bl true) => (c Γ μ2).bind fun z μ3 => Rs.of (h y z μ3) μ3
  | some (.bl false) => .ok (.bl false) μ2
  | _ => .no
def eIf (t : MT) (a b : ME) : ME := fun Γ μ => (t Γ μ).bind fun c μ1 => match c with
  | true => a Γ μ1
  | false => b Γ μ1
def aNil : MA := fun _ μ => .ok [] μ
def aCons (a : ME) (r : MA) : MA := fun Γ μ => (a Γ μ).bind fun x μ1 => (r Γ μ1).bind fun xs μ2 => .ok (x :: xs) μ2
def cap : Nat := 10000000
def fits {α : Type} (xs : List α) : Option (List α) := if xs.length <= cap then some xs else none
def eTup (as : MA) : ME := fun Γ μ => (as Γ μ).bind fun xs μ1 => match fits xs with
  | some ys => .ok (.tup ys) μ1
  | none => .no
def fLst (as : MA) : MF := fun Γ μ => (as Γ μ).bind fun xs μ1 => match fits xs with
  | some ys => .ok (.lst ys) μ1
  | none => .no
def eFrz (f : MF) : ME := fun Γ μ => (f Γ μ).bind fun o μ1 => match o with
  | .lst xs => .ok (.lst xs) μ1
  | .dk _ kvs => .ok (.dct (kvs.map (·.1)) (kvs.map (·.2))) μ1
  | .dt _ kvs => .ok (.dtt (kvs.map (·.1)) (kvs.map (·.2))) μ1
  | .ins c fs => .ok (.ins c (fs.map (·.1)) (fs.map (·.2))) μ1
def eNew (f : MF) : ME := fun Γ μ => (f Γ μ).bind fun o μ1 => .ok (.ref μ1.length) (μ1 ++ [some o])
def eB (g : List Vl -> Mem -> Option Vl) (as : MA) : ME := fun Γ μ => (as Γ μ).bind fun xs μ1 => Rs.of (g xs μ1) μ1
def fB (g : List Vl -> Mem -> Option MO) (as : MA) : MF := fun Γ μ => (as Γ μ).bind fun xs μ1 => Rs.of (g xs μ1) μ1
def eCall (F : List Vl -> Mem -> Rs Vl) (as : MA) : ME := fun Γ μ => (as Γ μ).bind F
def fCall (F : List Vl -> Mem -> Rs MO) (as : MA) : MF := fun Γ μ => (as Γ μ).bind F
def ixN (n : Nat) (i : Int) : Option Nat := if 0 <= i then (if i < n then some i.toNat else none) else if -(n : Int) <= i then some (i + n).toNat else none
def atI {α : Type} (xs : List α) (i : Int) : Option α := (ixN xs.length i).bind fun j => xs[j]?
def oNo : MO' := fun _ μ => .ok none μ
def oIs (a : ME) : MO' := fun Γ μ => (a Γ μ).bind fun x μ1 => match getI x with
  | some k => .ok (some k) μ1
  | none => .no
def sIx (n d : Nat) : Option Int -> Nat
  | none => d
  | some v => if v < 0 then (v + n).toNat else min v.toNat n
def cut {α : Type} (xs : List α) (lo hi : Option Int) : List α := (xs.drop (sIx xs.length 0 lo)).take (sIx xs.length xs.length hi - sIx xs.length 0 lo)
def eSl (g : Vl -> Option Int -> Option Int -> Mem -> Option Vl) (e : ME) (lo hi : MO') : ME := fun Γ μ => (e Γ μ).bind fun x μ1 => (lo Γ μ1).bind fun l μ2 => (hi Γ μ2).bind fun h μ3 => Rs.of (g x l h μ3) μ3
def fSl (g : Vl -> Option Int -> Option Int -> Mem -> Option MO) (e : ME) (lo hi : MO') : MF := fun Γ μ => (e Γ μ).bind fun x μ1 => (lo Γ μ1).bind fun l μ2 => (hi Γ μ2).bind fun h μ3 => Rs.of (g x l h μ3) μ3
def setM (μ : Mem) (i : Nat) (o : MO) : Mem := μ.set i (some o)
def memL (μ : Mem) : Vl -> Option (Nat × List Vl)
  | .ref i => match μ[i]? with
    | some (some (.lst xs)) => some (i, xs)
    | _ => none
  | _ => none
def ePop (e : ME) : ME := fun Γ μ => (e Γ μ).bind fun x μ1 => match memL μ1 x with
  | some (i, xs) => match xs[xs.length - 1]? with
    | some y => .ok y (setM μ1 i (.lst xs.dropLast))
    | none => .no
  | none => .no
def eClr (e : ME) : ME := fun Γ μ => (e Γ μ).bind fun x μ1 => match memL μ1 x with
  | some (i, _) => .ok .non (setM μ1 i (.lst []))
  | none => .no
def tB (e : ME) : MT := fun Γ μ => (e Γ μ).bind fun x μ1 => Rs.of (getB x) μ1
def tYes : MT := fun _ μ => .ok true μ
def tAnd (a b : MT) : MT := fun Γ μ => (a Γ μ).bind fun c μ1 => match c with
  | true => b Γ μ1
  | false => .ok false μ1
def tOr (a b : MT) : MT := fun Γ μ => (a Γ μ).bind fun c μ1 => match c with
  | true => .ok true μ1
  | false => b Γ μ1
def tNot (a : MT) : MT := fun Γ μ => (a Γ μ).bind fun c μ1 => .ok (!c) μ1
def gName (i : Nat) : MG := fun x Γ => some (Γ.set i (some x))
def gsNil : List Vl -> En -> Option En
  | [], Γ => some Γ
  | _ :: _, _ => none
def gsCons (g : MG) (r : List Vl -> En -> Option En) : List Vl -> En -> Option En
  | [], _ => none
  | x :: xs, Γ => (g x Γ).bind fun Γ1 => r xs Γ1
def gTup (n : Nat) (gs : List Vl -> En -> Option En) : MG := fun x Γ => (getT x).bind fun xs => if xs.length = n then gs xs Γ else none
inductive Gd where
  | free
  | same (i : Nat) (o : MO)
  | both (a b : Gd)
def Gd.ok (μ : Mem) : Gd -> Prop
  | .free => True
  | .same i o => μ[i]? = some (some o)
  | .both a b => a.ok μ /\ b.ok μ
abbrev MI := En -> Mem -> Rs (List Vl × Gd)
def srcOf (μ : Mem) : Vl -> Option (List Vl × Gd)
  | .lst xs => some (xs, .free)
  | .tup xs => some (xs, .free)
  | .ltup ns => some (ns.map .int, .free)
  | .scr ns => some (ns.map .int, .free)
  | .ref i => match μ[i]? with
    | some (some (.lst xs)) => some (xs, .same i (.lst xs))
    | _ => none
  | _ => none
def iSeq (e : ME) : MI := fun Γ μ => (e Γ μ).bind fun x μ1 => Rs.of (srcOf μ1 x) μ1
def ivs (lo : Int) (n : Nat) : List Vl := (List.range n).map fun (k : Nat) => Vl.int (lo + (k : Int))
def iB (g : List Vl -> Mem -> Option (List Vl × Gd)) (as : MA) : MI := fun Γ μ => (as Γ μ).bind fun xs μ1 => Rs.of (g xs μ1) μ1
open Classical in
noncomputable def compGo (g : MG) (t : MT) (e : ME) (gd : Gd) (Γ : En) : List Vl -> Mem -> Rs (List Vl)
  | [], μ => if gd.ok μ then .ok [] μ else .no
  | x :: r, μ => if gd.ok μ then match g x Γ with
    | some Γ1 => (t Γ1 μ).tame.bind fun c μ1 => match c with
      | true => (e Γ1 μ1).tame.bind fun y μ2 => (compGo g t e gd Γ r μ2).bind fun z μ3 => .ok (y :: z) μ3
      | false => compGo g t e gd Γ r μ1
    | none => .no
    else .no
def wip : List Nat -> En -> En
  | [], Γ => Γ
  | i :: r, Γ => wip r (Γ.set i none)
noncomputable def fComp (it : MI) (g : MG) (t : MT) (e : ME) (vs : List Nat) : MF := fun Γ μ => (it Γ μ).bind fun p μ1 => if p.1.length <= cap then (compGo g t e p.2 (wip vs Γ) p.1 μ1).bind fun z μ2 => .ok (.lst z) μ2 else .no
def sNext : MS := fun Γ μ => some (.nx Γ, μ)
def sSeq (a b : MS) : MS := fun Γ μ => match a Γ μ with
  | some (.nx Γ1, μ1) => b Γ1 μ1
  | r => r
def sAsg (e : ME) (g : MG) : MS := fun Γ μ => (e Γ μ).st Γ fun x μ1 => match g x Γ with
  | some Γ1 => some (.nx Γ1, μ1)
  | none => none
def sDrop (e : ME) : MS := fun Γ μ => (e Γ μ).st Γ fun _ μ1 => some (.nx Γ, μ1)
def sRet (e : ME) : MS := fun Γ μ => (e Γ μ).st Γ fun x μ1 => some (.rt x, μ1)
def sRetN : MS := fun _ μ => some (.rt .non, μ)
def sRetF (f : MF) : MS := fun Γ μ => (f Γ μ).st Γ fun o μ1 => some (.rf none o, μ1)
def sRetO (e : ME) : MS := fun Γ μ => (e Γ μ).st Γ fun x μ1 => match x with
  | .ref i => match μ1[i]? with
    | some (some o) => some (.rf (some i) o, μ1.set i none)
    | _ => none
  | _ => none
def sIf (t : MT) (a b : MS) : MS := fun Γ μ => (t Γ μ).st Γ fun c μ1 => match c with
  | true => a Γ μ1
  | false => b Γ μ1
def sBrk : MS := fun Γ μ => some (.bk Γ, μ)
def sCnt : MS := fun Γ μ => some (.ct Γ, μ)
def setIx (xs : List Vl) (i : Int) (v : Vl) : Option (List Vl) := (ixN xs.length i).bind fun j => some (xs.set j v)
def sSetIx (o b e : ME) : MS := fun Γ μ => (e Γ μ).st Γ fun v μ1 => (o Γ μ1).st Γ fun x μ2 => (b Γ μ2).st Γ fun k μ3 => match memL μ3 x, getI k with
  | some (i, xs), some k => match setIx xs k v with
    | some ys => some (.nx Γ, setM μ3 i (.lst ys))
    | none => none
  | _, _ => none
def sApp (o e : ME) : MS := fun Γ μ => (o Γ μ).st Γ fun x μ1 => match memL μ1 x with
  | none => none
  | some _ => (e Γ μ1).st Γ fun v μ2 => match memL μ2 x with
    | some (i, xs) => if xs.length < cap then some (.nx Γ, setM μ2 i (.lst (xs ++ [v]))) else none
    | none => none
open Classical in
noncomputable def forGo (g : MG) (b : MS) (gd : Gd) (ws : List Nat) : List Vl -> En -> Mem -> So
  | [], Γ, μ => if gd.ok μ then some (.nx Γ, μ) else none
  | x :: r, Γ, μ => if gd.ok μ then match g x Γ with
    | none => none
    | some Γ1 => match b Γ1 μ with
      | none => none
      | some (.nx Γ2, μ1) => forGo g b gd ws r (wip ws Γ2) μ1
      | some (.ct Γ2, μ1) => forGo g b gd ws r (wip ws Γ2) μ1
      | some (.bk Γ2, μ1) => some (.nx (wip ws Γ2), μ1)
      | some (.rt y, μ1) => some (.rt y, μ1)
      | some (.rf i y, μ1) => some (.rf i y, μ1)
      | some (.ex c q Γ2, μ1) => some (.ex c q Γ2, μ1)
    else none
noncomputable def sFor (it : MI) (g : MG) (b : MS) (ws : List Nat) : MS := fun Γ μ => (it Γ μ).st Γ fun p μ1 => forGo g b p.2 ws p.1 (wip ws Γ) μ1
def whileGo (t : MT) (b : MS) (ws : List Nat) : Nat -> En -> Mem -> So
  | 0, _, _ => none
  | n + 1, Γ, μ => (t Γ μ).st Γ fun c μ1 => match c with
    | false => some (.nx Γ, μ1)
    | true => match b Γ μ1 with
      | none => none
      | some (.nx Γ2, μ2) => whileGo t b ws n (wip ws Γ2) μ2
      | some (.ct Γ2, μ2) => whileGo t b ws n (wip ws Γ2) μ2
      | some (.bk Γ2, μ2) => some (.nx (wip ws Γ2), μ2)
      | some (.rt y, μ2) => some (.rt y, μ2)
      | some (.rf i y, μ2) => some (.rf i y, μ2)
      | some (.ex c q Γ2, μ2) => some (.ex c q Γ2, μ2)
def sWhile (t : MT) (b : MS) (ws : List Nat) (n : Nat) : MS := fun Γ μ => whileGo t b ws n (wip ws Γ) μ
def mapO {α β : Type} (f : α -> Option β) : List α -> Option (List β)
  | [] => some []
  | x :: r => (f x).bind fun y => (mapO f r).bind fun ys => some (y :: ys)
def frzV : Nat -> Mem -> Vl -> Option Vl
  | 0, _, v => if v.und 0 = true then some v else none
  | n + 1, μ, v => if v.und 0 = true then some v else match v with
    | .ref i => match μ[i]? with
      | some (some (.lst xs)) => (mapO (frzV n μ) xs).bind fun ys => some (.lst ys)
      | some (some (.dk false kvs)) => (mapO (frzV n μ) (kvs.map (·.2))).bind fun ys => some (.dct (kvs.map (·.1)) ys)
      | some (some (.dt false kvs)) => (mapO (frzV n μ) (kvs.map (·.2))).bind fun ys => some (.dtt (kvs.map (·.1)) ys)
      | some (some (.ins c fs)) => (mapO (frzV n μ) (fs.map (·.2))).bind fun ys => some (.ins c (fs.map (·.1)) ys)
      | _ => none
    | .tup xs => (mapO (frzV n μ) xs).bind fun ys => some (.tup ys)
    | .lst xs => (mapO (frzV n μ) xs).bind fun ys => some (.lst ys)
    | _ => none
def flatL {α β : Type} (f : α -> List β) : List α -> List β
  | [] => []
  | x :: r => f x ++ flatL f r
def rchV : Nat -> Mem -> Vl -> List Nat
  | 0, _, _ => []
  | n + 1, μ, v => match v with
    | .ref i => i :: (match μ[i]? with
      | some (some (.lst xs)) => flatL (rchV n μ) xs
      | some (some (.dk false kvs)) => flatL (rchV n μ) (kvs.map (·.2))
      | some (some (.dt false kvs)) => flatL (rchV n μ) (kvs.map (·.2))
      | some (some (.ins _ fs)) => flatL (rchV n μ) (fs.map (·.2))
      | _ => [])
    | .tup xs => flatL (rchV n μ) xs
    | .lst xs => flatL (rchV n μ) xs
    | _ => []
def kill (S : List Nat) (μ : Mem) : Mem := μ.mapIdx fun i o => if i ∈ S then none else o
def depthF : Nat := 6
def eDeep (e : ME) : ME := fun Γ μ => (e Γ μ).bind fun x μ1 => match frzV depthF μ1 x with
  | some d => .ok d (kill (rchV depthF μ1 x) μ1)
  | none => .no
def args (n : Nat) (xs : List Vl) : En := xs.map some ++ List.replicate (n - xs.length) none
noncomputable def outV (μ : Mem) : So -> Rs Vl
  | some (.rt x, μ') => gcV μ x μ'
  | some (.nx _, μ') => gcV μ .non μ'
  | some (.ex c r _, μ') => .ex c r (gcM true μ μ')
  | _ => .no
open Classical in
noncomputable def outF (μ : Mem) : So -> Rs MO
  | some (.rf none o, μ') => gcF μ o μ'
  | some (.rf (some i) o, μ') => if μ.length <= i /\ o.und μ.length = true /\ Cln μ μ' then .ok o (μ'.take μ.length) else .no
  | some (.ex c r _, μ') => .ex c r (gcM true μ μ')
  | _ => .no
noncomputable def fnV (k n : Nat) (b : MS) : List Vl -> Mem -> Rs Vl := fun xs μ => if xs.length = k then outV μ (b (args n xs) μ) else .no
noncomputable def fnF (k n : Nat) (b : MS) : List Vl -> Mem -> Rs MO := fun xs μ => if xs.length = k then outF μ (b (args n xs) μ) else .no
end Fm
end
section
set_option linter.all false
namespace Fm
open PySem
def small (a : Int) : Prop := -(2 ^ 64) < a /\ a < 2 ^ 64
instance (a : Int) : Decidable (small a) := by unfold small; infer_instance
def gAdd : Vl -> Vl -> Mem -> Option Vl
  | .int a, .int b, _ => some (.int (a + b))
  | .tup a, .tup b, _ => if a.length + b.length <= cap then some (.tup (a ++ b)) else none
  | .str a, .str b, _ => if a.length + b.length <= cap then some (.str (a ++ b)) else none
  | x, y, μ => match lstOf μ x, lstOf μ y with
    | some a, some b => if a.length + b.length <= cap then some (.lst (a ++ b)) else none
    | _, _ => none
def gI (f : Int -> Int -> Option Vl) : Vl -> Vl -> Mem -> Option Vl
  | .int a, .int b, _ => f a b
  | _, _, _ => none
def gSub : Vl -> Vl -> Mem -> Option Vl := gI fun a b => some (.int (a - b))
noncomputable def gMul : Vl -> Vl -> Mem -> Option Vl := gI fun a b => letI := Classical.propDecidable (small a \/ small b); if small a \/ small b then some (.int (a * b)) else none
noncomputable def gDiv : Vl -> Vl -> Mem -> Option Vl := gI fun a b => letI := Classical.propDecidable (0 < b /\ b < 10 ^ 100); if 0 < b /\ b < 10 ^ 100 then some (.int (a / b)) else none
noncomputable def gMod : Vl -> Vl -> Mem -> Option Vl := gI fun a b => if 0 < b then some (.int (a % b)) else none
noncomputable def gPow : Vl -> Vl -> Mem -> Option Vl := gI fun a b => letI := Classical.propDecidable (0 <= b /\ b <= 1000 /\ small a); if 0 <= b /\ b <= 1000 /\ small a then some (.int (a ^ b.toNat)) else none
def gLt : Vl -> Vl -> Mem -> Option Vl := gI fun a b => some (.bl (decide (a < b)))
def gLe : Vl -> Vl -> Mem -> Option Vl := gI fun a b => some (.bl (decide (a <= b)))
def gGt : Vl -> Vl -> Mem -> Option Vl := gI fun a b => some (.bl (decide (b < a)))
def gGe : Vl -> Vl -> Mem -> Option Vl := gI fun a b => some (.bl (decide (b <= a)))
def pyV : Nat -> Mem -> Vl -> Option PyData
  | 0, _, _ => none
  | n + 1, μ, v => match v with
    | .non => some .none
    | .bl b => some (.bool b)
    | .int i => some (.int i)
    | .str s => some (.str s)
    | .tup xs => (mapO (pyV n μ) xs).bind fun ys => some (.tuple ys)
    | .lst xs => (mapO (pyV n μ) xs).bind fun ys => some (.list ys)
    | .ref i => match μ[i]? with
      | some (some (.lst xs)) => (mapO (pyV n μ) xs).bind fun ys => some (.list ys)
      | _ => none
    | _ => none
def depthP : Nat := 9
def gEqB (f : Bool -> Bool) : Vl -> Vl -> Mem -> Option Vl := fun a b μ => match pyV depthP μ a, pyV depthP μ b with
  | some x, some y => if SeqAt.shaped x = true /\ SeqAt.shaped y = true then some (.bl (f (PyData.eqv x y))) else none
  | _, _ => none
def gEq : Vl -> Vl -> Mem -> Option Vl := gEqB id
def gNe : Vl -> Vl -> Mem -> Option Vl := gEqB not
def isNon : Vl -> Bool
  | .non => true
  | _ => false
def gIsN : Vl -> Vl -> Mem -> Option Vl
  | a, .non, _ => some (.bl (isNon a))
  | _, _, _ => none
def gIsnN : Vl -> Vl -> Mem -> Option Vl
  | a, .non, _ => some (.bl (!isNon a))
  | _, _, _ => none
def flatP : Vl -> Option PyData
  | .non => some .none
  | .bl b => some (.bool b)
  | .int i => some (.int i)
  | .str s => some (.str s)
  | _ => none
def gIn (neg : Bool) : Vl -> Vl -> Mem -> Option Vl := fun x y μ => match seqOf μ y with
  | some ys => match flatP x, mapO flatP ys with
    | some a, some zs => some (.bl (if neg then !zs.any (fun z => PyData.eqv z a) else zs.any (fun z => PyData.eqv z a)))
    | _, _ => none
  | none => none
def gIx : Vl -> Vl -> Mem -> Option Vl := fun x i μ => (seqOf μ x).bind fun xs => (getI i).bind fun k => atI xs k
def bLen : List Vl -> Mem -> Option Vl
  | [.str x], _ => if x.length <= cap then some (.int x.length) else none
  | [.scr ns], _ => some (.int ns.length)
  | [v], μ => (seqOf μ v).bind fun xs => some (.int xs.length)
  | _, _ => none
def bools : List Vl -> Option (List Bool) := mapO getB
def intsOf : List Vl -> Option (List Int) := mapO getI
def bAll : List Vl -> Mem -> Option Vl
  | [v], μ => (lstOf μ v).bind fun xs => (bools xs).bind fun bs => some (.bl (bs.all id))
  | _, _ => none
def bMax2 : List Vl -> Mem -> Option Vl
  | [.int a, .int b], _ => some (.int (if b > a then b else a))
  | _, _ => none
def bMin2 : List Vl -> Mem -> Option Vl
  | [.int a, .int b], _ => some (.int (if b < a then b else a))
  | _, _ => none
def bList : List Vl -> Mem -> Option MO
  | [.scr ns], _ => some (.lst (ns.map .int))
  | [v], μ => (seqOf μ v).bind fun xs => some (.lst xs)
  | _, _ => none
def bTuple : List Vl -> Mem -> Option Vl
  | [.ltup _], _ => none
  | [v], μ => (seqOf μ v).bind fun xs => some (.tup xs)
  | _, _ => none
inductive Ty where
  | bool | int | str | list | tuple
def isiB (μ : Mem) : Ty -> Vl -> Option Bool
  | .bool, .bl _ => some true
  | .int, .bl _ => some true
  | .int, .int _ => some true
  | .str, .str _ => some true
  | .list, .lst _ => some true
  | .tuple, .tup _ => some true
  | _, .dct _ _ => none
  | _, .dtt _ _ => none
  | _, .ins _ _ _ => none
  | _, .ltup _ => none
  | _, .adr _ => none
  | _, .scr _ => none
  | T, .ref i => match μ[i]? with
    | some (some (.lst _)) => some (match T with | .list => true | _ => false)
    | some (some (.ins _ _)) => none
    | _ => none
  | _, _ => some false
def eIsi (T : Ty) (a : ME) : ME := fun Γ μ => (a Γ μ).bind fun x μ1 => Rs.of ((isiB μ1 T x).map .bl) μ1
def slL : Vl -> Option Int -> Option Int -> Mem -> Option MO := fun v lo hi μ => (lstOf μ v).bind fun xs => some (.lst (cut xs lo hi))
noncomputable def rng1 : List Vl -> Mem -> Option (List Vl × Gd)
  | [.int j], _ => letI := Classical.propDecidable (j < 10 ^ 15); if j < 10 ^ 15 then some (ivs 0 j.toNat, .free) else none
  | _, _ => none
noncomputable def rng2 : List Vl -> Mem -> Option (List Vl × Gd)
  | [.int i, .int j], _ => letI := Classical.propDecidable (j - i < 10 ^ 15); if j - i < 10 ^ 15 then some (ivs i (j - i).toNat, .free) else none
  | _, _ => none
def guardOf (v : Vl) (μ : Mem) : Gd := match v with
  | .ref i => match μ[i]? with
    | some (some o) => .same i o
    | _ => .free
  | _ => .free
def bZip : List Vl -> Mem -> Option (List Vl × Gd)
  | [.tup xs, .tup ys], _ => some ((xs.zip ys).map fun p => .tup [p.1, p.2], .free)
  | [x, y], μ => match lstOf μ x, lstOf μ y with
    | some xs, some ys => some ((xs.zip ys).map fun p => .tup [p.1, p.2], .both (guardOf x μ) (guardOf y μ))
    | _, _ => none
  | _, _ => none
end Fm
end
section
set_option linter.all false
namespace Fm
open PySem
def gNeg : Vl -> Mem -> Option Vl
  | .int a, _ => some (.int (-a))
  | _, _ => none
def fUn (g : Vl -> Mem -> Option MO) (a : ME) : MF := fun Γ μ => (a Γ μ).bind fun x μ1 => Rs.of (g x μ1) μ1
def gRev : Vl -> Mem -> Option MO := fun v μ => (lstOf μ v).bind fun xs => some (.lst xs.reverse)
def sortBy (ds : List PyData) (zs : List Vl) : List Vl := ((zs.zip ds).mergeSort (PySem.W.dataLe false fun b => b.2)).map (·.1)
open Classical in
noncomputable def bSorted : List Vl -> Mem -> Option MO
  | [v], μ => (lstOf μ v).bind fun zs => (mapO (pyV depthP μ) zs).bind fun ds => if PySem.W.AllAlike ds /\ PySem.W.Sortable ds /\ (∀ d ∈ ds, d.depth <= 9) /\ zs.length <= cap then some (.lst (sortBy ds zs)) else none
  | _, _ => none
def tupInts : Vl -> Option (List Int)
  | .tup xs => mapO getI xs
  | _ => none
def keyOf (F : List Vl -> Mem -> Rs Vl) (ns : List Int) : Option (List Int) := match F [.ltup ns] [] with
  | .ok v _ => tupInts v
  | _ => none
def keyD (F : List Vl -> Mem -> Rs Vl) (ns : List Int) : List Int := (keyOf F ns).getD []
def sortK (k : List Int -> List Int) (nss : List (List Int)) (zs : List Vl) : List Vl := ((zs.zip nss).mergeSort (PySem.W.dataLe false fun b => .tuple ((k b.2).map .int))).map (·.1)
def tupIntsN : Vl -> Option (List Int)
  | .ltup ns => some ns
  | _ => none
def fSortK (F : List Vl -> Mem -> Rs Vl) (a : ME) : MF := fun Γ μ => (a Γ μ).bind fun v μ1 => Rs.of ((lstOf μ1 v).bind fun zs => (mapO tupIntsN zs).bind fun nss =>
  if (nss.all fun ns => (keyOf F ns).isSome && !(keyD F ns).isEmpty) = true /\ zs.length <= cap then some (MO.lst (sortK (keyD F) nss zs)) else none) μ1
def gRevT : Vl -> Mem -> Option Vl
  | .tup xs, _ => some (.tup xs.reverse)
  | .ltup ns, _ => some (.tup (ns.map .int).reverse)
  | _, _ => none
end Fm
end
section
set_option linter.all false
namespace Fm
open PySem
def insOf (μ : Mem) : Vl -> Option (Str × List (Str × Vl))
  | .ins c ns vs => if ns.length = vs.length then some (c, ns.zip vs) else none
  | .ref i => match μ[i]? with
    | some (some (.ins c fs)) => some (c, fs)
    | _ => none
  | _ => none
def fldOf (μ : Mem) (c f : Str) (v : Vl) : Option Vl := (insOf μ v).bind fun p => if p.1 = c then p.2.lookup f else none
def eFld (c f : Str) (e : ME) : ME := fun Γ μ => (e Γ μ).bind fun x μ1 => Rs.of (fldOf μ1 c f x) μ1
def isIns (μ : Mem) (c m : Str) (v : Vl) : Bool := match insOf μ v with
  | some p => decide (p.1 = c) && (p.2.lookup m).isNone
  | none => false
def eMeth (c m : Str) (F : List Vl -> Mem -> Rs Vl) (o : ME) (as : MA) : ME := fun Γ μ => (o Γ μ).bind fun x μ1 => if isIns μ1 c m x = true then (as Γ μ1).bind fun xs μ2 => F (x :: xs) μ2 else .no
def fMeth (c m : Str) (F : List Vl -> Mem -> Rs MO) (o : ME) (as : MA) : MF := fun Γ μ => (o Γ μ).bind fun x μ1 => if isIns μ1 c m x = true then (as Γ μ1).bind fun xs μ2 => F (x :: xs) μ2 else .no
def putFl (f : Str) (v : Vl) : List (Str × Vl) -> List (Str × Vl)
  | [] => [(f, v)]
  | (g, x) :: r => if g = f then (g, v) :: r else (g, x) :: putFl f v r
def sFld (c f : Str) (o e : ME) : MS := fun Γ μ => (e Γ μ).st Γ fun v μ1 => (o Γ μ1).st Γ fun x μ2 => match x with
  | .ref i => match μ2[i]? with
    | some (some (.ins c' fs)) => if c' = c /\ fs.length < 1000 then some (.nx Γ, setM μ2 i (.ins c (putFl f v fs))) else none
    | _ => none
  | _ => none
def eMake (c : Str) (F : List Vl -> Mem -> Rs Vl) (as : MA) : ME := fun Γ μ => (as Γ μ).bind fun xs μ1 => (F (.ref μ1.length :: xs) (μ1 ++ [some (.ins c [])])).bind fun v μ2 => match v with
  | .non => .ok (.ref μ1.length) μ2
  | _ => .no
def sRaise (c : Str) : MS := fun Γ μ => some (.ex c none Γ, μ)
def outR : So -> Rs Vl
  | some (.rt x, μ') => .ok x μ'
  | some (.nx _, μ') => .ok .non μ'
  | some (.ex c r _, μ') => .ex c r μ'
  | _ => .no
def fnR (k n : Nat) (b : MS) : List Vl -> Mem -> Rs Vl := fun xs μ => if xs.length = k then outR (b (args n xs) μ) else .no
def dkOf (μ : Mem) : Vl -> Option (List (Ky × Vl))
  | .dct ks vs => if ks.length = vs.length then some (ks.zip vs) else none
  | .ref i => match μ[i]? with
    | some (some (.dk _ kvs)) => some kvs
    | _ => none
  | _ => none
def dtOf (μ : Mem) : Vl -> Option (List (List Ky × Vl))
  | .dtt ks vs => if ks.length = vs.length then some (ks.zip vs) else none
  | .ref i => match μ[i]? with
    | some (some (.dt _ kvs)) => some kvs
    | _ => none
  | _ => none
def kyOf : Vl -> Option Ky
  | .int i => some (.inl i)
  | .str s => some (.inr s)
  | _ => none
def tkOf : Vl -> Option (List Ky)
  | .tup xs => mapO kyOf xs
  | _ => none
def kyV : Ky -> Vl
  | .inl i => .int i
  | .inr s => .str s
section
variable {κ : Type} [DecidableEq κ]
def getK (kvs : List (κ × Vl)) (k : κ) : Option Vl := (kvs.find? fun kv => decide (kv.1 = k)).map (·.2)
def setK (kvs : List (κ × Vl)) (k : κ) (v : Vl) : List (κ × Vl) := if kvs.any (fun kv => decide (kv.1 = k)) = true then kvs.map fun kv => if kv.1 = k then (kv.1, v) else kv else kvs ++ [(k, v)]
def delK (kvs : List (κ × Vl)) (k : κ) : List (κ × Vl) := kvs.filter fun kv => decide (kv.1 ≠ k)
end
def dGet (μ : Mem) (d k : Vl) : Option (Option Vl) := match dkOf μ d with
  | some kvs => (kyOf k).map fun k => getK kvs k
  | none => (dtOf μ d).bind fun kvs => (tkOf k).map fun k => getK kvs k
def gDIx : Vl -> Vl -> Mem -> Option Vl := fun d k μ => (dGet μ d k).bind id
def gDIn (neg : Bool) : Vl -> Vl -> Mem -> Option Vl := fun k d μ => (dGet μ d k).map fun o => .bl (if neg then !o.isSome else o.isSome)
def isD (μ : Mem) (d : Vl) : Bool := (dkOf μ d).isSome || (dtOf μ d).isSome
def eDGet (d k x : ME) : ME := fun Γ μ => (d Γ μ).bind fun o μ1 => if isD μ1 o = true then (k Γ μ1).bind fun y μ2 => (x Γ μ2).bind fun z μ3 => Rs.of ((dGet μ3 o y).map fun r => r.getD z) μ3 else .no
def fDNewK : MF := fun _ μ => .ok (.dk false []) μ
def fDNewT : MF := fun _ μ => .ok (.dt false []) μ
def dPut (μ : Mem) (d k v : Vl) : Option Mem := match d with
  | .ref i => match μ[i]? with
    | some (some (.dk false kvs)) => (kyOf k).bind fun k => if kvs.length < cap then some (setM μ i (.dk false (setK kvs k v))) else none
    | some (some (.dt false kvs)) => (tkOf k).bind fun k => if kvs.length < cap then some (setM μ i (.dt false (setK kvs k v))) else none
    | _ => none
  | _ => none
def sDPut (o b e : ME) : MS := fun Γ μ => (e Γ μ).st Γ fun v μ1 => (o Γ μ1).st Γ fun x μ2 => (b Γ μ2).st Γ fun k μ3 => match dPut μ3 x k v with
  | some μ4 => some (.nx Γ, μ4)
  | none => none
def dPop (μ : Mem) (d k : Vl) : Option (Vl × Mem) := match d with
  | .ref i => match μ[i]? with
    | some (some (.dk false kvs)) => (kyOf k).bind fun k => (getK kvs k).map fun v => (v, setM μ i (.dk false (delK kvs k)))
    | _ => none
  | _ => none
def eDPop (o b : ME) : ME := fun Γ μ => (o Γ μ).bind fun x μ1 => if isD μ1 x = true then (b Γ μ1).bind fun k μ2 => match dPop μ2 x k with
  | some (v, μ3) => .ok v μ3
  | none => .no
  else .no
end Fm
namespace Fm
open PySem
def tkV (k : List Ky) : Vl := .tup (k.map kyV)
def dsrc (μ : Mem) : Vl -> Option (List Vl × Gd)
  | .dct ks vs => if ks.length = vs.length then some (ks.map kyV, .free) else none
  | .dtt ks vs => if ks.length = vs.length then some (ks.map tkV, .free) else none
  | .ref i => match μ[i]? with
    | some (some (.dk true kvs)) => some (kvs.map fun kv => kyV kv.1, .same i (.dk true kvs))
    | some (some (.dt true kvs)) => some (kvs.map fun kv => tkV kv.1, .same i (.dt true kvs))
    | _ => none
  | _ => none
def iDict (e : ME) : MI := fun Γ μ => (e Γ μ).bind fun x μ1 => Rs.of (dsrc μ1 x) μ1
def aDisp (kvs : List (Str × ME)) : En -> Mem -> Rs (List (Ky × Vl)) := match kvs with
  | [] => fun _ μ => .ok [] μ
  | (k, e) :: r => fun Γ μ => (e Γ μ).bind fun v μ1 => (aDisp r Γ μ1).bind fun z μ2 => .ok ((.inr k, v) :: z) μ2
def fDisp (kvs : List (Str × ME)) : MF := fun Γ μ => (aDisp kvs Γ μ).bind fun z μ1 => .ok (.dk false (z.foldl (fun acc kv => setK acc kv.1 kv.2) [])) μ1
end Fm
namespace Fm
open PySem
def bAbs : List Vl -> Mem -> Option Vl
  | [.int i], _ => some (.int (if i < 0 then -i else i))
  | _, _ => none
def bIntB : List Vl -> Mem -> Option Vl
  | [.int i], _ => some (.int i)
  | [.bl b], _ => some (.int (if b then 1 else 0))
  | _, _ => none
def bAny : List Vl -> Mem -> Option Vl
  | [v], μ => (lstOf μ v).bind fun xs => (bools xs).bind fun bs => some (.bl (bs.any id))
  | _, _ => none
end Fm
namespace Fm
open PySem
def sPar2 (i j : Nat) (as : MA) : MS := fun Γ μ => (as Γ μ).st Γ fun xs μ1 => match xs with
  | [x, y] => some (.nx ((Γ.set i (some x)).set j (some y)), μ1)
  | _ => none
def sPar3 (i j l : Nat) (as : MA) : MS := fun Γ μ => (as Γ μ).st Γ fun xs μ1 => match xs with
  | [x, y, z] => some (.nx (((Γ.set i (some x)).set j (some y)).set l (some z)), μ1)
  | _ => none
end Fm
end
section
set_option linter.all false
namespace Fm
open PySem
def takesX (c C : Str) : Bool := decide (C = "FirnError") || decide (c = C)
def noEx : So -> So
  | some (.ex _ _ _, _) => none
  | o => o
def tryGo (c : Str) (r : Option Int) : List (Str × MS) -> En -> Mem -> So
  | [], Γ, μ => some (.ex c r Γ, μ)
  | (C, h) :: t, Γ, μ => if takesX c C = true then noEx (h Γ μ) else tryGo c r t Γ μ
def tryK (cs : List Str) (hs : List (Str × MS)) : So -> So
  | some (.ex c r Γ, μ) => if c ∈ cs then tryGo c r hs Γ μ else none
  | o => o
def sTry (cs : List Str) (b : MS) (hs : List (Str × MS)) : MS := fun Γ μ => tryK cs hs (b Γ μ)
def isX (c C : Str) : Bool := decide (C = "FirnError") || decide (C = "ValueError") || decide (c = C)
def tryEK (cs : List Str) (i j : Nat) (fv : Str -> Vl) : So -> So
  | some (.ex c r Γ, μ) => if c ∈ cs /\ r = none /\ i < Γ.length then some (.nx ((Γ.set j (some (fv c))).set i none), μ) else none
  | o => o
def sTryE (cs : List Str) (b : MS) (i j : Nat) (fv : Str -> Vl) : MS := fun Γ μ => tryEK cs i j fv (b Γ μ)
end Fm
end
section
set_option Elab.async false
set_option linter.all false
set_option maxRecDepth 100000
set_option maxHeartbeats 4000000
namespace L3
open PySem L2 PyProof.Rows
def excB (K : PySem.W.Frag) (D : Addr) : Bool :=
  decide (PySem.W.findIn K (.ref D) "__getattribute__" = some (some (.builtin "BaseException.__getattribute__"))) && decide (PySem.W.findIn K (.ref D) "__getattr__" = some none) && decide (PySem.W.subIn K (.ref D) (.type "BaseException") = some true) && PySem.W.hasDictIn K D &&
    decide (PySem.W.findIn K (.ref D) "__class__" = some (some (.builtin "object.__class__"))) && decide (PySem.W.specialIn K (.builtin "object.__class__") "__get__" = some (some (.builtin "getset_descriptor.__get__"))) &&
      decide (PySem.W.takesIn K (.builtin "object.__class__") = some true) && decide (PySem.W.mroIn K D (.type "object") = some true)
def xkB (cs ys : List Str) (K : PySem.W.Frag) : Bool := cs.all fun c => excB K (He.ga K c) && (ys.all (fun y => decide (PySem.W.kitOne K (.ref (He.ga K c)) (.ref (He.ga K y)) = some (Fm.isX c y))) && decide (PySem.W.kitOne K (.ref (He.ga K c)) (.type "ValueError") = some (Fm.isX c "ValueError")))
def obsE (n : Nat) (fa : List He.Fa) (fn : List He.DefD) (ex : PySem.W.Frag -> Bool) (g : Addr -> Option Obj) : He.AlD := ((He.obsD fa fn (He.frG g (He.asD g n))).1 && ex (He.frG g (He.asD g n)), (He.obsD fa fn (He.frG g (He.asD g n))).2)
end L3
namespace L3
open PySem PySem.W PySem.Calls PyProof.Rows HandSHeadRun
section
variable {r : OpenRow} {q : Program} {M n : Nat} {loose : List PySem.Str} {w : World} {fa fa' : List He.Fa} {fn fn' : List He.DefD} {ex : PySem.W.Frag -> Bool}
noncomputable def EndS (r : OpenRow) (M : Nat) (w : World) (os : OsState) : Option SharedT := endF (stepQ (denQ tabQ) r.prog w) M r.prog w os
def RunA (r : OpenRow) (q : Program) (M : Nat) (loose : List PySem.Str) (w : World) : Prop := ∀ os : OsState, (EndS r M w os).map (fun s => (looksF r.prog (boot_heap w.params) s.abs, seenQ q loose (importedModules r.prog.main.body) (fun s => xlAt q [] s && recOk r.toRowW.records s) s.abs)) = some (true, openGood q loose)
def RunO (r : OpenRow) (M : Nat) (w : World) (n : Nat) (fa : List He.Fa) (fn : List He.DefD) : Prop := ∀ os : OsState, (EndS r M w os).map (fun s => He.obsDG n fa fn (getT s)) = some (He.valD fn)
def RunX (r : OpenRow) (M : Nat) (w : World) (n : Nat) (fa : List He.Fa) (fn : List He.DefD) (ex : PySem.W.Frag -> Bool) : Prop := ∀ os : OsState, (EndS r M w os).map (fun s => obsE n fa fn ex (getT s)) = some (He.valD fn)
theorem obs_app {K : PySem.W.Frag} (a : He.obsD fa fn K = He.valD fn) (b : He.obsD fa' fn' K = He.valD fn') : He.obsD (fa ++ fa') (fn ++ fn') K = He.valD (fn ++ fn') := by
  have a1 : ((fa.all fun f => f.ok K) && fn.all fun d => d.ok K) = true := congrArg (fun z : He.AlD => z.1) a
  have a2 : (fn.map fun d => He.fnW K d.at_) = fn.map He.DefD.val := congrArg (fun z : He.AlD => z.2) a
  have b1 : ((fa'.all fun f => f.ok K) && fn'.all fun d => d.ok K) = true := congrArg (fun z : He.AlD => z.1) b
  have b2 : (fn'.map fun d => He.fnW K d.at_) = fn'.map He.DefD.val := congrArg (fun z : He.AlD => z.2) b
  rw [Bool.and_eq_true] at a1 b1
  refine Prod.ext ?_ ?_
  . show (((fa ++ fa').all fun f => f.ok K) && (fn ++ fn').all fun d => d.ok K) = true
    rw [List.all_append, List.all_append, a1.1, a1.2, b1.1, b1.2]
    rfl
  . show ((fn ++ fn').map fun d => He.fnW K d.at_) = (fn ++ fn').map He.DefD.val
    rw [List.map_append, List.map_append, a2, b2]
theorem RunO.app (a : RunO r M w n fa fn) (b : RunO r M w n fa' fn') : RunO r M w n (fa ++ fa') (fn ++ fn') := fun os => by
  have a' := a os
  have b' := b os
  cases e : EndS r M w os with
  | none =>
    rw [e] at a'
    cases a'
  | some s =>
    rw [e] at a' b'
    exact congrArg some (obs_app (Option.some.inj a') (Option.some.inj b'))
end
end L3
end
section
set_option Elab.async false
set_option linter.all false
set_option maxRecDepth 100000
set_option maxHeartbeats 4000000
namespace L3
open PySem PySem.W PySem.Calls PyProof.Rows HandSHeadRun
section
variable {r : OpenRow} {M n : Nat} {w : World} {fa : List He.Fa} {fn : List He.DefD} {ex : PySem.W.Frag -> Bool} {a b ys : List PySem.Str}
theorem xk_app {K : PySem.W.Frag} : xkB (a ++ b) ys K = (xkB a ys K && xkB b ys K) := by
  unfold xkB
  rw [List.all_append]
theorem RunX.app (h : RunX r M w n [] [] (xkB a ys)) (k : RunX r M w n [] [] (xkB b ys)) : RunX r M w n [] [] (xkB (a ++ b) ys) := fun os => by
  have a' := h os
  have b' := k os
  cases e : EndS r M w os with
  | none =>
    rw [e] at a'
    cases a'
  | some s =>
    rw [e] at a' b'
    have a1 := congrArg (fun z : He.AlD => z.1) (Option.some.inj a')
    have b1 := congrArg (fun z : He.AlD => z.1) (Option.some.inj b')
    have c1 := Bool.and_eq_true_iff.mp (show ((He.obsD [] [] (He.frG (getT s) (He.asD (getT s) n))).1 && xkB a ys (He.frG (getT s) (He.asD (getT s) n))) = true from a1)
    have c2 := Bool.and_eq_true_iff.mp (show ((He.obsD [] [] (He.frG (getT s) (He.asD (getT s) n))).1 && xkB b ys (He.frG (getT s) (He.asD (getT s) n))) = true from b1)
    refine congrArg some (Prod.ext ?_ rfl)
    show ((He.obsD [] [] (He.frG (getT s) (He.asD (getT s) n))).1 && xkB (a ++ b) ys (He.frG (getT s) (He.asD (getT s) n))) = true
    rw [xk_app, Bool.and_eq_true, Bool.and_eq_true]
    exact ⟨c1.1, c1.2, c2.2⟩
end
end L3
end
section
set_option Elab.async false
set_option linter.all false
set_option maxRecDepth 100000
set_option maxHeartbeats 4000000
namespace L3
open PySem
end L3
end
section
set_option Elab.async false
set_option linter.all false
set_option maxRecDepth 100000
set_option maxHeartbeats 4000000
namespace L3
open PySem PySem.W PySem.Calls PyProof.Rows HandSHeadRun
def obsR (as : List Addr) (fa : List He.Fa) (fn : List He.DefD) (ex : PySem.W.Frag -> Bool) (g : Addr -> Option Obj) : He.AlD := ((He.obsD fa fn (He.frG g as)).1 && ex (He.frG g as), (He.obsD fa fn (He.frG g as)).2)
def hookR (as : List Addr) (fa : List He.Fa) (fn : List He.DefD) (ex : PySem.W.Frag -> Bool) : PySem.W.Hook where
  α := He.AlD
  obs := fun s => obsR as fa fn ex s.heap.get?
  val := fun _ => He.valD fn
  says := fun _ h => ∃ K : PySem.W.Frag, K.In h /\ He.SaysD fa fn K /\ ex K = true
  of := fun _ _ e => by
    have e1 := congrArg (fun z : He.AlD => z.1) e
    have e2 := congrArg (fun z : He.AlD => z.2) e
    have e3 := Bool.and_eq_true_iff.mp (show ((He.obsD fa fn _).1 && ex _) = true from e1)
    exact ⟨_, He.frG_in, Prod.ext e3.1 e2, e3.2⟩
  keeps := fun _ _ _ ⟨K, hK, c, x⟩ k => ⟨K, PySem.W.Frag.In.keeps hK k, c, x⟩
theorem obsR_eq {as : List Addr} {fa : List He.Fa} {fn : List He.DefD} {ex : PySem.W.Frag -> Bool} {g : Addr -> Option Obj} {s : Shared} (h : ∀ a, g a = s.heap.get? a) : obsR as fa fn ex g = (hookR as fa fn ex).obs s := by
  have e : g = s.heap.get? := funext h
  rw [e] <;> rfl
section
variable {r : OpenRow} {q : Program} {M : Nat} {loose : List PySem.Str} {w : World} {as : List Addr} {fa fa' : List He.Fa} {fn fn' : List He.DefD} {ex ex' : PySem.W.Frag -> Bool}
def RunR (r : OpenRow) (M : Nat) (w : World) (as : List Addr) (fa : List He.Fa) (fn : List He.DefD) (ex : PySem.W.Frag -> Bool) : Prop := ∀ os : OsState, (EndS r M w os).map (fun s => obsR as fa fn ex (getT s)) = some (He.valD fn)
theorem RunR.app (a : RunR r M w as fa fn ex) (b : RunR r M w as fa' fn' ex') : RunR r M w as (fa ++ fa') (fn ++ fn') (fun K => ex K && ex' K) := fun os => by
  have a' := a os
  have b' := b os
  cases e : EndS r M w os with
  | none =>
    rw [e] at a'
    cases a'
  | some s =>
    rw [e] at a' b'
    have a2 := Option.some.inj a'
    have b2 := Option.some.inj b'
    have a3 := Bool.and_eq_true_iff.mp (show ((He.obsD fa fn _).1 && ex _) = true from congrArg (fun z : He.AlD => z.1) a2)
    have b3 := Bool.and_eq_true_iff.mp (show ((He.obsD fa' fn' _).1 && ex' _) = true from congrArg (fun z : He.AlD => z.1) b2)
    have a4 := congrArg (fun z : He.AlD => z.2) a2
    have b4 := congrArg (fun z : He.AlD => z.2) b2
    have d := obs_app (show He.obsD fa fn (He.frG (getT s) as) = He.valD fn from Prod.ext a3.1 a4) (show He.obsD fa' fn' (He.frG (getT s) as) = He.valD fn' from Prod.ext b3.1 b4)
    have d2 := congrArg (fun z : He.AlD => z.2) d
    refine congrArg some (Prod.ext ?_ d2)
    show ((He.obsD (fa ++ fa') (fn ++ fn') _).1 && (ex _ && ex' _)) = true
    rw [Bool.and_eq_true, Bool.and_eq_true]
    exact ⟨congrArg (fun z : He.AlD => z.1) d, a3.2, b3.2⟩
theorem run_r (a : RunA r q M loose w) (b : RunR r M w as fa fn ex) : RunEq r q (hookR as fa fn ex) (fun s => obsR as fa fn ex (getT s)) M loose w := fun os => by
  have a' := a os
  have b' := b os
  show (EndS r M w os).map _ = _
  cases e : EndS r M w os with
  | none =>
    rw [e] at a'
    cases a'
  | some s =>
    rw [e] at a' b'
    have a2 := Prod.mk.inj (Option.some.inj a')
    exact congrArg some (Prod.ext a2.1 (Prod.ext a2.2 (Option.some.inj b')))
end
end L3
end
section
set_option Elab.async false
set_option linter.all false
set_option maxRecDepth 100000
set_option maxHeartbeats 0
namespace Q
open PySem PySem.Spec PyProof.Rows L2 L3
def top (i : Nat) : Stmt := PySem.Challenge.pw_firnfall_k06_whole_lanes_keep_their_side.main.body.getD i (.Pass ⟨0, 0, 0, 0⟩)
abbrev s_road_down : Stmt := top 4
abbrev s_from_below : Stmt := top 6
abbrev s_ground_of : Stmt := top 7
abbrev s_l_box : Stmt := top 13
abbrev s_l_mixed : Stmt := top 14
abbrev s_l_whole : Stmt := top 16
abbrev s_l_roads : Stmt := top 20
abbrev s_l_ground : Stmt := top 21
abbrev s_begins : Stmt := top 10
abbrev s_l_take : Stmt := top 15
abbrev s_l_meets : Stmt := top 22
abbrev s_l_ground_drawn : Stmt := top 18
abbrev s_roads : Stmt := top 5
abbrev s_l_reaches : Stmt := top 19
abbrev s_road_of : Stmt := top 8
abbrev s_across : Stmt := top 9
abbrev s_meeting : Stmt := top 11
abbrev s_l_sides : Stmt := top 23
abbrev s_l_alike : Stmt := top 17
abbrev s_law : Stmt := top 24
def dd_road_down : He.DefD := ⟨("road_down", none), "road_down", "road_down", defArgs s_road_down, defBody s_road_down, defScope s_road_down, [], []⟩
def dd_from_below : He.DefD := ⟨("from_below", none), "from_below", "from_below", defArgs s_from_below, defBody s_from_below, defScope s_from_below, [], []⟩
def dd_ground_of : He.DefD := ⟨("ground_of", none), "ground_of", "ground_of", defArgs s_ground_of, defBody s_ground_of, defScope s_ground_of, [], []⟩
def dd_l_box : He.DefD := ⟨("_law_box", none), "_law_box", "_law_box", defArgs s_l_box, defBody s_l_box, defScope s_l_box, [], []⟩
def dd_l_mixed : He.DefD := ⟨("_law_mixed", none), "_law_mixed", "_law_mixed", defArgs s_l_mixed, defBody s_l_mixed, defScope s_l_mixed, [], []⟩
def dd_l_whole : He.DefD := ⟨("_law_whole", none), "_law_whole", "_law_whole", defArgs s_l_whole, defBody s_l_whole, defScope s_l_whole, [], []⟩
def dd_l_roads : He.DefD := ⟨("_law_roads", none), "_law_roads", "_law_roads", defArgs s_l_roads, defBody s_l_roads, defScope s_l_roads, [], []⟩
def dd_l_ground : He.DefD := ⟨("_law_ground", none), "_law_ground", "_law_ground", defArgs s_l_ground, defBody s_l_ground, defScope s_l_ground, [], []⟩
def dd_begins : He.DefD := ⟨("begins", none), "begins", "begins", defArgs s_begins, defBody s_begins, defScope s_begins, [], []⟩
def dd_l_take : He.DefD := ⟨("_law_take", none), "_law_take", "_law_take", defArgs s_l_take, defBody s_l_take, defScope s_l_take, [], []⟩
def dd_l_meets : He.DefD := ⟨("_law_meets", none), "_law_meets", "_law_meets", defArgs s_l_meets, defBody s_l_meets, defScope s_l_meets, [], []⟩
def dd_l_ground_drawn : He.DefD := ⟨("_law_ground_drawn", none), "_law_ground_drawn", "_law_ground_drawn", defArgs s_l_ground_drawn, defBody s_l_ground_drawn, defScope s_l_ground_drawn, [], []⟩
def dd_roads : He.DefD := ⟨("roads", none), "roads", "roads", defArgs s_roads, defBody s_roads, defScope s_roads, [], []⟩
def dd_l_reaches : He.DefD := ⟨("_law_reaches", none), "_law_reaches", "_law_reaches", defArgs s_l_reaches, defBody s_l_reaches, defScope s_l_reaches, [], []⟩
def dd_road_of : He.DefD := ⟨("road_of", none), "road_of", "road_of", defArgs s_road_of, defBody s_road_of, defScope s_road_of, [], []⟩
def dd_across : He.DefD := ⟨("across", none), "across", "across", defArgs s_across, defBody s_across, defScope s_across, [], []⟩
def dd_meeting : He.DefD := ⟨("meeting", none), "meeting", "meeting", defArgs s_meeting, defBody s_meeting, defScope s_meeting, [], []⟩
def dd_l_sides : He.DefD := ⟨("_law_sides", none), "_law_sides", "_law_sides", defArgs s_l_sides, defBody s_l_sides, defScope s_l_sides, [], []⟩
def dd_l_alike : He.DefD := ⟨("_law_alike", none), "_law_alike", "_law_alike", defArgs s_l_alike, defBody s_l_alike, defScope s_l_alike, [], []⟩
def dd_law : He.DefD := ⟨("law", none), "law", "law", defArgs s_law, defBody s_law, defScope s_law, [], []⟩
def fn_0 : List He.DefD := [dd_road_down, dd_from_below, dd_ground_of, dd_l_box, dd_l_mixed, dd_l_whole, dd_l_roads, dd_l_ground, dd_begins, dd_l_take, dd_l_meets, dd_l_ground_drawn, dd_roads, dd_l_reaches, dd_road_of, dd_across, dd_meeting, dd_l_sides, dd_l_alike, dd_law]
def fa_0 : List He.Fa := [.glo "road_down", .glo "from_below", .glo "ground_of", .glo "_law_box", .glo "_law_mixed", .glo "_law_whole", .glo "_law_roads", .glo "_law_ground", .glo "begins", .glo "_law_take", .glo "_law_meets", .glo "_law_ground_drawn", .glo "roads", .glo "_law_reaches", .glo "road_of", .glo "across", .glo "meeting", .glo "_law_sides", .glo "_law_alike", .glo "law", .free "all", .free "bool", .free "int", .free "isinstance", .free "len", .free "list", .free "max", .free "min", .free "range", .free "sorted", .free "str", .free "tuple", .free "zip", .exc "NoLane", .exm "NoLane" "NoLane" true, .glo "NoLane", .glo "NoLane"]
def fn : List He.DefD := fn_0
def fa : List He.Fa := fa_0
def exK : PySem.W.Frag -> Bool := (fun _ => true)
def loose : List PySem.Str := [("FirnError" : PySem.Str), ("NoLane" : PySem.Str), ("road_down" : PySem.Str), ("roads" : PySem.Str), ("from_below" : PySem.Str), ("ground_of" : PySem.Str), ("road_of" : PySem.Str), ("across" : PySem.Str), ("begins" : PySem.Str), ("meeting" : PySem.Str), ("_law_box" : PySem.Str), ("_law_mixed" : PySem.Str), ("_law_take" : PySem.Str), ("_law_whole" : PySem.Str), ("_law_alike" : PySem.Str), ("_law_ground_drawn" : PySem.Str), ("_law_reaches" : PySem.Str), ("_law_roads" : PySem.Str), ("_law_ground" : PySem.Str), ("_law_meets" : PySem.Str), ("_law_sides" : PySem.Str)]
abbrev R : PySem.W.OpenRow := PySem.W.OpenLaw.row PySem.Challenge.rw_firnfall_k06_whole_lanes_keep_their_side
def as_ : List Addr := List.range 1100
theorem run_a (w : World) : RunA R (PySem.W.view R.prog [24]) 8000 Q.loose w := by
  intro os
  kernel_rfl
theorem run_0 (w : World) : RunR R 8000 w as_ fa_0 fn_0 (fun _ => true) := by
  intro os
  kernel_rfl
abbrev hk : PySem.W.Hook := hookR as_ fa fn exK
def ob (s : PySem.W.SharedT) : He.AlD := obsR as_ fa fn exK (HandSHeadRun.getT s)
theorem ob_eq (s : PySem.W.SharedT) : ob s = hk.obs s.abs := obsR_eq (HandSHeadRun.getT_eq s)
theorem run (w : World) : HandSHeadRun.RunEq R (PySem.W.view R.prog [24]) hk ob 8000 Q.loose w := run_r (run_a w) (run_0 w)
end Q
end
section
set_option linter.all false
namespace Fm
open PySem
end Fm
end
section
set_option linter.all false
namespace Fm
open PySem
end Fm
end
section
set_option linter.all false
namespace Fm
open PySem
end Fm
end
section
set_option linter.all false
namespace Fm
open PySem
def idxL : List Vl -> Vl -> Option Vl
  | xs, .int k => (intsOf xs).bind fun ns => if k ∈ ns then some (.int (ns.idxOf k : Nat)) else none
  | _, _ => none
def eIdxL (o e : ME) : ME := fun Γ μ => (o Γ μ).bind fun x μ1 => match lstOf μ1 x with
  | some _ => (e Γ μ1).bind fun y μ2 => Rs.of ((lstOf μ2 x).bind fun xs => if xs.length <= cap then idxL xs y else none) μ2
  | none => .no
end Fm
end
section
set_option linter.all false
namespace Fm
open PySem
def bTupN : List Vl -> Mem -> Option Vl
  | [v], μ => (lstOf μ v).bind fun xs => (intsOf xs).bind fun ns => some (.ltup ns)
  | _, _ => none
def slN : Vl -> Option Int -> Option Int -> Mem -> Option Vl
  | .ltup ns, lo, hi, _ => if sIx ns.length 0 lo = 0 /\ sIx ns.length ns.length hi = ns.length then none else some (.tup (cut (ns.map .int) lo hi))
  | _, _, _, _ => none
def eIdxT (o e : ME) : ME := fun Γ μ => (o Γ μ).bind fun x μ1 => match x with
  | .ltup ns => (e Γ μ1).bind fun y μ2 => Rs.of (match y with
    | .int k => if k ∈ ns then some (.int (ns.idxOf k : Nat)) else none
    | _ => none) μ2
  | _ => .no
end Fm
end
section
set_option linter.all false
set_option maxRecDepth 100000
namespace Q
open PySem Fm
noncomputable def B1_l_box : MS := sAsg (eOp gMod (eOp gAdd (eOp gAdd (eOp gMul (eVar 1) (eC (.int 48271))) (eOp gMod (eVar 2) (eC (.int 1000003)))) (eC (.int 11))) (eC (.int 2147483647))) (gName 1)
noncomputable def m_l_box : MS := sSeq (sAsg (eC (.int 7)) (gName 1))
  (sSeq (sFor (iSeq (eVar 0)) (gName 2) B1_l_box [2])
  (sRetF (fLst (aCons (eFrz (fB bList (aCons (eVar 0) aNil))) (aCons (eC (.int 0)) (aCons (eC (.int 0)) (aCons (eC (.int 0)) (aCons (eVar 1) aNil))))))))
noncomputable def F_l_box : List Vl -> Mem -> Rs MO := fnF 1 3 m_l_box
noncomputable def m_l_mixed : MS := sSeq (sAsg (eOp gMod (eOp gAdd (eOp gAdd (eOp gMul (eVar 0) (eC (.int 7919))) (eOp gMul (eVar 1) (eC (.int 104729)))) (eC (.int 17))) (eC (.int 2147483647))) (gName 2))
  (sRet (eOp gDiv (eOp gMod (eOp gAdd (eOp gAdd (eOp gMul (eVar 2) (eOp gAdd (eOp gMod (eVar 2) (eC (.int 9973))) (eC (.int 1)))) (eOp gMul (eVar 1) (eC (.int 31337)))) (eOp gMod (eOp gDiv (eVar 0) (eC (.int 1009))) (eC (.int 65521)))) (eC (.int 998244353))) (eC (.int 11))))
noncomputable def F_l_mixed : List Vl -> Mem -> Rs Vl := fnV 2 3 m_l_mixed
noncomputable def m_l_whole : MS := sRet (eAnd (eIsi .int (eVar 0)) (eNot (eIsi .bool (eVar 0))))
noncomputable def F_l_whole : List Vl -> Mem -> Rs Vl := fnV 1 1 m_l_whole
noncomputable def m_l_take : MS := sSeq (sSetIx (eVar 0) (eC (.int 3)) (eOp gAdd (eOp gIx (eVar 0) (eC (.int 3))) (eC (.int 1))))
  (sSeq (sIf (tB (eOp gGt (eOp gIx (eVar 0) (eC (.int 2))) (eC (.int 0)))) (sSeq (sAsg (eOp gIx (eVar 0) (eC (.int 2))) (gName 2))
  (sSeq (sSetIx (eVar 0) (eC (.int 2)) (eOp gDiv (eVar 2) (eVar 1)))
  (sRet (eOp gMod (eVar 2) (eVar 1))))) sNext)
  (sSeq (sIf (tB (eOp gGe (eOp gIx (eVar 0) (eC (.int 1))) (eB bLen (aCons (eOp gIx (eVar 0) (eC (.int 0))) aNil)))) (sRet (eOp gMod (eCall F_l_mixed (aCons (eOp gIx (eVar 0) (eC (.int 4))) (aCons (eOp gIx (eVar 0) (eC (.int 3))) aNil))) (eVar 1))) sNext)
  (sSeq (sAsg (eOp gIx (eOp gIx (eVar 0) (eC (.int 0))) (eOp gIx (eVar 0) (eC (.int 1)))) (gName 3))
  (sSeq (sSetIx (eVar 0) (eC (.int 1)) (eOp gAdd (eOp gIx (eVar 0) (eC (.int 1))) (eC (.int 1))))
  (sSeq (sIf (tB (eOp gLt (eVar 3) (eOp gPow (eC (.int 10)) (eC (.int 18))))) (sRet (eOp gMod (eCall F_l_mixed (aCons (eVar 3) (aCons (eOp gIx (eVar 0) (eC (.int 3))) aNil))) (eVar 1))) sNext)
  (sSeq (sSetIx (eVar 0) (eC (.int 2)) (eOp gDiv (eVar 3) (eVar 1)))
  (sRet (eOp gMod (eVar 3) (eVar 1)))))))))
noncomputable def F_l_take : List Vl -> Mem -> Rs Vl := fnV 2 4 m_l_take
noncomputable def C1_l_alike (F : List Vl -> Mem -> Rs Vl) : ME := eCall F (aCons (eVar 2) (aCons (eVar 3) aNil))
noncomputable def m_l_alike (F : List Vl -> Mem -> Rs Vl) : MS := sSeq (sIf (tB (eOp gIsN (eVar 1) (eC .non))) (sRet (eOp gIsN (eVar 0) (eC .non))) sNext)
  (sSeq (sIf (tB (eIsi .bool (eVar 1))) (sRet (eAnd (eIsi .bool (eVar 0)) (eOp gEq (eVar 0) (eVar 1)))) sNext)
  (sSeq (sIf (tB (eIsi .int (eVar 1))) (sRet (eAnd (eCall F_l_whole (aCons (eVar 0) aNil)) (eOp gEq (eVar 0) (eVar 1)))) sNext)
  (sSeq (sIf (tB (eIsi .str (eVar 1))) (sRet (eAnd (eIsi .str (eVar 0)) (eOp gEq (eVar 0) (eVar 1)))) sNext)
  (sSeq (sIf (tOr (tB (eOp gNe (eIsi .list (eVar 1)) (eIsi .list (eVar 0)))) (tB (eOp gNe (eIsi .tuple (eVar 1)) (eIsi .tuple (eVar 0))))) (sRet (eC (.bl false))) sNext)
  (sRet (eAnd (eOp gEq (eB bLen (aCons (eVar 0) aNil)) (eB bLen (aCons (eVar 1) aNil))) (eB bAll (aCons (eFrz (fComp (iB bZip (aCons (eVar 0) (aCons (eVar 1) aNil))) (gTup 2 (gsCons (gName 2) (gsCons (gName 3) gsNil))) tYes (C1_l_alike F) [2, 3])) aNil))))))))
noncomputable def F_l_alike : Nat -> List Vl -> Mem -> Rs Vl
  | 0 => fun _ _ => .no
  | n + 1 => fnV 2 4 (m_l_alike (F_l_alike n))
end Q
end
section
set_option linter.all false
set_option maxRecDepth 100000
namespace Q
open PySem Fm
noncomputable def B1_road_down : MS := sApp (eVar 2) (eOp gIx (eOp gIx (eVar 0) (eOp gIx (eVar 2) (eUn gNeg (eC (.int 1))))) (eC (.int 0)))
noncomputable def m_road_down : MS := sSeq (sAsg (eNew (fLst (aCons (eVar 1) aNil))) (gName 2))
  (sSeq (sWhile (tB (eOp gNe (eOp gIx (eOp gIx (eVar 0) (eOp gIx (eVar 2) (eUn gNeg (eC (.int 1))))) (eC (.int 0))) (eUn gNeg (eC (.int 1))))) B1_road_down [] 100000)
  (sRet (eB bTupN (aCons (eVar 2) aNil))))
noncomputable def F_road_down : List Vl -> Mem -> Rs Vl := fnV 2 3 m_road_down
noncomputable def m_from_below : MS := sRet (eUn gRevT (eVar 0))
noncomputable def F_from_below : List Vl -> Mem -> Rs Vl := fnV 1 1 m_from_below
noncomputable def B1_ground_of : MS := sAsg (eOp gAdd (eVar 2) (eFrz (fB bList (aCons (eOp gIx (eOp gIx (eVar 0) (eVar 3)) (eC (.int 1))) aNil)))) (gName 2)
noncomputable def m_ground_of : MS := sSeq (sAsg (eFrz (fLst aNil)) (gName 2))
  (sSeq (sFor (iSeq (eVar 1)) (gName 3) B1_ground_of [3])
  (sRet (eVar 2)))
noncomputable def F_ground_of : List Vl -> Mem -> Rs Vl := fnV 2 4 m_ground_of
noncomputable def B1_l_roads : MS := sAsg (eOp gAdd (eFrz (fLst (aCons (eOp gIx (eOp gIx (eVar 0) (eOp gIx (eVar 6) (eC (.int 0)))) (eC (.int 0))) aNil))) (eVar 6)) (gName 6)
noncomputable def B2_l_roads : MS := sIf (tB (eOp (gIn true) (eVar 5) (eVar 3))) (sSeq (sAsg (eFrz (fLst (aCons (eVar 5) aNil))) (gName 6))
  (sSeq (sWhile (tB (eOp gNe (eOp gIx (eOp gIx (eVar 0) (eOp gIx (eVar 6) (eC (.int 0)))) (eC (.int 0))) (eOp gSub (eC (.int 0)) (eC (.int 1))))) B1_l_roads [] 100000)
  (sApp (eVar 4) (eVar 6)))) sNext
noncomputable def C3_l_roads : ME := eFrz (fUn gRev (eVar 6))
noncomputable def m_l_roads : MS := sSeq (sAsg (eFrz (fComp (iSeq (eVar 0)) (gTup 2 (gsCons (gName 1) (gsCons (gName 2) gsNil))) tYes (eVar 1) [1, 2])) (gName 3))
  (sSeq (sAsg (eNew (fLst aNil)) (gName 4))
  (sSeq (sFor (iB rng1 (aCons (eB bLen (aCons (eVar 0) aNil)) aNil)) (gName 5) B2_l_roads [5])
  (sRet (eFrz (fComp (iSeq (eFrz (fB bSorted (aCons (eVar 4) aNil)))) (gName 6) tYes C3_l_roads [6])))))
noncomputable def F_l_roads : List Vl -> Mem -> Rs Vl := fnV 1 7 m_l_roads
noncomputable def B1_l_ground : MS := sApp (eVar 2) (eVar 4)
noncomputable def B2_l_ground : MS := sFor (iSeq (eOp gIx (eOp gIx (eVar 0) (eVar 3)) (eC (.int 1)))) (gName 4) B1_l_ground [4]
noncomputable def m_l_ground : MS := sSeq (sAsg (eNew (fLst aNil)) (gName 2))
  (sSeq (sFor (iSeq (eVar 1)) (gName 3) B2_l_ground [3, 4])
  (sRet (eDeep (eVar 2))))
noncomputable def F_l_ground : List Vl -> Mem -> Rs Vl := fnV 2 5 m_l_ground
noncomputable def C1_l_ground_drawn : ME := eCall F_l_take (aCons (eVar 0) (aCons (eC (.int 100)) aNil))
noncomputable def C2_l_ground_drawn : ME := eB bMax2 (aCons (eC (.int 0)) (aCons (eOp gSub (eVar 1) (eOp gMul (eVar 5) (eVar 6))) aNil))
noncomputable def m_l_ground_drawn : MS := sSeq (sAsg (eCall F_l_take (aCons (eVar 0) (aCons (eC (.int 3)) aNil))) (gName 3))
  (sSeq (sIf (tB (eOp gEq (eVar 3) (eC (.int 0)))) (sRet (eFrz (fComp (iB rng1 (aCons (eVar 2) aNil)) (gName 4) tYes C1_l_ground_drawn [4]))) sNext)
  (sSeq (sAsg (eOp gAdd (eC (.int 1)) (eCall F_l_take (aCons (eVar 0) (aCons (eC (.int 9)) aNil)))) (gName 5))
  (sRet (eFrz (fComp (iB rng1 (aCons (eVar 2) aNil)) (gName 6) tYes C2_l_ground_drawn [6])))))
noncomputable def F_l_ground_drawn : List Vl -> Mem -> Rs Vl := fnV 3 7 m_l_ground_drawn
noncomputable def T1_roads : MT := tB (eOp (gIn true) (eVar 4) (eVar 3))
noncomputable def C2_roads : ME := eCall F_road_down (aCons (eVar 0) (aCons (eVar 6) aNil))
noncomputable def m_roads : MS := sSeq (sAsg (eFrz (fComp (iSeq (eVar 0)) (gTup 2 (gsCons (gName 1) (gsCons (gName 2) gsNil))) tYes (eVar 1) [1, 2])) (gName 3))
  (sSeq (sAsg (eFrz (fComp (iB rng1 (aCons (eB bLen (aCons (eVar 0) aNil)) aNil)) (gName 4) T1_roads (eVar 4) [4])) (gName 5))
  (sSeq (sAsg (eFrz (fComp (iSeq (eVar 5)) (gName 6) tYes C2_roads [6])) (gName 7))
  (sRet (eFrz (fSortK F_from_below (eVar 7))))))
noncomputable def F_roads : List Vl -> Mem -> Rs Vl := fnV 1 8 m_roads
noncomputable def C1_l_reaches : ME := eOp gIx (eVar 7) (eC (.int 0))
noncomputable def T2_l_reaches : MT := tB (eOp (gIn true) (eVar 9) (eVar 8))
noncomputable def B3_l_reaches : MS := sSeq (sAsg (eCall F_l_take (aCons (eVar 0) (aCons (eVar 5) aNil))) (gName 6))
  (sSeq (sAsg (eFrz (fComp (iSeq (eVar 3)) (gName 7) tYes C1_l_reaches [7])) (gName 8))
  (sSeq (sAsg (eB bLen (aCons (eFrz (fComp (iB rng1 (aCons (eVar 5) aNil)) (gName 9) T2_l_reaches (eVar 9) [9])) aNil)) (gName 10))
  (sSeq (sIf (tAnd (tB (eOp gEq (eVar 10) (eC (.int 6)))) (tB (eOp (gIn false) (eVar 6) (eVar 8)))) (sAsg (eOp gSub (eVar 5) (eC (.int 1))) (gName 6)) sNext)
  (sIf (tB (eOp gLt (eOp gIx (eVar 4) (eVar 6)) (eC (.int 30)))) (sSeq (sAsg (eOp gAdd (eC (.int 1)) (eCall F_l_take (aCons (eVar 0) (aCons (eB bMin2 (aCons (eC (.int 12)) (aCons (eOp gSub (eC (.int 30)) (eOp gIx (eVar 4) (eVar 6))) aNil))) aNil)))) (gName 11))
  (sSeq (sApp (eVar 1) (eB bMin2 (aCons (eC (.int 99)) (aCons (eOp gAdd (eOp gIx (eVar 1) (eVar 6)) (eCall F_l_take (aCons (eVar 0) (aCons (eC (.int 50)) aNil)))) aNil))))
  (sSeq (sApp (eVar 3) (eTup (aCons (eVar 6) (aCons (eB bTuple (aCons (eCall F_l_ground_drawn (aCons (eVar 0) (aCons (eOp gIx (eVar 1) (eUn gNeg (eC (.int 1)))) (aCons (eVar 11) aNil)))) aNil)) aNil))))
  (sApp (eVar 4) (eOp gAdd (eOp gIx (eVar 4) (eVar 6)) (eVar 11)))))) (sRet (eDeep (eVar 3)))))))
noncomputable def m_l_reaches : MS := sSeq (sAsg (eNew (fLst (aCons (eOp gAdd (eC (.int 20)) (eCall F_l_take (aCons (eVar 0) (aCons (eC (.int 70)) aNil)))) aNil))) (gName 1))
  (sSeq (sAsg (eFrz (fLst (aCons (eOp gAdd (eC (.int 1)) (eCall F_l_take (aCons (eVar 0) (aCons (eC (.int 12)) aNil)))) aNil))) (gName 2))
  (sSeq (sAsg (eNew (fLst (aCons (eTup (aCons (eOp gSub (eC (.int 0)) (eC (.int 1))) (aCons (eB bTuple (aCons (eCall F_l_ground_drawn (aCons (eVar 0) (aCons (eOp gIx (eVar 1) (eC (.int 0))) (aCons (eOp gIx (eVar 2) (eC (.int 0))) aNil)))) aNil)) aNil))) aNil))) (gName 3))
  (sSeq (sAsg (eNew (fLst (aCons (eOp gIx (eVar 2) (eC (.int 0))) aNil))) (gName 4))
  (sSeq (sFor (iB rng2 (aCons (eC (.int 1)) (aCons (eOp gAdd (eC (.int 1)) (eCall F_l_take (aCons (eVar 0) (aCons (eOp gIx (eFrz (fLst (aCons (eC (.int 1)) (aCons (eC (.int 3)) (aCons (eC (.int 8)) aNil))))) (eCall F_l_take (aCons (eVar 0) (aCons (eC (.int 3)) aNil)))) aNil)))) aNil))) (gName 5) B3_l_reaches [5, 6, 8, 10, 11])
  (sRet (eDeep (eVar 3)))))))
noncomputable def F_l_reaches : List Vl -> Mem -> Rs Vl := fnV 1 12 m_l_reaches
end Q
end
section
set_option linter.all false
set_option maxRecDepth 100000
namespace Q
open PySem Fm
end Q
end
section
set_option linter.all false
set_option maxRecDepth 100000
namespace Q
open PySem Fm
end Q
end
section
set_option linter.all false
set_option maxRecDepth 100000
namespace Q
open PySem Fm
noncomputable def m_begins : MS := sRet (eB bLen (aCons (eCall F_ground_of (aCons (eVar 0) (aCons (eSl slN (eVar 1) oNo (oIs (eIdxT (eVar 1) (eVar 2)))) aNil))) aNil))
noncomputable def F_begins : List Vl -> Mem -> Rs Vl := fnV 3 3 m_begins
noncomputable def T1_l_meets : MT := tB (eOp (gIn false) (eVar 3) (eVar 2))
noncomputable def m_l_meets : MS := sSeq (sAsg (eOp gIx (eFrz (fComp (iSeq (eVar 1)) (gName 3) T1_l_meets (eVar 3) [3])) (eC (.int 0))) (gName 4))
  (sSeq (sAsg (eB bLen (aCons (eCall F_l_ground (aCons (eVar 0) (aCons (eFrz (fSl slL (eVar 1) oNo (oIs (eIdxL (eVar 1) (eVar 4))))) aNil))) aNil)) (gName 5))
  (sSeq (sAsg (eB bLen (aCons (eCall F_l_ground (aCons (eVar 0) (aCons (eFrz (fSl slL (eVar 2) oNo (oIs (eIdxL (eVar 2) (eVar 4))))) aNil))) aNil)) (gName 6))
  (sRet (eTup (aCons (eVar 4) (aCons (eVar 5) (aCons (eVar 6) aNil)))))))
noncomputable def F_l_meets : List Vl -> Mem -> Rs Vl := fnV 3 7 m_l_meets
noncomputable def m_road_of : MS := sSeq (sAsg (eCall F_roads (aCons (eVar 0) aNil)) (gName 2))
  (sSeq (sIf (tNot (tB (eChain gLe gLt (eC (.int 0)) (eVar 1) (eB bLen (aCons (eVar 2) aNil))))) (sRaise "NoLane") sNext)
  (sRet (eOp gIx (eVar 2) (eVar 1))))
noncomputable def F_road_of : List Vl -> Mem -> Rs Vl := fnV 2 3 m_road_of
noncomputable def T1_across : MT := tB (eOp (gIn false) (eVar 1) (eOp gIx (eVar 2) (eVar 3)))
noncomputable def m_across : MS := sSeq (sAsg (eCall F_roads (aCons (eVar 0) aNil)) (gName 2))
  (sRet (eFrz (fComp (iB rng1 (aCons (eB bLen (aCons (eVar 2) aNil)) aNil)) (gName 3) T1_across (eVar 3) [3])))
noncomputable def F_across : List Vl -> Mem -> Rs Vl := fnV 2 4 m_across
noncomputable def T1_meeting : MT := tB (eOp (gIn false) (eVar 5) (eVar 4))
noncomputable def m_meeting : MS := sSeq (sAsg (eCall F_road_of (aCons (eVar 0) (aCons (eVar 1) aNil))) (gName 3))
  (sSeq (sAsg (eCall F_road_of (aCons (eVar 0) (aCons (eVar 2) aNil))) (gName 4))
  (sSeq (sAsg (eOp gIx (eFrz (fComp (iSeq (eVar 3)) (gName 5) T1_meeting (eVar 5) [5])) (eC (.int 0))) (gName 6))
  (sRet (eTup (aCons (eVar 6) (aCons (eCall F_begins (aCons (eVar 0) (aCons (eVar 3) (aCons (eVar 6) aNil)))) (aCons (eCall F_begins (aCons (eVar 0) (aCons (eVar 4) (aCons (eVar 6) aNil)))) aNil)))))))
noncomputable def F_meeting : List Vl -> Mem -> Rs Vl := fnV 3 7 m_meeting
noncomputable def T1_l_sides : MT := tB (eOp (gIn false) (eVar 7) (eOp gIx (eVar 1) (eVar 3)))
noncomputable def B2_l_sides : MS := sSeq (sAsg (eCall F_across (aCons (eFrz (fB bList (aCons (eVar 0) aNil))) (aCons (eVar 7) aNil))) (gName 8))
  (sIf (tOr (tB (eOp (gIn true) (eVar 2) (eVar 8))) (tOr (tB (eOp (gIn true) (eVar 3) (eVar 8))) (tB (eOp gGe (eIdxL (eVar 8) (eVar 2)) (eIdxL (eVar 8) (eVar 3)))))) (sRet (eC (.bl false))) sNext)
noncomputable def m_l_sides : MS := sSeq (sAsg (eIdxL (eOp gIx (eVar 1) (eVar 2)) (eVar 4)) (gName 5))
  (sSeq (sAsg (eIdxL (eOp gIx (eVar 1) (eVar 3)) (eVar 4)) (gName 6))
  (sSeq (sIf (tOr (tB (eOp gNe (eFrz (fSl slL (eOp gIx (eVar 1) (eVar 2)) (oIs (eVar 5)) oNo)) (eFrz (fSl slL (eOp gIx (eVar 1) (eVar 3)) (oIs (eVar 6)) oNo)))) (tB (eOp gGe (eOp gIx (eOp gIx (eVar 1) (eVar 2)) (eOp gSub (eVar 5) (eC (.int 1)))) (eOp gIx (eOp gIx (eVar 1) (eVar 3)) (eOp gSub (eVar 6) (eC (.int 1))))))) (sRet (eC (.bl false))) sNext)
  (sSeq (sIf (tB (eOp gGt (eB bLen (aCons (eFrz (fComp (iSeq (eFrz (fSl slL (eOp gIx (eVar 1) (eVar 2)) oNo (oIs (eVar 5))))) (gName 7) T1_l_sides (eVar 7) [7])) aNil)) (eC (.int 0)))) (sRet (eC (.bl false))) sNext)
  (sSeq (sFor (iSeq (eFrz (fSl slL (eOp gIx (eVar 1) (eVar 2)) (oIs (eVar 5)) oNo))) (gName 7) B2_l_sides [7, 8])
  (sRet (eC (.bl true)))))))
noncomputable def F_l_sides : List Vl -> Mem -> Rs Vl := fnV 5 9 m_l_sides
noncomputable def B1_law : MS := sSeq (sAsg (eCall F_l_meets (aCons (eVar 2) (aCons (eOp gIx (eVar 3) (eVar 5)) (aCons (eOp gIx (eVar 3) (eVar 4)) aNil)))) (gTup 3 (gsCons (gName 6) (gsCons (gName 7) (gsCons (gName 8) gsNil)))))
  (sSeq (sIf (tNot (tB (eCall (F_l_alike 5) (aCons (eCall F_meeting (aCons (eFrz (fB bList (aCons (eVar 2) aNil))) (aCons (eVar 5) (aCons (eVar 4) aNil)))) (aCons (eTup (aCons (eVar 6) (aCons (eVar 7) (aCons (eVar 8) aNil)))) aNil))))) (sRet (eC (.bl false))) sNext)
  (sSeq (sIf (tNot (tB (eCall (F_l_alike 5) (aCons (eCall F_meeting (aCons (eFrz (fB bList (aCons (eVar 2) aNil))) (aCons (eVar 4) (aCons (eVar 5) aNil)))) (aCons (eTup (aCons (eVar 6) (aCons (eVar 8) (aCons (eVar 7) aNil)))) aNil))))) (sRet (eC (.bl false))) sNext)
  (sIf (tNot (tB (eCall F_l_sides (aCons (eVar 2) (aCons (eVar 3) (aCons (eVar 5) (aCons (eVar 4) (aCons (eVar 6) aNil)))))))) (sRet (eC (.bl false))) sNext)))
noncomputable def B2_law : MS := sFor (iB rng1 (aCons (eVar 4) aNil)) (gName 5) B1_law [5, 6, 7, 8]
noncomputable def B3_law : MS := sTry ["NoLane"] (sDrop (eCall F_meeting (aCons (eFrz (fB bList (aCons (eVar 2) aNil))) (aCons (eVar 4) (aCons (eVar 5) aNil))))) [("NoLane", sAsg (eOp gAdd (eVar 9) (eC (.int 1))) (gName 9))]
noncomputable def R6_law : MS := sRet (eOp gEq (eVar 9) (eC (.int 3)))
noncomputable def R5_law : MS := sSeq (sFor (iSeq (eFrz (fLst (aCons (eTup (aCons (eOp gSub (eC (.int 0)) (eC (.int 1))) (aCons (eC (.int 0)) aNil))) (aCons (eTup (aCons (eC (.int 0)) (aCons (eB bLen (aCons (eVar 3) aNil)) aNil))) (aCons (eTup (aCons (eOp gAdd (eB bLen (aCons (eVar 3) aNil)) (eCall F_l_take (aCons (eVar 1) (aCons (eC (.int 5)) aNil)))) (aCons (eOp gSub (eC (.int 0)) (eC (.int 1))) aNil))) aNil)))))) (gTup 2 (gsCons (gName 4) (gsCons (gName 5) gsNil))) B3_law [4, 5])
  R6_law
noncomputable def R4_law : MS := sSeq (sAsg (eC (.int 0)) (gName 9))
  R5_law
noncomputable def R3_law : MS := sSeq (sFor (iB rng1 (aCons (eB bLen (aCons (eVar 3) aNil)) aNil)) (gName 4) B2_law [4, 5, 6, 7, 8])
  R4_law
noncomputable def R2_law : MS := sSeq (sAsg (eCall F_l_roads (aCons (eVar 2) aNil)) (gName 3))
  R3_law
noncomputable def R1_law : MS := sSeq (sAsg (eCall F_l_reaches (aCons (eVar 1) aNil)) (gName 2))
  R2_law
noncomputable def m_law : MS := sSeq (sAsg (eNew (fCall F_l_box (aCons (eVar 0) aNil))) (gName 1))
  R1_law
noncomputable def F_law : List Vl -> Mem -> Rs Vl := fnV 1 10 m_law
end Q
end
section
set_option Elab.async false
set_option linter.all false
set_option maxRecDepth 100000
set_option maxHeartbeats 4000000
namespace L3
open PySem L2
open Fm (Vl MO Mem En Rs ME MF MA MT MG MS MI Out So Gd Ky)
abbrev Im := Nat -> Option Addr
mutual
inductive Rv (K : PySem.W.Frag) (G : Hp) (ι : Im) : V -> Vl -> Prop
  | non : Rv K G ι .non .non
  | bl (b : Bool) : Rv K G ι (.bl b) (.bl b)
  | int (i : Int) : Rv K G ι (.int i) (.int i)
  | str (x : Str) : Rv K G ι (.str x) (.str x)
  | lst {a : Addr} {xs : List V} {ds : List Vl} : G a = some (.lst xs) -> RvA K G ι xs ds -> Rv K G ι (.ref a) (.lst ds)
  | tup {a : Addr} {xs : List V} {ds : List Vl} : G a = some (.tup xs) -> RvA K G ι xs ds -> Rv K G ι (.ref a) (.tup ds)
  | dct {a : Addr} {ks : List Ky} {xs : List V} {ds : List Vl} : G a = some (.dK (ks.zip xs)) -> ks.length = xs.length -> RvA K G ι xs ds -> Rv K G ι (.ref a) (.dct ks ds)
  | dtt {a : Addr} {ks : List (List Ky)} {xs : List V} {ds : List Vl} : G a = some (.dT (ks.zip xs)) -> ks.length = xs.length -> RvA K G ι xs ds -> Rv K G ι (.ref a) (.dtt ks ds)
  | ins {a dx : Addr} {c : Str} {ns : List Str} {xs : List V} {ds : List Vl} : G a = some (.ins (He.ga K c) dx (ns.zip xs)) -> ns.length = xs.length -> RvA K G ι xs ds -> Rv K G ι (.ref a) (.ins c ns ds)
  | ltup {a : Addr} {od : Obj} {ns : List Int} : G a = some (.frz od (.tup (ns.map V.int))) -> od.dict = none -> Rv K G ι (.ref a) (.ltup ns)
  | adr (a : Addr) : Rv K G ι (.ref a) (.adr a)
  | scr {a : Addr} {ns : List Int} : SqL K G a (ns.map V.int) -> Rv K G ι (.ref a) (.scr ns)
  | ref {i : Nat} {a : Addr} : ι i = some a -> Rv K G ι (.ref a) (.ref i)
inductive RvA (K : PySem.W.Frag) (G : Hp) (ι : Im) : List V -> List Vl -> Prop
  | nil : RvA K G ι [] []
  | cons {v : V} {vs : List V} {d : Vl} {ds : List Vl} : Rv K G ι v d -> RvA K G ι vs ds -> RvA K G ι (v :: vs) (d :: ds)
end
def Fz : HO -> Prop
  | .dK _ => True
  | .dT _ => True
  | _ => False
def Sm (G H : Hp) : Prop := ∀ a o, G a = some o -> H a = some o \/ ∃ od, Fz o /\ H a = some (.frz od o)
structure Xt (G : Hp) (ι : Im) (G' : Hp) (ι' : Im) : Prop where
  g : Same G G'
  i : ∀ j a, ι j = some a -> ι' j = some a
theorem Xt.refl {G : Hp} {ι : Im} : Xt G ι G ι := ⟨Same.refl _, fun _ _ h => h⟩
structure Ext (G : Hp) (ι : Im) (H : Hp) (G' : Hp) (ι' : Im) (H' : Hp) : Prop extends Xt G ι G' ι' where
  f : ∀ a o, H a = some o -> (∀ xs, o ≠ .tup xs) -> G a = none -> (∀ i, ι i ≠ some a) -> H' a = some o /\ G' a = none /\ ∀ i, ι' i ≠ some a
  t : ∀ a o, H a = some o -> ∃ o', H' a = some o'
  l : ∀ a od u, H a = some (.frz od u) -> H' a = some (.frz od u)
  tp : ∀ a xs, H a = some (.tup xs) -> H' a = some (.tup xs)
structure Xl (G : Hp) (ι : Im) (H : Hp) (G' : Hp) (ι' : Im) (H' : Hp) : Prop where
  x : Xt G ι G' ι'
  l : ∀ a od u, H a = some (.frz od u) -> H' a = some (.frz od u)
theorem Ext.xl {G H G' H' : Hp} {ι ι' : Im} (e : Ext G ι H G' ι' H') : Xl G ι H G' ι' H' := ⟨e.toXt, e.l⟩
theorem Ext.refl {G H : Hp} {ι : Im} : Ext G ι H G ι H := ⟨Xt.refl, fun _ _ h _ g n => ⟨h, g, n⟩, fun _ o h => ⟨o, h⟩, fun _ _ _ h => h, fun _ _ h => h⟩
theorem Ext.trans {G G1 G2 H H1 H2 : Hp} {ι ι1 ι2 : Im} (a : Ext G ι H G1 ι1 H1) (b : Ext G1 ι1 H1 G2 ι2 H2) : Ext G ι H G2 ι2 H2 :=
  ⟨⟨a.g.trans b.g, fun j x h => b.i j x (a.i j x h)⟩, fun x o h t g n => by
    obtain ⟨h1, g1, n1⟩ := a.f x o h t g n
    exact b.f x o h1 t g1 n1, fun x o h => by
    obtain ⟨o1, h1⟩ := a.t x o h
    exact b.t x o1 h1, fun x od u h => b.l x od u (a.l x od u h), fun x xs h => b.tp x xs (a.tp x xs h)⟩
theorem Ext.back {G G1 H H1 : Hp} {ι ι1 : Im} (a : Ext G ι H G1 ι1 H1) {p : Addr} (h : H1 p = none) : H p = none := by
  cases e : H p with
  | none => rfl
  | some o =>
    obtain ⟨o', q⟩ := a.t p o e
    rw [h] at q
    cases q
section
variable {K : PySem.W.Frag} {G G' H : Hp} {ι ι' : Im}
theorem Sm.free (s : Sm G H) {p : Addr} (h : H p = none) : G p = none := by
  cases e : G p with
  | none => rfl
  | some o =>
    rcases s p o e with q | ⟨_, _, q⟩ <;> (rw [h] at q; cases q)
theorem same_sql {a : Addr} {xs : List V} (e : Same G G') (h : SqL K G a xs) : SqL K G' a xs := by
  rcases h with (h | ⟨o, h⟩) | h
  . exact .inl (.inl (e _ _ h))
  . exact .inl (.inr ⟨o, e _ _ h⟩)
  . exact .inr h
theorem Sm.sql (s : Sm G H) {a : Addr} {xs : List V} (h : SqL K G a xs) : SqL K H a xs := by
  rcases h with (h | ⟨o, h⟩) | h
  . rcases s _ _ h with q | ⟨_, z, _⟩
    . exact .inl (.inl q)
    . exact False.elim z
  . rcases s _ _ h with q | ⟨_, z, _⟩
    . exact .inl (.inr ⟨o, q⟩)
    . exact False.elim z
  . exact .inr h
theorem Sm.lst (s : Sm G H) {a : Addr} {xs : List V} (h : G a = some (.lst xs)) : H a = some (.lst xs) := by
  rcases s _ _ h with q | ⟨_, z, _⟩
  . exact q
  . exact False.elim z
theorem Sm.tup (s : Sm G H) {a : Addr} {xs : List V} (h : G a = some (.tup xs)) : Rd H a (.tup xs) := by
  rcases s _ _ h with q | ⟨od, z, q⟩
  . exact .inl q
  . exact False.elim z
theorem Sm.ltup (s : Sm G H) {a : Addr} {od : Obj} {xs : List V} (h : G a = some (.frz od (.tup xs))) : H a = some (.frz od (.tup xs)) := by
  rcases s _ _ h with q | ⟨od, z, q⟩
  . exact q
  . exact False.elim z
theorem Sm.dt (s : Sm G H) {a : Addr} {kvs : List (List Key × V)} (h : G a = some (.dT kvs)) : Rd H a (.dT kvs) := by
  rcases s _ _ h with q | ⟨od, _, q⟩
  . exact .inl q
  . exact .inr ⟨od, q⟩
theorem sqt_of {a : Addr} {xs : List V} (h : Rd H a (.tup xs)) : SqT K H a xs := .inl h
theorem Sm.dk (s : Sm G H) {a : Addr} {kvs : List (Key × V)} (h : G a = some (.dK kvs)) : Rd H a (.dK kvs) := by
  rcases s _ _ h with q | ⟨od, _, q⟩
  . exact .inl q
  . exact .inr ⟨od, q⟩
mutual
theorem Rv.up {v : V} {d : Vl} (e : Xt G ι G' ι') (h : Rv K G ι v d) : Rv K G' ι' v d := by
  cases h with
  | non => exact .non
  | bl b => exact .bl b
  | int i => exact .int i
  | str x => exact .str x
  | lst h a => exact .lst (e.g _ _ h) (RvA.up e a)
  | scr h => exact .scr (same_sql e.g h)
  | tup h a => exact .tup (e.g _ _ h) (RvA.up e a)
  | dct h l a => exact .dct (e.g _ _ h) l (RvA.up e a)
  | dtt h l a => exact .dtt (e.g _ _ h) l (RvA.up e a)
  | ins h l a => exact .ins (e.g _ _ h) l (RvA.up e a)
  | ltup h hd => exact .ltup (e.g _ _ h) hd
  | adr a => exact .adr a
  | ref h => exact .ref (e.i _ _ h)
theorem RvA.up {v : List V} {d : List Vl} (e : Xt G ι G' ι') (h : RvA K G ι v d) : RvA K G' ι' v d := by
  cases h with
  | nil => exact .nil
  | cons x a => exact .cons (Rv.up e x) (RvA.up e a)
end
mutual
theorem Rv.und {n : Nat} {v : V} {d : Vl} (u : d.und n = true) (e : ∀ j a, j < n -> ι j = some a -> ι' j = some a) (h : Rv K G ι v d) : Rv K G ι' v d := by
  cases h with
  | non => exact .non
  | bl b => exact .bl b
  | int i => exact .int i
  | str x => exact .str x
  | lst h a => exact .lst h (RvA.und u e a)
  | scr h => exact .scr h
  | tup h a => exact .tup h (RvA.und u e a)
  | dct h l a => exact .dct h l (RvA.und u e a)
  | dtt h l a => exact .dtt h l (RvA.und u e a)
  | ins h l a => exact .ins h l (RvA.und u e a)
  | ltup h hd => exact .ltup h hd
  | adr a => exact .adr a
  | ref h => exact .ref (e _ _ (of_decide_eq_true u) h)
theorem RvA.und {n : Nat} {v : List V} {d : List Vl} (u : Vl.undA n d = true) (e : ∀ j a, j < n -> ι j = some a -> ι' j = some a) (h : RvA K G ι v d) : RvA K G ι' v d := by
  cases h with
  | nil => exact .nil
  | cons x a =>
    unfold Vl.undA at u
    rw [Bool.and_eq_true] at u
    exact .cons (Rv.und u.1 e x) (RvA.und u.2 e a)
end
theorem RvA.len : ∀ {v : List V} {d : List Vl}, RvA K G ι v d -> v.length = d.length
  | _, _, .nil => rfl
  | _, _, .cons _ a => by simp [RvA.len a]
theorem RvA.get : ∀ {vs : List V} {ds : List Vl} {i : Nat} {d : Vl}, RvA K G ι vs ds -> ds[i]? = some d -> ∃ v, vs[i]? = some v /\ Rv K G ι v d
  | _, _, _, _, .nil, e => by simp at e
  | _, _, 0, _, .cons x _, e => by
    have e' := Option.some.inj e
    subst e'
    exact ⟨_, rfl, x⟩
  | _, _, i + 1, _, .cons _ a, e => by
    obtain ⟨v, h1, h2⟩ := RvA.get (i := i) a (by simpa using e)
    exact ⟨v, by simpa using h1, h2⟩
theorem RvA.append : ∀ {vs ws : List V} {ds es : List Vl}, RvA K G ι vs ds -> RvA K G ι ws es -> RvA K G ι (vs ++ ws) (ds ++ es)
  | _, _, _, _, .nil, b => b
  | _, _, _, _, .cons x a, b => .cons x (RvA.append a b)
theorem RvA.one {v : V} {d : Vl} (h : Rv K G ι v d) : RvA K G ι [v] [d] := .cons h .nil
theorem RvA.set {v : V} {d : Vl} (x : Rv K G ι v d) : ∀ {vs : List V} {ds : List Vl} (i : Nat), RvA K G ι vs ds -> RvA K G ι (vs.set i v) (ds.set i d)
  | _, _, _, .nil => .nil
  | _, _, 0, .cons _ a => .cons x a
  | _, _, i + 1, .cons y a => .cons y (RvA.set x i a)
theorem RvA.take : ∀ {vs : List V} {ds : List Vl} (n : Nat), RvA K G ι vs ds -> RvA K G ι (vs.take n) (ds.take n)
  | _, _, 0, _ => .nil
  | _, _, _ + 1, .nil => .nil
  | _, _, n + 1, .cons x a => .cons x (RvA.take n a)
theorem RvA.drop : ∀ {vs : List V} {ds : List Vl} (n : Nat), RvA K G ι vs ds -> RvA K G ι (vs.drop n) (ds.drop n)
  | _, _, 0, h => h
  | _, _, _ + 1, .nil => .nil
  | _, _, n + 1, .cons _ a => RvA.drop n a
theorem RvA.dropLast {vs : List V} {ds : List Vl} (h : RvA K G ι vs ds) : RvA K G ι vs.dropLast ds.dropLast := by
  rw [List.dropLast_eq_take, List.dropLast_eq_take, h.len]
  exact h.take _
theorem RvA.reverse : ∀ {vs : List V} {ds : List Vl}, RvA K G ι vs ds -> RvA K G ι vs.reverse ds.reverse
  | _, _, .nil => .nil
  | _, _, .cons x a => by
    rw [List.reverse_cons, List.reverse_cons]
    exact (RvA.reverse a).append (.one x)
theorem int_of {v : V} {i : Int} (h : Rv K G ι v (.int i)) : v = .int i := by cases h; rfl
theorem bl_of {v : V} {b : Bool} (h : Rv K G ι v (.bl b)) : v = .bl b := by cases h; rfl
theorem str_of {v : V} {b : Str} (h : Rv K G ι v (.str b)) : v = .str b := by cases h; rfl
theorem non_of {v : V} (h : Rv K G ι v .non) : v = .non := by cases h; rfl
theorem lst_of {v : V} {ds : List Vl} (h : Rv K G ι v (.lst ds)) : ∃ a xs, v = .ref a /\ G a = some (.lst xs) /\ RvA K G ι xs ds := by
  cases h with
  | lst h a => exact ⟨_, _, rfl, h, a⟩
theorem scr_of {v : V} {ns : List Int} (h : Rv K G ι v (.scr ns)) : ∃ a, v = .ref a /\ SqL K G a (ns.map V.int) := by
  cases h with
  | scr h => exact ⟨_, rfl, h⟩
theorem tup_of {v : V} {ds : List Vl} (h : Rv K G ι v (.tup ds)) : ∃ a xs, v = .ref a /\ G a = some (.tup xs) /\ RvA K G ι xs ds := by
  cases h with
  | tup h a => exact ⟨_, _, rfl, h, a⟩
theorem ref_of {v : V} {i : Nat} (h : Rv K G ι v (.ref i)) : ∃ a, v = .ref a /\ ι i = some a := by
  cases h with
  | ref h => exact ⟨_, rfl, h⟩
theorem ltup_of {v : V} {ns : List Int} (h : Rv K G ι v (.ltup ns)) : ∃ a od, v = .ref a /\ G a = some (.frz od (.tup (ns.map V.int))) /\ od.dict = none := by
  cases h with
  | ltup h hd => exact ⟨_, _, rfl, h, hd⟩
end
def Ro (K : PySem.W.Frag) (mg : Str -> Option Value) (G : Hp) (ι : Im) (H : Hp) (a : Addr) : MO -> Prop
  | .lst xs => ∃ vs, H a = some (.lst vs) /\ RvA K G ι vs xs
  | .dk l kvs => ∃ vs, (if l = true then ∃ od, H a = some (.frz od (.dK ((kvs.map (·.1)).zip vs))) else H a = some (.dK ((kvs.map (·.1)).zip vs))) /\ RvA K G ι vs (kvs.map (·.2))
  | .dt l kvs => ∃ vs, (if l = true then ∃ od, H a = some (.frz od (.dT ((kvs.map (·.1)).zip vs))) else H a = some (.dT ((kvs.map (·.1)).zip vs))) /\ RvA K G ι vs (kvs.map (·.2))
  | .ins c fs => ∃ C dx vs, H a = some (.ins C dx ((fs.map (·.1)).zip vs)) /\ H dx = some (.own a) /\ C = He.ga K c /\ RvA K G ι vs (fs.map (·.2))
structure Ms (K : PySem.W.Frag) (mg : Str -> Option Value) (G : Hp) (ι : Im) (H : Hp) (μ : Mem) : Prop where
  s : Sm G H
  at_ : ∀ (i : Nat) o, μ[i]? = some (some o) -> ∃ a, ι i = some a /\ G a = none /\ Ro K mg G ι H a o
  dom : ∀ i a, ι i = some a -> i < μ.length /\ ∃ o, H a = some o
  inj : ∀ i j a, ι i = some a -> ι j = some a -> i = j
section
variable {K : PySem.W.Frag} {mg : Str -> Option Value} {G G' H H' : Hp} {ι ι' : Im} {μ μ' : Mem}
theorem Ro.up {a : Addr} {o : MO} (e : Xt G ι G' ι') (h1 : H' a = H a) (h2 : ∀ dx, H dx = some (.own a) -> H' dx = some (.own a)) (h : Ro K mg G ι H a o) : Ro K mg G' ι' H' a o := by
  cases o with
  | lst xs =>
    obtain ⟨vs, q, r⟩ := h
    exact ⟨vs, h1.trans q, r.up e⟩
  | dk l kvs =>
    obtain ⟨vs, q, r⟩ := h
    refine ⟨vs, ?_, r.up e⟩
    rw [h1]
    exact q
  | dt l kvs =>
    obtain ⟨vs, q, r⟩ := h
    refine ⟨vs, ?_, r.up e⟩
    rw [h1]
    exact q
  | ins c fs =>
    obtain ⟨C, dx, vs, q, q2, q3, r⟩ := h
    exact ⟨C, dx, vs, h1.trans q, h2 dx q2, q3, r.up e⟩
theorem Ro.hs {a : Addr} {o : MO} (h : Ro K mg G ι H a o) : ∃ u, H a = some u /\ ∀ x, u ≠ .own x := by
  cases o with
  | lst xs =>
    obtain ⟨vs, q, r⟩ := h
    exact ⟨_, q, fun x z => by cases z⟩
  | dk l kvs =>
    obtain ⟨vs, q, r⟩ := h
    cases l with
    | true =>
      obtain ⟨od, q⟩ := (show ∃ od, H a = _ from q)
      exact ⟨_, q, fun x z => by cases z⟩
    | false => exact ⟨_, q, fun x z => by cases z⟩
  | dt l kvs =>
    obtain ⟨vs, q, r⟩ := h
    cases l with
    | true =>
      obtain ⟨od, q⟩ := (show ∃ od, H a = _ from q)
      exact ⟨_, q, fun x z => by cases z⟩
    | false => exact ⟨_, q, fun x z => by cases z⟩
  | ins c fs =>
    obtain ⟨C, dx, vs, q, q2, q3, r⟩ := h
    exact ⟨_, q, fun x z => by cases z⟩
theorem Ro.notup {a : Addr} {o : MO} (h : Ro K mg G ι H a o) : ∀ xs, H a ≠ some (.tup xs) := by
  intro xs z
  cases o with
  | lst ys =>
    obtain ⟨vs, q, r⟩ := h
    rw [q] at z
    cases z
  | dk l kvs =>
    obtain ⟨vs, q, r⟩ := h
    cases l with
    | true =>
      obtain ⟨od, q⟩ := (show ∃ od, H a = _ from q)
      rw [q] at z
      cases z
    | false =>
      have q : H a = _ := q
      rw [q] at z
      cases z
  | dt l kvs =>
    obtain ⟨vs, q, r⟩ := h
    cases l with
    | true =>
      obtain ⟨od, q⟩ := (show ∃ od, H a = _ from q)
      rw [q] at z
      cases z
    | false =>
      have q : H a = _ := q
      rw [q] at z
      cases z
  | ins c fs =>
    obtain ⟨C, dx, vs, q, q2, q3, r⟩ := h
    rw [q] at z
    cases z
theorem Ms.nofresh (m : Ms K mg G ι H μ) {p : Addr} (h : H p = none) : ∀ j, ι j ≠ some p := fun j z => by
  obtain ⟨_, o, q⟩ := m.dom j p z
  rw [h] at q
  cases q
theorem same_upd {p : Addr} {o : HO} (h : H p = none) : Same H (upd H p o) := fun b u e => by rw [upd_ne (ne_of_none e h)]; exact e
theorem Sm.upd2 (s : Sm G H) {p : Addr} {o : HO} : Sm (upd G p o) (upd H p o) := fun b u e => by
  by_cases hb : b = p
  . subst hb
    rw [upd_same] at e
    exact .inl (by rw [upd_same]; exact e)
  . rw [upd_ne hb] at e ⊢
    exact s b u e
theorem Sm.upd1 (s : Sm G H) {p : Addr} {o : HO} (g : G p = none) : Sm G (upd H p o) := fun b u e => by
  have hb : b ≠ p := fun z => by subst z; rw [g] at e; cases e
  rw [upd_ne hb]
  exact s b u e
theorem Ms.new (m : Ms K mg G ι H μ) {p : Addr} {o : HO} (h : H p = none) : Ms K mg (upd G p o) ι (upd H p o) μ /\ Ext G ι H (upd G p o) ι (upd H p o) := by
  have gp := m.s.free h
  have e : Xt G ι (upd G p o) ι := ⟨same_upd gp, fun _ _ q => q⟩
  refine ⟨⟨m.s.upd2, fun i o' q => ?_, fun i a q => ?_, m.inj⟩, e, fun a u q _ g n => ⟨same_upd h a u q, by rw [upd_ne (ne_of_none q h)]; exact g, n⟩, fun a u q => ⟨u, same_upd h a u q⟩, fun a _ _ q => same_upd h a _ q, fun a _ q => same_upd h a _ q⟩
  . obtain ⟨a, r1, r2, r3⟩ := m.at_ i o' q
    obtain ⟨u, hu, _⟩ := r3.hs
    have ha : a ≠ p := ne_of_none hu h
    exact ⟨a, r1, by rw [upd_ne ha]; exact r2, r3.up e (upd_ne ha) fun dx z => by rw [upd_ne (ne_of_none z h)]; exact z⟩
  . obtain ⟨r1, o', r2⟩ := m.dom i a q
    exact ⟨r1, o', same_upd h a o' r2⟩
theorem Ms.own (m : Ms K mg G ι H μ) {p : Addr} {o : HO} (h : H p = none) : Ms K mg G ι (upd H p o) μ /\ Ext G ι H G ι (upd H p o) := by
  have gp := m.s.free h
  refine ⟨⟨m.s.upd1 gp, fun i o' q => ?_, fun i a q => ?_, m.inj⟩, Xt.refl, fun a u q _ g n => ⟨same_upd h a u q, g, n⟩, fun a u q => ⟨u, same_upd h a u q⟩, fun a _ _ q => same_upd h a _ q, fun a _ q => same_upd h a _ q⟩
  . obtain ⟨a, r1, r2, r3⟩ := m.at_ i o' q
    obtain ⟨u, hu, _⟩ := r3.hs
    have ha : a ≠ p := ne_of_none hu h
    exact ⟨a, r1, r2, r3.up Xt.refl (upd_ne ha) fun dx z => by rw [upd_ne (ne_of_none z h)]; exact z⟩
  . obtain ⟨r1, o', r2⟩ := m.dom i a q
    exact ⟨r1, o', same_upd h a o' r2⟩
structure Fsh (K : PySem.W.Frag) (mg : Str -> Option Value) (H0 : Hp) (G : Hp) (ι : Im) (H : Hp) (p : Addr) (o : MO) : Prop where
  z : H0 p = none
  g : G p = none
  n : ∀ j, ι j ≠ some p
  r : Ro K mg G ι H p o
def putI (ι : Im) (i : Nat) (a : Addr) : Im := fun j => if j = i then some a else ι j
theorem putI_same {i : Nat} {a : Addr} : putI ι i a i = some a := if_pos rfl
theorem putI_ne {i j : Nat} {a : Addr} (h : j ≠ i) : putI ι i a j = ι j := if_neg h
theorem Ms.alloc {G0 H0 : Hp} {ι0 : Im} (m : Ms K mg G ι H μ) {p : Addr} {o : MO} (f : Fsh K mg H0 G ι H p o) (x : Ext G0 ι0 H0 G ι H) : Ms K mg G (putI ι μ.length p) H (μ ++ [some o]) /\ Ext G0 ι0 H0 G (putI ι μ.length p) H /\ putI ι μ.length p μ.length = some p := by
  have e : Xt G ι G (putI ι μ.length p) := ⟨Same.refl _, fun j a q => by
    have hj : j ≠ μ.length := fun z => by
      have := (m.dom j a q).1
      omega
    rw [putI_ne hj]
    exact q⟩
  refine ⟨⟨m.s, fun i o' q => ?_, fun i a q => ?_, fun i j a q r => ?_⟩, ⟨⟨x.g, fun j a q => e.i j a (x.i j a q)⟩, fun a u q t g n => ?_, x.t, x.l, x.tp⟩, putI_same⟩
  . by_cases hi : i < μ.length
    . rw [List.getElem?_append_left hi] at q
      obtain ⟨a, r1, r2, r3⟩ := m.at_ i o' q
      exact ⟨a, e.i i a r1, r2, r3.up e rfl fun _ z => z⟩
    . have hi' : i = μ.length := by
        have l := (List.getElem?_eq_some_iff.mp q).1
        rw [List.length_append] at l
        simp at l
        omega
      subst hi'
      rw [List.getElem?_append_right (Nat.le_refl _)] at q
      simp at q
      subst q
      exact ⟨p, putI_same, f.g, f.r.up e rfl fun _ z => z⟩
  . by_cases hi : i = μ.length
    . subst hi
      rw [putI_same] at q
      cases q
      obtain ⟨u, hu, _⟩ := f.r.hs
      exact ⟨by simp, u, hu⟩
    . rw [putI_ne hi] at q
      obtain ⟨r1, r2⟩ := m.dom i a q
      exact ⟨by rw [List.length_append]; omega, r2⟩
  . by_cases hi : i = μ.length
    . by_cases hj : j = μ.length
      . rw [hi, hj]
      . rw [hi, putI_same] at q
        cases q
        rw [putI_ne hj] at r
        exact absurd r (f.n j)
    . by_cases hj : j = μ.length
      . rw [hj, putI_same] at r
        cases r
        rw [putI_ne hi] at q
        exact absurd q (f.n i)
      . rw [putI_ne hi] at q
        rw [putI_ne hj] at r
        exact m.inj i j a q r
  . obtain ⟨r1, r2, r3⟩ := x.f a u q t g n
    refine ⟨r1, r2, fun i z => ?_⟩
    by_cases hi : i = μ.length
    . subst hi
      rw [putI_same] at z
      cases z
      rw [f.z] at q
      cases q
    . rw [putI_ne hi] at z
      exact r3 i z
theorem Ms.chg (m : Ms K mg G ι H μ) {i : Nat} {a : Addr} {o o' : MO} {u : HO} (hi : μ[i]? = some (some o)) (ha : ι i = some a) (nl : ∀ od u, H a ≠ some (.frz od u)) (r : Ro K mg G ι (upd H a u) a o') : Ms K mg G ι (upd H a u) (Fm.setM μ i o') /\ Ext G ι H G ι (upd H a u) := by
  obtain ⟨a', q1, q2, q3⟩ := m.at_ i o hi
  rw [ha] at q1
  cases q1
  obtain ⟨u0, hu0, nown⟩ := q3.hs
  have ntup : ∀ xs, u0 ≠ .tup xs := fun xs z => q3.notup xs (by rw [hu0, z])
  refine ⟨⟨m.s.upd1 q2, fun j o1 q => ?_, fun j b q => ?_, m.inj⟩, Xt.refl, fun b v q _ g n => ⟨by
    rw [upd_ne fun z => n i (by rw [z]; exact ha)]
    exact q, g, n⟩, fun b v q => ?_, fun b od v q => by
    rw [upd_ne fun z => nl od v (by rw [<- z]; exact q)]
    exact q, fun b xs q => by
    rw [upd_ne fun z => by rw [z, hu0] at q; cases q; exact ntup _ rfl]
    exact q⟩
  . unfold Fm.setM at q
    by_cases hj : i = j
    . subst hj
      rw [List.getElem?_set_self (List.getElem?_eq_some_iff.mp hi).1] at q
      cases q
      exact ⟨a, ha, q2, r⟩
    . rw [List.getElem?_set_ne hj] at q
      obtain ⟨b, r1, r2, r3⟩ := m.at_ j o1 q
      have hb : b ≠ a := fun z => by
        subst z
        exact hj (m.inj i j b ha r1)
      refine ⟨b, r1, r2, r3.up Xt.refl (upd_ne hb) fun dx z => ?_⟩
      rw [upd_ne fun y => by subst y; rw [hu0] at z; cases z; exact nown _ rfl]
      exact z
  . obtain ⟨r1, o1, r2⟩ := m.dom j b q
    refine ⟨by unfold Fm.setM; rw [List.length_set]; exact r1, ?_⟩
    by_cases hb : b = a
    . exact ⟨u, by rw [hb]; exact upd_same⟩
    . exact ⟨o1, by rw [upd_ne hb]; exact r2⟩
  . by_cases hb : b = a
    . exact ⟨u, by rw [hb]; exact upd_same⟩
    . exact ⟨v, by rw [upd_ne hb]; exact q⟩
theorem Ms.less (m : Ms K mg G ι H μ) (w : ∀ (i : Nat) o, μ'[i]? = some (some o) -> μ[i]? = some (some o)) (l : μ.length <= μ'.length) : Ms K mg G ι H μ' :=
  ⟨m.s, fun i o q => m.at_ i o (w i o q), fun i a q => ⟨Nat.lt_of_lt_of_le (m.dom i a q).1 l, (m.dom i a q).2⟩, m.inj⟩
theorem Ro.und {n : Nat} {a : Addr} {o : MO} (u : o.und n = true) (e : ∀ j a, j < n -> ι j = some a -> ι' j = some a) (h : Ro K mg G ι H a o) : Ro K mg G ι' H a o := by
  cases o with
  | lst xs =>
    obtain ⟨vs, q, r⟩ := h
    exact ⟨vs, q, r.und u e⟩
  | dk l kvs =>
    obtain ⟨vs, q, r⟩ := h
    exact ⟨vs, q, r.und u e⟩
  | dt l kvs =>
    obtain ⟨vs, q, r⟩ := h
    exact ⟨vs, q, r.und u e⟩
  | ins c fs =>
    obtain ⟨C, dx, vs, q, q2, q3, r⟩ := h
    exact ⟨C, dx, vs, q, q2, q3, r.und u e⟩
end
structure Ok (K : PySem.W.Frag) (mg : Str -> Option Value) (G : Hp) (ι : Im) (H : Hp) (σ : St) (Γ : En) (μ : Mem) : Prop where
  m : Ms K mg G ι H μ
  at_ : ∀ (i : Nat) x, Γ[i]? = some (some x) -> ∃ v, σ[i]? = some (some v) /\ Rv K G ι v x
  ln : σ.length = Γ.length
section
variable {K : PySem.W.Frag} {mg : Str -> Option Value} {G G' H H' : Hp} {ι ι' : Im} {μ μ' : Mem} {σ : St} {Γ Γ' : En}
theorem Ok.step (h : Ok K mg G ι H σ Γ μ) (e : Xt G ι G' ι') (m : Ms K mg G' ι' H' μ') : Ok K mg G' ι' H' σ Γ μ' :=
  ⟨m, fun i x q => by
    obtain ⟨v, r1, r2⟩ := h.at_ i x q
    exact ⟨v, r1, r2.up e⟩, h.ln⟩
theorem Ok.less (h : Ok K mg G ι H σ Γ μ) (w : ∀ (i : Nat) x, Γ'[i]? = some (some x) -> Γ[i]? = some (some x)) (l : Γ'.length = Γ.length) : Ok K mg G ι H σ Γ' μ :=
  ⟨h.m, fun i s e => h.at_ i s (w i s e), h.ln.trans l.symm⟩
theorem get_set_none {α : Type} {l : List (Option α)} {i j : Nat} {s : α} (e : (l.set j none)[i]? = some (some s)) : l[i]? = some (some s) /\ i ≠ j := by
  by_cases hj : j = i
  . subst hj
    by_cases hl : j < l.length
    . rw [List.getElem?_set_self hl] at e
      cases e
    . rw [List.getElem?_eq_none (by simpa using hl)] at e
      cases e
  . rw [List.getElem?_set_ne hj] at e
    exact ⟨e, Ne.symm hj⟩
theorem get_set {α : Type} {l : List (Option α)} {i j : Nat} {x s : α} (e : (l.set j (some x))[i]? = some (some s)) : (i = j /\ s = x /\ j < l.length) \/ (i ≠ j /\ l[i]? = some (some s)) := by
  by_cases hj : j = i
  . subst hj
    by_cases hl : j < l.length
    . rw [List.getElem?_set_self hl] at e
      cases e
      exact .inl ⟨rfl, rfl, hl⟩
    . rw [List.getElem?_eq_none (by simpa using hl)] at e
      cases e
  . rw [List.getElem?_set_ne hj] at e
    exact .inr ⟨Ne.symm hj, e⟩
theorem wip_some : ∀ {ws : List Nat} {Γ : En} {i : Nat} {s : Vl}, (Fm.wip ws Γ)[i]? = some (some s) -> Γ[i]? = some (some s) /\ i ∉ ws
  | [], _, _, _, e => ⟨e, fun z => by cases z⟩
  | j :: ws, _, _, _, e => by
    obtain ⟨h1, h2⟩ := wip_some (ws := ws) e
    obtain ⟨h3, h4⟩ := get_set_none h1
    exact ⟨h3, fun z => by
      rcases List.mem_cons.mp z with z | z
      . exact h4 z
      . exact h2 z⟩
theorem wip_len : ∀ {ws : List Nat} {Γ : En}, (Fm.wip ws Γ).length = Γ.length
  | [], _ => rfl
  | _ :: ws, _ => (wip_len (ws := ws)).trans (List.length_set ..)
theorem Ok.wip (h : Ok K mg G ι H σ Γ μ) (ws : List Nat) : Ok K mg G ι H σ (Fm.wip ws Γ) μ := h.less (fun _ _ e => (wip_some e).1) wip_len
theorem Ok.set (h : Ok K mg G ι H σ Γ μ) {v : V} {x : Vl} (d : Rv K G ι v x) (i : Nat) : Ok K mg G ι H (σ.set i (some v)) (Γ.set i (some x)) μ := by
  refine ⟨h.m, fun j s e => ?_, by rw [List.length_set, List.length_set, h.ln]⟩
  rcases get_set e with ⟨rfl, rfl, l⟩ | ⟨n, e⟩
  . exact ⟨v, List.getElem?_set_self (by rw [h.ln]; exact l), d⟩
  . obtain ⟨u, e1, q⟩ := h.at_ j s e
    exact ⟨u, by rw [List.getElem?_set_ne (Ne.symm n)]; exact e1, q⟩
theorem slotV_at {i : Nat} {x : Vl} (e : Fm.slotV i Γ = some x) : Γ[i]? = some (some x) := by
  unfold Fm.slotV at e
  split at e
  . rename_i q
    cases e
    exact q
  . cases e
theorem Ok.slot (h : Ok K mg G ι H σ Γ μ) {i : Nat} {x : Vl} (e : Fm.slotV i Γ = some x) : ∃ v, σ[i]? = some (some v) /\ Rv K G ι v x := h.at_ i x (slotV_at e)
end
def Xd (r : Option Int) (d : Option Addr) (H : Hp) : Prop := match r with
  | none => d = none
  | some k => ∃ x, d = some x /\ H x = some (.xd [("row", .int k)])
structure Rl (α β : Type) where
  r : Hp -> Hp -> Im -> Hp -> β -> α -> Prop
  up : ∀ {H0 H1 G H : Hp} {ι : Im} {b : β} {x : α}, (∀ p, H1 p = none -> H0 p = none) -> r H1 G ι H b x -> r H0 G ι H b x
def Af {α β : Type} (K : PySem.W.Frag) (mg : Str -> Option Value) (W : WX) (σ : St) (Γ : En) (G : Hp) (ι : Im) (H : Hp) (R : Rl α β) (Q : β -> Hp -> Prop) : Rs α -> Prop
  | .no => False
  | .ok x μ' => ∀ b G' ι' H', Ext G ι H G' ι' H' -> Ok K mg G' ι' H' σ Γ μ' -> R.r H G' ι' H' b x -> Q b H'
  | .ex c r μ' => ∀ C d G' ι' H', Ext G ι H G' ι' H' -> Ok K mg G' ι' H' σ Γ μ' -> mg c = some (.ref C) -> Xd r d H' -> W (.ref C) d σ H'
def tG {α β : Type} (K : PySem.W.Frag) (mg : Str -> Option Value) (W : WX) (R : Rl α β) (m : En -> Mem -> Rs α) : St -> Hp -> (β -> Hp -> Prop) -> Prop := fun σ H Q =>
  ∃ G ι Γ μ, Ok K mg G ι H σ Γ μ /\ Af K mg W σ Γ G ι H R Q (m Γ μ)
section
variable {α β γ δ : Type} {K : PySem.W.Frag} {mg : Str -> Option Value} {W : WX} {σ : St} {Γ : En} {G G1 H H1 : Hp} {ι ι1 : Im} {R : Rl α β} {R' : Rl γ δ} {Q : β -> Hp -> Prop} {Q' : δ -> Hp -> Prop}
theorem Af.up {r : Rs α} (e : Ext G ι H G1 ι1 H1) (h : Af K mg W σ Γ G ι H R Q r) : Af K mg W σ Γ G1 ι1 H1 R Q r := by
  cases r with
  | no => exact h
  | ok x μ' => exact fun b G' ι' H' e' o r => h b G' ι' H' (e.trans e') o (R.up (fun _ z => e.back z) r)
  | ex c r μ' => exact fun C d G' ι' H' e' o r x => h C d G' ι' H' (e.trans e') o r x
theorem Af.bind {r : Rs α} {f : α -> Mem -> Rs γ} (h : Af K mg W σ Γ G ι H R' Q' (r.bind f))
    (k : ∀ x μ1 b G1 ι1 H1, r = .ok x μ1 -> Ext G ι H G1 ι1 H1 -> Ok K mg G1 ι1 H1 σ Γ μ1 -> R.r H G1 ι1 H1 b x -> Af K mg W σ Γ G1 ι1 H1 R' Q' (f x μ1) -> Q b H1) : Af K mg W σ Γ G ι H R Q r := by
  cases r with
  | no => exact h
  | ok x μ' => exact fun b G' ι' H' e' o r => k x μ' b G' ι' H' rfl e' o r (Af.up e' h)
  | ex c r μ' => exact h
theorem Af.bind0 {r : Rs α} {f : α -> Mem -> Rs γ} (h : Af K mg W σ Γ G ι H R' Q' (r.bind f))
    (k : ∀ x μ1 b G1 ι1 H1, r = .ok x μ1 -> Ext G ι H G1 ι1 H1 -> Ok K mg G1 ι1 H1 σ Γ μ1 -> R.r H G1 ι1 H1 b x -> Af K mg W σ Γ G ι H R' Q' (f x μ1) -> Q b H1) : Af K mg W σ Γ G ι H R Q r := by
  cases r with
  | no => exact h
  | ok x μ' => exact fun b G' ι' H' e' o r => k x μ' b G' ι' H' rfl e' o r h
  | ex c r μ' => exact h
theorem Af.of {o : Option α} {μ : Mem} (h : Af K mg W σ Γ G ι H R Q (Rs.of o μ)) : ∃ x, o = some x /\ Af K mg W σ Γ G ι H R Q (.ok x μ) := by
  cases o with
  | none => exact False.elim h
  | some x => exact ⟨x, rfl, h⟩
end
def rlV (K : PySem.W.Frag) : Rl Vl V := ⟨fun _ G ι _ v x => Rv K G ι v x, fun _ h => h⟩
def rlA (K : PySem.W.Frag) : Rl (List Vl) (List V) := ⟨fun _ G ι _ v x => RvA K G ι v x, fun _ h => h⟩
def rlF (K : PySem.W.Frag) (mg : Str -> Option Value) : Rl MO V := ⟨fun H0 G ι H v o => ∃ p, v = .ref p /\ Fsh K mg H0 G ι H p o, fun k ⟨p, e, f⟩ => ⟨p, e, k p f.z, f.g, f.n, f.r⟩⟩
def rlI {α : Type} : Rl α α := ⟨fun _ _ _ _ v x => v = x, fun _ h => h⟩
abbrev tE (K : PySem.W.Frag) (mg : Str -> Option Value) (W : WX) (m : ME) : TE := tG K mg W (rlV K) m
abbrev tF (K : PySem.W.Frag) (mg : Str -> Option Value) (W : WX) (m : MF) : TE := tG K mg W (rlF K mg) m
abbrev tA (K : PySem.W.Frag) (mg : Str -> Option Value) (W : WX) (m : MA) : TA := tG K mg W (rlA K) m
abbrev tT (K : PySem.W.Frag) (mg : Str -> Option Value) (W : WX) (m : MT) : TT := tG K mg W rlI m
abbrev tP (K : PySem.W.Frag) (mg : Str -> Option Value) (W : WX) (m : En -> Mem -> Rs (Option Int)) : TO := tG K mg W rlI m
structure DE (X : Cx) (W : WX) (e : Expr) (m : ME) : Prop where
  p : PE X e (tE X.K X.mg W m)
structure DF (X : Cx) (W : WX) (e : Expr) (m : MF) : Prop where
  p : PE X e (tF X.K X.mg W m)
structure DA (X : Cx) (W : WX) (es : List Expr) (m : MA) : Prop where
  p : PA X es (tA X.K X.mg W m)
structure DT (X : Cx) (W : WX) (e : Expr) (m : MT) : Prop where
  p : PT X e (tT X.K X.mg W m)
structure DW (X : Cx) (W : WX) (e : Expr) (m : MT) : Prop where
  p : PW X e (tT X.K X.mg W m)
structure DO (X : Cx) (W : WX) (e : Option Expr) (m : En -> Mem -> Rs (Option Int)) : Prop where
  p : PO X e (tP X.K X.mg W m)
end L3
end
section
set_option Elab.async false
set_option linter.all false
set_option maxRecDepth 100000
set_option maxHeartbeats 4000000
namespace L3
open PySem L2
open Fm (Vl MO Mem En Rs ME MF MA MT MG MS MI Out So Gd Ky)
section
variable {X : Cx}
theorem PE.imp {e : Expr} {t t' : TE} (h : PE X e t) (k : ∀ σ H Q, t' σ H Q -> t σ H Q) : PE X e t' := ⟨fun pins s σ H Q I q => h.run pins s σ H Q I (k σ H Q q)⟩
theorem PT.imp {e : Expr} {t t' : TT} (h : PT X e t) (k : ∀ σ H Q, t' σ H Q -> t σ H Q) : PT X e t' := ⟨fun pins s σ H Q I q => h.run pins s σ H Q I (k σ H Q q)⟩
theorem PW.imp {e : Expr} {t t' : TT} (h : PW X e t) (k : ∀ σ H Q, t' σ H Q -> t σ H Q) : PW X e t' := ⟨fun w pins s σ H Q I q => h.run w pins s σ H Q I (k σ H Q q)⟩
theorem PA.imp {e : List Expr} {t t' : TA} (h : PA X e t) (k : ∀ σ H Q, t' σ H Q -> t σ H Q) : PA X e t' := ⟨fun pos pins s σ H Q I q => h.run pos pins s σ H Q I (k σ H Q q)⟩
theorem PO.imp {e : Option Expr} {t t' : TO} (h : PO X e t) (k : ∀ σ H Q, t' σ H Q -> t σ H Q) : PO X e t' := ⟨fun pins s σ H Q I q => h.run pins s σ H Q I (k σ H Q q)⟩
theorem PS.imp {e : Stmt} {t t' : TS} (h : PS X e t) (k : ∀ D σ H, t' D σ H -> t D σ H) : PS X e t' := ⟨fun pins s σ H D I q => h.run pins s σ H D I (k D σ H q)⟩
theorem PSs.imp {e : List Stmt} {t t' : TS} (h : PSs X e t) (k : ∀ D σ H, t' D σ H -> t D σ H) : PSs X e t' := ⟨fun pins s σ H D I q => h.run pins s σ H D I (k D σ H q)⟩
end
section
variable {K : PySem.W.Frag} {mg : Str -> Option Value}
theorem getB_of {d : Vl} {b : Bool} (h : Fm.getB d = some b) : d = .bl b := by
  unfold Fm.getB at h
  split at h
  . cases h; rfl
  . cases h
theorem getI_of {d : Vl} {b : Int} (h : Fm.getI d = some b) : d = .int b := by
  unfold Fm.getI at h
  split at h
  . cases h; rfl
  . cases h
theorem getT_of {d : Vl} {b : List Vl} (h : Fm.getT d = some b) : d = .tup b := by
  unfold Fm.getT at h
  split at h
  . cases h; rfl
  . cases h
theorem fits_of {α : Type} {xs ys : List α} (h : Fm.fits xs = some ys) : ys = xs /\ xs.length <= 10000000 := by
  unfold Fm.fits Fm.cap at h
  split at h
  . cases h
    exact ⟨rfl, by assumption⟩
  . cases h
theorem big {n : Nat} (h : n <= 10000000) : n <= sizeLine := Nat.le_trans h (by decide)
theorem bigL {n : Nat} (h : n < 10000000) : n < sizeLine := Nat.lt_of_lt_of_le h (by decide)
theorem bnd {α β : Type} {o : Option α} {f : α -> Option β} {z : β} (h : o.bind f = some z) : ∃ x, o = some x /\ f x = some z := Option.bind_eq_some_iff.mp h
def OpD (K : PySem.W.Frag) (mg : Str -> Option Value) (r : R2) (g : Vl -> Vl -> Mem -> Option Vl) : Prop := ∀ (x y : V) (G H : Hp) (ι : Im) (μ : Mem) (dx dy dz : Vl) (Q : VK), Ms K mg G ι H μ -> Rv K G ι x dx -> Rv K G ι y dy -> g dx dy μ = some dz ->
  (∀ v G' H', Ext G ι H G' ι H' -> Ms K mg G' ι H' μ -> Rv K G' ι v dz -> Q v H') -> r x y H Q
def OpF (K : PySem.W.Frag) (mg : Str -> Option Value) (r : R2) (g : Vl -> Vl -> Mem -> Option MO) : Prop := ∀ (x y : V) (G H : Hp) (ι : Im) (μ : Mem) (dx dy : Vl) (dz : MO) (Q : VK), Ms K mg G ι H μ -> Rv K G ι x dx -> Rv K G ι y dy -> g dx dy μ = some dz ->
  (∀ p H', Ext G ι H G ι H' -> Ms K mg G ι H' μ -> Fsh K mg H G ι H' p dz -> Q (.ref p) H') -> r x y H Q
structure DOp (X : Cx) (f : Value -> Value -> Sem Value) (g : Vl -> Vl -> Mem -> Option Vl) : Prop where
  ex : ∃ r, OpR X f r /\ OpD X.K X.mg r g
structure DOpF (X : Cx) (f : Value -> Value -> Sem Value) (g : Vl -> Vl -> Mem -> Option MO) : Prop where
  ex : ∃ r, OpR X f r /\ OpF X.K X.mg r g
def CaD (K : PySem.W.Frag) (mg : Str -> Option Value) (r : List V -> Hp -> VK -> Prop) (g : List Vl -> Mem -> Option Vl) : Prop := ∀ (vs : List V) (G H : Hp) (ι : Im) (μ : Mem) (ds : List Vl) (dz : Vl) (Q : VK), Ms K mg G ι H μ -> RvA K G ι vs ds -> g ds μ = some dz ->
  (∀ v G' H', Ext G ι H G' ι H' -> Ms K mg G' ι H' μ -> Rv K G' ι v dz -> Q v H') -> r vs H Q
def CaF (K : PySem.W.Frag) (mg : Str -> Option Value) (r : List V -> Hp -> VK -> Prop) (g : List Vl -> Mem -> Option MO) : Prop := ∀ (vs : List V) (G H : Hp) (ι : Im) (μ : Mem) (ds : List Vl) (dz : MO) (Q : VK), Ms K mg G ι H μ -> RvA K G ι vs ds -> g ds μ = some dz ->
  (∀ p H', Ext G ι H G ι H' -> Ms K mg G ι H' μ -> Fsh K mg H G ι H' p dz -> Q (.ref p) H') -> r vs H Q
section
variable {W : WX} {σ : St} {Γ : En} {G H : Hp} {ι : Im} {μ : Mem} {Q : VK}
theorem af_val {x : Vl} {v : V} {G' H' : Hp} (o : Ok K mg G ι H σ Γ μ) (h : Af K mg W σ Γ G ι H (rlV K) Q (.ok x μ)) (e : Ext G ι H G' ι H') (m : Ms K mg G' ι H' μ) (r : Rv K G' ι v x) : Q v H' := h v G' ι H' e (o.step e.toXt m) r
theorem af_new {x : MO} {p : Addr} {H' : Hp} (o : Ok K mg G ι H σ Γ μ) (h : Af K mg W σ Γ G ι H (rlF K mg) Q (.ok x μ)) (e : Ext G ι H G ι H') (m : Ms K mg G ι H' μ) (r : Fsh K mg H G ι H' p x) : Q (.ref p) H' := h (.ref p) G ι H' e (o.step e.toXt m) ⟨p, rfl, r⟩
end
theorem Ms.fsh {G H : Hp} {ι : Im} {μ : Mem} (m : Ms K mg G ι H μ) {p : Addr} {vs : List V} {xs : List Vl} (h : H p = none) (r : RvA K G ι vs xs) : Ext G ι H G ι (upd H p (.lst vs)) /\ Ms K mg G ι (upd H p (.lst vs)) μ /\ Fsh K mg H G ι (upd H p (.lst vs)) p (.lst xs) :=
  ⟨(m.own h).2, (m.own h).1, h, m.s.free h, m.nofresh h, vs, upd_same, r⟩
end
section
variable {X : Cx} {W : WX} {pos : Pos} {a b c : Expr} {ma mb mc : ME}
theorem dv (i : Nat) {x : Str} (hN : X.N[i]? = some x := by rfl) (hv : Vis X.env.scope x := by first | exact Or.inl rfl | exact Or.inr (Or.inl rfl) | exact Or.inr (Or.inr rfl)) (hd : (x == ("__debug__" : Str)) = false := by decide)
    (hcd : (x == ("__classdict__" : Str)) = false := by decide) : DE X W (.Name x pos) (Fm.eVar i) := ⟨PE.imp (pe_var hN hv hd hcd) fun σ H Q ⟨G, ι, Γ, μ, o, h⟩ => by
  obtain ⟨x, e, h⟩ := Af.of h
  obtain ⟨v, r1, r2⟩ := o.slot e
  exact ⟨v, r1, af_val o h Ext.refl o.m r2⟩⟩
theorem dC {e : Expr} {v : V} {x : Vl} (h : PE X e (tC v)) (hx : ∀ G ι, Rv X.K G ι v x) : DE X W e (Fm.eC x) := ⟨PE.imp h fun σ H Q ⟨G, ι, Γ, μ, o, h⟩ => af_val o h Ext.refl o.m (hx G ι)⟩
theorem di {i : Int} {j : Nat} : DE X W (.Constant (.int i) j pos) (Fm.eC (.int i)) := dC pe_int fun _ _ => .int i
theorem dbl {i : Bool} {j : Nat} : DE X W (.Constant (.bool i) j pos) (Fm.eC (.bl i)) := dC pe_bl fun _ _ => .bl i
theorem dnon {j : Nat} : DE X W (.Constant .none j pos) (Fm.eC .non) := dC pe_non fun _ _ => .non
theorem op_to {r : R2} {g : Vl -> Vl -> Mem -> Option Vl} (hr : OpD X.K X.mg r g) : ∀ σ H Q, tE X.K X.mg W (Fm.eOp g ma mb) σ H Q -> tOp r (tE X.K X.mg W ma) (tE X.K X.mg W mb) σ H Q := fun σ H Q ⟨G, ι, Γ, μ, o, h⟩ =>
  ⟨G, ι, Γ, μ, o, Af.bind h fun x μ1 v G1 ι1 H1 _ e1 o1 r1 h1 => ⟨G1, ι1, Γ, μ1, o1, Af.bind h1 fun y μ2 u G2 ι2 H2 _ e2 o2 r2 h2 => by
    obtain ⟨z, e, h3⟩ := Af.of h2
    exact hr v u G2 H2 ι2 μ2 x y z Q o2.m (Rv.up e2.toXt r1) r2 e fun v' G' H' e' m' r' => af_val o2 h3 e' m' r'⟩⟩
theorem dop {op : Operator} {g : Vl -> Vl -> Mem -> Option Vl} (ho : DOp X (binaryOp op) g) (ha : DE X W a ma) (hb : DE X W b mb) : DE X W (.BinOp a op b pos) (Fm.eOp g ma mb) := by
  obtain ⟨r, h1, h2⟩ := ho.ex
  exact ⟨PE.imp (pe_op h1 ha.p hb.p) (op_to h2)⟩
theorem dcmp {op : CmpOp} {g : Vl -> Vl -> Mem -> Option Vl} (ho : DOp X (compareOp op) g) (ha : DE X W a ma) (hb : DE X W b mb) (hm : behindInMarks op b = false := by first | exact nomark _ | rfl) : DE X W (.Compare a [op] [b] pos) (Fm.eOp g ma mb) := by
  obtain ⟨r, h1, h2⟩ := ho.ex
  exact ⟨PE.imp (pe_cmpR h1 ha.p hb.p hm) (op_to h2)⟩
theorem tB_to {m : ME} : ∀ σ H Q, tT X.K X.mg W (Fm.tB m) σ H Q -> tTest (tE X.K X.mg W m) σ H Q := fun σ H Q ⟨G, ι, Γ, μ, o, h⟩ =>
  ⟨G, ι, Γ, μ, o, Af.bind h fun x μ1 v G1 ι1 H1 _ e1 o1 r1 h1 => by
    obtain ⟨z, e, h2⟩ := Af.of h1
    have e' := getB_of e
    subst e'
    exact ⟨z, bl_of r1, h2 z G1 ι1 H1 Ext.refl o1 rfl⟩⟩
theorem dcmpT {op : CmpOp} {g : Vl -> Vl -> Mem -> Option Vl} (ho : DOp X (compareOp op) g) (ha : DE X W a ma) (hb : DE X W b mb) (hm : behindInMarks op b = false := by first | exact nomark _ | rfl) : DT X W (.Compare a [op] [b] pos) (Fm.tB (Fm.eOp g ma mb)) := by
  obtain ⟨r, h1, h2⟩ := ho.ex
  refine ⟨PT.imp (pt_cmpR h1 ha.p hb.p hm) fun σ H Q h => ?_⟩
  have h3 := tB_to σ H Q h
  exact op_to h2 σ H _ h3
theorem chain_to {r r' : R2} {g g' : Vl -> Vl -> Mem -> Option Vl} (hr : OpD X.K X.mg r g) (hr' : OpD X.K X.mg r' g') : ∀ σ H Q, tE X.K X.mg W (Fm.eChain g g' ma mb mc) σ H Q -> tChain r r' (tE X.K X.mg W ma) (tE X.K X.mg W mb) (tE X.K X.mg W mc) σ H Q := fun σ H Q ⟨G, ι, Γ, μ, o, h⟩ =>
  ⟨G, ι, Γ, μ, o, Af.bind h fun x μ1 v G1 ι1 H1 _ e1 o1 r1 h1 => ⟨G1, ι1, Γ, μ1, o1, Af.bind h1 fun y μ2 u G2 ι2 H2 _ e2 o2 r2 h2 => by
    cases q : g x y μ2 with
    | none =>
      rw [q] at h2
      exact False.elim h2
    | some z =>
      rw [q] at h2
      refine hr v u G2 H2 ι2 μ2 x y z _ o2.m (Rv.up e2.toXt r1) r2 q fun v' G' H' e' m' r' => ?_
      cases z with
      | bl k =>
        refine ⟨k, bl_of r', ?_⟩
        have o3 := o2.step e'.toXt m'
        cases k with
        | true =>
          have h3 := Af.up (R := rlV X.K) e' h2
          rw [if_pos rfl]
          exact ⟨G', ι2, Γ, μ2, o3, Af.bind h3 fun z μ4 u4 G4 ι4 H4 _ e4 o4 r4 h4 => by
            obtain ⟨z', q', h5⟩ := Af.of h4
            exact hr' u u4 G4 H4 ι4 μ4 y z z' Q o4.m (Rv.up e4.toXt (Rv.up e'.toXt r2)) r4 q' fun v' G' H' e' m' r' => af_val o4 h5 e' m' r'⟩
        | false =>
          rw [if_neg Bool.false_ne_true]
          exact h2 _ G' ι2 H' e' o3 (.bl false)
      | _ => exact False.elim h2⟩⟩
theorem dchainT {op op' : CmpOp} {g g' : Vl -> Vl -> Mem -> Option Vl} (ho : DOp X (compareOp op) g) (ho' : DOp X (compareOp op') g') (ha : DE X W a ma) (hb : DE X W b mb) (hc : DE X W c mc) (hm : lastMarks [op, op'] [b, c] = false := by with_unfolding_all rfl) :
    DT X W (.Compare a [op, op'] [b, c] pos) (Fm.tB (Fm.eChain g g' ma mb mc)) := by
  obtain ⟨r, h1, h2⟩ := ho.ex
  obtain ⟨r', h3, h4⟩ := ho'.ex
  exact ⟨PT.imp (pt_chain h1 h3 ha.p hb.p hc.p hm) fun σ H Q h => chain_to h2 h4 σ H _ (tB_to σ H Q h)⟩
theorem dand {rest : List Expr} (ha : DE X W a ma) (hb : DE X W (.BoolOp .And (b :: rest) pos) mb) : DE X W (.BoolOp .And (a :: b :: rest) pos) (Fm.eAnd ma mb) := ⟨PE.imp (pe_and ha.p hb.p) fun σ H Q ⟨G, ι, Γ, μ, o, h⟩ =>
  ⟨G, ι, Γ, μ, o, Af.bind h fun x μ1 v G1 ι1 H1 _ e1 o1 r1 h1 => by
    cases x with
    | bl k =>
      refine ⟨k, bl_of r1, ?_⟩
      cases k with
      | true =>
        rw [if_pos rfl]
        exact ⟨G1, ι1, Γ, μ1, o1, h1⟩
      | false =>
        rw [if_neg Bool.false_ne_true]
        exact h1 _ G1 ι1 H1 Ext.refl o1 (.bl false)
    | _ => exact False.elim h1⟩⟩
theorem done {op : BoolOp} (ha : DE X W a ma) : DE X W (.BoolOp op [a] pos) ma := ⟨pe_one ha.p⟩
theorem dnot (ha : DE X W a ma) : DE X W (.UnaryOp .Not a pos) (Fm.eNot ma) := ⟨PE.imp (pe_not ha.p) fun σ H Q ⟨G, ι, Γ, μ, o, h⟩ =>
  ⟨G, ι, Γ, μ, o, Af.bind h fun x μ1 v G1 ι1 H1 _ e1 o1 r1 h1 => by
    cases x with
    | bl k => exact ⟨k, bl_of r1, h1 _ G1 ι1 H1 Ext.refl o1 (.bl _)⟩
    | _ => exact False.elim h1⟩⟩
theorem danil : DA X W [] Fm.aNil := ⟨PA.imp pa_nil fun σ H Q ⟨G, ι, Γ, μ, o, h⟩ => h [] G ι H Ext.refl o .nil⟩
theorem dac {es : List Expr} {m : MA} (ha : DE X W a ma) (hr : DA X W es m) (hs : starEach (a :: es) X.env = (false, eval a X.env) :: starEach es X.env := by rfl) : DA X W (a :: es) (Fm.aCons ma m) := ⟨PA.imp (pa_cons ha.p hr.p hs) fun σ H Q ⟨G, ι, Γ, μ, o, h⟩ =>
  ⟨G, ι, Γ, μ, o, Af.bind h fun x μ1 v G1 ι1 H1 _ e1 o1 r1 h1 => ⟨G1, ι1, Γ, μ1, o1, Af.bind h1 fun y μ2 u G2 ι2 H2 _ e2 o2 r2 h2 => h2 _ G2 ι2 H2 Ext.refl o2 (.cons (Rv.up e2.toXt r1) r2)⟩⟩⟩
theorem dtup {es : List Expr} {m : MA} {x1 : Nat} (h : DA X W es m) : DE X W (.Tuple es x1 pos) (Fm.eTup m) := ⟨PE.imp (pe_tup h.p) fun σ H Q ⟨G, ι, Γ, μ, o, h⟩ =>
  ⟨G, ι, Γ, μ, o, Af.bind h fun xs μ1 vs G1 ι1 H1 _ e1 o1 r1 h1 => by
    cases q : Fm.fits xs with
    | none =>
      rw [q] at h1
      exact False.elim h1
    | some ys =>
      rw [q] at h1
      obtain ⟨rfl, hz⟩ := fits_of q
      refine ⟨by rw [RvA.len r1]; exact big hz, fun p hp => ?_⟩
      obtain ⟨m', e'⟩ := o1.m.new (o := .tup vs) hp
      exact af_val o1 h1 e' m' (.tup upd_same (RvA.up e'.toXt r1))⟩⟩
theorem dlst {es : List Expr} {m : MA} (h : DA X W es m) : DF X W (.List es pos) (Fm.fLst m) := ⟨PE.imp (pe_lst h.p) fun σ H Q ⟨G, ι, Γ, μ, o, h⟩ =>
  ⟨G, ι, Γ, μ, o, Af.bind h fun xs μ1 vs G1 ι1 H1 _ e1 o1 r1 h1 => by
    cases q : Fm.fits xs with
    | none =>
      rw [q] at h1
      exact False.elim h1
    | some ys =>
      rw [q] at h1
      obtain ⟨rfl, hz⟩ := fits_of q
      refine ⟨by rw [RvA.len r1]; exact big hz, fun p hp => ?_⟩
      obtain ⟨e', m', f'⟩ := o1.m.fsh (p := p) hp r1
      exact af_new o1 h1 e' m' f'⟩⟩
theorem Ms.frz {K : PySem.W.Frag} {mg : Str -> Option Value} {G0 H0 G H : Hp} {ι0 ι : Im} {μ : Mem} (m : Ms K mg G ι H μ) {p : Addr} {u : HO} (z : H0 p = none) (g : G p = none) (n : ∀ j, ι j ≠ some p) (hp : H p = some u \/ ∃ od, Fz u /\ H p = some (.frz od u)) (x : Ext G0 ι0 H0 G ι H) :
    Ms K mg (upd G p u) ι H μ /\ Xt G ι (upd G p u) ι /\ Ext G0 ι0 H0 (upd G p u) ι H := by
  have e : Xt G ι (upd G p u) ι := ⟨same_upd g, fun _ _ q => q⟩
  refine ⟨⟨fun b o q => ?_, fun i o' q => ?_, m.dom, m.inj⟩, e, ⟨x.g.trans e.g, x.i⟩, fun a o q t g0 n0 => ?_, x.t, x.l, x.tp⟩
  . by_cases hb : b = p
    . subst hb
      rw [upd_same] at q
      cases q
      exact hp
    . rw [upd_ne hb] at q
      exact m.s b o q
  . obtain ⟨a, r1, r2, r3⟩ := m.at_ i o' q
    have ha : a ≠ p := fun z => by subst z; exact n i r1
    exact ⟨a, r1, by rw [upd_ne ha]; exact r2, r3.up e rfl fun _ z => z⟩
  . obtain ⟨r1, r2, r3⟩ := x.f a o q t g0 n0
    exact ⟨r1, by rw [upd_ne (ne_of_none q z)]; exact r2, r3⟩
theorem frz_to {m : MF} : ∀ σ H Q, tE X.K X.mg W (Fm.eFrz m) σ H Q -> tF X.K X.mg W m σ H Q := fun σ H Q ⟨G, ι, Γ, μ, o, h⟩ =>
  ⟨G, ι, Γ, μ, o, Af.bind0 h fun x μ1 v G1 ι1 H1 _ e1 o1 r1 h1 => by
    obtain ⟨p, rfl, f⟩ := r1
    cases x with
    | lst xs =>
      obtain ⟨vs, q, r⟩ := f.r
      obtain ⟨m', e', x'⟩ := o1.m.frz f.z f.g f.n (.inl q) e1
      exact h1 _ _ ι1 H1 x' (o1.step e' m') (.lst upd_same (r.up e'))
    | dk l kvs =>
      obtain ⟨vs, q, r⟩ := f.r
      have hl : (kvs.map (·.1)).length = vs.length := by rw [r.len]; simp
      have q' : H1 p = some (.dK ((kvs.map (·.1)).zip vs)) \/ ∃ od, Fz (HO.dK ((kvs.map (·.1)).zip vs)) /\ H1 p = some (.frz od (.dK ((kvs.map (·.1)).zip vs))) := by
        cases l with
        | true =>
          obtain ⟨od, q⟩ := (show ∃ od, H1 p = _ from q)
          exact .inr ⟨od, trivial, q⟩
        | false => exact .inl q
      obtain ⟨m', e', x'⟩ := o1.m.frz f.z f.g f.n q' e1
      exact h1 _ _ ι1 H1 x' (o1.step e' m') (.dct upd_same hl (r.up e'))
    | dt l kvs =>
      obtain ⟨vs, q, r⟩ := f.r
      have hl : (kvs.map (·.1)).length = vs.length := by rw [r.len]; simp
      have q' : H1 p = some (.dT ((kvs.map (·.1)).zip vs)) \/ ∃ od, Fz (HO.dT ((kvs.map (·.1)).zip vs)) /\ H1 p = some (.frz od (.dT ((kvs.map (·.1)).zip vs))) := by
        cases l with
        | true =>
          obtain ⟨od, q⟩ := (show ∃ od, H1 p = _ from q)
          exact .inr ⟨od, trivial, q⟩
        | false => exact .inl q
      obtain ⟨m', e', x'⟩ := o1.m.frz f.z f.g f.n q' e1
      exact h1 _ _ ι1 H1 x' (o1.step e' m') (.dtt upd_same hl (r.up e'))
    | ins c fs =>
      obtain ⟨C, dx, vs, q, _, rfl, r⟩ := f.r
      have hl : (fs.map (·.1)).length = vs.length := by rw [r.len]; simp
      obtain ⟨m', e', x'⟩ := o1.m.frz f.z f.g f.n (.inl q) e1
      exact h1 _ _ ι1 H1 x' (o1.step e' m') (.ins upd_same hl (r.up e'))⟩
theorem dl {m : MF} (h : DF X W a m) : DE X W a (Fm.eFrz m) := ⟨PE.imp h.p frz_to⟩
theorem new_to {m : MF} : ∀ σ H Q, tE X.K X.mg W (Fm.eNew m) σ H Q -> tF X.K X.mg W m σ H Q := fun σ H Q ⟨G, ι, Γ, μ, o, h⟩ =>
  ⟨G, ι, Γ, μ, o, Af.bind0 h fun x μ1 v G1 ι1 H1 _ e1 o1 r1 h1 => by
    obtain ⟨p, rfl, f⟩ := r1
    obtain ⟨m', e', q⟩ := o1.m.alloc f e1
    refine h1 _ _ _ H1 e' ⟨m', fun i x z => ?_, o1.ln⟩ (.ref q)
    obtain ⟨v, r1, r2⟩ := o1.at_ i x z
    refine ⟨v, r1, r2.up ⟨Same.refl _, fun j b w => ?_⟩⟩
    rw [putI_ne fun z => by have := (o1.m.dom j b w).1; omega]
    exact w⟩
theorem dnew {m : MF} (h : DF X W a m) : DE X W a (Fm.eNew m) := ⟨PE.imp h.p new_to⟩
theorem dtB (ha : DE X W a ma) (he : ∀ whole, isTrue a X.env whole = (do let v <- whole; standAt a.pos; holding [v] (truthy v)) := by intro _; rfl) : DT X W a (Fm.tB ma) := ⟨PT.imp (pt_val ha.p he) tB_to⟩
theorem dtand1 {m : MT} (h : DT X W a m) : DW X W (.BoolOp .And [a] pos) m := ⟨pw_and1 h.p⟩
theorem dtor1 {m : MT} (h : DT X W a m) : DW X W (.BoolOp .Or [a] pos) m := ⟨pw_or1 h.p⟩
theorem dtand {m n : MT} {rest : List Expr} (h : DT X W a m) (k : DW X W (.BoolOp .And (b :: rest) pos) n) : DW X W (.BoolOp .And (a :: b :: rest) pos) (Fm.tAnd m n) := ⟨PW.imp (pw_and h.p k.p) fun σ H Q ⟨G, ι, Γ, μ, o, h⟩ =>
  ⟨G, ι, Γ, μ, o, Af.bind h fun x μ1 v G1 ι1 H1 _ e1 o1 r1 h1 => by
    cases (show v = x from r1)
    cases x with
    | true =>
      rw [if_pos rfl]
      exact ⟨G1, ι1, Γ, μ1, o1, h1⟩
    | false =>
      rw [if_neg Bool.false_ne_true]
      exact h1 _ G1 ι1 H1 Ext.refl o1 rfl⟩⟩
theorem dtor {m n : MT} {rest : List Expr} (h : DT X W a m) (k : DW X W (.BoolOp .Or (b :: rest) pos) n) : DW X W (.BoolOp .Or (a :: b :: rest) pos) (Fm.tOr m n) := ⟨PW.imp (pw_or h.p k.p) fun σ H Q ⟨G, ι, Γ, μ, o, h⟩ =>
  ⟨G, ι, Γ, μ, o, Af.bind h fun x μ1 v G1 ι1 H1 _ e1 o1 r1 h1 => by
    cases (show v = x from r1)
    cases x with
    | false =>
      rw [if_neg Bool.false_ne_true]
      exact ⟨G1, ι1, Γ, μ1, o1, h1⟩
    | true =>
      rw [if_pos rfl]
      exact h1 _ G1 ι1 H1 Ext.refl o1 rfl⟩⟩
theorem dtw {m : MT} (h : DW X W a m) : DT X W a m := ⟨h.p.pt⟩
theorem dtnot {m : MT} (h : DT X W a m) : DT X W (.UnaryOp .Not a pos) (Fm.tNot m) := ⟨PT.imp (pt_not h.p) fun σ H Q ⟨G, ι, Γ, μ, o, h⟩ =>
  ⟨G, ι, Γ, μ, o, Af.bind h fun x μ1 v G1 ι1 H1 _ e1 o1 r1 h1 => by
    cases (show v = x from r1)
    exact h1 _ G1 ι1 H1 Ext.refl o1 rfl⟩⟩
theorem don : DO X W none Fm.oNo := ⟨PO.imp po_none fun σ H Q ⟨G, ι, Γ, μ, o, h⟩ => h _ G ι H Ext.refl o rfl⟩
theorem dos (h : DE X W a ma) : DO X W (some a) (Fm.oIs ma) := ⟨PO.imp (po_some h.p) fun σ H Q ⟨G, ι, Γ, μ, o, h⟩ =>
  ⟨G, ι, Γ, μ, o, Af.bind h fun x μ1 v G1 ι1 H1 _ e1 o1 r1 h1 => by
    cases x with
    | int k => exact ⟨k, int_of r1, h1 _ G1 ι1 H1 Ext.refl o1 rfl⟩
    | _ => exact False.elim h1⟩⟩
end
end L3
end
section
set_option Elab.async false
set_option linter.all false
set_option maxRecDepth 100000
set_option maxHeartbeats 4000000
namespace L3
open PySem L2
open Fm (Vl MO Mem En Rs ME MF MA MT MG MS MI Out So Gd Ky)
section
variable {X : Cx} {K : PySem.W.Frag} {mg : Str -> Option Value} {G H : Hp} {ι : Im} {μ : Mem}
theorem lstOf_of (m : Ms K mg G ι H μ) {v : V} {d : Vl} {xs : List Vl} (h : Rv K G ι v d) (e : Fm.lstOf μ d = some xs) : ∃ a vs, v = .ref a /\ H a = some (.lst vs) /\ RvA K G ι vs xs := by
  unfold Fm.lstOf at e
  split at e
  . cases e
    obtain ⟨a, vs, r1, r2, r3⟩ := lst_of h
    exact ⟨a, vs, r1, m.s.lst r2, r3⟩
  . split at e
    . cases e
      rename_i q
      obtain ⟨a, rfl, r⟩ := ref_of h
      obtain ⟨a', r1, _, vs, r2, r3⟩ := m.at_ _ _ q
      rw [r] at r1
      cases r1
      exact ⟨a, vs, rfl, r2, r3⟩
    . cases e
  . cases e
theorem RvA.ivs0 {ns : List Int} : RvA K G ι (ns.map V.int) (ns.map Vl.int) := by
  induction ns with
  | nil => exact .nil
  | cons n r ih => exact .cons (.int n) ih
theorem seqOf_of (m : Ms K mg G ι H μ) {v : V} {d : Vl} {xs : List Vl} (h : Rv K G ι v d) (e : Fm.seqOf μ d = some xs) : ∃ a vs, v = .ref a /\ (H a = some (.lst vs) \/ Rd H a (.tup vs)) /\ RvA K G ι vs xs := by
  unfold Fm.seqOf at e
  split at e
  . cases e
    obtain ⟨a, vs, r1, r2, r3⟩ := tup_of h
    exact ⟨a, vs, r1, .inr (m.s.tup r2), r3⟩
  . cases e
    obtain ⟨a, od, r1, r2, _⟩ := ltup_of h
    exact ⟨a, _, r1, .inr (.inr ⟨od, m.s.ltup r2⟩), RvA.ivs0⟩
  . obtain ⟨a, vs, r1, r2, r3⟩ := lstOf_of m h e
    exact ⟨a, vs, r1, .inl r2, r3⟩
section
variable {Q : VK}
theorem keep (m : Ms K mg G ι H μ) {v : V} {d : Vl} (r : Rv K G ι v d) (q : ∀ v G' H', Ext G ι H G' ι H' -> Ms K mg G' ι H' μ -> Rv K G' ι v d -> Q v H') : Q v H := q v G H Ext.refl m r
theorem newT (m : Ms K mg G ι H μ) {vs : List V} {ds : List Vl} (r : RvA K G ι vs ds) (q : ∀ v G' H', Ext G ι H G' ι H' -> Ms K mg G' ι H' μ -> Rv K G' ι v (.tup ds) -> Q v H') : ∀ p, H p = none -> Q (.ref p) (upd H p (.tup vs)) := fun p hp => by
  obtain ⟨m', e'⟩ := m.new (o := .tup vs) hp
  exact q _ _ _ e' m' (.tup upd_same (r.up e'.toXt))
theorem newL (m : Ms K mg G ι H μ) {vs : List V} {ds : List Vl} (r : RvA K G ι vs ds) (q : ∀ v G' H', Ext G ι H G' ι H' -> Ms K mg G' ι H' μ -> Rv K G' ι v (.lst ds) -> Q v H') : ∀ p, H p = none -> Q (.ref p) (upd H p (.lst vs)) := fun p hp => by
  obtain ⟨m', e'⟩ := m.new (o := .lst vs) hp
  exact q _ _ _ e' m' (.lst upd_same (r.up e'.toXt))
theorem newF (m : Ms K mg G ι H μ) {vs : List V} {ds : List Vl} (r : RvA K G ι vs ds) (q : ∀ p H', Ext G ι H G ι H' -> Ms K mg G ι H' μ -> Fsh K mg H G ι H' p (.lst ds) -> Q (.ref p) H') : ∀ p, H p = none -> Q (.ref p) (upd H p (.lst vs)) := fun p hp => by
  obtain ⟨e', m', f'⟩ := m.fsh (p := p) hp r
  exact q _ _ e' m' f'
end
def rStrAdd : R2 := fun x y H Q => ∃ i j, x = .str i /\ y = .str j /\ i.length + j.length <= sizeLine /\ Q (.str (i ++ j)) H
def rAdd4 (K : PySem.W.Frag) : R2 := fun x y H Q => (rI0 (fun i j => V.int (i + j))) x y H Q \/ (rCat x y H Q \/ (rCatA K x y H Q \/ rStrAdd x y H Q))
theorem o_add : DOp X (binaryOp .Add) Fm.gAdd := by
  refine ⟨rAdd4 X.K, op_add.or (op_cat.or (op_catA.or op_add_str)), ?_⟩
  intro x y G H ι μ dx dy dz Q m hx hy e q
  unfold Fm.gAdd at e
  split at e
  . cases e
    exact .inl ⟨_, _, int_of hx, int_of hy, keep m (.int _) q⟩
  . split at e
    . cases e
      rename_i a b _ hz
      obtain ⟨p, xs, rfl, hp, ap⟩ := tup_of hx
      obtain ⟨r, ys, rfl, hr, ar⟩ := tup_of hy
      refine .inr (.inr (.inl ⟨p, r, xs, ys, rfl, rfl, sqt_of (m.s.tup hp), sqt_of (m.s.tup hr), by rw [ap.len, ar.len]; exact big hz, fun e0 => ?_, fun _ e0 => ?_, fun _ _ => newT m (ap.append ar) q⟩))
      . subst e0
        cases ap
        exact keep m hy q
      . subst e0
        cases ar
        rw [List.append_nil] at q
        exact keep m hx q
    . cases e
  . split at e
    . cases e
      rename_i a b _ hz
      exact .inr (.inr (.inr ⟨_, _, str_of hx, str_of hy, big hz, keep m (.str _) q⟩))
    . cases e
  . split at e
    . split at e
      . cases e
        rename_i e1 e2 hz
        obtain ⟨p, xs, rfl, hp, ap⟩ := lstOf_of m hx e1
        obtain ⟨r, ys, rfl, hr, ar⟩ := lstOf_of m hy e2
        exact .inr (.inl ⟨p, r, xs, ys, rfl, rfl, hp, hr, by rw [ap.len, ar.len]; exact big hz, newL m (ap.append ar) q⟩)
      . cases e
    . cases e
theorem gI_of {f : Int -> Int -> Option Vl} {dx dy dz : Vl} (e : Fm.gI f dx dy μ = some dz) : ∃ a b, dx = .int a /\ dy = .int b /\ f a b = some dz := by
  unfold Fm.gI at e
  split at e
  . exact ⟨_, _, rfl, rfl, e⟩
  . cases e
theorem o_sub : DOp X (binaryOp .Sub) Fm.gSub := by
  refine ⟨rI0 fun i j => V.int (i - j), op_sub, ?_⟩
  intro x y G H ι μ dx dy dz Q m hx hy e q
  obtain ⟨a, b, rfl, rfl, e⟩ := gI_of e
  cases e
  exact ⟨_, _, int_of hx, int_of hy, keep m (.int _) q⟩
theorem ite_some {p : Prop} {dp : Decidable p} {α : Type} {a b : α} (e : (if p then some a else none) = some b) : p /\ a = b := by
  split at e
  . cases e
    exact ⟨by assumption, rfl⟩
  . cases e
theorem o_mul : DOp X (binaryOp .Mult) Fm.gMul := by
  refine ⟨rI CMul fun i j => V.int (i * j), op_mul, ?_⟩
  intro x y G H ι μ dx dy dz Q m hx hy e q
  obtain ⟨a, b, rfl, rfl, e⟩ := gI_of e
  obtain ⟨hc, rfl⟩ := ite_some e
  exact ⟨_, _, int_of hx, int_of hy, hc, keep m (.int _) q⟩
theorem log_small {a b : Int} (h0 : 0 < b) (h : b < 10 ^ 100) : CDivW a b := by
  refine wide_div (b := 400) h0 ?_ (by decide) (by decide)
  have e : (10 : Int) ^ 100 < 2 ^ 400 := by decide
  have e2 : (b.natAbs : Int) = b := Int.natAbs_of_nonneg (Int.le_of_lt h0)
  have e3 : (b.natAbs : Int) < ((2 ^ 400 : Nat) : Int) := by
    rw [e2, Int.natCast_pow]
    exact Int.lt_trans h e
  exact Int.ofNat_lt.mp e3
theorem o_div : DOp X (binaryOp .FloorDiv) Fm.gDiv := by
  refine ⟨rI CDivW fun i j => V.int (i / j), op_fdivW, ?_⟩
  intro x y G H ι μ dx dy dz Q m hx hy e q
  obtain ⟨a, b, rfl, rfl, e⟩ := gI_of e
  obtain ⟨hc, rfl⟩ := ite_some e
  exact ⟨_, _, int_of hx, int_of hy, log_small hc.1 hc.2, keep m (.int _) q⟩
theorem o_mod : DOp X (binaryOp .Mod) Fm.gMod := by
  refine ⟨rI (fun _ j => 0 < j) fun i j => V.int (i % j), op_mod, ?_⟩
  intro x y G H ι μ dx dy dz Q m hx hy e q
  obtain ⟨a, b, rfl, rfl, e⟩ := gI_of e
  obtain ⟨hc, rfl⟩ := ite_some e
  exact ⟨_, _, int_of hx, int_of hy, hc, keep m (.int _) q⟩
theorem o_pow : DOp X (binaryOp .Pow) Fm.gPow := by
  refine ⟨rI CPow fun i j => V.int (i ^ j.toNat), op_pow, ?_⟩
  intro x y G H ι μ dx dy dz Q m hx hy e q
  obtain ⟨a, b, rfl, rfl, e⟩ := gI_of e
  obtain ⟨⟨h1, h2, h3, h4⟩, rfl⟩ := ite_some e
  exact ⟨_, _, int_of hx, int_of hy, ⟨h1, by omega, by omega⟩, keep m (.int _) q⟩
theorem ev_cmp {p : Int -> Int -> Bool} : OpD K mg (rI0 fun i j => V.bl (p i j)) (Fm.gI fun a b => some (.bl (p a b))) := by
  intro x y G H ι μ dx dy dz Q m hx hy e q
  obtain ⟨a, b, rfl, rfl, e⟩ := gI_of e
  cases e
  exact ⟨_, _, int_of hx, int_of hy, keep m (.bl _) q⟩
theorem o_lt : DOp X (compareOp .Lt) Fm.gLt := ⟨_, op_lt, ev_cmp⟩
theorem o_le : DOp X (compareOp .LtE) Fm.gLe := ⟨_, op_le, ev_cmp⟩
theorem o_gt : DOp X (compareOp .Gt) Fm.gGt := ⟨_, op_gt, ev_cmp⟩
theorem o_ge : DOp X (compareOp .GtE) Fm.gGe := ⟨_, op_ge, ev_cmp⟩
theorem mapO_dp (m : Ms K mg G ι H μ) {n : Nat} (ih : ∀ (v : V) (d : Vl) (x : PyData), Rv K G ι v d -> Fm.pyV n μ d = some x -> Dp K H v x) : ∀ {vs : List V} {ds : List Vl} {xs : List PyData}, RvA K G ι vs ds -> Fm.mapO (Fm.pyV n μ) ds = some xs -> DpAll K H vs xs
  | _, _, _, .nil, e => by cases e; exact .nil
  | _, _, _, .cons h a, e => by
    obtain ⟨y, e1, e2⟩ := bnd e
    obtain ⟨ys, e3, e4⟩ := bnd e2
    cases e4
    exact .cons (ih _ _ _ h e1) (mapO_dp m ih a e3)
theorem pyV_dp (m : Ms K mg G ι H μ) : ∀ (n : Nat) (v : V) (d : Vl) (x : PyData), Rv K G ι v d -> Fm.pyV n μ d = some x -> Dp K H v x
  | 0, _, _, _, _, e => by cases e
  | n + 1, v, d, x, h, e => by
    unfold Fm.pyV at e
    cases h with
    | non => cases e; exact .non
    | bl b => cases e; exact .bl b
    | int i => cases e; exact .int i
    | str s => cases e; exact .str s
    | lst h a =>
      obtain ⟨ys, e1, e2⟩ := bnd e
      cases e2
      exact .lst (SqL.of (m.s.lst h)) (mapO_dp m (pyV_dp m n) a e1)
    | tup h a =>
      obtain ⟨ys, e1, e2⟩ := bnd e
      cases e2
      exact .tup (sqt_of (m.s.tup h)) (mapO_dp m (pyV_dp m n) a e1)
    | dct h l a => cases e
    | dtt h l a => cases e
    | ins h l a => cases e
    | ltup h => cases e
    | adr a => cases e
    | scr h => cases e
    | ref h =>
      simp only at e
      split at e
      . rename_i q
        obtain ⟨ys, e1, e2⟩ := bnd e
        cases e2
        obtain ⟨a', r1, _, vs, r2, r3⟩ := m.at_ _ _ q
        rw [h] at r1
        cases r1
        exact .lst (SqL.of r2) (mapO_dp m (pyV_dp m n) r3 e1)
      . cases e
theorem gEqB_of {f : Bool -> Bool} {dx dy dz : Vl} (e : Fm.gEqB f dx dy μ = some dz) : ∃ x y, Fm.pyV Fm.depthP μ dx = some x /\ Fm.pyV Fm.depthP μ dy = some y /\ SeqAt.shaped x = true /\ SeqAt.shaped y = true /\ dz = .bl (f (PyData.eqv x y)) := by
  unfold Fm.gEqB at e
  split at e
  . obtain ⟨hc, rfl⟩ := ite_some e
    exact ⟨_, _, by assumption, by assumption, hc.1, hc.2, rfl⟩
  . cases e
theorem o_eq (hu : X.A.units + 64 < cLine) : DOp X (compareOp .Eq) Fm.gEq := by
  refine ⟨rEqD X.K, op_eqD hu, ?_⟩
  intro x y G H ι μ dx dy dz Q m hx hy e q
  obtain ⟨a, b, e1, e2, h1, h2, rfl⟩ := gEqB_of e
  exact ⟨a, b, pyV_dp m _ _ _ _ hx e1, pyV_dp m _ _ _ _ hy e2, h1, h2, keep m (.bl _) q⟩
theorem o_ne (hu : X.A.units + 64 < cLine) : DOp X (compareOp .NotEq) Fm.gNe := by
  refine ⟨rNeD X.K, op_neD hu, ?_⟩
  intro x y G H ι μ dx dy dz Q m hx hy e q
  obtain ⟨a, b, e1, e2, h1, h2, rfl⟩ := gEqB_of e
  exact ⟨a, b, pyV_dp m _ _ _ _ hx e1, pyV_dp m _ _ _ _ hy e2, h1, h2, keep m (.bl _) q⟩
theorem non_dec {v : V} {d : Vl} (h : Rv K G ι v d) : decide (v = .non) = Fm.isNon d := by
  cases h <;> rfl
def rIsN : R2 := fun x y H Q => y = .non /\ Q (.bl (decide (x = .non))) H
theorem o_isN : DOp X (compareOp .Is) Fm.gIsN := by
  refine ⟨rIsN, op_isN, ?_⟩
  intro x y G H ι μ dx dy dz Q m hx hy e q
  unfold Fm.gIsN at e
  split at e
  . cases e
    refine ⟨non_of hy, ?_⟩
    rw [non_dec hx]
    exact keep m (.bl _) q
  . cases e
theorem flatP_of {v : V} {d : Vl} {x : PyData} (h : Rv K G ι v d) (f : Fm.flatP d = some x) : flatV v = true := by
  cases h <;> first | rfl | cases f
theorem flats_of : ∀ {vs : List V} {ds : List Vl} {xs : List PyData}, RvA K G ι vs ds -> Fm.mapO Fm.flatP ds = some xs -> vs.all flatV = true
  | _, _, _, .nil, _ => rfl
  | _, _, _, .cons h a, f => by
    obtain ⟨y, e1, e2⟩ := bnd f
    obtain ⟨ys, e3, e4⟩ := bnd e2
    rw [List.all_cons, flatP_of h e1, flats_of a e3]
    rfl
theorem eqV_of {v u : V} {d e : Vl} {x y : PyData} (h : Rv K G ι v d) (k : Rv K G ι u e) (f : Fm.flatP d = some x) (g : Fm.flatP e = some y) : eqV v u = PyData.eqv x y := by
  cases h <;> first
    | (cases f; done)
    | (cases f; cases k <;> first
        | (cases g; done)
        | (cases g; simp only [eqV, PyData.eqv]))
theorem inV_of {u : V} {e : Vl} {y : PyData} (k : Rv K G ι u e) (g : Fm.flatP e = some y) : ∀ {vs : List V} {ds : List Vl} {xs : List PyData}, RvA K G ι vs ds -> Fm.mapO Fm.flatP ds = some xs -> inV u vs = xs.any (fun z => PyData.eqv z y)
  | _, _, _, .nil, f => by cases f; rfl
  | _, _, _, .cons h a, f => by
    obtain ⟨x, e1, e2⟩ := bnd f
    obtain ⟨ys, e3, e4⟩ := bnd e2
    cases e4
    unfold inV
    rw [List.any_cons, List.any_cons, eqV_of h k e1 g]
    have ih := inV_of k g a e3
    unfold inV at ih
    rw [ih]
theorem ev_in {neg : Bool} : OpD K mg (rIn K neg) (Fm.gIn neg) := by
  intro x y G H ι μ dx dy dz Q m hx hy e q
  unfold Fm.gIn at e
  split at e
  . rename_i ys e1
    split at e
    . rename_i e2 e3
      cases e
      obtain ⟨a, vs, rfl, r, av⟩ := seqOf_of m hy e1
      refine ⟨a, vs, rfl, r.elim (fun z => .inl (SqL.of z)) (fun z => .inr (sqt_of z)), flatP_of hx e2, flats_of av e3, ?_⟩
      rw [inV_of hx e2 av e3]
      exact keep m (.bl _) q
    . cases e
  . cases e
theorem o_in : DOp X (compareOp .In) (Fm.gIn false) := ⟨_, op_in_seq, ev_in⟩
theorem o_nin : DOp X (compareOp .NotIn) (Fm.gIn true) := ⟨_, op_notIn_seq, ev_in⟩
theorem ixN_eq (n : Nat) (i : Int) : Fm.ixN n i = L2.ixN n i := rfl
theorem atI_of {vs : List V} {ds : List Vl} {k : Int} {d : Vl} (h : RvA K G ι vs ds) (e : Fm.atI ds k = some d) : ∃ v, L2.atI vs k = some v /\ Rv K G ι v d := by
  obtain ⟨j, e1, e2⟩ := bnd e
  obtain ⟨v, h1, h2⟩ := h.get e2
  refine ⟨v, ?_, h2⟩
  unfold L2.atI
  rw [h.len, <- ixN_eq, e1]
  exact h1
def rIx2 (K : PySem.W.Frag) : R2 := fun x y H Q => rIxL K x y H Q \/ rIxT K x y H Q
theorem ev_ix : OpD K mg (rIx2 K) Fm.gIx := by
  intro x y G H ι μ dx dy dz Q m hx hy e q
  obtain ⟨xs, e1, e2⟩ := bnd e
  obtain ⟨k, e3, e4⟩ := bnd e2
  have e5 := getI_of e3
  subst e5
  obtain ⟨a, vs, rfl, r, av⟩ := seqOf_of m hx e1
  obtain ⟨v, h1, h2⟩ := atI_of av e4
  rcases r with r | r
  . exact .inl ⟨a, vs, k, v, rfl, int_of hy, SqL.of r, h1, keep m h2 q⟩
  . exact .inr ⟨a, vs, k, v, rfl, int_of hy, sqt_of r, h1, keep m h2 q⟩
theorem dix {W : WX} {pos : Pos} {a b : Expr} {ma mb : ME} (ha : DE X W a ma) (hb : DE X W b mb) (hs : PlainIx b := by intro _ _; rfl) : DE X W (.Subscript a b pos) (Fm.eOp Fm.gIx ma mb) := ⟨PE.imp (pe_ix (ix_list.or ix_tup) ha.p hb.p hs) (op_to ev_ix)⟩
theorem RvA.cut {vs : List V} {ds : List Vl} (h : RvA K G ι vs ds) (lo hi : Option Int) : RvA K G ι (Fm.cut vs lo hi) (Fm.cut ds lo hi) := by
  unfold Fm.cut
  rw [h.len]
  exact (h.drop _).take _
def SlD (K : PySem.W.Frag) (mg : Str -> Option Value) (r : V -> Option Int -> Option Int -> Hp -> VK -> Prop) (g : Vl -> Option Int -> Option Int -> Mem -> Option Vl) : Prop := ∀ (x : V) (lo hi : Option Int) (G H : Hp) (ι : Im) (μ : Mem) (dx dz : Vl) (Q : VK), Ms K mg G ι H μ -> Rv K G ι x dx -> g dx lo hi μ = some dz ->
  (∀ v G' H', Ext G ι H G' ι H' -> Ms K mg G' ι H' μ -> Rv K G' ι v dz -> Q v H') -> r x lo hi H Q
def SlF (K : PySem.W.Frag) (mg : Str -> Option Value) (r : V -> Option Int -> Option Int -> Hp -> VK -> Prop) (g : Vl -> Option Int -> Option Int -> Mem -> Option MO) : Prop := ∀ (x : V) (lo hi : Option Int) (G H : Hp) (ι : Im) (μ : Mem) (dx : Vl) (dz : MO) (Q : VK), Ms K mg G ι H μ -> Rv K G ι x dx -> g dx lo hi μ = some dz ->
  (∀ p H', Ext G ι H G ι H' -> Ms K mg G ι H' μ -> Fsh K mg H G ι H' p dz -> Q (.ref p) H') -> r x lo hi H Q
theorem ev_slL : SlF K mg (rSlL K) Fm.slL := by
  intro x lo hi G H ι μ dx dz Q m hx e q
  obtain ⟨xs, e1, e2⟩ := bnd e
  cases e2
  obtain ⟨a, vs, rfl, r2, r3⟩ := lstOf_of m hx e1
  exact ⟨a, vs, rfl, SqL.of r2, newF m (r3.cut lo hi) q⟩
section
variable {W : WX} {pos p2 : Pos} {a : Expr} {ma : ME} {lo hi : Option Expr} {ml mh : En -> Mem -> Rs (Option Int)}
theorem dslL (ha : DE X W a ma) (hl : DO X W lo ml) (hh : DO X W hi mh) : DF X W (.Subscript a (.Slice lo hi none p2) pos) (Fm.fSl Fm.slL ma ml mh) := ⟨PE.imp (pe_slice sl_list ha.p hl.p hh.p) fun σ H Q ⟨G, ι, Γ, μ, o, h⟩ =>
  ⟨G, ι, Γ, μ, o, Af.bind h fun x μ1 v G1 ι1 H1 _ e1 o1 r1 h1 => ⟨G1, ι1, Γ, μ1, o1, Af.bind h1 fun y μ2 u G2 ι2 H2 _ e2 o2 r2 h2 => ⟨G2, ι2, Γ, μ2, o2, Af.bind h2 fun z μ3 t G3 ι3 H3 _ e3 o3 r3 h3 => by
    cases (show u = y from r2)
    cases (show t = z from r3)
    obtain ⟨w, e, h4⟩ := Af.of h3
    exact ev_slL v y z G3 H3 ι3 μ3 x w Q o3.m (Rv.up e3.toXt (Rv.up e2.toXt r1)) e fun p H' e' m' r' => af_new o3 h4 e' m' r'⟩⟩⟩⟩
end
theorem one_of {vs : List V} {d : Vl} (h : RvA K G ι vs [d]) : ∃ v, vs = [v] /\ Rv K G ι v d := by
  cases h with
  | cons h1 h2 =>
    cases h2
    exact ⟨_, rfl, h1⟩
theorem two_of {vs : List V} {d e : Vl} (h : RvA K G ι vs [d, e]) : ∃ v u, vs = [v, u] /\ Rv K G ι v d /\ Rv K G ι u e := by
  cases h with
  | cons h1 h2 =>
    obtain ⟨u, rfl, h3⟩ := one_of h2
    exact ⟨_, u, rfl, h1, h3⟩
def rLen3 (K : PySem.W.Frag) : List V -> Hp -> VK -> Prop := fun xs H Q => ∃ x n, xs = [x] /\ LenV K x H n /\ Q (.int (n : Nat)) H
theorem ca_len : CaD K mg (rLen3 K) Fm.bLen := by
  intro vs G H ι μ ds dz Q m hv e q
  unfold Fm.bLen at e
  split at e
  . obtain ⟨hz, rfl⟩ := ite_some e
    obtain ⟨v, rfl, h1⟩ := one_of hv
    have h3 := str_of h1
    subst h3
    exact ⟨_, _, rfl, ⟨big hz, rfl⟩, keep m (.int _) q⟩
  . cases e
    obtain ⟨v, rfl, h1⟩ := one_of hv
    obtain ⟨a, rfl, h2⟩ := scr_of h1
    refine ⟨_, _, rfl, .inl ⟨_, m.s.sql h2, rfl⟩, ?_⟩
    rw [List.length_map]
    exact keep m (.int _) q
  . obtain ⟨xs, e1, e2⟩ := bnd e
    cases e2
    obtain ⟨v, rfl, h1⟩ := one_of hv
    obtain ⟨a, us, rfl, r2, r3⟩ := seqOf_of m h1 e1
    refine ⟨_, us.length, rfl, ?_, ?_⟩
    . rcases r2 with r2 | r2
      . exact .inl ⟨us, SqL.of r2, rfl⟩
      . exact .inr ⟨us, sqt_of r2, rfl⟩
    . rw [r3.len]
      exact keep m (.int _) q
  . cases e
theorem bools_of : ∀ {ds : List Vl} {bs : List Bool} {vs : List V}, RvA K G ι vs ds -> Fm.bools ds = some bs -> vs = bs.map V.bl
  | [], _, _, .nil, e => by cases e; rfl
  | _ :: ds, bs, _, .cons h a, e => by
    obtain ⟨y, e1, e2⟩ := bnd e
    obtain ⟨ys, e3, e4⟩ := bnd e2
    cases e4
    have e5 := getB_of e1
    subst e5
    rw [bl_of h, bools_of a e3]
    rfl
theorem ints_of : ∀ {ds : List Vl} {bs : List Int} {vs : List V}, RvA K G ι vs ds -> Fm.intsOf ds = some bs -> vs = bs.map V.int
  | [], _, _, .nil, e => by cases e; rfl
  | _ :: ds, bs, _, .cons h a, e => by
    obtain ⟨y, e1, e2⟩ := bnd e
    obtain ⟨ys, e3, e4⟩ := bnd e2
    cases e4
    have e5 := getI_of e1
    subst e5
    rw [int_of h, ints_of a e3]
    rfl
theorem ca_all : CaD K mg (rAll K) Fm.bAll := by
  intro vs G H ι μ ds dz Q m hv e q
  unfold Fm.bAll at e
  split at e
  . obtain ⟨xs, e1, e2⟩ := bnd e
    obtain ⟨bs, e3, e4⟩ := bnd e2
    cases e4
    obtain ⟨v, rfl, h1⟩ := one_of hv
    obtain ⟨a, us, rfl, r2, r3⟩ := lstOf_of m h1 e1
    have e5 := bools_of r3 e3
    subst e5
    exact ⟨a, bs, rfl, SqL.of r2, keep m (.bl _) q⟩
  . cases e
def rMax3 : List V -> Hp -> VK -> Prop := fun xs H Q => ∃ i j, xs = [.int i, .int j] /\ Q (.int (if j > i then j else i)) H
theorem ca_max2 : CaD K mg rMax3 Fm.bMax2 := by
  intro vs G H ι μ ds dz Q m hv e q
  unfold Fm.bMax2 at e
  split at e
  . cases e
    obtain ⟨v, u, rfl, h1, h2⟩ := two_of hv
    rw [int_of h1, int_of h2]
    exact ⟨_, _, rfl, keep m (.int _) q⟩
  . cases e
def rMin3 : List V -> Hp -> VK -> Prop := fun xs H Q => ∃ i j, xs = [.int i, .int j] /\ Q (.int (if j < i then j else i)) H
theorem ca_min2 : CaD K mg rMin3 Fm.bMin2 := by
  intro vs G H ι μ ds dz Q m hv e q
  unfold Fm.bMin2 at e
  split at e
  . cases e
    obtain ⟨v, u, rfl, h1, h2⟩ := two_of hv
    rw [int_of h1, int_of h2]
    exact ⟨_, _, rfl, keep m (.int _) q⟩
  . cases e
theorem RvA.ivs {ns : List Int} : RvA K G ι (ns.map V.int) (ns.map Vl.int) := by
  induction ns with
  | nil => exact .nil
  | cons n r ih => exact .cons (.int n) ih
def rList3 (K : PySem.W.Frag) : List V -> Hp -> VK -> Prop := fun xs H Q => ∃ p ys, xs = [.ref p] /\ (SqL K H p ys \/ SqT K H p ys) /\ ∀ l, H l = none -> Q (.ref l) (upd H l (.lst ys))
theorem ca_list : CaF K mg (rList3 K) Fm.bList := by
  intro vs G H ι μ ds dz Q m hv e q
  unfold Fm.bList at e
  split at e
  . cases e
    obtain ⟨v, rfl, h1⟩ := one_of hv
    obtain ⟨a, rfl, h2⟩ := scr_of h1
    exact ⟨a, _, rfl, .inl (m.s.sql h2), newF m RvA.ivs q⟩
  . obtain ⟨xs, e1, e2⟩ := bnd e
    cases e2
    obtain ⟨v, rfl, h1⟩ := one_of hv
    obtain ⟨a, us, rfl, r2, r3⟩ := seqOf_of m h1 e1
    exact ⟨a, us, rfl, r2.elim (fun z => .inl (SqL.of z)) (fun z => .inr (sqt_of z)), newF m r3 q⟩
  . cases e
def rTuple3 (K : PySem.W.Frag) : List V -> Hp -> VK -> Prop := fun xs H Q => ∃ p ys, xs = [.ref p] /\ ((SqL K H p ys /\ ∀ l, H l = none -> Q (.ref l) (upd H l (.tup ys))) \/ (SqT K H p ys /\ Q (.ref p) H))
theorem ca_tuple : CaD K mg (rTuple3 K) Fm.bTuple := by
  intro vs G H ι μ ds dz Q m hv e q
  unfold Fm.bTuple at e
  split at e
  . cases e
  . rename_i hne
    obtain ⟨xs, e1, e2⟩ := bnd e
    cases e2
    obtain ⟨v, rfl, h1⟩ := one_of hv
    unfold Fm.seqOf at e1
    split at e1
    . cases e1
      obtain ⟨a, us, rfl, r2, r3⟩ := tup_of h1
      exact ⟨a, us, rfl, .inr ⟨sqt_of (m.s.tup r2), keep m h1 q⟩⟩
    . exact absurd rfl (hne _)
    . obtain ⟨a, us, rfl, r2, r3⟩ := lstOf_of m h1 e1
      exact ⟨a, us, rfl, .inl ⟨SqL.of r2, newT m r3 q⟩⟩
  . cases e
def Blt (X : Cx) (x : Str) (r : List V -> Hp -> VK -> Prop) : Prop := ∀ {e : Expr} {es : List Expr} {t : TA} {p pos : Pos}, Gl X x -> X.mg x = none -> PA X (e :: es) t ->
  starEach (e :: es) X.env = (false, eval e X.env) :: starEach es X.env -> (backTo pos (starEach es X.env)).any (·.1) = false -> PE X (.Call (.Name x p) (e :: es) [] pos) (tCB r t)
structure DB (X : Cx) (x : Str) (g : List Vl -> Mem -> Option Vl) : Prop where
  ex : ∃ r, Blt X x r /\ CaD X.K X.mg r g
structure DBF (X : Cx) (x : Str) (g : List Vl -> Mem -> Option MO) : Prop where
  ex : ∃ r, Blt X x r /\ CaF X.K X.mg r g
theorem db_len : DB X "len" Fm.bLen := ⟨_, fun hg hm ha he hp => pe_callB call_len hg hm boot_len ha (by decide) (by decide) he hp, ca_len⟩
theorem db_all (hc : X.calm = true) : DB X "all" Fm.bAll := ⟨_, fun hg hm ha he hp => pe_callB (cr_all hc) hg hm (by decide +kernel) ha (by decide) (by decide) he hp, ca_all⟩
theorem db_max2 (hc : X.calm = true) : DB X "max" Fm.bMax2 := ⟨_, fun hg hm ha he hp => pe_callB (call_max2 hc) hg hm (by decide +kernel) ha (by decide) (by decide) he hp, ca_max2⟩
theorem db_min2 (hc : X.calm = true) : DB X "min" Fm.bMin2 := ⟨_, fun hg hm ha he hp => pe_callB (call_min2 hc) hg hm (by decide +kernel) ha (by decide) (by decide) he hp, ca_min2⟩
theorem db_list : DBF X "list" Fm.bList := ⟨_, fun hg hm ha he hp => pe_callTy call_list_of hg hm (by decide +kernel) ha (by decide) (by decide) he hp, ca_list⟩
theorem db_tuple : DB X "tuple" Fm.bTuple := ⟨_, fun hg hm ha he hp => pe_callTy call_tuple_of hg hm (by decide +kernel) ha (by decide) (by decide) he hp, ca_tuple⟩
theorem dB {W : WX} {x : Str} {g : List Vl -> Mem -> Option Vl} {e : Expr} {es : List Expr} {m : MA} {p pos : Pos} (b : DB X x g) (hm : X.mg x = none) (ha : DA X W (e :: es) m) (hg : Gl X x := by rfl)
    (he : starEach (e :: es) X.env = (false, eval e X.env) :: starEach es X.env := by rfl) (hp : (backTo pos (starEach es X.env)).any (·.1) = false := by rfl) : DE X W (.Call (.Name x p) (e :: es) [] pos) (Fm.eB g m) := by
  obtain ⟨r, b1, b2⟩ := b.ex
  exact ⟨PE.imp (b1 hg hm ha.p he hp) fun σ H Q ⟨G, ι, Γ, μ, o, h⟩ => ⟨G, ι, Γ, μ, o, Af.bind h fun x μ1 v G1 ι1 H1 _ e1 o1 r1 h1 => by
    obtain ⟨z, e, h3⟩ := Af.of h1
    exact b2 v G1 H1 ι1 μ1 x z Q o1.m r1 e fun v' G' H' e' m' r' => af_val o1 h3 e' m' r'⟩⟩
theorem dBF {W : WX} {x : Str} {g : List Vl -> Mem -> Option MO} {e : Expr} {es : List Expr} {m : MA} {p pos : Pos} (b : DBF X x g) (hm : X.mg x = none) (ha : DA X W (e :: es) m) (hg : Gl X x := by rfl)
    (he : starEach (e :: es) X.env = (false, eval e X.env) :: starEach es X.env := by rfl) (hp : (backTo pos (starEach es X.env)).any (·.1) = false := by rfl) : DF X W (.Call (.Name x p) (e :: es) [] pos) (Fm.fB g m) := by
  obtain ⟨r, b1, b2⟩ := b.ex
  exact ⟨PE.imp (b1 hg hm ha.p he hp) fun σ H Q ⟨G, ι, Γ, μ, o, h⟩ => ⟨G, ι, Γ, μ, o, Af.bind h fun x μ1 v G1 ι1 H1 _ e1 o1 r1 h1 => by
    obtain ⟨z, e, h3⟩ := Af.of h1
    exact b2 v G1 H1 ι1 μ1 x z Q o1.m r1 e fun p H' e' m' r' => af_new o1 h3 e' m' r'⟩⟩
def tyN (μ : Mem) : Vl -> String
  | .non => "NoneType"
  | .bl _ => "bool"
  | .int _ => "int"
  | .str _ => "str"
  | .lst _ => "list"
  | .tup _ => "tuple"
  | _ => "list"
def tyS : Fm.Ty -> String
  | .bool => "bool"
  | .int => "int"
  | .str => "str"
  | .list => "list"
  | .tuple => "tuple"
theorem tyx_of (m : Ms K mg G ι H μ) {v : V} {d : Vl} {T : Fm.Ty} {b : Bool} (h : Rv K G ι v d) (e : Fm.isiB μ T d = some b) : TyX K H v (.type (tyN μ d)) := by
  cases h with
  | non => exact .base .non
  | bl b => exact .base (.bl b)
  | int i => exact .base (.int i)
  | str x => exact .base (.str x)
  | lst h a => exact .base (.lst (m.s.lst h))
  | tup h a =>
    rcases m.s.tup h with q | ⟨o, q⟩
    . exact .base (.tup q)
    . exact .fTuple q
  | dct h l a => cases T <;> cases e
  | dtt h l a => cases T <;> cases e
  | ins h l a => cases T <;> cases e
  | ltup h => cases T <;> cases e
  | adr a => cases T <;> cases e
  | scr h => cases T <;> cases e
  | ref h =>
    rename_i i a
    have e' : ∃ xs, μ[i]? = some (some (.lst xs)) := by
      cases T <;> (unfold Fm.isiB at e; simp only at e; split at e <;> first | exact ⟨_, by assumption⟩ | cases e)
    obtain ⟨xs, q⟩ := e'
    obtain ⟨a', r1, _, vs, r2, r3⟩ := m.at_ _ _ q
    rw [h] at r1
    cases r1
    exact .base (.lst r2)
theorem kit5 {d : Vl} {T : Fm.Ty} {b : Bool} (e : Fm.isiB μ T d = some b) : kitB (tyN μ d) (tyS T) = some b := by
  cases d <;> cases T <;> first
    | (cases e; done)
    | (cases e; simp only [tyN, tyS]; decide +kernel)
    | (unfold Fm.isiB at e; simp only at e; split at e <;> first | (cases e; done) | (cases e; simp only [tyN, tyS]; decide +kernel))
theorem ty5_str (T : Fm.Ty) : bootBuiltins (Str.ofString (tyS T)) = some (.type (tyS T)) := by
  cases T <;> decide +kernel
theorem dIsi (T : Fm.Ty) {W : WX} {y : Str} {a : Expr} {ma : ME} {p p2 pos : Pos} (hm : X.mg "isinstance" = none) (hm2 : X.mg y = none) (ha : DE X W a ma) (hy : y = Str.ofString (tyS T) := by rfl) (hg : Gl X "isinstance" := by rfl) (hg2 : Gl X y := by rfl)
    (hn : y ≠ "__name__" := by decide) (hdb : (y == ("__debug__" : Str)) = false := by decide)
    (hs : starEach [a, .Name y p2] X.env = (false, eval a X.env) :: starEach [.Name y p2] X.env := by rfl) (hs2 : starEach [.Name y p2] X.env = (false, eval (.Name y p2) X.env) :: starEach [] X.env := by rfl)
    (hp : (backTo pos (starEach [.Name y p2] X.env)).any (·.1) = false := by rfl) : DE X W (.Call (.Name "isinstance" p) [a, .Name y p2] [] pos) (Fm.eIsi T ma) := by
  have q := pe_callB (p := p) call_isi hg hm (by decide +kernel) (pa_cons ha.p (pa_cons (pe_bltn (pos := p2) hg2 hm2 (v := .ty (tyS T)) (u := .type (tyS T)) (by rw [hy]; exact ty5_str T) rfl hn hdb) pa_nil hs2) hs) (by decide) (by decide) hs hp
  refine ⟨PE.imp q fun σ H Q ⟨G, ι, Γ, μ, o, h⟩ => ⟨G, ι, Γ, μ, o, Af.bind h fun x μ1 v G1 ι1 H1 _ e1 o1 r1 h1 => ?_⟩⟩
  obtain ⟨z, e, h3⟩ := Af.of h1
  cases w : Fm.isiB μ1 T x with
  | none =>
    rw [w] at e
    cases e
  | some b =>
    rw [w] at e
    cases e
    exact ⟨v, .ty (tyS T), _, _, _, rfl, .ty (tyS T), tyx_of o1.m r1 w, kit_ty (kit5 w), af_val o1 h3 Ext.refl o1.m (.bl _)⟩
end
end L3
end
section
set_option Elab.async false
set_option linter.all false
set_option maxRecDepth 100000
set_option maxHeartbeats 4000000
namespace L3
open PySem L2
open Fm (Vl MO Mem En Rs ME MF MA MT MG MS MI Out So Gd Ky)
def Cf {α : Type} (K : PySem.W.Frag) (mg : Str -> Option Value) (G : Hp) (ι : Im) (H : Hp) (R : Rl α V) (Q : VK) (E : XK) : Rs α -> Prop
  | .no => False
  | .ok x μ' => ∀ b G' ι' H', Ext G ι H G' ι' H' -> Ms K mg G' ι' H' μ' -> R.r H G' ι' H' b x -> Q b H'
  | .ex c r μ' => ∀ C d G' ι' H', Ext G ι H G' ι' H' -> Ms K mg G' ι' H' μ' -> mg c = some (.ref C) -> Xd r d H' -> E (.ref C) d H'
def spG {α : Type} (K : PySem.W.Frag) (mg : Str -> Option Value) (R : Rl α V) (n : Nat) (F : List Vl -> Mem -> Rs α) : Sp := fun vs H Q E => vs.length = n /\ ∃ G ι μ xs, Ms K mg G ι H μ /\ RvA K G ι vs xs /\ Cf K mg G ι H R Q E (F xs μ)
abbrev spV (K : PySem.W.Frag) (mg : Str -> Option Value) (n : Nat) (F : List Vl -> Mem -> Rs Vl) : Sp := spG K mg (rlV K) n F
abbrev spF (K : PySem.W.Frag) (mg : Str -> Option Value) (n : Nat) (F : List Vl -> Mem -> Rs MO) : Sp := spG K mg (rlF K mg) n F
structure Fd (P : Program) (w : World) (K : PySem.W.Frag) (mg : Str -> Option Value) (base : Heap) (x : Str) (k : Nat) (sp : Sp) : Prop where
  ex : ∃ f fd ps, FnOk P w K mg base (L2N.CX P w) k f fd ps sp /\ mg x = some (.ref f) /\ PySem.W.keepIn K (.ref f) = true /\ Binds K fd ps []
section
variable {α : Type} {X : Cx} {W : WX} {R : Rl α V} {x : Str} {k n : Nat} {e : Expr} {es : List Expr} {m : MA} {p pos : Pos}
theorem call_to {F : List Vl -> Mem -> Rs α} (hF : ∀ xs μ, F xs μ ≠ .no -> xs.length = n) : ∀ σ H Q, tG X.K X.mg W R (fun Γ μ => (m Γ μ).bind F) σ H Q -> tCallS (spG X.K X.mg R n F) (WE W) (tA X.K X.mg W m) σ H Q := fun σ H Q ⟨G, ι, Γ, μ, o, h⟩ =>
  ⟨G, ι, Γ, μ, o, Af.bind h fun xs μ1 vs G1 ι1 H1 _ e1 o1 r1 h1 => by
    refine ⟨?_, G1, ι1, μ1, xs, o1.m, r1, ?_⟩
    . rw [RvA.len r1]
      exact hF xs μ1 fun z => by rw [z] at h1; exact h1
    . cases q : F xs μ1 with
      | no =>
        rw [q] at h1
        exact h1
      | ok y μ' =>
        rw [q] at h1
        exact fun v G' ι' H' e' m' r' => h1 v G' ι' H' e' (o1.step e'.toXt m') r'
      | ex c r μ' =>
        rw [q] at h1
        exact fun C d G' ι' H' e' m' hc hx => h1 C d G' ι' H' e' (o1.step e'.toXt m') hc hx⟩
theorem dcall {F : List Vl -> Mem -> Rs Vl} (f : Fd X.prog X.w X.K X.mg X.base x k (spV X.K X.mg n F)) (hr : Room k X.A) (tk : L2N.Takes X W) (ha : DA X W (e :: es) m) (hF : ∀ xs μ, F xs μ ≠ .no -> xs.length = n) (hg : Gl X x := by rfl)
    (hdb : (x == ("__debug__" : Str)) = false := by decide) (he : starEach (e :: es) X.env = (false, eval e X.env) :: starEach es X.env := by rfl) (hpl : (backTo pos (starEach es X.env)).any (·.1) = false := by rfl) :
    DE X W (.Call (.Name x p) (e :: es) [] pos) (Fm.eCall F m) := by
  obtain ⟨g, fd, ps, F1, F2, F3, F4⟩ := f.ex
  exact ⟨PE.imp (pe_callS F1 hr hg F2 F3 F4 (fun σ => L2N.passAt tk σ) ha.p hdb he hpl) (call_to hF)⟩
theorem dcallF {F : List Vl -> Mem -> Rs MO} (f : Fd X.prog X.w X.K X.mg X.base x k (spF X.K X.mg n F)) (hr : Room k X.A) (tk : L2N.Takes X W) (ha : DA X W (e :: es) m) (hF : ∀ xs μ, F xs μ ≠ .no -> xs.length = n) (hg : Gl X x := by rfl)
    (hdb : (x == ("__debug__" : Str)) = false := by decide) (he : starEach (e :: es) X.env = (false, eval e X.env) :: starEach es X.env := by rfl) (hpl : (backTo pos (starEach es X.env)).any (·.1) = false := by rfl) :
    DF X W (.Call (.Name x p) (e :: es) [] pos) (Fm.fCall F m) := by
  obtain ⟨g, fd, ps, F1, F2, F3, F4⟩ := f.ex
  exact ⟨PE.imp (pe_callS F1 hr hg F2 F3 F4 (fun σ => L2N.passAt tk σ) ha.p hdb he hpl) (call_to hF)⟩
theorem fnV_len {k n : Nat} {b : MS} : ∀ xs μ, Fm.fnV k n b xs μ ≠ .no -> xs.length = k := fun xs μ e => by
  unfold Fm.fnV at e
  split at e
  . assumption
  . exact absurd rfl e
theorem fnF_len {k n : Nat} {b : MS} : ∀ xs μ, Fm.fnF k n b xs μ ≠ .no -> xs.length = k := fun xs μ e => by
  unfold Fm.fnF at e
  split at e
  . assumption
  . exact absurd rfl e
end
def Off (ts : List Nat) (σ σ' : St) : Prop := σ'.length = σ.length /\ ∀ j, j ∉ ts -> σ'[j]? = σ[j]?
def tTg (K : PySem.W.Frag) (mg : Str -> Option Value) (m : MG) (ts : List Nat) : TG := fun v σ H Q => ∃ G ι Γ μ x Γ', Ok K mg G ι H σ Γ μ /\ Rv K G ι v x /\ m x Γ = some Γ' /\ ∀ σ', Off ts σ σ' -> Ok K mg G ι H σ' Γ' μ -> Q σ' H
def tTgs (K : PySem.W.Frag) (mg : Str -> Option Value) (m : List Vl -> En -> Option En) (ts : List Nat) : TGs := fun vs σ H Q => ∃ G ι Γ μ xs Γ', Ok K mg G ι H σ Γ μ /\ RvA K G ι vs xs /\ m xs Γ = some Γ' /\ ∀ σ', Off ts σ σ' -> Ok K mg G ι H σ' Γ' μ -> Q σ' H
structure DG (X : Cx) (e : Expr) (m : MG) (ts : List Nat) : Prop where
  p : PG X e (tTg X.K X.mg m ts)
structure DGs (X : Cx) (es : List Expr) (m : List Vl -> En -> Option En) (ts : List Nat) : Prop where
  p : PGs X es (tTgs X.K X.mg m ts)
section
variable {X : Cx} {pos : Pos} {K : PySem.W.Frag}
theorem PG.imp {e : Expr} {t t' : TG} (h : PG X e t) (k : ∀ v σ H Q, t' v σ H Q -> t v σ H Q) : PG X e t' := ⟨fun pins s σ H v u Q I r q => h.run pins s σ H v u Q I r (k v σ H Q q)⟩
theorem PGs.imp {e : List Expr} {t t' : TGs} (h : PGs X e t) (k : ∀ v σ H Q, t' v σ H Q -> t v σ H Q) : PGs X e t' := ⟨fun pins s σ H v u Q I r q => h.run pins s σ H v u Q I r (k v σ H Q q)⟩
theorem Off.refl {ts : List Nat} {σ : St} : Off ts σ σ := ⟨rfl, fun _ _ => rfl⟩
theorem Off.trans {ts us : List Nat} {σ σ1 σ2 : St} (a : Off ts σ σ1) (b : Off us σ1 σ2) : Off (ts ++ us) σ σ2 :=
  ⟨b.1.trans a.1, fun j n => (b.2 j fun z => n (List.mem_append_right _ z)).trans (a.2 j fun z => n (List.mem_append_left _ z))⟩
theorem gn (i : Nat) {x : Str} (nd : X.N.Nodup) (hi : X.N[i]? = some x := by rfl) (hx : Loc X.env.scope x := by first | exact Or.inl rfl | exact Or.inr rfl) (hf : X.fn x = true \/ X.env.scope.names.lookup x = some .local := by first | exact .inl rfl | exact .inr rfl) :
    DG X (.Name x pos) (Fm.gName i) [i] := ⟨PG.imp (pg_name nd hi hx hf) fun v σ H Q ⟨G, ι, Γ, μ, x, Γ', o, r, e, q⟩ => by
  cases e
  exact q _ ⟨List.length_set .., fun j n => List.getElem?_set_ne (fun z => n (by rw [z]; exact List.mem_singleton.mpr rfl))⟩ (o.set r i)⟩
theorem gsn : DGs X [] Fm.gsNil [] := ⟨PGs.imp pgs_nil fun v σ H Q ⟨G, ι, Γ, μ, xs, Γ', o, r, e, q⟩ => by
  cases r with
  | nil =>
    cases e
    exact ⟨rfl, q _ Off.refl o⟩
  | cons _ _ => cases e⟩
theorem gsc {e : Expr} {es : List Expr} {m : MG} {ms : List Vl -> En -> Option En} {ts us : List Nat} (h : DG X e m ts) (r : DGs X es ms us) (hs : (assignEach (e :: es) X.env).map (·.2) = assign e X.env :: (assignEach es X.env).map (·.2) := by rfl) :
    DGs X (e :: es) (Fm.gsCons m ms) (ts ++ us) := ⟨PGs.imp (pgs_cons h.p r.p hs) fun v σ H Q ⟨G, ι, Γ, μ, xs, Γ', o, r, e, q⟩ => by
  cases r with
  | nil => cases e
  | cons r1 r2 =>
    obtain ⟨Γ1, e1, e2⟩ := bnd e
    exact ⟨_, _, rfl, G, ι, Γ, μ, _, Γ1, o, r1, e1, fun σ' o1 h1 => ⟨G, ι, Γ1, μ, _, Γ', h1, r2, e2, fun σ2 o2 h2 => q σ2 (o1.trans o2) h2⟩⟩⟩
theorem gt {es : List Expr} {ms : List Vl -> En -> Option En} {ts : List Nat} {k n : Nat} (h : DGs X es ms ts) (hc : X.calm = true := by rfl) (hn : (assignEach es X.env).length = n := by rfl) (hst : (assignEach es X.env).findIdx? (·.1) = none := by rfl) :
    DG X (.Tuple es k pos) (Fm.gTup n ms) ts := ⟨PG.imp (pg_tup hc h.p hn hst) fun v σ H Q ⟨G, ι, Γ, μ, x, Γ', o, r, e, q⟩ => by
  obtain ⟨xs, e1, e2⟩ := bnd e
  have e3 := getT_of e1
  subst e3
  split at e2
  . rename_i hl
    obtain ⟨a, vs, rfl, r2, r3⟩ := tup_of r
    exact ⟨a, vs, rfl, sqt_of (o.m.s.tup r2), by rw [r3.len]; exact hl, G, ι, Γ, μ, xs, Γ', o, r3, e2, q⟩
  . cases e2⟩
end
def As (K : PySem.W.Frag) (mg : Str -> Option Value) (W : WX) (G : Hp) (ι : Im) (H : Hp) (D : Ends) : So -> Prop
  | none => False
  | some (.nx Γ', μ') => ∀ σ' G' ι' H', Ext G ι H G' ι' H' -> Ok K mg G' ι' H' σ' Γ' μ' -> D.nx σ' H'
  | some (.bk Γ', μ') => ∀ σ' G' ι' H', Ext G ι H G' ι' H' -> Ok K mg G' ι' H' σ' Γ' μ' -> D.bk σ' H'
  | some (.ct Γ', μ') => ∀ σ' G' ι' H', Ext G ι H G' ι' H' -> Ok K mg G' ι' H' σ' Γ' μ' -> D.ct σ' H'
  | some (.rt x, μ') => ∀ v G' ι' H', Ext G ι H G' ι' H' -> Ms K mg G' ι' H' μ' -> Rv K G' ι' v x -> D.rt v H'
  | some (.rf none o, μ') => ∀ p G' ι' H', Ext G ι H G' ι' H' -> Ms K mg G' ι' H' μ' -> Fsh K mg H G' ι' H' p o -> D.rt (.ref p) H'
  | some (.rf (some i) o, μ') => ∀ p G' ι' H', Ext G ι H G' ι' H' -> Ms K mg G' ι' H' μ' -> G' p = none -> ι' i = some p -> Ro K mg G' ι' H' p o -> D.rt (.ref p) H'
  | some (.ex c r Γ', μ') => ∀ C d σ' G' ι' H', Ext G ι H G' ι' H' -> Ok K mg G' ι' H' σ' Γ' μ' -> mg c = some (.ref C) -> Xd r d H' -> W (.ref C) d σ' H'
def tS (K : PySem.W.Frag) (mg : Str -> Option Value) (W : WX) (m : MS) : TS := fun D σ H => ∃ G ι Γ μ, Ok K mg G ι H σ Γ μ /\ As K mg W G ι H D (m Γ μ)
structure DS (X : Cx) (W : WX) (st : Stmt) (m : MS) : Prop where
  p : PS X st (tS X.K X.mg W m)
structure DSs (X : Cx) (W : WX) (st : List Stmt) (m : MS) : Prop where
  p : PSs X st (tS X.K X.mg W m)
section
variable {α β : Type} {K : PySem.W.Frag} {mg : Str -> Option Value} {W : WX} {σ : St} {Γ : En} {G G1 H H1 : Hp} {ι ι1 : Im} {R : Rl α β} {Q : β -> Hp -> Prop} {D : Ends}
theorem As.up {o : So} (e : Ext G ι H G1 ι1 H1) (h : As K mg W G ι H D o) : As K mg W G1 ι1 H1 D o := by
  match o with
  | none => exact h
  | some (.nx Γ', μ') => exact fun σ' G' ι' H' e' o => h σ' G' ι' H' (e.trans e') o
  | some (.bk Γ', μ') => exact fun σ' G' ι' H' e' o => h σ' G' ι' H' (e.trans e') o
  | some (.ct Γ', μ') => exact fun σ' G' ι' H' e' o => h σ' G' ι' H' (e.trans e') o
  | some (.rt x, μ') => exact fun v G' ι' H' e' o => h v G' ι' H' (e.trans e') o
  | some (.rf none x, μ') => exact fun v G' ι' H' e' o f => h v G' ι' H' (e.trans e') o ⟨e.back f.z, f.g, f.n, f.r⟩
  | some (.rf (some i) x, μ') => exact fun v G' ι' H' e' o => h v G' ι' H' (e.trans e') o
  | some (.ex c r Γ', μ') => exact fun C d σ' G' ι' H' e' o => h C d σ' G' ι' H' (e.trans e') o
theorem As.st {r : Rs α} {f : α -> Mem -> So} (h : As K mg W G ι H D (r.st Γ f))
    (k : ∀ x μ1 b G1 ι1 H1, r = .ok x μ1 -> Ext G ι H G1 ι1 H1 -> Ok K mg G1 ι1 H1 σ Γ μ1 -> R.r H G1 ι1 H1 b x -> As K mg W G1 ι1 H1 D (f x μ1) -> Q b H1) : Af K mg W σ Γ G ι H R Q r := by
  cases r with
  | no => exact h
  | ok x μ' => exact fun b G' ι' H' e' o r => k x μ' b G' ι' H' rfl e' o r (As.up e' h)
  | ex c r μ' => exact fun C d G' ι' H' e' o r x => h C d σ G' ι' H' e' o r x
theorem As.st0 {r : Rs α} {f : α -> Mem -> So} (h : As K mg W G ι H D (r.st Γ f))
    (k : ∀ x μ1 b G1 ι1 H1, r = .ok x μ1 -> Ext G ι H G1 ι1 H1 -> Ok K mg G1 ι1 H1 σ Γ μ1 -> R.r H G1 ι1 H1 b x -> As K mg W G ι H D (f x μ1) -> Q b H1) : Af K mg W σ Γ G ι H R Q r := by
  cases r with
  | no => exact h
  | ok x μ' => exact fun b G' ι' H' e' o r => k x μ' b G' ι' H' rfl e' o r h
  | ex c r μ' => exact fun C d G' ι' H' e' o r x => h C d σ G' ι' H' e' o r x
end
section
variable {X : Cx} {W : WX} {pos : Pos} {e : Expr} {m : ME}
theorem sn : DSs X W [] Fm.sNext := ⟨PSs.imp pss_nil fun D σ H ⟨G, ι, Γ, μ, o, h⟩ => h σ G ι H Ext.refl o⟩
theorem seq_to {a b : MS} : ∀ D σ H, tS X.K X.mg W (Fm.sSeq a b) D σ H -> tSeq (tS X.K X.mg W a) (tS X.K X.mg W b) D σ H := fun D σ H ⟨G, ι, Γ, μ, o, h⟩ => ⟨G, ι, Γ, μ, o, by
  unfold Fm.sSeq at h
  match q : a Γ μ with
  | none =>
    rw [q] at h
    exact h
  | some (.nx Γ', μ') =>
    rw [q] at h
    exact fun σ' G' ι' H' e' o' => ⟨G', ι', Γ', μ', o', As.up e' h⟩
  | some (.bk Γ', μ') =>
    rw [q] at h
    exact h
  | some (.ct Γ', μ') =>
    rw [q] at h
    exact h
  | some (.rt x, μ') =>
    rw [q] at h
    exact h
  | some (.rf none x, μ') =>
    rw [q] at h
    exact h
  | some (.rf (some i) x, μ') =>
    rw [q] at h
    exact h
  | some (.ex c r Γ', μ') =>
    rw [q] at h
    exact h⟩
theorem sc {st : Stmt} {rest : List Stmt} {a b : MS} (h : DS X W st a) (k : DSs X W rest b) : DSs X W (st :: rest) (Fm.sSeq a b) := ⟨PSs.imp (pss_cons h.p k.p) seq_to⟩
theorem s1 {st : Stmt} {a : MS} (h : DS X W st a) : DSs X W [st] a := ⟨pss_one h.p⟩
theorem asg_to {g : MG} {ts : List Nat} : ∀ D σ H, tS X.K X.mg W (Fm.sAsg m g) D σ H -> tAsg (tE X.K X.mg W m) (tTg X.K X.mg g ts) D σ H := fun D σ H ⟨G, ι, Γ, μ, o, h⟩ =>
  ⟨G, ι, Γ, μ, o, As.st h fun x μ1 v G1 ι1 H1 _ e1 o1 r1 h1 => by
    cases q : g x Γ with
    | none =>
      rw [q] at h1
      exact False.elim h1
    | some Γ1 =>
      rw [q] at h1
      exact ⟨G1, ι1, Γ, μ1, x, Γ1, o1, r1, q, fun σ' _ o' => h1 σ' G1 ι1 H1 Ext.refl o'⟩⟩
theorem sset {x : Str} {pos' : Pos} (i : Nat) (nd : X.N.Nodup) (he : DE X W e m) (hi : X.N[i]? = some x := by rfl) (hx : Loc X.env.scope x := by first | exact Or.inl rfl | exact Or.inr rfl) (hs : swapsWith e (some (.Name x pos')) pos.line X.env = pure false := by rfl)
    (hf : X.fn x = true \/ X.env.scope.names.lookup x = some .local := by first | exact .inl rfl | exact .inr rfl) : DS X W (.Assign [.Name x pos'] e pos) (Fm.sAsg m (Fm.gName i)) := ⟨PS.imp (ps_set nd hi hx he.p hs hf) fun D σ H ⟨G, ι, Γ, μ, o, h⟩ =>
  ⟨G, ι, Γ, μ, o, As.st h fun x μ1 v G1 ι1 H1 _ e1 o1 r1 h1 => h1 _ G1 ι1 H1 Ext.refl (o1.set r1 i)⟩⟩
theorem sasg {tg : Expr} {g : MG} {ts : List Nat} (he : DE X W e m) (hg : DG X tg g ts) (hs : swapsWithSole [tg] e pos.line X.env = pure false := by rfl) (hw : swappedStores [tg] e X.env = pure none := by rfl)
    (h1 : (assignEach [tg] X.env).map (·.2) = [assign tg X.env] := by rfl) : DS X W (.Assign [tg] e pos) (Fm.sAsg m g) := ⟨PS.imp (ps_asg he.p hg.p hs hw h1) asg_to⟩
theorem sexpr (he : DE X W e m) (hs : swapsWith e none pos.line X.env = pure false := by rfl) : DS X W (.Expr e pos) (Fm.sDrop m) := ⟨PS.imp (ps_expr he.p hs) fun D σ H ⟨G, ι, Γ, μ, o, h⟩ =>
  ⟨G, ι, Γ, μ, o, As.st h fun x μ1 v G1 ι1 H1 _ e1 o1 r1 h1 => h1 σ G1 ι1 H1 Ext.refl o1⟩⟩
theorem sret (he : DE X W e m) : DS X W (.Return (some e) pos) (Fm.sRet m) := ⟨PS.imp (ps_ret he.p) fun D σ H ⟨G, ι, Γ, μ, o, h⟩ =>
  ⟨G, ι, Γ, μ, o, As.st h fun x μ1 v G1 ι1 H1 _ e1 o1 r1 h1 => h1 v G1 ι1 H1 Ext.refl o1.m r1⟩⟩
theorem sretF {f : MF} (he : DF X W e f) : DS X W (.Return (some e) pos) (Fm.sRetF f) := ⟨PS.imp (ps_ret he.p) fun D σ H ⟨G, ι, Γ, μ, o, h⟩ =>
  ⟨G, ι, Γ, μ, o, As.st0 h fun x μ1 v G1 ι1 H1 _ e1 o1 r1 h1 => by
    obtain ⟨p, rfl, f⟩ := r1
    exact h1 p G1 ι1 H1 e1 o1.m f⟩⟩
theorem sif {c : Expr} {a b : List Stmt} {mc : MT} {ma mb : MS} (hc : DT X W c mc) (ha : DSs X W a ma) (hb : DSs X W b mb) : DS X W (.If c a b pos) (Fm.sIf mc ma mb) := ⟨PS.imp (ps_if hc.p ha.p hb.p) fun D σ H ⟨G, ι, Γ, μ, o, h⟩ =>
  ⟨G, ι, Γ, μ, o, As.st h fun x μ1 v G1 ι1 H1 _ e1 o1 r1 h1 => by
    cases (show v = x from r1)
    cases x with
    | true =>
      rw [if_pos rfl]
      exact ⟨G1, ι1, Γ, μ1, o1, h1⟩
    | false =>
      rw [if_neg Bool.false_ne_true]
      exact ⟨G1, ι1, Γ, μ1, o1, h1⟩⟩⟩
theorem memL_of {K : PySem.W.Frag} {mg : Str -> Option Value} {G H : Hp} {ι : Im} {μ : Mem} (m : Ms K mg G ι H μ) {v : V} {d : Vl} {i : Nat} {xs : List Vl} (h : Rv K G ι v d) (e : Fm.memL μ d = some (i, xs)) :
    ∃ a vs, v = .ref a /\ d = .ref i /\ ι i = some a /\ μ[i]? = some (some (.lst xs)) /\ H a = some (.lst vs) /\ RvA K G ι vs xs := by
  unfold Fm.memL at e
  split at e
  . split at e
    . cases e
      rename_i q
      obtain ⟨a, rfl, r⟩ := ref_of h
      obtain ⟨a', r1, _, vs, r2, r3⟩ := m.at_ _ _ q
      rw [r] at r1
      cases r1
      exact ⟨a, vs, rfl, rfl, r, q, r2, r3⟩
    . cases e
  . cases e
theorem sapp {o : Expr} {mo : ME} {p2 p3 p4 : Pos} (ho : DE X W o mo) (he : DE X W e m) (hbase : attributeBase o "append" X.env (eval o X.env) = eval o X.env := by rfl)
    (hfew : ((backTo p3 (starEach [e] X.env)).all (fun x => !x.1) && (backToKw p3 (keywordEach [] X.env)).all (fun x => x.1.isSome)
      && decide (([e] : List Expr).length + ([] : List Keyword).length + (if ([] : List Keyword).isEmpty then 0 else 1) < 30)) = true := by rfl)
    (hline : (p2.endLine == p3.line) = true := by rfl) (hs : starEach [e] X.env = (false, eval e X.env) :: starEach [] X.env := by rfl) (hplain : (backTo p3 (starEach [] X.env)).any (·.1) = false := by rfl)
    (hsw : swapsWith (.Call (.Attribute o "append" p2) [e] [] p3) none p4.line X.env = pure false := by rfl) :
    DS X W (.Expr (.Call (.Attribute o "append" p2) [e] [] p3) p4) (Fm.sApp mo m) :=
  ⟨PS.imp (ps_expr (pe_bm PySem.F.plainAttrs_list PySem.F.slot_list_append PySem.F.type_list_append mt_append ho.p (pa_cons he.p pa_nil hs) hbase hfew hline hs hplain) hsw) fun D σ H ⟨G, ι, Γ, μ, o, h⟩ =>
  ⟨G, ι, Γ, μ, o, As.st h fun x μ1 v G1 ι1 H1 _ e1 o1 r1 h1 => by
    split at h1
    . exact False.elim h1
    . rename_i q1
      obtain ⟨a, vs, rfl, _, _, _, q2, _⟩ := memL_of o1.m r1 q1
      refine ⟨Or.inl ⟨rfl, _, SqL.of q2⟩, G1, ι1, Γ, μ1, o1, As.st h1 fun y μ2 u G2 ι2 H2 _ e2 o2 r2 h2 => ?_⟩
      split at h2
      . rename_i i xs q3
        split at h2
        . rename_i hz
          obtain ⟨a', us, z, _, r3, r4, r5, r6⟩ := memL_of o2.m (Rv.up e2.toXt r1) q3
          cases z
          refine ⟨_, us, u, rfl, rfl, r5, by rw [r6.len]; exact bigL hz, ?_⟩
          obtain ⟨m', e'⟩ := o2.m.chg (o' := .lst (xs ++ [y])) (u := .lst (us ++ [u])) r4 r3 (fun _ _ z => by rw [r5] at z; cases z) ⟨_, upd_same, r6.append (.one r2)⟩
          exact h2 σ G2 ι2 _ e' (o2.step e'.toXt m')
        . exact False.elim h2
      . exact False.elim h2⟩⟩
theorem ssetIx {o b : Expr} {mo mb : ME} {p2 : Pos} (ho : DE X W o mo) (hb : DE X W b mb) (he : DE X W e m) (ha : ∀ v, assign (.Subscript o b p2) X.env v = (do
      let ov <- holding [v] (eval o X.env)
      let iv <- holding [v, ov] (eval b X.env)
      standAt p2
      holding [v, ov, iv] (setItem ov iv v)
      release [v, ov, iv] []) := by intro _; rfl) (hs : swapsWithSole [.Subscript o b p2] e pos.line X.env = pure false := by rfl) (hw : swappedStores [.Subscript o b p2] e X.env = pure none := by rfl)
    (h1 : (assignEach [.Subscript o b p2] X.env).map (·.2) = [assign (.Subscript o b p2) X.env] := by rfl) : DS X W (.Assign [.Subscript o b p2] e pos) (Fm.sSetIx mo mb m) :=
  ⟨PS.imp (ps_asg he.p (pg_sub ho.p hb.p set_list ha) hs hw h1) fun D σ H ⟨G, ι, Γ, μ, o, h⟩ =>
  ⟨G, ι, Γ, μ, o, As.st h fun x μ1 v G1 ι1 H1 _ e1 o1 r1 h1 => ⟨G1, ι1, Γ, μ1, o1, As.st h1 fun y μ2 u G2 ι2 H2 _ e2 o2 r2 h2 => ⟨G2, ι2, Γ, μ2, o2, As.st h2 fun k μ3 t G3 ι3 H3 _ e3 o3 r3 h3 => by
    split at h3
    . rename_i i xs k' q1 q2
      have q3 := getI_of q2
      subst q3
      split at h3
      . rename_i ys q4
        obtain ⟨j, q5, q6⟩ := bnd q4
        cases q6
        obtain ⟨a, us, rfl, _, w3, w4, w5, w6⟩ := memL_of o3.m (Rv.up e3.toXt r2) q1
        have r1' := Rv.up e3.toXt (Rv.up e2.toXt r1)
        obtain ⟨m', e'⟩ := o3.m.chg (o' := .lst (xs.set j x)) (u := .lst (us.set j v)) w4 w3 (fun _ _ z => by rw [w5] at z; cases z) ⟨_, upd_same, w6.set r1' j⟩
        refine ⟨a, us, k', j, rfl, int_of r3, w5, by rw [w6.len]; exact q5, h3 σ G3 ι3 _ e' (o3.step e'.toXt m')⟩
      . exact False.elim h3
    . exact False.elim h3⟩⟩⟩⟩
section
variable {o : Expr} {mo : ME} {p2 p3 : Pos}
end
end
end L3
end
section
set_option Elab.async false
set_option linter.all false
set_option maxRecDepth 100000
set_option maxHeartbeats 4000000
namespace L2
open PySem PySem.Spec PyProof.Rows
theorem turn_long {P : Program} {w : World} {K : PySem.W.Frag} {tg : Expr} (it : Addr) (lo : Int) (n : Nat) : Turn P w K tg (Itr lo n) [it] it (fun i h => IsLongIter h it (lo + (i : Nat) * 1) ((n : Int) - (i : Nat)) 1) where
  mem := by simp
  obj := fun i h st b hb => by
    have e : b = it := by simpa using hb
    subst e
    exact ⟨_, st, fun v z => by
      have z' : Data.fields _ = Data.cell v := z
      cases z'⟩
  keep := fun i h h' st k => k it (by simp) _ st
  item := by
    intro X hP hw hK hc i pins s σ H E I hf st hg
    subst hP hw hK
    obtain ⟨f0, f1, f2, f3, f4, f5⟩ := hf it (by simp)
    have W := Walks.longrange (prog := X.prog) (w := X.w) (I.ok.hd hc) it lo 1 n
    refine W.item i s _ _ hg st fun v h' tk hv st' kk => ?_
    obtain ⟨t, rfl⟩ := hv
    have I1 : Inv X pins σ H { s with heap := h', toks := tk } := I.turned (fun b o hb e => kk b o (by simpa using hb) e) f0 f1 f3 f4 f5
    refine ⟨_, rfl, go_of (s := { s with heap := h', toks := tk }) (n := "longrange_iterator") st' rfl rfl (by decide) ⟨.int (lo + i), H, I1, ⟨t, ?_⟩, ⟨rfl, rfl⟩, st', fun b hb => (hf b hb).1⟩⟩
    rw [Int.mul_one]
  done := by
    intro X hP hw hK hc i pins s σ H E I hf st hg
    subst hP hw hK
    obtain ⟨f0, f1, f2, f3, f4, f5⟩ := hf it (by simp)
    exact wpAny_pyNext_long_end (I.ok.hd hc) st (by have : n <= i := hg; omega) fun h' eb => ⟨rfl, I.turned (t' := s.toks) (fun b o hb e => eb b o hb e) f0 f1 f3 f4 f5⟩
  self := fun _ _ _ _ _ st h => wpAny_pyIter_longiter st h
section
variable {X : Cx} {tg : Expr}
theorem range_itw {pins : List (Addr × Obj)} {σ : St} {H : Hp} {s : Shared} {R : It -> Hp -> Prop} {E : Value -> Shared -> Prop} {lo hi : Int} {t u v : Tok} {tk : Nat} (I : Inv X pins σ H s)
    (q : R (Itr lo (hi - lo).toNat) H) : wpAny (model X.prog X.w) X.A (pyIter (.ref s.heap.objs.size)) (PIE X pins σ tg R) E { s with heap := s.heap.push { cls := .type "range", data := .fields #[.int lo t, .int hi u, .int 1 v] }, toks := tk } := by
  have I1 : Inv X pins σ H { s with heap := s.heap.push { cls := .type "range", data := .fields #[.int lo t, .int hi u, .int 1 v] }, toks := tk } := I.kept fun b o e => Heap.get?_push_of_some _ e
  have e1 : lo + ((0 : Nat) : Int) * 1 = lo := by simp
  have e2 : (((hi - lo).toNat : Nat) : Int) - ((0 : Nat) : Int) = Builtin.Range.rangeSize lo hi 1 := by rw [rangeSize_one]; split <;> omega
  have fp : ∀ b ∈ [(s.heap.push { cls := .type "range", data := .fields #[.int lo t, .int hi u, .int 1 v] }).objs.size], FpOk X pins H b := fun b hb => by
    have e : b = (s.heap.push { cls := .type "range", data := .fields #[.int lo t, .int hi u, .int 1 v] }).objs.size := by simpa using hb
    subst e
    exact I1.fpOk (Nat.le_refl _) (I1.hok.fresh (Nat.le_refl _))
  cases hs : Builtin.Range.small lo hi 1 with
  | true =>
    refine wpAny_pyIter_range (IsRange.new ..) hs ?_
    refine ⟨(s.heap.push { cls := .type "range", data := .fields #[.int lo t, .int hi u, .int 1 v] }).objs.size, [(s.heap.push { cls := .type "range", data := .fields #[.int lo t, .int hi u, .int 1 v] }).objs.size], _, _, H, rfl,
      I1.kept (t' := tk) fun b o e => Heap.get?_push_of_some _ e, turn_range _ lo (hi - lo).toNat, ?_, fp, q⟩
    show IsRangeIter _ _ (lo + ((0 : Nat) : Int) * 1) ((((hi - lo).toNat : Nat) : Int) - ((0 : Nat) : Int)) 1
    rw [e1, e2]
    exact Heap.get?_push_size _ rfl
  | false =>
    refine wpAny_pyIter_longrange (IsRange.new ..) hs ?_
    refine ⟨(s.heap.push { cls := .type "range", data := .fields #[.int lo t, .int hi u, .int 1 v] }).objs.size, [(s.heap.push { cls := .type "range", data := .fields #[.int lo t, .int hi u, .int 1 v] }).objs.size], _, _, H, rfl,
      I1.kept (t' := tk) fun b o e => Heap.get?_push_of_some _ e, turn_long _ lo (hi - lo).toNat, ?_, fp, q⟩
    show IsLongIter _ _ (lo + ((0 : Nat) : Int) * 1) ((((hi - lo).toNat : Nat) : Int) - ((0 : Nat) : Int)) 1
    rw [e1, e2]
    exact Heap.get?_push_size _ rfl
def iRngW1 (ta : TA) : TI := fun σ H R => ta σ H fun vs H1 => ∃ j : Int, vs = [.int j] /\ R (Itr 0 j.toNat) H1
def iRngW2 (ta : TA) : TI := fun σ H R => ta σ H fun vs H1 => ∃ i j : Int, vs = [.int i, .int j] /\ R (Itr i (j - i).toNat) H1
theorem pi_rangeW1 {a : Expr} {ta : TA} {p pos : Pos} (hg : Gl X "range") (hm : X.mg "range" = none) (ha : PA X [a] ta) (hs : starEach [a] X.env = [(false, eval a X.env)] := by rfl) : PI X tg (.Call (.Name "range" p) [a] [] pos) (iRngW1 ta) := by
  refine ⟨fun pins s σ H R I h => ?_⟩
  refine Call_ (ld_blt I hg hm boot_range (PyProof.Rows.callWith_type1 (thn (ha.run pos pins s σ H _ I h) fun us s1 ⟨vs, H1, I1, r1, q1⟩ => ?_) hs rfl))
  obtain ⟨j, e, q⟩ := q1
  subst e
  cases r1 with
  | cons r rr =>
    cases rr
    obtain ⟨t, rfl⟩ := r
    exact call_range_1 (range_itw I1 (by simpa using q))
theorem pi_rangeW2 {a b : Expr} {ta : TA} {p pos : Pos} (hg : Gl X "range") (hm : X.mg "range" = none) (ha : PA X [a, b] ta) (hs : starEach [a, b] X.env = [(false, eval a X.env), (false, eval b X.env)] := by rfl) (hs2 : starEach [b] X.env = [(false, eval b X.env)] := by rfl) :
    PI X tg (.Call (.Name "range" p) [a, b] [] pos) (iRngW2 ta) := by
  refine ⟨fun pins s σ H R I h => ?_⟩
  refine Call_ (ld_blt I hg hm boot_range (PyProof.Rows.callWith_type1 (thn (ha.run pos pins s σ H _ I h) fun us s1 ⟨vs, H1, I1, r1, q1⟩ => ?_) (by rw [hs, hs2]) (by rw [hs2]; rfl)))
  obtain ⟨i, j, e, q⟩ := q1
  subst e
  cases r1 with
  | cons r rr =>
    cases rr with
    | cons r' rr =>
      cases rr
      obtain ⟨t, rfl⟩ := r
      obtain ⟨t', rfl⟩ := r'
      exact call_range_2 (range_itw I1 q)
end
end L2
namespace L3
open PySem L2 RZ
open Fm (Vl MO Mem En Rs ME MF MA MT MG MS MI Out So Gd Ky)
structure Wk (K : PySem.W.Frag) (mg : Str -> Option Value) (J : It) (G : Hp) (ι : Im) (H : Hp) (ds : List Vl) (gd : Gd) : Prop where
  go : ∀ (i : Nat) (d : Vl) (G1 H1 : Hp) (ι1 : Im) (μ1 : Mem), ds[i]? = some d -> Xl G ι H G1 ι1 H1 -> Ms K mg G1 ι1 H1 μ1 -> gd.ok μ1 -> J.go i H1 /\ ∀ x H2, J.yld i H1 x H2 -> ∃ G2, Ext G1 ι1 H1 G2 ι1 H2 /\ Ms K mg G2 ι1 H2 μ1 /\ Rv K G2 ι1 x d
  stop : ∀ (i : Nat) (G1 H1 : Hp) (ι1 : Im) (μ1 : Mem), ds.length <= i -> Xl G ι H G1 ι1 H1 -> Ms K mg G1 ι1 H1 μ1 -> gd.ok μ1 -> J.stop i H1
def rlW (K : PySem.W.Frag) (mg : Str -> Option Value) : Rl (List Vl × Gd) It := ⟨fun _ G ι H J p => Wk K mg J G ι H p.1 p.2, fun _ h => h⟩
abbrev tI (K : PySem.W.Frag) (mg : Str -> Option Value) (W : WX) (m : MI) : TI := tG K mg W (rlW K mg) m
structure DI (X : Cx) (W : WX) (tg iter : Expr) (m : MI) : Prop where
  p : PI X tg iter (tI X.K X.mg W m)
section
variable {X : Cx} {K : PySem.W.Frag} {mg : Str -> Option Value} {tg : Expr} {W : WX} {G H : Hp} {ι : Im} {μ : Mem}
theorem PI.imp {iter : Expr} {t t' : TI} (h : PI X tg iter t) (k : ∀ σ H Q, t' σ H Q -> t σ H Q) : PI X tg iter t' := ⟨fun pins s σ H Q I q => h.run pins s σ H Q I (k σ H Q q)⟩
theorem PI.or {iter : Expr} {w1 w2 : TI} (h1 : PI X tg iter w1) (h2 : PI X tg iter w2) : PI X tg iter (fun σ H R => w1 σ H R \/ w2 σ H R) := ⟨fun pins s σ H R I h => h.elim (h1.run pins s σ H R I) (h2.run pins s σ H R I)⟩
theorem wk_itl {a : Addr} {ds : List Vl} {gd : Gd} (h : ∀ (G1 H1 : Hp) (ι1 : Im) (μ1 : Mem), Xt G ι G1 ι1 -> Ms K mg G1 ι1 H1 μ1 -> gd.ok μ1 -> ∃ vs, SqL K H1 a vs /\ RvA K G1 ι1 vs ds) : Wk K mg (Itl K a) G ι H ds gd where
  go := fun i d G1 H1 ι1 μ1 hi e m g => by
    obtain ⟨vs, h1, h2⟩ := h G1 H1 ι1 μ1 e.x m g
    obtain ⟨v, r1, r2⟩ := h2.get hi
    refine ⟨⟨vs, v, h1, r1⟩, fun x H2 y => ?_⟩
    obtain ⟨rfl, y⟩ := y
    have e1 := y vs h1
    rw [r1] at e1
    cases e1
    exact ⟨G1, Ext.refl, m, r2⟩
  stop := fun i G1 H1 ι1 μ1 l e m g => by
    obtain ⟨vs, h1, h2⟩ := h G1 H1 ι1 μ1 e.x m g
    exact ⟨vs, h1, by rw [h2.len]; exact l⟩
theorem wk_itt {a : Addr} {ds : List Vl} {gd : Gd} {vs : List V} (h : G a = some (.tup vs)) (d : RvA K G ι vs ds) : Wk K mg (Itt K a) G ι H ds gd where
  go := fun i d' G1 H1 ι1 μ1 hi e m g => by
    obtain ⟨v, r1, r2⟩ := d.get hi
    have h1 : SqT K H1 a vs := sqt_of (m.s.tup (e.x.g _ _ h))
    refine ⟨⟨vs, v, h1, r1⟩, fun x H2 y => ?_⟩
    obtain ⟨rfl, y⟩ := y
    have e1 := y vs h1
    rw [r1] at e1
    cases e1
    exact ⟨G1, Ext.refl, m, r2.up e.x⟩
  stop := fun i G1 H1 ι1 μ1 l e m g => ⟨vs, sqt_of (m.s.tup (e.x.g _ _ h)), by rw [d.len]; exact l⟩
theorem wk_ittF {a : Addr} {gd : Gd} {od : Obj} {ns : List Int} (h : G a = some (.frz od (.tup (ns.map V.int)))) : Wk K mg (Itt K a) G ι H (ns.map .int) gd where
  go := fun i d' G1 H1 ι1 μ1 hi e m g => by
    obtain ⟨v, r1, r2⟩ := (RvA.ivs0 (K := K) (G := G) (ι := ι) (ns := ns)).get hi
    have h1 : SqT K H1 a (ns.map V.int) := .inl (.inr ⟨od, m.s.ltup (e.x.g _ _ h)⟩)
    refine ⟨⟨_, v, h1, r1⟩, fun x H2 y => ?_⟩
    obtain ⟨rfl, y⟩ := y
    have e1 := y _ h1
    rw [r1] at e1
    cases e1
    exact ⟨G1, Ext.refl, m, r2.up e.x⟩
  stop := fun i G1 H1 ι1 μ1 l e m g => ⟨_, .inl (.inr ⟨od, m.s.ltup (e.x.g _ _ h)⟩), by rw [List.length_map] at l ⊢; exact l⟩
theorem mem_lst {G1 H1 : Hp} {ι1 : Im} {μ1 : Mem} {i : Nat} {a : Addr} {xs : List Vl} (m : Ms K mg G1 ι1 H1 μ1) (ha : ι1 i = some a) (q : μ1[i]? = some (some (.lst xs))) : ∃ vs, H1 a = some (.lst vs) /\ RvA K G1 ι1 vs xs := by
  obtain ⟨a', r1, _, vs, r2, r3⟩ := m.at_ _ _ q
  rw [ha] at r1
  cases r1
  exact ⟨vs, r2, r3⟩
theorem iseq {l : Expr} {m : ME} (h : DE X W l m) : DI X W tg l (Fm.iSeq m) := ⟨PI.imp (PI.or (pi_list h.p) (pi_tup h.p)) fun σ H Q ⟨G, ι, Γ, μ, o, h⟩ => by
  cases q : m Γ μ with
  | no =>
    unfold Fm.iSeq at h
    rw [q] at h
    exact False.elim h
  | ex c r μ' =>
    refine .inl ⟨G, ι, Γ, μ, o, ?_⟩
    unfold Fm.iSeq at h
    rw [q] at h ⊢
    exact h
  | ok x μ1 =>
    unfold Fm.iSeq at h
    rw [q, Rs.bind_ok] at h
    obtain ⟨p, e, h2⟩ := Af.of h
    unfold Fm.srcOf at e
    split at e
    . cases e
      refine .inl ⟨G, ι, Γ, μ, o, ?_⟩
      rw [q]
      intro v G1 ι1 H1 e1 o1 r1
      obtain ⟨a, vs, rfl, r2, r3⟩ := lst_of r1
      exact ⟨a, rfl, ⟨vs, SqL.of (o1.m.s.lst r2)⟩, h2 _ G1 ι1 H1 e1 o1 (wk_itl fun G2 H2 ι2 μ2 x2 m2 _ => ⟨vs, SqL.of (m2.s.lst (x2.g _ _ r2)), r3.up x2⟩)⟩
    . cases e
      refine .inr ⟨G, ι, Γ, μ, o, ?_⟩
      rw [q]
      intro v G1 ι1 H1 e1 o1 r1
      obtain ⟨a, vs, rfl, r2, r3⟩ := tup_of r1
      exact ⟨a, rfl, ⟨vs, sqt_of (o1.m.s.tup r2)⟩, h2 _ G1 ι1 H1 e1 o1 (wk_itt r2 r3)⟩
    . cases e
      refine .inr ⟨G, ι, Γ, μ, o, ?_⟩
      rw [q]
      intro v G1 ι1 H1 e1 o1 r1
      obtain ⟨a, od, rfl, r2, _⟩ := ltup_of r1
      exact ⟨a, rfl, ⟨_, .inl (.inr ⟨od, o1.m.s.ltup r2⟩)⟩, h2 _ G1 ι1 H1 e1 o1 (wk_ittF r2)⟩
    . cases e
      refine .inl ⟨G, ι, Γ, μ, o, ?_⟩
      rw [q]
      intro v G1 ι1 H1 e1 o1 r1
      obtain ⟨a, rfl, r2⟩ := scr_of r1
      exact ⟨a, rfl, ⟨_, o1.m.s.sql r2⟩, h2 _ G1 ι1 H1 e1 o1 (wk_itl fun G2 H2 ι2 μ2 x2 m2 _ => ⟨_, m2.s.sql (same_sql x2.g r2), RvA.ivs⟩)⟩
    . split at e
      . cases e
        rename_i q2
        refine .inl ⟨G, ι, Γ, μ, o, ?_⟩
        rw [q]
        intro v G1 ι1 H1 e1 o1 r1
        obtain ⟨a, rfl, r2⟩ := ref_of r1
        obtain ⟨vs, r3, r4⟩ := mem_lst o1.m r2 q2
        exact ⟨a, rfl, ⟨vs, SqL.of r3⟩, h2 _ G1 ι1 H1 e1 o1 (wk_itl fun G2 H2 ι2 μ2 x2 m2 g2 => by
          obtain ⟨us, r5, r6⟩ := mem_lst m2 (x2.i _ _ r2) g2
          exact ⟨us, SqL.of r5, r6⟩)⟩
      . cases e
    . cases e⟩
theorem ints_get {lo : Int} {n i : Nat} {d : Vl} (h : (Fm.ivs lo n)[i]? = some d) : i < n /\ d = .int (lo + (i : Int)) := by
  unfold Fm.ivs at h
  rw [List.getElem?_map] at h
  cases e : (List.range n)[i]? with
  | none => rw [e] at h; cases h
  | some k =>
    rw [e] at h
    obtain ⟨h1, h2⟩ := List.getElem?_eq_some_iff.mp e
    rw [List.getElem_range] at h2
    rw [List.length_range] at h1
    subst h2
    cases h
    exact ⟨h1, rfl⟩
theorem ints_len {lo : Int} {n : Nat} : (Fm.ivs lo n).length = n := by unfold Fm.ivs; rw [List.length_map, List.length_range]
theorem wk_rng {lo : Int} {n : Nat} {gd : Gd} : Wk K mg (Itr lo n) G ι H (Fm.ivs lo n) gd where
  go := fun i d G1 H1 ι1 μ1 hi e m g => by
    obtain ⟨h1, rfl⟩ := ints_get hi
    refine ⟨h1, fun x H2 y => ?_⟩
    obtain ⟨rfl, rfl⟩ := y
    exact ⟨G1, Ext.refl, m, .int _⟩
  stop := fun i G1 H1 ι1 μ1 l e m g => by
    rw [ints_len] at l
    exact l
theorem irng1 {a : Expr} {m : MA} {p pos : Pos} (hm : X.mg "range" = none) (ha : DA X W [a] m) (hg : Gl X "range" := by rfl) (hs : starEach [a] X.env = [(false, eval a X.env)] := by rfl) : DI X W tg (.Call (.Name "range" p) [a] [] pos) (Fm.iB Fm.rng1 m) := ⟨PI.imp (pi_rangeW1 hg hm ha.p hs) fun σ H Q ⟨G, ι, Γ, μ, o, h⟩ =>
  ⟨G, ι, Γ, μ, o, Af.bind h fun xs μ1 vs G1 ι1 H1 _ e1 o1 r1 h1 => by
    obtain ⟨z, e, h3⟩ := Af.of h1
    unfold Fm.rng1 at e
    split at e
    . obtain ⟨hc, rfl⟩ := ite_some e
      obtain ⟨v, rfl, r2⟩ := one_of r1
      rw [int_of r2]
      exact ⟨_, rfl, h3 _ G1 ι1 H1 Ext.refl o1 wk_rng⟩
    . cases e⟩⟩
theorem irng2 {a b : Expr} {m : MA} {p pos : Pos} (hm : X.mg "range" = none) (ha : DA X W [a, b] m) (hg : Gl X "range" := by rfl) (hs : starEach [a, b] X.env = [(false, eval a X.env), (false, eval b X.env)] := by rfl) (hs2 : starEach [b] X.env = [(false, eval b X.env)] := by rfl) :
    DI X W tg (.Call (.Name "range" p) [a, b] [] pos) (Fm.iB Fm.rng2 m) := ⟨PI.imp (pi_rangeW2 hg hm ha.p hs hs2) fun σ H Q ⟨G, ι, Γ, μ, o, h⟩ =>
  ⟨G, ι, Γ, μ, o, Af.bind h fun xs μ1 vs G1 ι1 H1 _ e1 o1 r1 h1 => by
    obtain ⟨z, e, h3⟩ := Af.of h1
    unfold Fm.rng2 at e
    split at e
    . obtain ⟨hc, rfl⟩ := ite_some e
      obtain ⟨v, u, rfl, r2, r3⟩ := two_of r1
      rw [int_of r2, int_of r3]
      exact ⟨_, _, rfl, h3 _ G1 ι1 H1 Ext.refl o1 wk_rng⟩
    . cases e⟩⟩
end
end L3
end
section
set_option Elab.async false
set_option linter.all false
set_option maxRecDepth 100000
set_option maxHeartbeats 4000000
namespace L3
open PySem L2 RZ
open Fm (Vl MO Mem En Rs ME MF MA MT MG MS MI Out So Gd Ky)
section
variable {X : Cx} {K : PySem.W.Frag} {mg : Str -> Option Value} {tg : Expr} {W : WX} {G H : Hp} {ι : Im} {μ : Mem}
def Stays (K : PySem.W.Frag) (mg : Str -> Option Value) (G : Hp) (ι : Im) (gd : Gd) (a : Addr) (ds : List Vl) : Prop := ∀ (G1 H1 : Hp) (ι1 : Im) (μ1 : Mem), Xt G ι G1 ι1 -> Ms K mg G1 ι1 H1 μ1 -> gd.ok μ1 -> ∃ vs, SqL K H1 a vs /\ RvA K G1 ι1 vs ds
theorem lsrc (m : Ms K mg G ι H μ) {v : V} {d : Vl} {xs : List Vl} (h : Rv K G ι v d) (e : Fm.lstOf μ d = some xs) : ∃ a vs, v = .ref a /\ SqL K H a vs /\ RvA K G ι vs xs /\ Stays K mg G ι (Fm.guardOf d μ) a xs := by
  unfold Fm.lstOf at e
  split at e
  . cases e
    obtain ⟨a, vs, r1, r2, r3⟩ := lst_of h
    exact ⟨a, vs, r1, SqL.of (m.s.lst r2), r3, fun G1 H1 ι1 μ1 x m1 g => ⟨vs, SqL.of (m1.s.lst (x.g _ _ r2)), r3.up x⟩⟩
  . split at e
    . cases e
      rename_i q
      obtain ⟨a, rfl, r⟩ := ref_of h
      obtain ⟨vs, r2, r3⟩ := mem_lst m r q
      refine ⟨a, vs, rfl, SqL.of r2, r3, fun G1 H1 ι1 μ1 x m1 g => ?_⟩
      unfold Fm.guardOf at g
      simp only [q] at g
      obtain ⟨us, r5, r6⟩ := mem_lst m1 (x.i _ _ r) g
      exact ⟨us, SqL.of r5, r6⟩
    . cases e
  . cases e
theorem newPair {G1 H1 : Hp} {ι1 : Im} {μ1 : Mem} {T : Addr} {x y : V} {d e : Vl} (m : Ms K mg G1 ι1 H1 μ1) (hT : H1 T = none) (hx : Rv K G1 ι1 x d) (hy : Rv K G1 ι1 y e) : ∃ G2, Ext G1 ι1 H1 G2 ι1 (upd H1 T (.tup [x, y])) /\ Ms K mg G2 ι1 (upd H1 T (.tup [x, y])) μ1 /\ Rv K G2 ι1 (.ref T) (.tup [d, e]) := by
  obtain ⟨m', e'⟩ := m.new (o := .tup [x, y]) hT
  exact ⟨_, e', m', .tup upd_same (.cons (hx.up e'.toXt) (.cons (hy.up e'.toXt) .nil))⟩
theorem zip_get {xs ys : List Vl} {i : Nat} {d : Vl} (h : ((xs.zip ys).map fun p => Vl.tup [p.1, p.2])[i]? = some d) : ∃ a b, xs[i]? = some a /\ ys[i]? = some b /\ d = .tup [a, b] := by
  rw [List.getElem?_map] at h
  cases e : (xs.zip ys)[i]? with
  | none => rw [e] at h; cases h
  | some p =>
    rw [e] at h
    obtain ⟨h1, h2⟩ := List.getElem?_zip_eq_some.mp e
    exact ⟨p.1, p.2, h1, h2, (Option.some.inj h).symm⟩
theorem zip_len {xs ys : List Vl} {i : Nat} (h : ((xs.zip ys).map fun p => Vl.tup [p.1, p.2]).length <= i) : xs.length <= i \/ ys.length <= i := by
  rw [List.length_map, List.length_zip] at h
  omega
theorem wk_zip {a b : Addr} {ds es : List Vl} {g1 g2 : Gd} (h : Stays K mg G ι g1 a ds) (h' : Stays K mg G ι g2 b es) : Wk K mg (Itz K a b) G ι H ((ds.zip es).map fun p => .tup [p.1, p.2]) (.both g1 g2) where
  go := fun i e G1 H1 ι1 μ1 hi x m g => by
    obtain ⟨x', y', hx, hy, rfl⟩ := zip_get hi
    obtain ⟨vs, ha, d⟩ := h G1 H1 ι1 μ1 x.x m g.1
    obtain ⟨us, hb, d'⟩ := h' G1 H1 ι1 μ1 x.x m g.2
    obtain ⟨v, h1, h2⟩ := d.get hx
    obtain ⟨u, k1, k2⟩ := d'.get hy
    refine ⟨⟨vs, us, v, u, ha, hb, h1, k1⟩, fun w H2 z => ?_⟩
    obtain ⟨T, x1, y1, rfl, hT, rfl, z1, z2⟩ := z
    have e1 := z1 vs ha
    have e2 := z2 us hb
    rw [h1] at e1
    rw [k1] at e2
    cases e1
    cases e2
    exact newPair m hT h2 k2
  stop := fun i G1 H1 ι1 μ1 l x m g => by
    obtain ⟨vs, ha, d⟩ := h G1 H1 ι1 μ1 x.x m g.1
    obtain ⟨us, hb, d'⟩ := h' G1 H1 ι1 μ1 x.x m g.2
    exact ⟨vs, us, ha, hb, by rw [d.len, d'.len]; exact zip_len l⟩
theorem wk_zipT {a b : Addr} {vs us : List V} {ds es : List Vl} {gd : Gd} (h : G a = some (.tup vs)) (d : RvA K G ι vs ds) (h' : G b = some (.tup us)) (d' : RvA K G ι us es) : Wk K mg (ItzT K a b) G ι H ((ds.zip es).map fun p => .tup [p.1, p.2]) gd where
  go := fun i e G1 H1 ι1 μ1 hi x m g => by
    obtain ⟨x', y', hx, hy, rfl⟩ := zip_get hi
    obtain ⟨v, h1, h2⟩ := d.get hx
    obtain ⟨u, k1, k2⟩ := d'.get hy
    have ha : SqT K H1 a vs := sqt_of (m.s.tup (x.x.g _ _ h))
    have hb : SqT K H1 b us := sqt_of (m.s.tup (x.x.g _ _ h'))
    refine ⟨⟨vs, us, v, u, ha, hb, h1, k1⟩, fun w H2 z => ?_⟩
    obtain ⟨T, x1, y1, rfl, hT, rfl, z1, z2⟩ := z
    have e1 := z1 vs ha
    have e2 := z2 us hb
    rw [h1] at e1
    rw [k1] at e2
    cases e1
    cases e2
    exact newPair m hT (h2.up x.x) (k2.up x.x)
  stop := fun i G1 H1 ι1 μ1 l x m g => ⟨vs, us, sqt_of (m.s.tup (x.x.g _ _ h)), sqt_of (m.s.tup (x.x.g _ _ h')), by rw [d.len, d'.len]; exact zip_len l⟩
theorem izip {e e2 : Expr} {m : MA} {p pos tpos : Pos} {elts : List Expr} {kk : Nat} (hm : X.mg "zip" = none) (ha : DA X W [e, e2] m) (hg : Gl X "zip" := by rfl)
    (hs : starEach [e, e2] X.env = (false, eval e X.env) :: starEach [e2] X.env := by rfl) (hpl : (backTo pos (starEach [e2] X.env)).any (·.1) = false := by rfl) : DI X W (.Tuple elts kk tpos) (.Call (.Name "zip" p) [e, e2] [] pos) (Fm.iB Fm.bZip m) := ⟨PI.imp (pi_zipA hg hm ha.p hs hpl) fun σ H Q ⟨G, ι, Γ, μ, o, h⟩ =>
  ⟨G, ι, Γ, μ, o, Af.bind h fun xs μ1 vs G1 ι1 H1 _ e1 o1 r1 h1 => by
    obtain ⟨z, e, h3⟩ := Af.of h1
    unfold Fm.bZip at e
    split at e
    . cases e
      obtain ⟨v, u, rfl, r2, r3⟩ := two_of r1
      obtain ⟨a, us, rfl, r4, r5⟩ := tup_of r2
      obtain ⟨b, ws, rfl, t4, t5⟩ := tup_of r3
      exact ⟨a, b, us, ws, rfl, .inr ⟨sqt_of (o1.m.s.tup r4), sqt_of (o1.m.s.tup t4), h3 _ G1 ι1 H1 Ext.refl o1 (wk_zipT r4 r5 t4 t5)⟩⟩
    . split at e
      . cases e
        rename_i q1 q2
        obtain ⟨v, u, rfl, r2, r3⟩ := two_of r1
        obtain ⟨a, us, rfl, r4, r5, r6⟩ := lsrc o1.m r2 q1
        obtain ⟨b, ws, rfl, t4, t5, t6⟩ := lsrc o1.m r3 q2
        exact ⟨a, b, us, ws, rfl, .inl ⟨r4, t4, h3 _ G1 ι1 H1 Ext.refl o1 (wk_zip r6 t6)⟩⟩
      . cases e
    . cases e⟩⟩
end
section
variable {X : Cx} {W : WX} {pos : Pos}
theorem for_to {mi : MI} {g : MG} {mb : MS} {ts ws : List Nat} : ∀ D σ H, tS X.K X.mg W (Fm.sFor mi g mb ws) D σ H -> tFor (tI X.K X.mg W mi) (tTg X.K X.mg g ts) (tS X.K X.mg W mb) D σ H := fun D σ H ⟨G, ι, Γ, μ, o, h⟩ =>
  ⟨G, ι, Γ, μ, o, As.st h fun p μ1 J G1 ι1 H1 _ e1 o1 wk h1 => by
    obtain ⟨ds, gd⟩ := p
    refine ⟨fun i n σ' H' => n = ds.length - i /\ i <= ds.length /\ ∃ G' ι' Γ' μ', Ext G1 ι1 H1 G' ι' H' /\ Ok X.K X.mg G' ι' H' σ' Γ' μ' /\ As X.K X.mg W G' ι' H' D (Fm.forGo g mb gd ws (ds.drop i) Γ' μ'), ⟨ds.length, by simp, Nat.zero_le _, G1, ι1, _, μ1, Ext.refl, o1.wip ws, h1⟩, ?_⟩
    rintro i n σ2 H2 ⟨rfl, hil, G2, ι2, Γ2, μ2, e2, o2, h2⟩
    by_cases hlt : i < ds.length
    . have hd : ds[i]? = some ds[i] := List.getElem?_eq_getElem hlt
      rw [List.drop_eq_getElem_cons hlt] at h2
      unfold Fm.forGo at h2
      split at h2
      . rename_i hgd
        obtain ⟨jg, jy⟩ := Wk.go wk i ds[i] G2 H2 ι2 μ2 hd e2.xl o2.m hgd
        refine .inr ⟨jg, fun σ' H' => ∃ G' ι' Γ' μ', Ext G1 ι1 H1 G' ι' H' /\ Ok X.K X.mg G' ι' H' σ' Γ' μ' /\ As X.K X.mg W G' ι' H' D (Fm.forGo g mb gd ws (ds.drop (i + 1)) Γ' μ'), fun σ' H' z => ⟨ds.length - (i + 1), by omega, rfl, hlt, z⟩, fun x H3 y => ?_⟩
        obtain ⟨G3, e3, m3, r3⟩ := jy x H3 y
        have o3 := o2.step e3.toXt m3
        split at h2
        . exact False.elim h2
        . rename_i Γ3 q3
          refine ⟨G3, ι2, Γ2, μ2, _, Γ3, o3, r3, q3, fun σ4 _ o4 => ⟨G3, ι2, Γ3, μ2, o4, ?_⟩⟩
          have h3 := As.up e3 h2
          clear h2
          match q : mb Γ3 μ2 with
          | none =>
            rw [q] at h3
            exact h3
          | some (.nx Γ', μ') =>
            rw [q] at h3
            exact fun σ' G' ι' H' e' o' => ⟨G', ι', _, μ', (e2.trans e3).trans e', o'.wip ws, As.up e' h3⟩
          | some (.ct Γ', μ') =>
            rw [q] at h3
            exact fun σ' G' ι' H' e' o' => ⟨G', ι', _, μ', (e2.trans e3).trans e', o'.wip ws, As.up e' h3⟩
          | some (.bk Γ', μ') =>
            rw [q] at h3
            exact fun σ' G' ι' H' e' o' => h3 σ' G' ι' H' e' (o'.wip ws)
          | some (.rt x, μ') =>
            rw [q] at h3
            exact h3
          | some (.rf none x, μ') =>
            rw [q] at h3
            exact h3
          | some (.rf (some i) x, μ') =>
            rw [q] at h3
            exact h3
          | some (.ex c r Γ', μ') =>
            rw [q] at h3
            exact h3
      . exact False.elim h2
    . have ei : i = ds.length := by omega
      subst ei
      rw [List.drop_length] at h2
      unfold Fm.forGo at h2
      split at h2
      . rename_i hgd
        exact .inl ⟨Wk.stop wk _ G2 H2 ι2 μ2 (Nat.le_refl _) e2.xl o2.m hgd, h2 σ2 G2 ι2 H2 Ext.refl o2⟩
      . exact False.elim h2⟩
theorem sfor {tg iter : Expr} {body : List Stmt} {mi : MI} {g : MG} {mb : MS} {ts : List Nat} (ws : List Nat) (hp : PassesOwn (model X.prog X.w) X.A X.env X.xe) (hi : DI X W tg iter mi) (hg : DG X tg g ts) (hb : DSs X W body mb) (hc : X.calm = true := by rfl)
    (hs : ∀ x, foldedSetIterable iter X.env x = pure x := by intro _; rfl) : DS X W (.For tg iter body [] pos) (Fm.sFor mi g mb ws) := ⟨PS.imp (ps_for hp hc hi.p hg.p hb.p hs) for_to⟩
theorem while_to {mc : MT} {mb : MS} {ws : List Nat} {n : Nat} : ∀ D σ H, tS X.K X.mg W (Fm.sWhile mc mb ws n) D σ H -> tWhile (tT X.K X.mg W mc) (tS X.K X.mg W mb) D σ H := fun D σ H ⟨G, ι, Γ, μ, o, h⟩ => by
  refine ⟨fun n σ' H' => ∃ G' ι' Γ' μ', Ok X.K X.mg G' ι' H' σ' Γ' μ' /\ As X.K X.mg W G' ι' H' D (Fm.whileGo mc mb ws n Γ' μ'), ⟨n, G, ι, _, μ, o.wip ws, h⟩, ?_⟩
  rintro n σ2 H2 ⟨G2, ι2, Γ2, μ2, o2, h2⟩
  cases n with
  | zero => exact False.elim h2
  | succ n =>
    unfold Fm.whileGo at h2
    refine ⟨G2, ι2, Γ2, μ2, o2, As.st h2 fun c μ3 b G3 ι3 H3 _ e3 o3 r3 h3 => ?_⟩
    cases (show b = c from r3)
    cases c with
    | false =>
      rw [if_neg Bool.false_ne_true]
      exact h3 σ2 G3 ι3 H3 Ext.refl o3
    | true =>
      rw [if_pos rfl]
      refine ⟨fun σ' H' => ∃ G' ι' Γ' μ', Ok X.K X.mg G' ι' H' σ' Γ' μ' /\ As X.K X.mg W G' ι' H' D (Fm.whileGo mc mb ws n Γ' μ'), fun σ' H' z => ⟨n, Nat.lt_succ_self _, z⟩, G3, ι3, Γ2, μ3, o3, ?_⟩
      match q : mb Γ2 μ3 with
      | none =>
        simp only [q] at h3
        exact h3
      | some (.nx Γ', μ') =>
        simp only [q] at h3
        exact fun σ' G' ι' H' e' o' => ⟨G', ι', _, μ', o'.wip ws, As.up e' h3⟩
      | some (.ct Γ', μ') =>
        simp only [q] at h3
        exact fun σ' G' ι' H' e' o' => ⟨G', ι', _, μ', o'.wip ws, As.up e' h3⟩
      | some (.bk Γ', μ') =>
        simp only [q] at h3
        exact fun σ' G' ι' H' e' o' => h3 σ' G' ι' H' e' (o'.wip ws)
      | some (.rt x, μ') =>
        simp only [q] at h3
        exact h3
      | some (.rf none x, μ') =>
        simp only [q] at h3
        exact h3
      | some (.rf (some i) x, μ') =>
        simp only [q] at h3
        exact h3
      | some (.ex c r Γ', μ') =>
        simp only [q] at h3
        exact h3
theorem swhile {c : Expr} {body : List Stmt} {mc : MT} {mb : MS} (ws : List Nat) (n : Nat) (hp : PassesOwn (model X.prog X.w) X.A X.env X.xe) (hc : DT X W c mc) (hb : DSs X W body mb) : DS X W (.While c body [] pos) (Fm.sWhile mc mb ws n) := ⟨PS.imp (ps_while hp hc.p hb.p) while_to⟩
end
section
variable {K : PySem.W.Frag} {mg : Str -> Option Value} {σ σ' : St} {G H : Hp} {ι : Im} {Γ : En} {μ : Mem}
theorem wipe_at {vs : List Nat} {i : Nat} (h : i ∈ vs) : (wipe σ vs)[i]? = none \/ (wipe σ vs)[i]? = some none := by
  induction vs with
  | nil => cases h
  | cons v vs ih =>
    unfold wipe
    by_cases e : v = i
    . subst e
      by_cases l : v < (wipe σ vs).length
      . exact .inr (List.getElem?_set_self l)
      . exact .inl (List.getElem?_eq_none (by simpa using l))
    . rw [List.getElem?_set_ne e]
      exact ih ((List.mem_cons.mp h).resolve_left (Ne.symm e))
theorem wipe_off {vs ts : List Nat} (h : Off ts σ σ') (hs : ∀ j ∈ ts, j ∈ vs) : wipe σ' vs = wipe σ vs := by
  have l : (wipe σ' vs).length = (wipe σ vs).length := by rw [wipe_length, wipe_length, h.1]
  refine List.ext_getElem? fun i => ?_
  by_cases hi : i ∈ vs
  . by_cases hl : i < (wipe σ vs).length
    . have a : ∀ τ : St, τ.length = σ.length -> (wipe τ vs)[i]? = some none := fun τ e => by
        rcases wipe_at (σ := τ) hi with q | q
        . rw [List.getElem?_eq_none_iff, wipe_length, e] at q
          rw [wipe_length] at hl
          omega
        . exact q
      rw [a σ' h.1, a σ rfl]
    . rw [List.getElem?_eq_none (by omega), List.getElem?_eq_none (by omega)]
  . rw [wipe_out hi, wipe_out hi]
    exact h.2 i fun z => hi (hs i z)
theorem Ok.wipeS (h : Ok K mg G ι H σ Γ μ) (vs : List Nat) : Ok K mg G ι H (wipe σ vs) (Fm.wip vs Γ) μ :=
  ⟨h.m, fun i s e => by
    obtain ⟨e1, e2⟩ := wip_some e
    obtain ⟨v, r1, r2⟩ := h.at_ i s e1
    exact ⟨v, by rw [wipe_out e2]; exact r1, r2⟩, by rw [wipe_length, wip_len]; exact h.ln⟩
end
theorem Ms.side {K : PySem.W.Frag} {mg : Str -> Option Value} {G H : Hp} {ι : Im} {μ : Mem} (m : Ms K mg G ι H μ) {p : Addr} {u0 u : HO} (hp : H p = some u0) (hu : ∀ x, u0 ≠ .own x) (g : G p = none) (n : ∀ j, ι j ≠ some p) : Ms K mg G ι (upd H p u) μ := by
  refine ⟨m.s.upd1 g, fun i o' q => ?_, fun i a q => ?_, m.inj⟩
  . obtain ⟨a, r1, r2, r3⟩ := m.at_ i o' q
    have ha : a ≠ p := fun z => by subst z; exact n i r1
    refine ⟨a, r1, r2, r3.up Xt.refl (upd_ne ha) fun dx z => ?_⟩
    rw [upd_ne fun y => by subst y; rw [hp] at z; cases z; exact hu _ rfl]
    exact z
  . obtain ⟨r1, o', r2⟩ := m.dom i a q
    refine ⟨r1, o', ?_⟩
    rw [upd_ne fun z => by subst z; exact n i q]
    exact r2
theorem Ext.side {G0 H0 G H : Hp} {ι0 ι : Im} (e : Ext G0 ι0 H0 G ι H) {p : Addr} {u : HO} (z : H0 p = none) : Ext G0 ι0 H0 G ι (upd H p u) :=
  ⟨e.toXt, fun a o q t g n => by
    rw [upd_ne (ne_of_none q z)]
    exact e.f a o q t g n, fun a o q => by
    rw [upd_ne (ne_of_none q z)]
    exact e.t a o q, fun a od u q => by
    rw [upd_ne (ne_of_none q z)]
    exact e.l a od u q, fun a xs q => by
    rw [upd_ne (ne_of_none q z)]
    exact e.tp a xs q⟩
def wNo : WX := fun _ _ _ _ => False
theorem takesN {X : Cx} : L2N.Takes X wNo := fun _ _ ⟨_, _, _, _, _, _, _, _, _, _, _, _, _, _, _, _, w⟩ => w.elim
section
variable {X : Cx} {W : WX}
theorem comp_to {mi : MI} {g : MG} {mt : MT} {me : ME} {ts vs : List Nat} (hs : ∀ j ∈ ts, j ∈ vs) : ∀ σ H Q, tF X.K X.mg W (Fm.fComp mi g mt me vs) σ H Q -> tLc (tI X.K X.mg W mi) (tTg X.K X.mg g ts) (tT X.K X.mg wNo mt) (tE X.K X.mg wNo me) vs σ H Q := fun σ H Q ⟨G, ι, Γ, μ, o, h⟩ =>
  ⟨G, ι, Γ, μ, o, Af.bind0 h fun p μ1 J G1 ι1 H1 _ e1 o1 wk h1 => by
    obtain ⟨ds, gd⟩ := p
    intro Dl hD
    split at h1
    . rename_i hz
      have hD0 : H Dl = none := e1.back hD
      obtain ⟨mD, eD⟩ := o1.m.own (o := .lst []) hD
      have oD := o1.step eD.toXt mD
      refine ⟨fun i n H' => n = ds.length - i /\ i <= ds.length /\ ∃ G' ι' μ' acc da, Ext G ι H G' ι' H' /\ Xl G1 ι1 H1 G' ι' H' /\ Ok X.K X.mg G' ι' H' (wipe σ vs) (Fm.wip vs Γ) μ' /\ H' Dl = some (.lst acc) /\ G' Dl = none /\ (∀ j, ι' j ≠ some Dl) /\ RvA X.K G' ι' acc da /\ acc.length <= i /\
          Af X.K X.mg W σ Γ G ι H (rlF X.K X.mg) Q ((Fm.compGo g mt me gd (Fm.wip vs Γ) (ds.drop i) μ').bind fun z μ2 => .ok (.lst (da ++ z)) μ2),
        ⟨ds.length, by simp, Nat.zero_le _, G1, ι1, μ1, [], [], e1.trans eD, eD.xl, oD.wipeS vs, upd_same, o1.m.s.free hD, o1.m.nofresh hD, .nil, Nat.le_refl _, h1⟩, ?_⟩
      rintro i n H2 ⟨rfl, hil, G2, ι2, μ2, acc, da, e2, x2, o2, hA, gA, nA, dA, hal, h2⟩
      by_cases hlt : i < ds.length
      . have hd : ds[i]? = some ds[i] := List.getElem?_eq_getElem hlt
        rw [List.drop_eq_getElem_cons hlt] at h2
        unfold Fm.compGo at h2
        split at h2
        . rename_i hgd
          obtain ⟨jg, jy⟩ := Wk.go wk i ds[i] G2 H2 ι2 μ2 hd x2 o2.m hgd
          refine .inr ⟨jg, fun H' => ∃ G' ι' μ' acc da, Ext G ι H G' ι' H' /\ Xl G1 ι1 H1 G' ι' H' /\ Ok X.K X.mg G' ι' H' (wipe σ vs) (Fm.wip vs Γ) μ' /\ H' Dl = some (.lst acc) /\ G' Dl = none /\ (∀ j, ι' j ≠ some Dl) /\ RvA X.K G' ι' acc da /\ acc.length <= i + 1 /\
            Af X.K X.mg W σ Γ G ι H (rlF X.K X.mg) Q ((Fm.compGo g mt me gd (Fm.wip vs Γ) (ds.drop (i + 1)) μ').bind fun z μ2 => .ok (.lst (da ++ z)) μ2),
            fun H' z => ⟨ds.length - (i + 1), by omega, rfl, hlt, z⟩, fun x H3 y => ?_⟩
          obtain ⟨G3, e3, m3, r3⟩ := jy x H3 y
          have o3 := o2.step e3.toXt m3
          obtain ⟨hA3, gA3, nA3⟩ := e3.f _ _ hA (fun _ z => by cases z) gA nA
          split at h2
          . rename_i Γ3 q3
            refine ⟨G3, ι2, _, μ2, _, Γ3, o3, r3, q3, fun σ4 o4 k4 => ?_⟩
            have w4 : wipe σ4 vs = wipe σ vs := (wipe_off o4 hs).trans (wipe_off (ts := vs) ⟨wipe_length σ vs, fun j n => wipe_out n⟩ fun _ z => z)
            refine ⟨w4, G3, ι2, Γ3, μ2, k4, ?_⟩
            cases qt : mt Γ3 μ2 with
            | no =>
              rw [qt] at h2
              exact False.elim h2
            | ex c r μ' =>
              rw [qt] at h2
              exact False.elim h2
            | ok b μ5 =>
              rw [qt, Rs.tame_ok, Rs.bind_ok] at h2
              intro b' G5 ι5 H5 e5 o5 rb
              cases (show b' = b from rb)
              obtain ⟨hA5, gA5, nA5⟩ := e5.f _ _ hA3 (fun _ z => by cases z) gA3 nA3
              have e25 := (e2.trans e3).trans e5
              have x25 : Xt G2 ι2 G5 ι5 := (e3.trans e5).toXt
              have x15 : Xl G1 ι1 H1 G5 ι5 H5 := ⟨⟨x2.x.g.trans x25.g, fun j a q => x25.i j a (x2.x.i j a q)⟩, fun a od u q => e5.l a od u (e3.l a od u (x2.l a od u q))⟩
              cases b with
              | true =>
                rw [if_pos rfl]
                refine ⟨G5, ι5, Γ3, μ5, o5, ?_⟩
                cases qe : me Γ3 μ5 with
                | no =>
                  rw [qe] at h2
                  exact False.elim h2
                | ex c r μ' =>
                  rw [qe] at h2
                  exact False.elim h2
                | ok y μ6 =>
                  rw [qe, Rs.tame_ok, Rs.bind_ok] at h2
                  intro v G6 ι6 H6 e6 o6 rv
                  obtain ⟨hA6, gA6, nA6⟩ := e6.f _ _ hA5 (fun _ z => by cases z) gA5 nA5
                  have x26 : Xt G2 ι2 G6 ι6 := ⟨x25.g.trans e6.g, fun j a q => e6.i j a (x25.i j a q)⟩
                  have m6 := o6.m.side (u := .lst (acc ++ [v])) hA6 (fun _ z => by cases z) gA6 nA6
                  refine ⟨acc, hA6, Nat.lt_of_le_of_lt hal (bigL (Nat.lt_of_lt_of_le hlt hz)), G6, ι6, μ6, acc ++ [v], da ++ [y], (e25.trans e6).side hD0, ⟨⟨x15.x.g.trans e6.g, fun j a q => e6.i j a (x15.x.i j a q)⟩, fun a od u q => by
                    have q' := e6.l a od u (x15.l a od u q)
                    rw [upd_ne fun z => by subst z; rw [hD] at q; cases q]
                    exact q'⟩, o2.step x26 m6, upd_same, gA6, nA6, (dA.up x26).append (.one rv), by rw [List.length_append]; show acc.length + 1 <= i + 1; omega, ?_⟩
                  have eq : ((Fm.compGo g mt me gd (Fm.wip vs Γ) (ds.drop (i + 1)) μ6).bind fun z μ3 => Rs.ok (y :: z) μ3).bind (fun z μ2 => Rs.ok (MO.lst (da ++ z)) μ2) = (Fm.compGo g mt me gd (Fm.wip vs Γ) (ds.drop (i + 1)) μ6).bind fun z μ2 => Rs.ok (MO.lst (da ++ [y] ++ z)) μ2 := by
                    cases Fm.compGo g mt me gd (Fm.wip vs Γ) (ds.drop (i + 1)) μ6 with
                    | no => rfl
                    | ex c r μ' => rfl
                    | ok z μ' => simp only [Rs.bind_ok, List.append_assoc, List.singleton_append]
                  rw [<- eq]
                  exact h2
              | false =>
                rw [if_neg Bool.false_ne_true]
                exact ⟨G5, ι5, μ5, acc, da, e25, x15, o2.step x25 o5.m, hA5, gA5, nA5, dA.up x25, by omega, h2⟩
          . exact False.elim h2
        . exact False.elim h2
      . have ei : i = ds.length := by omega
        subst ei
        rw [List.drop_length] at h2
        unfold Fm.compGo at h2
        split at h2
        . rename_i hgd
          refine .inl ⟨Wk.stop wk _ G2 H2 ι2 μ2 (Nat.le_refl _) x2 o2.m hgd, ?_⟩
          simp only [Rs.bind_ok, List.append_nil] at h2
          refine h2 _ G2 ι2 H2 e2 ⟨o2.m, fun i x z => ?_, o.ln⟩ ⟨Dl, rfl, hD0, gA, nA, acc, hA, dA⟩
          obtain ⟨v, r1, r2⟩ := o.at_ i x z
          exact ⟨v, r1, r2.up e2.toXt⟩
        . exact False.elim h2
    . exact False.elim h1⟩
variable {pos : Pos}
theorem fcomp {elt tg iter : Expr} {ifs : List Expr} {scope : Scope} {own : List (Str × Nat)} {mi : MI} {g : MG} {mt : MT} {me : ME} {ts : List Nat} (nd : X.N.Nodup) (ok : BlkOk X.N X.env.scope scope own) (hi : DI X W tg iter mi)
    (hg : ∀ (s : Shared) (H : Hp) (C : Addr) (cl : List (Str × Addr)) (fp : List Addr), DG (X.blk s H scope (compEnvC scope cl C X.env) fp) tg g ts) (ht : ∀ (s : Shared) (H : Hp) (C : Addr) (cl : List (Str × Addr)) (fp : List Addr), PTs (X.blk s H scope (compEnvC scope cl C X.env) fp) ifs (tT X.K X.mg wNo mt))
    (he : ∀ (s : Shared) (H : Hp) (C : Addr) (cl : List (Str × Addr)) (fp : List Addr), DE (X.blk s H scope (compEnvC scope cl C X.env) fp) wNo elt me) (hv : ∀ j ∈ ts, j ∈ own.map (·.2) := by decide) (hc : X.calm = true := by rfl) (hs : ∀ x, foldedSetIterable iter X.env x = pure x := by intro _; rfl) :
    DF X W (.ListComp elt [⟨tg, iter, ifs, 0⟩] scope pos) (Fm.fComp mi g mt me (own.map (·.2))) :=
  ⟨PE.imp (pe_lc (te := tE X.K X.mg wNo me) (g := tTg X.K X.mg g ts) hc nd hi.p ok (fun s H C cl fp => (hg s H C cl fp).p) ht (fun s H C cl fp => (he s H C cl fp).p) hs) (comp_to hv)⟩
theorem cy : PTs X [] (tT X.K X.mg W Fm.tYes) := ⟨fun pins s σ H Q I ⟨G, ι, Γ, μ, o, h⟩ => pts_nil.run pins s σ H Q I (h true G ι H Ext.refl o rfl)⟩
theorem c1 {c : Expr} {m : MT} (h : DT X W c m) : PTs X [c] (tT X.K X.mg W m) := pts_one h.p
theorem sComp {i : Nat} {y : Str} {py pos' : Pos} {elt tg iter : Expr} {ifs : List Expr} {scope : Scope} {own : List (Str × Nat)} {mi : MI} {g : MG} {mt : MT} {me : ME} {ts : List Nat} (nd : X.N.Nodup) (ok : BlkOk X.N X.env.scope scope own) (hi : DI X W tg iter mi)
    (hg : ∀ (s : Shared) (H : Hp) (C : Addr) (cl : List (Str × Addr)) (fp : List Addr), DG (X.blk s H scope (compEnvC scope cl C X.env) fp) tg g ts) (ht : ∀ (s : Shared) (H : Hp) (C : Addr) (cl : List (Str × Addr)) (fp : List Addr), PTs (X.blk s H scope (compEnvC scope cl C X.env) fp) ifs (tT X.K X.mg wNo mt))
    (he : ∀ (s : Shared) (H : Hp) (C : Addr) (cl : List (Str × Addr)) (fp : List Addr), DE (X.blk s H scope (compEnvC scope cl C X.env) fp) wNo elt me) (hsw : swapsWith (.ListComp elt [⟨tg, iter, ifs, 0⟩] scope pos) (some (.Name y py)) pos'.line X.env = pure true) (hy : X.N[i]? = some y := by rfl) (hyl : X.env.scope.names.lookup y = some .local := by rfl)
    (hv : ∀ j ∈ ts, j ∈ own.map (·.2) := by decide) (hc : X.calm = true := by rfl) (hs : ∀ x, foldedSetIterable iter X.env x = pure x := by intro _; rfl) :
    DS X W (.Assign [.Name y py] (.ListComp elt [⟨tg, iter, ifs, 0⟩] scope pos) pos') (Fm.sAsg (Fm.eFrz (Fm.fComp mi g mt me (own.map (·.2)))) (Fm.gName i)) := by
  refine ⟨PS.imp (ps_setLc (te := tE X.K X.mg wNo me) (g := tTg X.K X.mg g ts) hc nd hy hyl hsw hi.p ok (fun s H C cl fp => (hg s H C cl fp).p) ht (fun s H C cl fp => (he s H C cl fp).p) hs) fun D σ H ⟨G, ι, Γ, μ, o, h⟩ => ?_⟩
  exact comp_to hv σ H _ (frz_to σ H _ ⟨G, ι, Γ, μ, o, As.st h fun x μ1 v G1 ι1 H1 _ e1 o1 r1 h1 => h1 _ G1 ι1 H1 Ext.refl (o1.set r1 i)⟩)
end
end L3
end
section
set_option Elab.async false
set_option linter.all false
set_option maxRecDepth 100000
set_option maxHeartbeats 4000000
namespace L3
open PySem L2 RZ PyProof.Rows PySem.Spec
open Fm (Vl MO Mem En Rs ME MF MA MT MG MS MI Out So Gd Ky)
section
variable {K : PySem.W.Frag} {mg : Str -> Option Value} {G G' H H' : Hp} {ι ι' : Im} {μ μ' : Mem}
def Fzb (μ : Mem) (i : Nat) : Prop := ∃ o, μ[i]? = some (some o) /\ (∀ kvs, o ≠ .dk true kvs) /\ ∀ kvs, o ≠ .dt true kvs
open Classical in
noncomputable def frzG (G : Hp) (ι : Im) (H : Hp) (μ : Mem) (S : List Nat) : Hp := fun a => if ∃ i, i ∈ S /\ ι i = some a /\ Fzb μ i then H a else G a
theorem frzG_in {S : List Nat} {i : Nat} {a : Addr} (h1 : i ∈ S) (h2 : ι i = some a) (h3 : Fzb μ i) : frzG G ι H μ S a = H a := if_pos ⟨i, h1, h2, h3⟩
theorem kill_at {S : List Nat} {i : Nat} {o : MO} (h : (Fm.kill S μ)[i]? = some (some o)) : i ∉ S /\ μ[i]? = some (some o) := by
  unfold Fm.kill at h
  rw [List.getElem?_mapIdx] at h
  cases e : μ[i]? with
  | none => rw [e] at h; cases h
  | some x =>
    rw [e] at h
    simp only [Option.map_some] at h
    split at h
    . cases h
    . rename_i n
      exact ⟨n, h⟩
theorem frz_same (m : Ms K mg G ι H μ) (S : List Nat) : Same G (frzG G ι H μ S) := fun a o q => by
  unfold frzG
  split
  . rename_i h
    obtain ⟨i, _, h2, h3⟩ := h
    obtain ⟨o', ho, _⟩ := h3
    obtain ⟨a', r1, r2, _⟩ := m.at_ i o' ho
    rw [h2] at r1
    cases r1
    rw [r2] at q
    cases q
  . exact q
theorem Ms.deepS (m : Ms K mg G ι H μ) (S : List Nat) : Ms K mg (frzG G ι H μ S) ι H (Fm.kill S μ) /\ Ext G ι H (frzG G ι H μ S) ι H := by
  have x : Xt G ι (frzG G ι H μ S) ι := ⟨frz_same m S, fun _ _ q => q⟩
  refine ⟨⟨fun a o q => ?_, fun i o q => ?_, fun i a q => ?_, m.inj⟩, x, fun a o q _ g n => ⟨q, ?_, n⟩, fun a o q => ⟨o, q⟩, fun a od u q => q, fun a xs q => q⟩
  . unfold frzG at q
    split at q
    . exact .inl q
    . exact m.s a o q
  . obtain ⟨hi, ho⟩ := kill_at q
    obtain ⟨a, r1, r2, r3⟩ := m.at_ i o ho
    refine ⟨a, r1, ?_, r3.up x rfl fun _ z => z⟩
    unfold frzG
    rw [if_neg]
    . exact r2
    . rintro ⟨j, h1, h2, _⟩
      exact hi (m.inj i j a r1 h2 ▸ h1)
  . have l : (Fm.kill S μ).length = μ.length := by unfold Fm.kill; rw [List.length_mapIdx]
    rw [l]
    exact m.dom i a q
  . unfold frzG
    rw [if_neg]
    . exact g
    . rintro ⟨j, _, h2, _⟩
      exact n j h2
theorem mapO_rv {S : List Nat} {n : Nat} (ih : ∀ (v : V) (x d : Vl), Rv K G ι v x -> Fm.frzV n μ x = some d -> (∀ i ∈ Fm.rchV n μ x, i ∈ S) -> Rv K (frzG G ι H μ S) ι v d) : ∀ {vs : List V} {xs ds : List Vl}, RvA K G ι vs xs -> Fm.mapO (Fm.frzV n μ) xs = some ds -> (∀ i ∈ Fm.flatL (Fm.rchV n μ) xs, i ∈ S) -> RvA K (frzG G ι H μ S) ι vs ds
  | _, _, _, .nil, e, _ => by cases e; exact .nil
  | _, _, _, .cons h a, e, hs => by
    obtain ⟨y, e1, e2⟩ := bnd e
    obtain ⟨ys, e3, e4⟩ := bnd e2
    cases e4
    exact .cons (ih _ _ _ h e1 fun i z => hs i (List.mem_append_left _ z)) (mapO_rv ih a e3 fun i z => hs i (List.mem_append_right _ z))
theorem frzV_rv (m : Ms K mg G ι H μ) {S : List Nat} : ∀ (n : Nat) (v : V) (x d : Vl), Rv K G ι v x -> Fm.frzV n μ x = some d -> (∀ i ∈ Fm.rchV n μ x, i ∈ S) -> Rv K (frzG G ι H μ S) ι v d
  | 0, v, x, d, h, e, _ => by
    unfold Fm.frzV at e
    split at e
    . cases e
      exact h.up ⟨frz_same m S, fun _ _ q => q⟩
    . cases e
  | n + 1, v, x, d, h, e, hs => by
    have xt : Xt G ι (frzG G ι H μ S) ι := ⟨frz_same m S, fun _ _ q => q⟩
    unfold Fm.frzV at e
    split at e
    . cases e
      exact h.up xt
    . cases h with
      | non => cases e
      | bl b => cases e
      | int i => cases e
      | str s => cases e
      | scr h => cases e
      | dct h l a => cases e
      | dtt h l a => cases e
      | ins h l a => cases e
      | ltup h => cases e
      | adr a => cases e
      | lst h a =>
        obtain ⟨ys, e1, e2⟩ := bnd e
        cases e2
        exact .lst (xt.g _ _ h) (mapO_rv (frzV_rv m n) a e1 hs)
      | tup h a =>
        obtain ⟨ys, e1, e2⟩ := bnd e
        cases e2
        exact .tup (xt.g _ _ h) (mapO_rv (frzV_rv m n) a e1 hs)
      | @ref i a h =>
        simp only at e
        have hi : i ∈ S := hs i (by unfold Fm.rchV; exact List.mem_cons_self)
        split at e
        . rename_i xs q
          obtain ⟨ys, e1, e2⟩ := bnd e
          cases e2
          obtain ⟨a', r1, _, vs, r2, r3⟩ := m.at_ _ _ q
          rw [h] at r1
          cases r1
          refine .lst ?_ (mapO_rv (frzV_rv m n) r3 e1 fun j z => hs j ?_)
          . rw [frzG_in hi h ⟨_, q, (fun _ z => by cases z), (fun _ z => by cases z)⟩]
            exact r2
          . unfold Fm.rchV
            simp only [q]
            exact List.mem_cons_of_mem _ z
        . rename_i kvs q
          obtain ⟨ys, e1, e2⟩ := bnd e
          cases e2
          obtain ⟨a', r1, _, vs, r2, r3⟩ := m.at_ _ _ q
          rw [h] at r1
          cases r1
          refine .dct (xs := vs) ?_ (by rw [r3.len]; simp) (mapO_rv (frzV_rv m n) r3 e1 fun j z => hs j ?_)
          . rw [frzG_in hi h ⟨_, q, (fun _ z => by cases z), (fun _ z => by cases z)⟩]
            exact r2
          . unfold Fm.rchV
            simp only [q]
            exact List.mem_cons_of_mem _ z
        . rename_i kvs q
          obtain ⟨ys, e1, e2⟩ := bnd e
          cases e2
          obtain ⟨a', r1, _, vs, r2, r3⟩ := m.at_ _ _ q
          rw [h] at r1
          cases r1
          refine .dtt (xs := vs) ?_ (by rw [r3.len]; simp) (mapO_rv (frzV_rv m n) r3 e1 fun j z => hs j ?_)
          . rw [frzG_in hi h ⟨_, q, (fun _ z => by cases z), (fun _ z => by cases z)⟩]
            exact r2
          . unfold Fm.rchV
            simp only [q]
            exact List.mem_cons_of_mem _ z
        . rename_i c fs q
          obtain ⟨ys, e1, e2⟩ := bnd e
          cases e2
          obtain ⟨a', r1, _, C, dx, vs, r2, _, rfl, r3⟩ := m.at_ _ _ q
          rw [h] at r1
          cases r1
          refine .ins (dx := dx) (xs := vs) ?_ (by rw [r3.len]; simp) (mapO_rv (frzV_rv m n) r3 e1 fun j z => hs j ?_)
          . rw [frzG_in hi h ⟨_, q, (fun _ z => by cases z), (fun _ z => by cases z)⟩]
            exact r2
          . unfold Fm.rchV
            simp only [q]
            exact List.mem_cons_of_mem _ z
        . cases e
end
section
variable {X : Cx} {W : WX} {e : Expr} {m : ME}
theorem ddeep (h : DE X W e m) : DE X W e (Fm.eDeep m) := ⟨PE.imp h.p fun σ H Q ⟨G, ι, Γ, μ, o, h⟩ =>
  ⟨G, ι, Γ, μ, o, Af.bind h fun x μ1 v G1 ι1 H1 _ e1 o1 r1 h1 => by
    split at h1
    . rename_i d q
      obtain ⟨m', e'⟩ := o1.m.deepS (Fm.rchV Fm.depthF μ1 x)
      exact h1 v _ ι1 H1 e' (o1.step e'.toXt m') (frzV_rv o1.m _ _ _ _ r1 q fun _ z => z)
    . exact False.elim h1⟩⟩
end
section
variable {K : PySem.W.Frag} {mg : Str -> Option Value} {G G' H H' : Hp} {ι ι' : Im} {μ μ' : Mem}
def rsI (n : Nat) (ι : Im) : Im := fun j => if j < n then ι j else none
theorem rsI_lt {n j : Nat} (h : j < n) : rsI n ι j = ι j := if_pos h
theorem rsI_some {n j : Nat} {a : Addr} (h : rsI n ι j = some a) : j < n /\ ι j = some a := by
  unfold rsI at h
  split at h
  . exact ⟨by assumption, h⟩
  . cases h
mutual
theorem Rv.undOf {n : Nat} {v : V} {x : Vl} (d : ∀ i a, ι i = some a -> i < n) (h : Rv K G ι v x) : x.und n = true := by
  cases h with
  | non => rfl
  | bl b => rfl
  | int i => rfl
  | str s => rfl
  | scr h => rfl
  | lst h a => exact RvA.undOf d a
  | tup h a => exact RvA.undOf d a
  | dct h l a => exact RvA.undOf d a
  | dtt h l a => exact RvA.undOf d a
  | ins h l a => exact RvA.undOf d a
  | ltup h => rfl
  | adr a => rfl
  | ref h => exact decide_eq_true (d _ _ h)
theorem RvA.undOf {n : Nat} {v : List V} {x : List Vl} (d : ∀ i a, ι i = some a -> i < n) (h : RvA K G ι v x) : Vl.undA n x = true := by
  cases h with
  | nil => rfl
  | cons x a =>
    unfold Vl.undA
    rw [Rv.undOf d x, RvA.undOf d a]
    rfl
end
theorem Ro.undOf {n : Nat} {a : Addr} {o : MO} (d : ∀ i a, ι i = some a -> i < n) (h : Ro K mg G ι H a o) : o.und n = true := by
  cases o with
  | lst xs =>
    obtain ⟨vs, q, r⟩ := h
    exact r.undOf d
  | dk l kvs =>
    obtain ⟨vs, q, r⟩ := h
    exact r.undOf d
  | dt l kvs =>
    obtain ⟨vs, q, r⟩ := h
    exact r.undOf d
  | ins c fs =>
    obtain ⟨C, dx, vs, q, q2, q3, r⟩ := h
    exact r.undOf d
theorem Ms.gc (m0 : Ms K mg G ι H μ) (m : Ms K mg G' ι' H' μ') (e : Ext G ι H G' ι' H') (c : Fm.Cln μ μ') : Ms K mg G' (rsI μ.length ι') H' (μ'.take μ.length) /\ Ext G ι H G' (rsI μ.length ι') H' := by
  refine ⟨⟨m.s, fun i o q => ?_, fun i a q => ?_, fun i j a q r => m.inj i j a (rsI_some q).2 (rsI_some r).2⟩, ⟨e.g, fun j a q => ?_⟩, fun a o q t g n => ?_, e.t, e.l, e.tp⟩
  . rw [List.getElem?_take] at q
    split at q
    . rename_i hi
      obtain ⟨a, r1, r2, r3⟩ := m.at_ i o q
      refine ⟨a, by rw [rsI_lt hi]; exact r1, r2, ?_⟩
      refine r3.und (n := μ.length) ?_ fun j b hj w => by rw [rsI_lt hj]; exact w
      rcases c i hi with z | ⟨o', z1, z2⟩
      . rw [z] at q
        obtain ⟨a0, _, _, t3⟩ := m0.at_ i o q
        exact t3.undOf fun j b w => (m0.dom j b w).1
      . rw [q] at z1
        cases z1
        exact z2 o rfl
    . cases q
  . obtain ⟨h1, h2⟩ := rsI_some q
    obtain ⟨h3, h4⟩ := m.dom i a h2
    exact ⟨by rw [List.length_take]; omega, h4⟩
  . rw [rsI_lt (m0.dom j a q).1]
    exact e.i j a q
  . obtain ⟨h1, h2, h3⟩ := e.f a o q t g n
    exact ⟨h1, h2, fun i z => h3 i (rsI_some z).2⟩
end
section
variable {P : Program} {w : World} {K : PySem.W.Frag} {mg : Str -> Option Value} {base : Heap} {x qual : Str} {params : Arguments} {body : List Stmt} {scope : Scope} {f : Addr} {fd : FuncData} {N ps : List Str} {k : Nat}
theorem args_at {n i : Nat} {ds : List Vl} {s : Vl} (h : (Fm.args n ds)[i]? = some (some s)) : ds[i]? = some s := by
  unfold Fm.args at h
  by_cases l : i < ds.length
  . rw [List.getElem?_append_left (by rw [List.length_map]; exact l), List.getElem?_map, List.getElem?_eq_getElem l] at h
    rw [List.getElem?_eq_getElem l]
    exact Option.some.inj h
  . rw [List.getElem?_append_right (by rw [List.length_map]; omega)] at h
    obtain ⟨h1, h2⟩ := List.getElem?_eq_some_iff.mp h
    rw [List.getElem_replicate] at h2
    cases h2
theorem start_at {i : Nat} {v : V} {vs : List V} (h : vs[i]? = some v) : (L2.start N vs)[i]? = some (some v) := by
  unfold L2.start
  have l := (List.getElem?_eq_some_iff.mp h).1
  rw [List.getElem?_append_left (by rw [List.length_map]; exact l), List.getElem?_map, h]
  rfl
theorem ok_start {G H : Hp} {ι : Im} {μ : Mem} {vs : List V} {ds : List Vl} (m : Ms K mg G ι H μ) (d : RvA K G ι vs ds) : Ok K mg G ι H (L2.start N vs) (Fm.args N.length ds) μ where
  m := m
  at_ := fun i s e => by
    obtain ⟨v, h2, h3⟩ := d.get (args_at e)
    exact ⟨v, start_at h2, h3⟩
  ln := by
    unfold L2.start Fm.args
    rw [List.length_append, List.length_append, List.length_map, List.length_map, List.length_replicate, List.length_replicate, d.len]
abbrev wE (E : XK) : WX := fun cls d _ H => E cls d H
abbrev Bd (P : Program) (w : World) (K : PySem.W.Frag) (mg : Str -> Option Value) (base : Heap) (qual : Str) (body : List Stmt) (scope : Scope) (f : Addr) (N : List Str) (k : Nat) (m : MS) : Prop :=
  ∀ (cdv : Value) (A : Around) (outer : List Env) (s : Shared) (H : Hp) (E : XK), Room k (A.deeper (envOfC qual scope s.heap.objs.size f cdv)) -> DSs (cxOf (L2N.CX P w) P w K mg base N qual scope f cdv A outer s H E) (wE E) body m
theorem gcM_ok {G G' H H' : Hp} {ι ι' : Im} {μ μ' : Mem} {b : Bool} (m0 : Ms K mg G ι H μ) (m : Ms K mg G' ι' H' μ') (e : Ext G ι H G' ι' H') : ∃ ι'', Ms K mg G' ι'' H' (Fm.gcM b μ μ') /\ Ext G ι H G' ι'' H' /\ (∀ j a, ι'' j = some a -> ι' j = some a) /\
    (ι'' = ι' \/ (b = true /\ ∀ j a, j < μ.length -> ι' j = some a -> ι'' j = some a)) := by
  unfold Fm.gcM
  split
  . rename_i h
    obtain ⟨m', e'⟩ := m0.gc m e h.2
    exact ⟨_, m', e', fun j a q => (rsI_some q).2, .inr ⟨h.1, fun j a hj q => by rw [rsI_lt hj]; exact q⟩⟩
  . exact ⟨ι', m, e, fun _ _ q => q, .inl rfl⟩
theorem okV (F : FunD K x qual params body scope [] [] f fd) (S : FnScope N ps scope) {m : MS} (hb : Bd P w K mg base qual body scope f N k m) : FnOk P w K mg base (L2N.CX P w) (k + 1) f fd ps (spV K mg ps.length (Fm.fnV ps.length N.length m)) := by
  refine F.ok S (fun vs H Q E h => h.1) (fun cdv A outer s H vs Q E hr h => ?_)
  obtain ⟨hl, G, ι, μ, xs, ms, rv, cf⟩ := h
  refine ⟨_, (hb cdv A outer s H E hr).p, G, ι, _, μ, ok_start ms rv, ?_⟩
  unfold Fm.fnV at cf
  split at cf
  . match q : m (Fm.args N.length xs) μ with
    | none =>
      rw [q] at cf
      exact cf
    | some (.nx Γ, μ') =>
      rw [q] at cf
      intro σ' G' ι' H' e' o'
      obtain ⟨ι'', m2, e2, _, h2⟩ := gcM_ok (b := Vl.non.und μ.length) ms o'.m e'
      exact cf .non G' ι'' H' e2 m2 .non
    | some (.rt y, μ') =>
      rw [q] at cf
      intro v G' ι' H' e' m' r'
      obtain ⟨ι'', m2, e2, _, h2⟩ := gcM_ok (b := y.und μ.length) ms m' e'
      refine cf v G' ι'' H' e2 m2 ?_
      rcases h2 with rfl | ⟨h3, h4⟩
      . exact r'
      . exact r'.und h3 h4
    | some (.ex c r Γ, μ') =>
      rw [q] at cf
      intro C d σ' G' ι' H' e' o' hc hx
      obtain ⟨ι'', m2, e2, _, h2⟩ := gcM_ok (b := true) ms o'.m e'
      exact cf C d G' ι'' H' e2 m2 hc hx
    | some (.rf none y, μ') =>
      rw [q] at cf
      exact False.elim cf
    | some (.rf (some i) y, μ') =>
      rw [q] at cf
      exact False.elim cf
    | some (.bk Γ, μ') =>
      rw [q] at cf
      exact False.elim cf
    | some (.ct Γ, μ') =>
      rw [q] at cf
      exact False.elim cf
  . exact False.elim cf
theorem okF (F : FunD K x qual params body scope [] [] f fd) (S : FnScope N ps scope) {m : MS} (hb : Bd P w K mg base qual body scope f N k m) : FnOk P w K mg base (L2N.CX P w) (k + 1) f fd ps (spF K mg ps.length (Fm.fnF ps.length N.length m)) := by
  refine F.ok S (fun vs H Q E h => h.1) (fun cdv A outer s H vs Q E hr h => ?_)
  obtain ⟨hl, G, ι, μ, xs, ms, rv, cf⟩ := h
  refine ⟨_, (hb cdv A outer s H E hr).p, G, ι, _, μ, ok_start ms rv, ?_⟩
  unfold Fm.fnF at cf
  split at cf
  . match q : m (Fm.args N.length xs) μ with
    | none =>
      rw [q] at cf
      exact cf
    | some (.nx Γ, μ') =>
      rw [q] at cf
      exact False.elim cf
    | some (.rt y, μ') =>
      rw [q] at cf
      exact False.elim cf
    | some (.ex c r Γ, μ') =>
      rw [q] at cf
      intro C d σ' G' ι' H' e' o' hc hx
      obtain ⟨ι'', m2, e2, _, h2⟩ := gcM_ok (b := true) ms o'.m e'
      exact cf C d G' ι'' H' e2 m2 hc hx
    | some (.rf none y, μ') =>
      rw [q] at cf
      intro p G' ι' H' e' m' f'
      obtain ⟨ι'', m2, e2, h1, h2⟩ := gcM_ok (b := y.und μ.length) ms m' e'
      refine cf _ G' ι'' H' e2 m2 ⟨p, rfl, f'.z, f'.g, fun j z => f'.n j (h1 _ _ z), ?_⟩
      rcases h2 with rfl | ⟨h3, h4⟩
      . exact f'.r
      . exact f'.r.und h3 h4
    | some (.rf (some i) y, μ') =>
      rw [q] at cf
      simp only [Fm.outF] at cf
      intro p G' ι' H' e' m' gp ip r'
      split at cf
      . rename_i hc
        obtain ⟨m2, e2⟩ := ms.gc m' e' hc.2.2
        have hp : H p = none := by
          cases w : H p with
          | none => rfl
          | some u =>
            by_cases hj : ∃ j, ι j = some p
            . obtain ⟨j, hj⟩ := hj
              have h1 := m'.inj i j p ip (e'.i j p hj)
              have h2 := (ms.dom j p hj).1
              have h3 := hc.1
              omega
            . have gp0 : G p = none := by
                cases w2 : G p with
                | none => rfl
                | some u2 =>
                  rw [e'.g _ _ w2] at gp
                  cases gp
              exact absurd ip ((e'.f p u w (fun xs z => r'.notup xs (e'.tp p xs (by rw [w, z]))) gp0 fun j z => hj ⟨j, z⟩).2.2 i)
        refine cf _ G' _ H' e2 m2 ⟨p, rfl, hp, gp, fun j z => ?_, r'.und hc.2.1 fun j b hj w => by rw [rsI_lt hj]; exact w⟩
        obtain ⟨z1, z2⟩ := rsI_some z
        have h1 := m'.inj i j p ip z2
        have h3 := hc.1
        omega
      . exact False.elim cf
    | some (.bk Γ, μ') =>
      rw [q] at cf
      exact False.elim cf
    | some (.ct Γ, μ') =>
      rw [q] at cf
      exact False.elim cf
  . exact False.elim cf
theorem fd_of {sp : Sp} (F : FunD K x qual params body scope [] [] f fd) (ok : FnOk P w K mg base (L2N.CX P w) k f fd ps sp) (hm : mg x = some (.ref f)) (hb : Binds K fd ps []) : Fd P w K mg base x k sp :=
  ⟨f, fd, ps, ok, hm, F.kp, hb⟩
theorem Fd.up {sp : Sp} {j : Nat} (h : Fd P w K mg base x k sp) (l : k <= j) : ∀ {A : Around}, Room j A -> Room k A := fun r => r.mono l
end
end L3
end
section
set_option Elab.async false
set_option linter.all false
set_option maxRecDepth 100000
set_option maxHeartbeats 4000000
namespace L3
open PySem L2 RZ PyProof.Rows PySem.Spec
open Fm (Vl MO Mem En Rs ME MF MA MT MG MS MI Out So Gd Ky)
theorem hu64 {A : Around} {k : Nat} (hr : Room k A) : A.units + 64 < cLine := by
  have := hr.un
  omega
theorem fn_none {α : Type} {P : Program} {w : World} {K : PySem.W.Frag} {mg : Str -> Option Value} {base : Heap} {CX : CXT} {k n : Nat} {f : Addr} {fd : FuncData} {ps : List Str} {R : Rl α V} : FnOk P w K mg base CX k f fd ps (spG K mg R n fun _ _ => .no) := by
  refine ⟨?_, ?_⟩
  . intro vs H Q E h
    obtain ⟨_, _, _, _, _, _, _, h⟩ := h
    exact False.elim h
  . intros
    rename_i h
    obtain ⟨_, _, _, _, _, _, _, h⟩ := h
    exact False.elim h
theorem cx_false {P : Program} {w : World} {l : List Env} {H : Hp} {s : Shared} {e : Value} {s' : Shared} (h : L2N.CX P w l H s (fun _ _ _ => False) e s') : False := by
  obtain ⟨a, B, H', cls, d, h⟩ := h
  simp at h
theorem fn_cx0 {P : Program} {w : World} {K : PySem.W.Frag} {mg : Str -> Option Value} {base : Heap} {k : Nat} {f : Addr} {fd : FuncData} {ps : List Str} {sp : Sp} (F : FnOk P w K mg base (L2N.CX P w) k f fd ps sp) : FnOk P w K mg base CX0 k f fd ps (fun vs H Q _ => sp vs H Q fun _ _ _ => False) := by
  refine ⟨fun vs H Q E h => F.len vs H Q _ h, fun A outer s H args us vs Q E hr he hb hv hs => codeAny_mono (F.run A outer s H args us vs Q _ hr he hb hv hs) fun r s' h => ?_⟩
  cases r with
  | error e => exact False.elim (cx_false h)
  | ok fl => cases fl <;> exact h
theorem law_start {K : PySem.W.Frag} {mg : Str -> Option Value} {H : Hp} {a : Addr} {ns : List Int} {F : List Vl -> Mem -> Rs Vl} (h : ∃ μ', F [.scr ns] [] = .ok (.bl true) μ') (hS : SqL K H a (ns.map V.int)) : spV K mg 1 F [.ref a] H (fun v _ => v = .bl true) (fun _ _ _ => False) := by
  obtain ⟨μ', h⟩ := h
  refine ⟨rfl, fun b => if b = a then H b else none, fun _ => none, [], [.scr ns], ⟨fun b o q => ?_, fun i o q => (by cases q), fun i a q => (by cases q), fun i j a q => (by cases q)⟩, .cons (.scr ?_) .nil, ?_⟩
  . by_cases hb : b = a
    . rw [if_pos hb] at q
      exact .inl q
    . rw [if_neg hb] at q
      cases q
  . rcases hS with (h | ⟨o, h⟩) | h
    . exact .inl (.inl (by show (if a = a then H a else none) = _; rw [if_pos rfl]; exact h))
    . exact .inl (.inr ⟨o, by show (if a = a then H a else none) = _; rw [if_pos rfl]; exact h⟩)
    . exact .inr h
  . rw [h]
    intro v G' ι' H' _ _ r
    exact bl_of r
end L3
end
section
set_option Elab.async false
set_option linter.all false
set_option maxRecDepth 100000
set_option maxHeartbeats 4000000
namespace L3
open PySem L2
open Fm (Vl MO Mem En Rs ME MF MA MT MG MS MI Out So Gd Ky)
section
variable {X : Cx} {W : WX} {pos : Pos} {a : Expr} {ma : ME}
theorem dneg (ha : DE X W a ma) : DE X W (.UnaryOp .USub a pos) (Fm.eUn Fm.gNeg ma) := ⟨PE.imp (pe_un un_neg ha.p) fun σ H Q ⟨G, ι, Γ, μ, o, h⟩ =>
  ⟨G, ι, Γ, μ, o, Af.bind h fun x μ1 v G1 ι1 H1 _ e1 o1 r1 h1 => by
    obtain ⟨z, e, h2⟩ := Af.of h1
    unfold Fm.gNeg at e
    split at e
    . cases e
      exact ⟨_, int_of r1, af_val o1 h2 Ext.refl o1.m (.int _)⟩
    . cases e⟩⟩
theorem drev {k : Nat} {p1 p2 p3 : Pos} (ha : DE X W a ma) : DF X W (.Subscript a (.Slice none none (some (.UnaryOp .USub (.Constant (.int 1) k p1) p2)) p3) pos) (Fm.fUn Fm.gRev ma) := ⟨PE.imp (pe_revL ha.p) fun σ H Q ⟨G, ι, Γ, μ, o, h⟩ =>
  ⟨G, ι, Γ, μ, o, Af.bind h fun x μ1 v G1 ι1 H1 _ e1 o1 r1 h1 => by
    obtain ⟨z, e, h2⟩ := Af.of h1
    obtain ⟨xs, e2, e3⟩ := bnd e
    cases e3
    obtain ⟨a, vs, rfl, r2, r3⟩ := lstOf_of o1.m r1 e2
    exact ⟨a, vs, rfl, SqL.of r2, newF o1.m r3.reverse fun p H' e' m' f' => af_new o1 h2 e' m' f'⟩⟩⟩
end
end L3
end
section
set_option Elab.async false
set_option linter.all false
set_option maxRecDepth 100000
set_option maxHeartbeats 4000000
namespace L3
open PySem L2 PySem.Spec PyProof.Rows
open Fm (Vl MO Mem En Rs ME MF MA MT MG MS MI Out So Gd Ky)
def rSortedD (K : PySem.W.Frag) : List V -> Hp -> VK -> Prop := fun vs H Q => ∃ (a : Addr) (xs : List V) (ds : List PyData), vs = [V.ref a] /\ SqL K H a xs /\ DpAll K H xs ds /\ PySem.W.AllAlike ds /\ PySem.W.Sortable ds /\ (∀ d ∈ ds, d.depth <= 9) /\ 
  ∀ p, H p = none -> Q (.ref p) (upd H p (.lst (((xs.zip ds).mergeSort (PySem.W.dataLe false fun b => b.2)).map (·.1))))
theorem dpAll_len {K : PySem.W.Frag} {H : Hp} : ∀ {xs : List V} {ds : List PyData}, DpAll K H xs ds -> xs.length = ds.length
  | _, _, .nil => rfl
  | _, _, .cons _ h => by rw [List.length_cons, List.length_cons, dpAll_len h]
section
variable {X : Cx} {pins : List (Addr × Obj)} {σ : L2.St} {H : Hp} {s : Shared}
theorem each_zip (I : Inv X pins σ H s) : ∀ {xs : List V} {ds : List PyData} {its : List Value}, DpAll X.K H xs ds -> Vals xs its -> PySem.W.EachIs (fun (v : Value) (b : V × PyData) => RelV b.1 v) its (xs.zip ds) /\ PySem.W.EachIs (fun (v : Value) (b : V × PyData) => ∃ as, Reads s.heap v b.2 as) its (xs.zip ds)
  | _, _, _, .nil, .nil => ⟨.nil, .nil⟩
  | _, _, _, .cons h a, .cons r b => by
    obtain ⟨e1, e2⟩ := each_zip I a b
    exact ⟨.cons r e1, .cons (Dp.reads I _ _ _ h r) e2⟩
theorem vals_each : ∀ {out : List Value} {bs : List (V × PyData)}, PySem.W.EachIs (fun (v : Value) (b : V × PyData) => RelV b.1 v) out bs -> Vals (bs.map (·.1)) out
  | _, _, .nil => .nil
  | _, _, .cons h t => .cons h (vals_each t)
theorem snd_zip {xs : List V} {ds : List PyData} (l : xs.length = ds.length) : (xs.zip ds).map (fun b => b.2) = ds := List.map_snd_zip (by omega)
end
theorem cr_sortedD {X : Cx} (hu : X.A.units + 64 < cLine) : CallR X (.builtin "sorted") (rSortedD X.K) := by
  intro pins s σ H vs us Q I r h
  obtain ⟨a, xs, ds, rfl, hs, dp, hal, hk, hd, q⟩ := h
  obtain ⟨its, rv, hl, hz⟩ := I.list hs
  rw [Vals.ref1 r]
  have l := dpAll_len dp
  obtain ⟨e1, e2⟩ := each_zip I dp rv
  refine PySem.W.sorted_data (R := fun (v : Value) (b : V × PyData) => RelV b.1 v) (enc := fun b => b.2) (bs := xs.zip ds) hl.isList e1 e2 (by rw [snd_zip l]; exact hal) (by rw [snd_zip l]; exact hk) (by rw [List.length_zip]; omega) (fun b hb => ?_) fun out ho eo => ?_
  . have := hd b.2 (by rw [<- snd_zip l]; exact List.mem_map.mpr ⟨b, hb, rfl⟩)
    omega
  . obtain ⟨ep, he'⟩ := PyProof.Rows.sortedAll_at s.heap its out.toArray
    have hlen : (((xs.zip ds).mergeSort (PySem.W.dataLe false fun b => b.2)).map (·.1)).length <= sizeLine := by
      rw [List.length_map, List.length_mergeSort, List.length_zip]
      omega
    exact ⟨.ref _, upd H (s.heap.objs.size + 1) (.lst (((xs.zip ds).mergeSort (PySem.W.dataLe false fun b => b.2)).map (·.1))), I.laid (t' := s.toks) (fun _ _ => PyProof.Rows.sortedAll_old) (Nat.le_succ _) ⟨hlen, out, ep, vals_each eo, he'⟩, rfl, q _ (I.hok.fresh (Nat.le_succ _))⟩
section
variable {K : PySem.W.Frag} {mg : Str -> Option Value} {G H : Hp} {ι : Im} {μ : Mem}
theorem rv_trip : ∀ (ts : List (V × Vl × PyData)), (∀ t ∈ ts, Rv K G ι t.1 t.2.1) -> RvA K G ι (ts.map (·.1)) (ts.map (·.2.1))
  | [], _ => .nil
  | t :: r, h => .cons (h t List.mem_cons_self) (rv_trip r fun u hu => h u (List.mem_cons_of_mem _ hu))
theorem trip_mem : ∀ {xs : List V} {zs : List Vl} {ds : List PyData}, RvA K G ι xs zs -> ∀ t ∈ xs.zip (zs.zip ds), Rv K G ι t.1 t.2.1
  | _, _, [], .cons _ _, t, h => by simp at h
  | _, _, d :: ds, .cons x a, t, h => by
    rcases List.mem_cons.mp h with rfl | h
    . exact x
    . exact trip_mem a t h
  | _, _, _, .nil, t, h => by simp at h
theorem trip_a : ∀ {xs : List V} {zs : List Vl} {ds : List PyData}, xs.length = zs.length -> (xs.zip (zs.zip ds)).map (fun t => (t.1, t.2.2)) = xs.zip ds
  | [], _, _, _ => by simp
  | x :: xs, z :: zs, [], _ => by simp
  | x :: xs, z :: zs, d :: ds, l => by
    simp only [List.zip_cons_cons, List.map_cons]
    rw [trip_a (by simpa using l)]
theorem trip_b : ∀ {xs : List V} {zs : List Vl} {ds : List PyData}, xs.length = zs.length -> (xs.zip (zs.zip ds)).map (fun t => t.2) = zs.zip ds
  | [], [], _, _ => by simp
  | x :: xs, z :: zs, [], _ => by simp
  | x :: xs, z :: zs, d :: ds, l => by
    simp only [List.zip_cons_cons, List.map_cons]
    rw [trip_b (by simpa using l)]
theorem sort_rv {xs : List V} {zs : List Vl} {ds : List PyData} (h : RvA K G ι xs zs) : RvA K G ι (((xs.zip ds).mergeSort (PySem.W.dataLe false fun b => b.2)).map (·.1)) (Fm.sortBy ds zs) := by
  have l := h.len
  have ea : (xs.zip ds).mergeSort (PySem.W.dataLe false fun b => b.2) = ((xs.zip (zs.zip ds)).mergeSort (PySem.W.dataLe false fun t => t.2.2)).map fun t => (t.1, t.2.2) := by
    rw [List.map_mergeSort (r := PySem.W.dataLe false fun t : V × Vl × PyData => t.2.2) (s := PySem.W.dataLe false fun b : V × PyData => b.2) (f := fun t => (t.1, t.2.2)) (fun _ _ _ _ => rfl), trip_a l]
  have eb : (zs.zip ds).mergeSort (PySem.W.dataLe false fun b => b.2) = ((xs.zip (zs.zip ds)).mergeSort (PySem.W.dataLe false fun t => t.2.2)).map fun t => t.2 := by
    rw [List.map_mergeSort (r := PySem.W.dataLe false fun t : V × Vl × PyData => t.2.2) (s := PySem.W.dataLe false fun b : Vl × PyData => b.2) (f := fun t => t.2) (fun _ _ _ _ => rfl), trip_b l]
  unfold Fm.sortBy
  rw [ea, eb, List.map_map, List.map_map]
  exact rv_trip _ fun t ht => trip_mem h t (List.mem_mergeSort.mp ht)
theorem ca_sorted : CaF K mg (rSortedD K) Fm.bSorted := by
  intro vs G H ι μ ds dz Q m hv e q
  unfold Fm.bSorted at e
  split at e
  . obtain ⟨zs, e1, e2⟩ := bnd e
    obtain ⟨ps, e3, e4⟩ := bnd e2
    split at e4
    . rename_i hc
      cases e4
      obtain ⟨v, rfl, h1⟩ := one_of hv
      obtain ⟨a, us, rfl, r2, r3⟩ := lstOf_of m h1 e1
      exact ⟨a, us, ps, rfl, SqL.of r2, mapO_dp m (pyV_dp m _) r3 e3, hc.1, hc.2.1, hc.2.2.1, newF m (sort_rv r3) q⟩
    . cases e4
  . cases e
end
theorem db_sorted {X : Cx} (hu : X.A.units + 64 < cLine) : DBF X "sorted" Fm.bSorted := ⟨_, fun hg hm ha he hp => pe_callB (cr_sortedD hu) hg hm (by decide +kernel) ha (by decide) (by decide) he hp, ca_sorted⟩
end L3
end
section
set_option Elab.async false
set_option linter.all false
set_option autoImplicit false
set_option maxRecDepth 100000
set_option maxHeartbeats 4000000
namespace L3R
open PySem PySem.W PySem.Calls PyProof.Rows
def KpS (fs : List Addr) (h h' : Heap) : Prop := ∀ b o, h.get? b = some o -> (b ∉ fs -> h'.get? b = some o) /\ ∃ sl, h'.get? b = some { o with slots := sl }
def KpB (fs : List Addr) (a : Addr) (h h' : Heap) : Prop := ∀ b o, b ≠ a -> h.get? b = some o -> (b ∉ fs -> h'.get? b = some o) /\ ∃ sl, h'.get? b = some { o with slots := sl }
theorem KpB.trans {fs : List Addr} {a : Addr} {h h1 h2 : Heap} (k : KpB fs a h h1) (l : ∀ b o, b ≠ a -> (∃ o', h.get? b = some o') -> h1.get? b = some o -> (b ∉ fs -> h2.get? b = some o) /\ ∃ sl, h2.get? b = some { o with slots := sl }) : KpB fs a h h2 := fun b o hb e => by
  obtain ⟨k1, sl, k2⟩ := k b o hb e
  obtain ⟨l1, sl', l2⟩ := l b _ hb ⟨_, e⟩ k2
  exact ⟨fun n => (l b o hb ⟨_, e⟩ (k1 n)).1 n, sl', l2⟩
section
variable {h h' : Heap}
mutual
theorem reads_sl (k : ∀ b o, h.get? b = some o -> ∃ sl, h'.get? b = some { o with slots := sl }) : ∀ {v : Value} {d : PyData} {as : List Addr}, Reads h v d as -> Reads h' v d as
  | _, _, _, .none => .none
  | _, _, _, .bool b => .bool b
  | _, _, _, .int i t => .int i t
  | _, _, _, .str x t => .str x t
  | _, _, _, .list h1 h2 h3 h4 => by
    obtain ⟨sl, e⟩ := k _ _ h1
    exact .list e h2 h3 (readsA_sl k h4)
  | _, _, _, .tuple h1 h2 h3 h4 => by
    obtain ⟨sl, e⟩ := k _ _ h1
    exact .tuple e h2 h3 (readsA_sl k h4)
  | _, _, _, .dict h1 h2 h3 h4 h5 => by
    obtain ⟨sl, e⟩ := k _ _ h1
    exact .dict e h2 h3 (readsA_sl k h4) (readsA_sl k h5)
theorem readsA_sl (k : ∀ b o, h.get? b = some o -> ∃ sl, h'.get? b = some { o with slots := sl }) : ∀ {v : List Value} {d : List PyData} {as : List Addr}, ReadsAll h v d as -> ReadsAll h' v d as
  | _, _, _, .nil => .nil
  | _, _, _, .cons a b => .cons (reads_sl k a) (readsA_sl k b)
end
end
def trunc (h : Heap) (n : Nat) : Heap := { h with objs := h.objs.extract 0 n }
theorem trunc_lt {h : Heap} {n b : Nat} (hb : b < n) : (trunc h n).get? b = h.get? b := by
  have e : (h.objs.extract 0 n)[b]? = h.objs[b]? := by
    rw [Array.getElem?_extract]
    simp
    omega
  unfold trunc Heap.get?
  simp only [e]
theorem trunc_ge {h : Heap} {n b : Nat} (hb : n <= b) : (trunc h n).get? b = none := by
  refine Heap.get?_none_of_le ?_
  show (h.objs.extract 0 n).size <= b
  rw [Array.size_extract]
  omega
section
variable {prog : Program} {w : World} {A : Around} {E : Value -> Shared -> Prop} {s : Shared} {a kS : Addr} {b : Bool} {vs : List Value} {e1 : Nat} {P : PySem.Fin -> Shared -> Prop} {kz : List PyData} {fs : List Addr}
def KeyR (fs : List Addr) (k : PyData) (s₁ : Shared) (v : Value) (s₂ : Shared) : Prop := s₂.os = s₁.os /\ AllBare s₂.gens /\ KpS fs s₁.heap s₂.heap /\ Reads s₂.heap v k []
theorem keyR_rest {f : Value} {h₁ : Heap} (kp : KpB fs a h₁ s.heap) (bare : AllBare s.gens) (hkS : h₁.objs.size <= kS) (nfs : kS ∉ fs) (afs : a ∉ fs) (nk : s.heap.get? kS = some (seqObj "list" #[] 0)) (na : s.heap.get? a = some (seqObj "list" #[] e1)) (hka : kS ≠ a)
    (hlen : kz.length = vs.length) (hZ : vs.length <= sizeLine) (hal : AllAlike kz) (hsk : Sortable kz) (hu : ∀ d, d ∈ kz -> A.units + d.depth < cLine)
    (turn : ∀ (i : Nat) (v : Value) (k : PyData), vs[i]? = some v -> kz[i]? = some k -> ∀ s' : Shared, s'.os = s.os -> AllBare s'.gens -> KpB fs a h₁ s'.heap -> wpAny (model prog w) A (call f [v]) (KeyR fs k s') (fun _ _ => False) s')
    (h : ∀ (s' : Shared) out c, s'.os = s.os -> AllBare s'.gens -> KpB fs a h₁ s'.heap -> s'.heap.get? a = some (seqObj "list" (List.toArray out) c) -> KeyedOut b kz vs out -> P (.done (.ret .none)) s') :
    wpAny (model prog w) A (ksk_rest a f b vs.toArray e1 (.ref kS)) P E s := by
  unfold ksk_rest
  refine wpAny_bind (wpAny_rule ?_)
  rw [List.forIn_toArray]
  have old : ∀ {c : Addr}, (∃ o', h₁.get? c = some o') -> c ≠ kS := fun {c} ⟨o', e⟩ => by
    have := Heap.lt_size e
    intro z
    rw [z] at this
    exact Nat.not_lt.mpr hkS this
  refine wpAny_bind (ksk_fold (fun i s' => s'.os = s.os /\ AllBare s'.gens /\ KpB fs a h₁ s'.heap /\ ∃ kA e, s'.heap.get? kS = some (seqObj "list" kA e) /\ s'.heap.get? a = some (seqObj "list" #[] e1) /\ EachIs (fun v k => Reads s'.heap v k [] /\ alike k k = true) kA.toList (kz.take i)) vs 0 s
    ⟨rfl, bare, kp, #[], 0, nk, na, by rw [List.take_zero]; exact EachIs.nil⟩ ?step ?done)
  case step =>
    rintro j x s' hx ⟨os', bare', kp', kA, e, nk', na', hk⟩
    simp only [Nat.zero_add] at hk ⊢
    have hj : j < vs.length := (List.getElem?_eq_some_iff.mp hx).1
    obtain ⟨k, hkj⟩ : ∃ k, kz[j]? = some k := ⟨_, List.getElem?_eq_getElem (by omega)⟩
    have hkk : alike k k = true := hal k (List.mem_of_getElem? hkj) k (List.mem_of_getElem? hkj)
    have hz : kA.size <= vs.length := by
      have h1 := hk.length
      rw [Array.length_toList, List.length_take] at h1
      omega
    refine wpAny_bind (wpAny_attempt (wpAny_mono (turn j x k hx hkj s' os' bare' kp') (fun v s'' he => ?_) fun _ _ hF => hF.elim))
    obtain ⟨os2, bare2, hg, hr⟩ := he
    try dsimp only
    have nk2 := (hg _ _ nk').1 nfs
    have na2 := (hg _ _ na').1 afs
    have s1 := Heap.SameBut.update s''.heap kS (Obj.mapSeq (·.push v))
    obtain ⟨c2, hc2⟩ : ∃ c2, (s''.heap.update kS (Obj.mapSeq (·.push v))).get? kS = some (seqObj "list" (kA.push v) c2) := ⟨_, get?_update_seq nk2 (·.push v)⟩
    have ek : kz.take (j + 1) = kz.take j ++ [k] := by rw [List.take_add_one, hkj]; simp
    have ea : (kA.push v).toList = kA.toList ++ [v] := by simp
    refine wpAny_bind (listUpdate_at nk2 rfl ?_ (Nat.le_trans hz hZ) (Nat.le_trans (Nat.le_of_eq (Array.size_push ..)) (Nat.succ_le_succ (Nat.le_trans hz hZ))))
    have keepS : ∀ (u : Value) (d : PyData), Reads s''.heap u d [] /\ alike d d = true -> Reads (s''.heap.update kS (Obj.mapSeq (·.push v))) u d [] /\ alike d d = true := fun u d q =>
      ⟨Reads.keepBut (a := kS) (fun b o hb e => (s1.2 b hb).trans e) (fun o e => by rw [nk2] at e; rw [<- Option.some.inj e]) d u [] q.2 q.1 (by simp), q.2⟩
    refine wpAny_pure ⟨rfl, os2.trans os', bare2, ?_, kA.push v, c2, hc2, (s1.2 a hka.symm).trans na2, ?_⟩
    . refine (kp'.trans fun b o _ _ e => hg b o e).trans fun b o hb ho e => ?_
      have := (s1.2 b (old ho)).trans e
      exact ⟨fun _ => this, o.slots, this⟩
    . rw [ea, ek]
      refine each_snoc (R := fun (u : Value) (d : PyData) => Reads (s''.heap.update kS (Obj.mapSeq (·.push v))) u d [] /\ alike d d = true) (keepS v k ⟨hr, hkk⟩) ?_
      exact hk.mono fun u d q => keepS u d ⟨reads_sl (fun b o e => (hg b o e).2) q.1, q.2⟩
  case done =>
    rintro s' ⟨os', bare', kp', kA, e, nk', na', hk⟩
    have hk' : EachIs (fun v k => ∃ as, Reads s'.heap v k as) kA.toList kz := by
      have e3 : kz.take (0 + vs.length) = kz := List.take_of_length_le (by omega)
      rw [e3] at hk
      exact hk.mono fun v k q => ⟨[], q.1⟩
    have hsz : kA.size = vs.length := by
      have h1 := hk'.length
      rw [Array.length_toList] at h1
      omega
    try dsimp only
    refine wpAny_bind (listItems_at nk' rfl ?_)
    refine keyH_end (κ := dataKind s'.heap kz) (h₁ := trunc s'.heap kS) (fun b o hb e => ?_) (trunc_ge (Nat.le_refl _)) nk' na' hka (SortsAt.data (s := s') hk' hal hsk hu) hsz hZ fun h3 tk3 c k3 n3 => h { s' with heap := h3, toks := tk3 } _ c os' bare' ?_ n3 ⟨s'.heap, kA.toList, hal, rfl, hk'⟩
    . by_cases hbk : b < kS
      . rw [trunc_lt hbk] at e
        exact e
      . rw [trunc_ge (Nat.not_lt.mp hbk)] at e
        cases e
    . refine kp'.trans fun b o hb ho e => ?_
      obtain ⟨o', ho⟩ := ho
      have lt : b < kS := Nat.lt_of_lt_of_le (Heap.lt_size ho) hkS
      have := k3 b o hb (by rw [trunc_lt lt]; exact e)
      exact ⟨fun _ => this, o.slots, this⟩
theorem keyR_tree {f : Value} {n : Nat} (ho : s.heap.get? a = some (seqObj "list" vs.toArray n)) (bare : AllBare s.gens) (hfs : ∀ c ∈ fs, c < s.heap.objs.size) (afs : a ∉ fs) (hlen : kz.length = vs.length) (hZ : vs.length <= sizeLine) (hal : AllAlike kz) (hsk : Sortable kz) (hu : ∀ d, d ∈ kz -> A.units + d.depth < cLine)
    (turn : ∀ (i : Nat) (v : Value) (k : PyData), vs[i]? = some v -> kz[i]? = some k -> ∀ s' : Shared, s'.os = s.os -> AllBare s'.gens -> KpB fs a s.heap s'.heap -> wpAny (model prog w) A (call f [v]) (KeyR fs k s') (fun _ _ => False) s')
    (h : ∀ (s' : Shared) out c, s'.os = s.os -> AllBare s'.gens -> KpB fs a s.heap s'.heap -> s'.heap.get? a = some (seqObj "list" (List.toArray out) c) -> KeyedOut b kz vs out -> P (.done (.ret .none)) s') :
    wpAny (model prog w) A (ksk_tree a f b) P E s := by
  have ha : a < s.heap.objs.size := Heap.lt_size ho
  obtain ⟨e1, ho1⟩ : ∃ e1, (s.heap.update a (Obj.mapSeq fun _ => (#[] : Array Value))).get? a = some (seqObj "list" #[] e1) := ⟨_, get?_update_seq ho fun _ => #[]⟩
  have hkS : ((s.heap.update a (Obj.mapSeq fun _ => (#[] : Array Value))).push (seqObj "tuple" vs.toArray 0)).objs.size = s.heap.objs.size + 1 := by rw [size_push', Heap.size_update]
  unfold ksk_tree
  refine wpAny_bind (listItems_at ho rfl ?_)
  refine wpAny_bind (listUpdate_at ho rfl ?_ (by rw [List.size_toArray]; exact hZ) (Nat.zero_le _))
  refine wpAny_bind (seqEpoch_at ho1 rfl ?_)
  refine wpAny_bind (wpAny_newTuple ?_ (by show vs.length <= _; exact hZ))
  refine wpAny_bind (wpAny_newList ?_ (Nat.zero_le _))
  refine wpAny_holding ?_
  have kp : KpB fs a s.heap (sortingHeap s.heap a vs) := fun b o hb q => by
    have := sortingHeap_old (vs := vs) hb q
    exact ⟨fun _ => this, o.slots, this⟩
  exact keyR_rest (kz := kz) (h₁ := s.heap) (s := { s with heap := ((s.heap.update a (Obj.mapSeq fun _ => (#[] : Array Value))).push (seqObj "tuple" vs.toArray 0)).push (seqObj "list" #[] 0) }) (kS := ((s.heap.update a (Obj.mapSeq fun _ => (#[] : Array Value))).push (seqObj "tuple" vs.toArray 0)).objs.size)
    kp bare (by rw [hkS]; exact Nat.le_succ _) (fun z => absurd (hfs _ z) (by rw [hkS]; exact Nat.not_lt.mpr (Nat.le_succ _))) afs (Heap.get?_push_size _ rfl) (Heap.get?_push_of_some _ (Heap.get?_push_of_some _ ho1)) (by rw [hkS]; exact Nat.ne_of_gt (Nat.lt_succ_of_lt ha)) hlen hZ hal hsk hu turn h
theorem sortedR_key {β : Type} {bs : List β} {R : Value -> β -> Prop} {l : Addr} {f : Value} {kw : List (Str × Value)} {Q : Value -> Shared -> Prop} (k : β -> PyData) (bare : AllBare s.gens) (hfs : ∀ c ∈ fs, c < s.heap.objs.size) (hl : s.heap.IsList l vs.toArray) (e : EachIs R vs bs) (hal : AllAlike (bs.map k)) (hk : Sortable (bs.map k)) (hL : bs.length <= sizeLine)
    (hu : ∀ x, x ∈ bs -> A.units + 2 + (k x).depth < cLine) (ha1 : argsOk "sorted" ⟨[.ref l], kw⟩) (ha2 : ∀ x, argsOk "list.sort" ⟨[.ref x], kw⟩) (ht : ∀ x, Builtin.«list.sort» ⟨[.ref x], kw⟩ = ksk_tree x f b)
    (turn : ∀ (v : Value) (x : β), R v x -> x ∈ bs -> ∀ s' : Shared, s'.os = s.os -> AllBare s'.gens -> KpS fs s.heap s'.heap -> wpAny (model prog w) A.in1.in1 (call f [v]) (KeyR fs (k x) s') (fun _ _ => False) s')
    (h : ∀ (s' : Shared) out c, s'.os = s.os -> AllBare s'.gens -> KpS fs s.heap s'.heap -> s'.heap.get? (s.heap.objs.size + 1) = some (seqObj "list" (List.toArray out) c) -> out.length = bs.length -> EachIs R out (bs.mergeSort (dataLe b k)) ->
      Q (.ref (s.heap.objs.size + 1)) s') :
    wpAny (model prog w) A (call (.builtin "sorted") [.ref l] kw) Q E s := by
  have up : ∀ {g : Heap}, KpB fs (s.heap.objs.size + 1) (copyHeap s.heap vs) g -> KpS fs s.heap g := fun {g} kp b o q => kp b o (Nat.ne_of_lt (Nat.lt_succ_of_lt (Heap.lt_size q))) (copyHeap_old q)
  have csz : (copyHeap s.heap vs).objs.size = s.heap.objs.size + 2 := by
    unfold copyHeap
    rw [size_push', Heap.size_update, size_push']
  refine sorted_of_sort hl (by rw [e.length]; exact hL) ha1 ha2 fun E' => ?_
  rw [ht]
  refine keyR_tree (kz := bs.map k) (fs := fs) (s := { s with heap := copyHeap s.heap vs }) (copyHeap_at s.heap vs) bare (fun c hc => by show c < (copyHeap s.heap vs).objs.size; rw [csz]; exact Nat.lt_of_lt_of_le (hfs c hc) (Nat.le_add_right _ _)) (fun z => absurd (hfs _ z) (Nat.not_lt.mpr (Nat.le_succ _))) (by rw [List.length_map]; exact e.length.symm) (by rw [e.length]; exact hL) hal hk (bound_map (A := A.in1.in1) hu)
    (fun i v d hv hd s' os' bare' kp => ?_) fun s' out c os' bare' kp hD ko => ⟨rfl, ?_⟩
  . rw [List.getElem?_map] at hd
    cases q : bs[i]? with
    | none => rw [q] at hd; simp at hd
    | some x =>
      rw [q] at hd
      have hd' : some (k x) = some d := hd
      rw [<- Option.some.inj hd']
      have hz : (v, x) ∈ vs.zip bs := List.mem_of_getElem? (i := i) (by rw [List.getElem?_zip_eq_some]; exact ⟨hv, q⟩)
      exact turn v x (e.zip _ hz) (List.mem_of_getElem? q) s' os' bare' (up kp)
  . exact h s' out c os' bare' (up kp) hD ((ko.length (by rw [List.length_map]; exact e.length.symm)).trans e.length) (keyedOut_each k ko e)
end
end L3R
end
section
set_option Elab.async false
set_option linter.all false
set_option maxRecDepth 100000
set_option maxHeartbeats 4000000
namespace L3
open PySem L2 PySem.Spec PyProof.Rows L3R
open Fm (Vl MO Mem En Rs ME MF MA MT MG MS MI Out So Gd Ky)
def TupI (H : Hp) (x : V) (ns : List Int) : Prop := ∃ ad od, x = .ref ad /\ H ad = some (.frz od (.tup (ns.map V.int))) /\ od.dict = none
def rSK (K : PySem.W.Frag) (f : Addr) (F : List Vl -> Mem -> Rs Vl) : List V -> List V -> Hp -> VK -> Prop := fun vs zs H Q => ∃ (a : Addr) (xs : List V) (nss : List (List Int)), vs = [.ref a] /\ zs = [.ref f] /\ SqL K H a xs /\ Paired (TupI H) xs nss /\
  (∀ ns ∈ nss, Fm.keyD F ns ≠ [] /\ ∃ μ', F [.ltup ns] [] = .ok (.tup ((Fm.keyD F ns).map .int)) μ') /\
  ∀ p, H p = none -> Q (.ref p) (upd H p (.lst (((xs.zip nss).mergeSort (PySem.W.dataLe false fun b => .tuple ((Fm.keyD F b.2).map .int))).map (·.1))))
theorem rai_ints {h : Heap} : ∀ {vs : List Value} {ns : List Int}, Vals (ns.map V.int) vs -> ReadsAll h vs (ns.map .int) []
  | [], [], _ => .nil
  | _ :: _, _ :: _, .cons r t => by
    obtain ⟨u, rfl⟩ := r
    exact .cons (as := []) (bs := []) (.int _ _) (rai_ints t)
theorem ints_self : ∀ {ms : List Int}, Fm.intsOf (ms.map .int) = some ms
  | [] => rfl
  | i :: r => by
    have ih := ints_self (ms := r)
    unfold Fm.intsOf at ih ⊢
    simp [Fm.mapO, Fm.getI, ih]
section
variable {X : Cx} {pins : List (Addr × Obj)} {σ : L2.St} {H : Hp} {s : Shared} {k : Nat} {f : Addr} {fd : FuncData} {ps : List Str} {F : List Vl -> Mem -> Rs Vl}
theorem key_turn (I : Inv X pins σ H s) (Fn : FnOk X.prog X.w X.K X.mg X.base (L2N.CX X.prog X.w) k f fd ps (spV X.K X.mg 1 F)) (hb : Binds X.K fd ps []) (hr : Room k X.A.in1.in1) {x : V} {ns ms : List Int} {v : Value} {μ' : Mem}
    (hx : TupI H x ns) (rx : RelV x v) (hF : F [.ltup ns] [] = .ok (.tup (ms.map .int)) μ') {s' : Shared} (os : s'.os = s.os) (bare : AllBare s'.gens) (kp : KpS (frs X.stack) s.heap s'.heap) :
    wpAny (model X.prog X.w) X.A.in1.in1 (call (.ref f) [v]) (KeyR (frs X.stack) (.tuple (ms.map .int)) s') (fun _ _ => False) s' := by
  obtain ⟨ad, ob, rfl, rd, hdn⟩ := hx
  cases rx
  have e0 := I.env0
  have had : H ad ≠ none := by rw [rd]; intro z; cases z
  have nad : ad ∉ frs X.stack := fun z => had (e0.frf ad z)
  have ok0 := e0.hok ad _ rd
  obtain ⟨hob, hz, its, rv, ob2, hob2, hc, n, hd⟩ := ok0
  rw [hob] at hob2
  cases hob2
  have hob' := (kp ad ob hob).1 nad
  let H1 : Hp := upd (fun _ => none) ad (.frz ob (.tup (ns.map V.int)))
  have hok1 : HOk X.prog X.w H1 s'.heap := fun c o hc' => by
    by_cases e : c = ad
    . subst e
      simp only [H1] at hc'
      rw [upd_same] at hc'
      cases hc'
      exact ⟨hob', hz, its, rv, ob, hob', hc, n, hd⟩
    . simp only [H1] at hc'
      rw [upd_ne e] at hc'
      cases hc'
  have nb : ∀ b o, X.base.get? b = some o -> b ∉ frs X.stack := fun b o e z => by
    have := (e0.funs.mem z).1
    rw [e] at this
    cases this
  have env : Env0 X.prog X.w X.K X.mg X.base X.A.in1.in1 X.stack s' H1 := by
    refine ⟨e0.frames, e0.mod, fun b o e => ?_, ?_, ?_, fun b hb => ?_, hok1, bare⟩
    . obtain ⟨q1, q2⟩ := e0.bs b o e
      refine ⟨(kp b o q1).1 (nb b o e), ?_⟩
      simp only [H1]
      rw [upd_ne fun z => had (by rw [<- z]; exact q2)]
    . obtain ⟨o, ho⟩ : ∃ o, s.heap.get? X.env.locals = some o := by
        obtain ⟨m, ⟨es, _, _, hh, _⟩, _⟩ := I.loc
        exact ⟨_, hh⟩
      obtain ⟨sl, q⟩ := (kp _ o ho).2
      exact Nat.le_trans I.ok.bsz (Nat.le_trans I.ok.above (Nat.le_of_lt (Heap.lt_size q)))
    . exact e0.funs.of_keeps fun b o e _ => by
        obtain ⟨sl, q⟩ := (kp b o e).2
        exact ⟨_, q, rfl⟩
    . simp only [H1]
      rw [upd_ne fun z => nad (by rw [<- z]; exact hb)]
  let G1 : Hp := upd (fun _ => none) ad (.frz ob (.tup (ns.map V.int)))
  have ms1 : Ms X.K X.mg G1 (fun _ => none) H1 [] := by
    refine ⟨fun c o e => ?_, fun i o e => ?_, fun i c e => (nomatch e), fun i j c e => (nomatch e)⟩
    rotate_left
    . simp at e
    by_cases hc' : c = ad
    . subst hc'
      simp only [G1] at e
      rw [upd_same] at e
      cases e
      exact .inl (by simp only [H1]; rw [upd_same])
    . simp only [G1] at e
      rw [upd_ne hc'] at e
      cases e
  let Q : VK := fun b H' => ∃ bd, b = .ref bd /\ Rd H' bd (.tup (ms.map V.int))
  have sp1 : spV X.K X.mg 1 F [V.ref ad] H1 Q (fun _ _ _ => False) := by
    refine ⟨rfl, G1, fun _ => none, [], [.ltup ns], ms1, .one (.ltup (od := ob) (by simp only [G1]; rw [upd_same]) hdn), ?_⟩
    rw [hF]
    intro b G' ι' H' _ m' r'
    obtain ⟨bd, ws, rfl, g', a'⟩ := tup_of (show Rv X.K G' ι' b (.tup (ms.map .int)) from r')
    have ew : ws = ms.map V.int := by
      have := ints_of (bs := ms) a' (by
        exact ints_self)
      exact this
    subst ew
    exact ⟨bd, rfl, m'.s.tup g'⟩
  have hl : ([Value.ref ad]).length = ps.length := Fn.len _ _ _ _ sp1
  have kin : X.K.In s'.heap := fun c o e => (env.bs c o (I.ok.mod.kin c o e)).1
  have b := hb s' [.ref ad] kin (by rw [List.append_nil]; exact hl)
  rw [List.append_nil] at b
  refine wpAny_call (codeAny_mono (Fn.run X.A.in1.in1 X.stack s' H1 ⟨[.ref ad], []⟩ [.ref ad] [V.ref ad] Q (fun _ _ _ => False) hr env b (.cons rfl .nil) sp1) fun r s2 hq => ?_)
  cases r with
  | error e => exact False.elim (cx_false hq)
  | ok fl =>
    cases fl with
    | next => exact False.elim hq
    | brk => exact False.elim hq
    | cont => exact False.elim hq
    | ret u =>
      obtain ⟨v2, H2, os2, bare2, un, hok2, rv2, bd, rfl, rd2⟩ := (show CE X.stack X.prog X.w H1 s' Q u s2 from hq)
      cases rv2
      refine ⟨os2, bare2, fun c o e => ?_, ?_⟩
      . by_cases hc' : c = ad
        . subst hc'
          have h3 := un.frzs c ob _ (by simp only [H1]; rw [upd_same])
          have h4 := (hok2 c _ h3).1
          rw [hob'] at e
          cases e
          exact ⟨fun _ => h4, ob.slots, h4⟩
        . have n1 : H1 c = none := by
            simp only [H1]
            rw [upd_ne hc']
          exact ⟨fun n => un.keep c o e n1 n (by simp), un.any e n1 (by simp)⟩
      . obtain ⟨_, its2, rv3, o2, ho2, hc2, n2, hd2⟩ := rd2.ok hok2
        exact .tuple ho2 hc2 hd2 (rai_ints (by simpa using rv3))
theorem paired_len {α β : Type} {R : α -> β -> Prop} : ∀ {xs : List α} {ys : List β}, Paired R xs ys -> xs.length = ys.length
  | _, _, .nil => rfl
  | _, _, .cons _ t => by rw [List.length_cons, List.length_cons, paired_len t]
theorem paired_zip {α β : Type} {R : α -> β -> Prop} : ∀ {xs : List α} {ys : List β}, Paired R xs ys -> ∀ p ∈ xs.zip ys, R p.1 p.2
  | _, _, .nil, p, h => by simp at h
  | _, _, .cons r t, p, h => by
    rcases List.mem_cons.mp h with rfl | h
    . exact r
    . exact paired_zip t p h
theorem each_zipK {xs : List V} {its : List Value} : ∀ {nss : List (List Int)}, xs.length = nss.length -> Vals xs its -> PySem.W.EachIs (fun (v : Value) (b : V × List Int) => RelV b.1 v) its (xs.zip nss) := by
  intro nss l r
  induction r generalizing nss with
  | nil => exact .nil
  | cons r t ih =>
    cases nss with
    | nil => simp at l
    | cons n nss => exact .cons r (ih (by simpa using l))
theorem vals_eachK : ∀ {out : List Value} {bs : List (V × List Int)}, PySem.W.EachIs (fun (v : Value) (b : V × List Int) => RelV b.1 v) out bs -> Vals (bs.map (·.1)) out
  | _, _, .nil => .nil
  | _, _, .cons h t => .cons h (vals_eachK t)
theorem cr_sortK (Fn : FnOk X.prog X.w X.K X.mg X.base (L2N.CX X.prog X.w) k f fd ps (spV X.K X.mg 1 F)) (hb : Binds X.K fd ps []) (hr : Room (k + 2) X.A) : CallRK X (.builtin "sorted") [Str.ofString "key"] (rSK X.K f F) := by
  intro pins s σ H xs zs us ws Q I rxs rzs h
  obtain ⟨a, vs, nss, rfl, rfl, hs, pr, hk, q⟩ := h
  obtain ⟨its, rv, hl, hz⟩ := I.list hs
  rw [Vals.ref1 rxs, Vals.ref1 rzs]
  have l := paired_len pr
  have mem2 : ∀ b ∈ vs.zip nss, b.2 ∈ nss := fun b hb => (List.of_mem_zip hb).2
  have hfs : ∀ c ∈ frs X.stack, c < s.heap.objs.size := fun c hc => by
    obtain ⟨_, o, ho, _⟩ := I.stack.mem hc
    exact Heap.lt_size ho
  refine sortedR_key (fs := frs X.stack) (bs := vs.zip nss) (R := fun (v : Value) (b : V × List Int) => RelV b.1 v) (f := .ref f) (b := false) (fun b => .tuple ((Fm.keyD F b.2).map .int)) I.bare hfs hl.isList (each_zipK l rv) ?_ ?_ ?_ ?_ (PyProof.Rows.ksk_s1 _ _) (fun _ => PyProof.Rows.ksk_l1 _ _) (fun _ => PyProof.Rows.ksk_t1 _ _) ?_ ?_
  . intro d hd d' hd'
    obtain ⟨b, _, rfl⟩ := List.mem_map.mp hd
    obtain ⟨b', _, rfl⟩ := List.mem_map.mp hd'
    exact PySem.W.alike_ints _ _
  . refine .inl fun d hd => ?_
    obtain ⟨b, hb', rfl⟩ := List.mem_map.mp hd
    have := (hk b.2 (mem2 b hb')).1
    cases e : Fm.keyD F b.2 with
    | nil => exact absurd e this
    | cons i r => exact ⟨_, _, rfl⟩
  . rw [List.length_zip]
    omega
  . intro b _
    have := hr.un
    have hd : (PyData.tuple ((Fm.keyD F b.2).map .int)).depth <= 1 := by
      rw [PyData.depth, PySem.W.depth_ints]
      omega
    omega
  . intro v b rb hb' s' os bare kp
    obtain ⟨_, μ', e⟩ := hk b.2 (mem2 b hb')
    exact key_turn I Fn hb hr.in1.in1 (paired_zip pr b hb') rb e os bare kp
  . intro s' out c os bare kp hD hlen eo
    have fr : H (s.heap.objs.size + 1) = none := I.hok.fresh (Nat.le_succ _)
    have ne : ∀ b o, s.heap.get? b = some o -> b ≠ s.heap.objs.size + 1 := fun b o e => Nat.ne_of_lt (Nat.lt_succ_of_lt (Heap.lt_size e))
    have hlen2 : (((vs.zip nss).mergeSort (PySem.W.dataLe false fun b => .tuple ((Fm.keyD F b.2).map .int))).map (·.1)).length <= sizeLine := by
      rw [List.length_map, List.length_mergeSort, List.length_zip]
      omega
    refine I.after ⟨.ref _, upd H (s.heap.objs.size + 1) (.lst (((vs.zip nss).mergeSort (PySem.W.dataLe false fun b => .tuple ((Fm.keyD F b.2).map .int))).map (·.1))), os, bare, ⟨?_, ?_, ?_, ?_, ?_, ?_, ?_⟩, ?_, rfl, q _ fr⟩
    . exact fun b o e _ nb _ => (kp b o e).1 nb
    . exact fun b o e _ _ _ => (kp b o e).2
    . exact fun b o e n _ => by rw [upd_ne (ne b o e)]; exact n
    . exact fun b o e _ => by
        obtain ⟨sl, q⟩ := (kp b o e).2
        exact ⟨_, q⟩
    . exact fun b ys e => by rw [upd_ne (ne_of_none e fr)]; exact e
    . exact fun b o u e => by rw [upd_ne (ne_of_none e fr)]; exact e
    . exact fun b ys e => ⟨#[], by rw [upd_ne (ne_of_none e fr), e]; simp⟩
    . intro b u e
      by_cases hb' : b = s.heap.objs.size + 1
      . subst hb'
        rw [upd_same] at e
        cases e
        exact ⟨hlen2, out, c, vals_eachK eo, hD⟩
      . rw [upd_ne hb'] at e
        refine (I.hok b u e).stay (fun d v hd r => ?_) (fun d hd => ?_) fun d ys hd => ?_
        . refine (kp d v r).1 fun z => ?_
          have hn := I.stkFree d z
          rcases hd with rfl | hd
          . rw [e] at hn
            cases hn
          . rw [hd] at hn
            cases hn
        . rw [upd_ne (ne_of_none hd fr)]
          exact hd
        . rw [upd_ne (ne_of_none hd fr)]
          exact hd
end
end L3
end
section
set_option Elab.async false
set_option linter.all false
set_option maxRecDepth 100000
set_option maxHeartbeats 4000000
namespace L3
open PySem L2
open Fm (Vl MO Mem En Rs ME MF MA MT MG MS MI Out So Gd Ky)
section
variable {K : PySem.W.Frag} {mg : Str -> Option Value} {G H : Hp} {ι : Im} {μ : Mem} {α : Type}
theorem rv_tripK : ∀ (ts : List (V × Vl × α)), (∀ t ∈ ts, Rv K G ι t.1 t.2.1) -> RvA K G ι (ts.map (·.1)) (ts.map (·.2.1))
  | [], _ => .nil
  | t :: r, h => .cons (h t List.mem_cons_self) (rv_tripK r fun u hu => h u (List.mem_cons_of_mem _ hu))
theorem trip_memK : ∀ {xs : List V} {zs : List Vl} {ds : List α}, RvA K G ι xs zs -> ∀ t ∈ xs.zip (zs.zip ds), Rv K G ι t.1 t.2.1
  | _, _, [], .cons _ _, t, h => by simp at h
  | _, _, d :: ds, .cons x a, t, h => by
    rcases List.mem_cons.mp h with rfl | h
    . exact x
    . exact trip_memK a t h
  | _, _, _, .nil, t, h => by simp at h
theorem trip_aK : ∀ {xs : List V} {zs : List Vl} {ds : List α}, xs.length = zs.length -> (xs.zip (zs.zip ds)).map (fun t => (t.1, t.2.2)) = xs.zip ds
  | [], _, _, _ => by simp
  | x :: xs, z :: zs, [], _ => by simp
  | x :: xs, z :: zs, d :: ds, l => by
    simp only [List.zip_cons_cons, List.map_cons]
    rw [trip_aK (by simpa using l)]
theorem trip_bK : ∀ {xs : List V} {zs : List Vl} {ds : List α}, xs.length = zs.length -> (xs.zip (zs.zip ds)).map (fun t => t.2) = zs.zip ds
  | [], [], _, _ => by simp
  | x :: xs, z :: zs, [], _ => by simp
  | x :: xs, z :: zs, d :: ds, l => by
    simp only [List.zip_cons_cons, List.map_cons]
    rw [trip_bK (by simpa using l)]
theorem sort_rvK {k : α -> PyData} {xs : List V} {zs : List Vl} {ds : List α} (h : RvA K G ι xs zs) : RvA K G ι (((xs.zip ds).mergeSort (PySem.W.dataLe false fun b => k b.2)).map (·.1)) (((zs.zip ds).mergeSort (PySem.W.dataLe false fun b => k b.2)).map (·.1)) := by
  have l := h.len
  have ea : (xs.zip ds).mergeSort (PySem.W.dataLe false fun b => k b.2) = ((xs.zip (zs.zip ds)).mergeSort (PySem.W.dataLe false fun t => k t.2.2)).map fun t => (t.1, t.2.2) := by
    rw [List.map_mergeSort (r := PySem.W.dataLe false fun t : V × Vl × α => k t.2.2) (s := PySem.W.dataLe false fun b : V × α => k b.2) (f := fun t => (t.1, t.2.2)) (fun _ _ _ _ => rfl), trip_aK l]
  have eb : (zs.zip ds).mergeSort (PySem.W.dataLe false fun b => k b.2) = ((xs.zip (zs.zip ds)).mergeSort (PySem.W.dataLe false fun t => k t.2.2)).map fun t => t.2 := by
    rw [List.map_mergeSort (r := PySem.W.dataLe false fun t : V × Vl × α => k t.2.2) (s := PySem.W.dataLe false fun b : Vl × α => k b.2) (f := fun t => t.2) (fun _ _ _ _ => rfl), trip_bK l]
  rw [ea, eb, List.map_map, List.map_map]
  exact rv_tripK _ fun t ht => trip_memK h t (List.mem_mergeSort.mp ht)
theorem getIs : ∀ {xs : List Vl} {ns : List Int}, Fm.mapO Fm.getI xs = some ns -> xs = ns.map .int
  | [], _, e => by cases e; rfl
  | x :: r, ns, e => by
    obtain ⟨y, e1, e2⟩ := bnd e
    obtain ⟨ys, e3, e4⟩ := bnd e2
    cases e4
    rw [getI_of e1, getIs e3]
    rfl
theorem tupInts_of {v : Vl} {ns : List Int} (e : Fm.tupInts v = some ns) : v = .tup (ns.map .int) := by
  unfold Fm.tupInts at e
  split at e
  . rw [getIs e]
  . cases e
theorem tupIntsN_of {v : Vl} {ns : List Int} (e : Fm.tupIntsN v = some ns) : v = .ltup ns := by
  unfold Fm.tupIntsN at e
  split at e
  . cases e; rfl
  . cases e
theorem tups_paired (m : Ms K mg G ι H μ) : ∀ {vs : List V} {zs : List Vl} {nss : List (List Int)}, RvA K G ι vs zs -> Fm.mapO Fm.tupIntsN zs = some nss -> PySem.Paired (TupI H) vs nss
  | _, _, _, .nil, e => by cases e; exact .nil
  | _, _, _, .cons x a, e => by
    obtain ⟨y, e1, e2⟩ := bnd e
    obtain ⟨ys, e3, e4⟩ := bnd e2
    cases e4
    refine .cons ?_ (tups_paired m a e3)
    have e5 := tupIntsN_of e1
    subst e5
    obtain ⟨ad, od, rfl, g, hd⟩ := ltup_of x
    exact ⟨ad, od, rfl, m.s.ltup g, hd⟩
end
theorem keyOf_of {F : List Vl -> Mem -> Rs Vl} {ns : List Int} (h : (Fm.keyOf F ns).isSome = true) : ∃ μ', F [.ltup ns] [] = .ok (.tup ((Fm.keyD F ns).map .int)) μ' := by
  unfold Fm.keyD
  cases e : Fm.keyOf F ns with
  | none => rw [e] at h; cases h
  | some ks =>
    unfold Fm.keyOf at e
    split at e
    . rename_i v μ' q
      have := tupInts_of e
      subst this
      exact ⟨μ', q⟩
    . cases e
theorem dsortK {X : Cx} {W : WX} {x : Str} {k : Nat} {F : List Vl -> Mem -> Rs Vl} {e : Expr} {m : ME} {p p2 pos : Pos} {kpos : Pos} (f : Fd X.prog X.w X.K X.mg X.base x k (spV X.K X.mg 1 F)) (hr : Room (k + 2) X.A) (hm : X.mg "sorted" = none) (ha : DE X W e m) (hg : Gl X "sorted" := by rfl) (hg2 : Gl X x := by rfl)
    (hd : (x == ("__debug__" : Str)) = false := by decide) (hs : starEach [e] X.env = (false, eval e X.env) :: starEach [] X.env := by rfl)
    (he : backTo pos (starEach [e] X.env) = (false, eval e X.env) :: backTo pos (starEach [] X.env) := by rfl) (hpl : (backTo pos (starEach [e] X.env)).any (·.1) = false := by rfl)
    (hall : (backToKw pos (keywordEach [⟨some "key", .Name x p2, kpos⟩] X.env)).all (·.1.isSome) = true := by rfl) (hnone : (backToKw pos (keywordEach [⟨some "key", .Name x p2, kpos⟩] X.env)).any (·.1.isNone) = false := by rfl) (hks : (backToKw pos (keywordEach [⟨some "key", .Name x p2, kpos⟩] X.env)).filterMap (·.1) = [Str.ofString "key"] := by rfl) :
    DF X W (.Call (.Name "sorted" p) [e] [⟨some "key", .Name x p2, kpos⟩] pos) (Fm.fSortK F m) := by
  obtain ⟨g, fd, ps, F1, F2, F3, F4⟩ := f.ex
  have nm : PE X (.Name x p2) (tC (V.ref g)) := pe_glob hg2 F2 rfl hd
  refine ⟨PE.imp (pe_callBK (cr_sortK F1 F4 hr) hg hm (by decide +kernel) (pa_cons ha.p pa_nil hs) (pk_cons nm pk_nil) (by decide) (by decide) he hpl hall hnone hks) fun σ H Q ⟨G, ι, Γ, μ, o, h⟩ => ⟨G, ι, Γ, μ, o, Af.bind h fun y μ1 v G1 ι1 H1 _ e1 o1 r1 h1 => ?_⟩⟩
  obtain ⟨z, q, h2⟩ := Af.of h1
  obtain ⟨zs, q1, q2⟩ := bnd q
  obtain ⟨nss, q3, q4⟩ := bnd q2
  split at q4
  . rename_i hc
    cases q4
    obtain ⟨a, us, rfl, r2, r3⟩ := lstOf_of o1.m r1 q1
    refine ⟨a, us, nss, rfl, rfl, SqL.of r2, tups_paired o1.m r3 q3, fun ns hn => ?_, newF o1.m (sort_rvK (k := fun ns => .tuple ((Fm.keyD F ns).map .int)) r3) fun p' H' e' m' f' => af_new o1 h2 e' m' f'⟩
    have := List.all_eq_true.mp hc.1 ns hn
    rw [Bool.and_eq_true] at this
    exact ⟨fun z => by rw [z] at this; exact absurd this.2 (by decide), keyOf_of this.1⟩
  . cases q4
end L3
end
section
set_option Elab.async false
set_option linter.all false
set_option maxRecDepth 100000
set_option maxHeartbeats 4000000
namespace HT
open PySem PySem.Spec PyProof.Rows
section
variable {prog : Program} {w : World} {A : Around} {E : Value -> Shared -> Prop} {s : Shared}
theorem adjust_rev (n : Nat) : Builtin.Slice.sliceAdjust none none (-1) (n : Int) = ((n : Int) - 1, -1) := by
  unfold Builtin.Slice.sliceAdjust
  simp
theorem places_rev (n : Nat) : Builtin.Slice.slicePlaces ((n : Int) - 1) (-1) (-1) = n := by
  unfold Builtin.Slice.slicePlaces
  simp
  split <;> omega
theorem fm_congr {α β : Type} {f g : α -> Option β} : ∀ {l : List α}, (∀ x ∈ l, f x = g x) -> l.filterMap f = l.filterMap g
  | [], _ => rfl
  | x :: r, h => by
    rw [List.filterMap_cons, List.filterMap_cons, h x List.mem_cons_self, fm_congr fun y hy => h y (List.mem_cons_of_mem _ hy)]
theorem pick_rev (xs : Array Value) : ((List.range xs.size).filterMap fun (m : Nat) => xs[((xs.size : Int) - 1 + (m : Int) * (-1)).toNat]?).toArray = xs.toList.reverse.toArray := by
  congr 1
  have e : ∀ m ∈ List.range xs.size, xs[((xs.size : Int) - 1 + (m : Int) * (-1)).toNat]? = xs.toList.reverse[m]? := by
    intro m hm
    rw [List.mem_range] at hm
    rw [List.getElem?_reverse (by rw [Array.length_toList]; exact hm), Array.length_toList]
    have : ((xs.size : Int) - 1 + (m : Int) * (-1)).toNat = xs.size - 1 - m := by omega
    rw [this]
    simp
  rw [fm_congr e]
  have h := PySem.W.krv_all xs.toList.reverse.toArray
  simpa using h
theorem getItem_tuple_rev {t sl : Addr} {items : Array Value} {vs : Value} {Q : Value -> Shared -> Prop} (ht : IsTup s.heap t items) (hs : s.heap.IsSliceOf sl .none .none vs) (ps : IsPart vs (some (-1)))
    (h : Q (.ref s.heap.objs.size) { s with heap := s.heap.push { cls := .type "tuple", data := .seq items.toList.reverse.toArray } }) (hsz : items.size <= sizeLine) : wpAny (model prog w) A (getItem (.ref t) (.ref sl)) Q E s := by
  have htake : sizeOk (.seq items.toList.reverse.toArray) := by
    show items.toList.reverse.toArray.size <= sizeLine
    rw [List.size_toArray, List.length_reverse, Array.length_toList]
    exact hsz
  obtain ⟨os, hos, hcs, hds⟩ := id hs
  have hTs : s.TypeIs (.ref sl) "slice" := ⟨os, hos, hcs⟩
  unfold getItem
  try with_reducible refine wpAny_holding ?_
  first | refine wpAny_bind (wpAny_pure ?_) | skip
  refine wpAny_bind (wpAny_sequenceKey ht.typeIs (by decide) ?_)
  refine wpAny_bind (wpAny_callSpecial?_slot (name := Str.ofString "__getitem__") ht.typeIs PyProof.Rows.slot_tuple_getitem
    (wpAny_call_entry PyProof.Rows.slot_tuple_getitem ht.typeIs entry_tuple_getitem ?_ (args_tuple_getitem _ _)))
  show wpAny _ _ (Builtin.Tuple.tupleItemsOf (.ref t) >>= _) _ _ s
  refine wpAny_bind (tupleItemsOf_ ht ?_)
  refine wpAny_bind (wpAny_typeOf hTs ?_)
  rw [if_pos (by decide)]
  have sa : ∀ {Q' : Int × Int × Nat -> Shared -> Prop} {A' : Around} {E' : Value -> Shared -> Prop}, Q' ((items.size : Int) - 1, -1, items.size) s -> wpAny (model prog w) A' (Builtin.Slice.sliceApplied (.ref sl) (pure (items.size : Int))) Q' E' s := by
    intro Q' A' E' h'
    unfold Builtin.Slice.sliceApplied Builtin.Slice.sliceFields
    refine wpAny_bind (wpAny_bind (wpAny_field hos hds (x := .none) rfl (wpAny_bind (wpAny_field hos hds (x := .none) rfl (wpAny_bind (wpAny_field hos hds (x := vs) rfl (wpAny_pure ?_)))))))
    refine wpAny_bind (slicePart_ ps ?_)
    show wpAny _ _ (if ((-1 : Int) == 0) = true then _ else _) _ _ s
    rw [if_neg (by decide)]
    refine wpAny_bind (slicePart_none (wpAny_bind (slicePart_none (wpAny_bind (wpAny_pure ?_)))))
    show wpAny _ _ (match Builtin.Slice.sliceAdjust none none (-1) (items.size : Int) with | (lo, hi) => pure (lo, (-1 : Int), Builtin.Slice.slicePlaces lo hi (-1))) _ _ s
    rw [adjust_rev]
    show wpAny _ _ (pure ((items.size : Int) - 1, (-1 : Int), Builtin.Slice.slicePlaces ((items.size : Int) - 1) (-1) (-1))) _ _ s
    rw [places_rev]
    exact wpAny_pure h'
  refine wpAny_bind (sa ?_)
  have hno : ¬ ((((items.size : Int) - 1) == 0 && (-1 : Int) == 1 && items.size == items.size) = true) := by simp
  show wpAny _ _ (if ((((items.size : Int) - 1) == 0 && (-1 : Int) == 1 && items.size == items.size) = true) then _ else _) _ _ s
  rw [if_neg hno, pick_rev]
  first
    | exact wpAny_bind (m := Builtin.Tuple.tupleExact _) (wpAny_newObj_type (wpAny_pure ⟨_, rfl, wpAny_pure h⟩) htake)
    | exact wpAny_bind (m := Builtin.Tuple.tupleExact _) (wpAny_newObj_type (wpAny_bind (wpAny_pure (wpAny_pure ⟨_, rfl, wpAny_pure h⟩))) htake)
    | exact wpAny_bind (wpAny_bind (m := Builtin.Tuple.tupleExact _) (wpAny_newObj_type (wpAny_pure (wpAny_pure ⟨_, rfl, wpAny_pure h⟩)) htake))
    | exact wpAny_bind (wpAny_bind (m := Builtin.Tuple.tupleExact _) (wpAny_newObj_type (wpAny_pure ⟨_, rfl, wpAny_pure h⟩) htake))
end
end HT
namespace L3
open PySem L2 PySem.Spec PyProof.Rows
open Fm (Vl MO Mem En Rs ME MF MA MT MG MS MI Out So Gd Ky)
section
variable {X : Cx} {W : WX} {pos : Pos} {a : Expr} {ma : ME}
def tRevT (K : PySem.W.Frag) (te : TE) : TE := fun σ H Q => te σ H fun x H1 => ∃ a xs, x = .ref a /\ SqT K H1 a xs /\ ∀ p, H1 p = none -> Q (.ref p) (upd H1 p (.tup xs.reverse))
theorem pe_revT {e : Expr} {te : TE} {k : Nat} {p1 p2 p3 pos : Pos} (he : PE X e te) : PE X (.Subscript e (.Slice none none (some (.UnaryOp .USub (.Constant (.int 1) k p1) p2)) p3) pos) (tRevT X.K te) := by
  refine ⟨fun pins s σ H Q I h => ?_⟩
  refine Subscript_ (thn (he.run pins s σ H _ I h) fun v s1 ⟨x, H1, I1, r1, q1⟩ => ?_)
  obtain ⟨a, xs, ex, hx, q⟩ := q1
  subst ex
  cases r1
  have hst : PO X (some (.UnaryOp .USub (.Constant (.int 1) k p1) p2)) (tPart (tUn (rU fun i => .int (-i)) (tC (.int 1)))) := po_some (pe_un un_neg pe_int)
  refine wpAny_Slice (thn (po_none.run pins s1 σ H1 (fun o H2 => o = none /\ H2 = H1) I1 ⟨rfl, rfl⟩) fun vl s2 ⟨l, H2, I2, pl, el, e2⟩ => ?_)
  subst el e2
  refine thn (po_none.run pins s2 σ H2 (fun o H3 => o = none /\ H3 = H2) I2 ⟨rfl, rfl⟩) fun vu s3 ⟨u, H3, I3, pu, eu, e3⟩ => ?_
  subst eu e3
  refine thn (hst.run pins s3 σ H3 (fun o H4 => o = some (-1) /\ H4 = H3) I3 ⟨1, rfl, -1, rfl, rfl, rfl⟩) fun vs s4 ⟨o, H4, I4, ps, eo, e4⟩ => ?_
  subst eo e4
  cases pl
  cases pu
  have I5 : Inv X pins σ H4 { s4 with heap := s4.heap.push { cls := .type "slice", data := .fields #[.none, .none, vs] } } := I4.kept (t' := s4.toks) fun b ob q => Heap.get?_push_of_some _ q
  obtain ⟨its, r, ht, hz⟩ := I5.tuple hx
  have hlen := r.length
  show wpAny (model X.prog X.w) X.A (subscriptTail e (.Slice none none (some (.UnaryOp .USub (.Constant (.int 1) k p1) p2)) p3) (.ref a) (.ref s4.heap.objs.size)) (EP X pins σ Q) X.xe { s4 with heap := s4.heap.push { cls := .type "slice", data := .fields #[.none, .none, vs] } }
  refine tail_any (ops := [.ref a, .ref s4.heap.objs.size]) ht.typeIs (PyProof.Rows.slot_tuple_getitem.lookup) ?_ (by with_unfolding_all rfl)
  refine HT.getItem_tuple_rev ht (Heap.IsSliceOf.new _ .none .none vs) ps ?_ (by rw [List.size_toArray]; omega)
  refine ⟨.ref _, _, I5.laid (t' := s4.toks) (o := .tup xs.reverse) (fun b ob q => Heap.get?_push_of_some _ q) (Nat.le_refl _) ?_, rfl, q _ (I5.hok.fresh (Nat.le_refl _))⟩
  exact ⟨by rw [List.length_reverse]; exact hz, _, r.reverse, IsTup.new _ _⟩
theorem drevT {k : Nat} {p1 p2 p3 : Pos} (ha : DE X W a ma) : DE X W (.Subscript a (.Slice none none (some (.UnaryOp .USub (.Constant (.int 1) k p1) p2)) p3) pos) (Fm.eUn Fm.gRevT ma) := ⟨PE.imp (pe_revT ha.p) fun σ H Q ⟨G, ι, Γ, μ, o, h⟩ =>
  ⟨G, ι, Γ, μ, o, Af.bind h fun x μ1 v G1 ι1 H1 _ e1 o1 r1 h1 => by
    obtain ⟨z, e, h2⟩ := Af.of h1
    unfold Fm.gRevT at e
    split at e
    . cases e
      obtain ⟨a, vs, rfl, r2, r3⟩ := tup_of r1
      exact ⟨a, vs, rfl, sqt_of (o1.m.s.tup r2), newT o1.m r3.reverse fun v' G' H' e' m' r' => af_val o1 h2 e' m' r'⟩
    . cases e
      obtain ⟨a, od, rfl, r2, _⟩ := ltup_of r1
      exact ⟨a, _, rfl, .inl (.inr ⟨od, o1.m.s.ltup r2⟩), newT o1.m (RvA.ivs (ns := _)).reverse fun v' G' H' e' m' r' => af_val o1 h2 e' m' r'⟩
    . cases e⟩⟩
end
end L3
end
section
set_option Elab.async false
set_option linter.all false
set_option maxRecDepth 100000
set_option maxHeartbeats 4000000
namespace L2
open PySem PySem.Spec PyProof.Rows
section
variable {X : Cx}
end
end L2
namespace L3
open PySem L2
open Fm (Vl MO Mem En Rs ME MF MA MT MG MS MI Out So Gd Ky)
section
variable {X : Cx} {K : PySem.W.Frag} {G : Hp} {ι : Im}
end
end L3
end
section
set_option Elab.async false
set_option linter.all false
set_option maxRecDepth 100000
set_option maxHeartbeats 4000000
namespace L3
open PySem L2 PySem.Spec PyProof.Rows
open Fm (Vl MO Mem En Rs ME MF MA MT MG MS MI Out So Gd Ky)
section
variable {K : PySem.W.Frag} {mg : Str -> Option Value} {G H : Hp} {ι : Im} {μ : Mem}
end
section
variable {X : Cx} {W : WX} {pos : Pos} {a : Expr} {ma : ME} {c f : Str}
end
structure Md (P : Program) (w : World) (K : PySem.W.Frag) (mg : Str -> Option Value) (base : Heap) (c m : Str) (k : Nat) (sp : Sp) : Prop where
  ex : ∃ fd ps, FnOk P w K mg base (L2N.CX P w) k (He.ma K (He.ga K c) m) fd ps sp /\ Meth K (He.ga K c) m (He.ma K (He.ga K c) m) /\ Cls K (He.ga K c) /\ Binds K fd ps []
section
variable {X : Cx} {CX : CXT} {k : Nat} {f C : Addr} {fd : FuncData} {ps : List Str} {sp : Sp} {E : L2.St -> XK} {m : Str} {pos apos : Pos} {e o : Expr} {es : List Expr} {ta : TE} {t : TA}
end
section
variable {α : Type} {X : Cx} {W : WX} {R : Rl α V} {c m : Str} {k n : Nat} {o e : Expr} {es : List Expr} {mo : ME} {ma : MA} {apos pos : Pos}
end
end L3
end
section
set_option Elab.async false
set_option linter.all false
set_option maxRecDepth 100000
set_option maxHeartbeats 4000000
namespace L3
open PySem L2 PySem.Spec PyProof.Rows
open Fm (Vl MO Mem En Rs ME MF MA MT MG MS MI Out So Gd Ky)
section
variable {X : Cx} {CX : CXT} {k : Nat} {f C : Addr} {fd : FuncData} {ps : List Str} {sp : Sp} {E : L2.St -> XK} {x : Str} {p pos : Pos} {e : Expr} {es : List Expr} {t : TA}
end
structure Kd (P : Program) (w : World) (K : PySem.W.Frag) (mg : Str -> Option Value) (base : Heap) (c : Str) (k : Nat) (sp : Sp) : Prop where
  ex : ∃ fd ps, FnOk P w K mg base (L2N.CX P w) k (He.ma K (He.ga K c) "__init__") fd ps sp /\ Mk K (He.ga K c) (He.ma K (He.ga K c) "__init__") /\ Binds K fd ps [] /\ mg c = some (.ref (He.ga K c))
section
variable {K : PySem.W.Frag} {mg : Str -> Option Value} {G H : Hp} {ι : Im} {μ : Mem}
end
section
variable {X : Cx} {W : WX} {c : Str} {k n : Nat} {e : Expr} {es : List Expr} {ma : MA} {p pos : Pos} {F : List Vl -> Mem -> Rs Vl}
structure Xc (K : PySem.W.Frag) (mg : Str -> Option Value) (c : Str) : Prop where
  m : mg c = some (.ref (He.ga K c))
  x : PySem.W.excIn K (He.ga K c) He.veBase "ValueError.__new__" = true
  k : PySem.W.keepIn K (.ref (He.ga K c)) = true
  b : PySem.W.subIn K (.ref (He.ga K c)) (.type "BaseException") = some true
  t : PySem.W.typeIn K (.ref (He.ga K c)) = some (.type "type")
theorem sraise {t : Str} {j : Nat} {p2 p3 : Pos} (x : Xc X.K X.mg c) (tk : L2N.Takes X W) (hc : X.calm = true := by rfl) (hg : Gl X c := by rfl) (hdb : (c == ("__debug__" : Str)) = false := by decide) : DS X W (.Raise (some (.Call (.Name c p) [.Constant (.str t) j p2] [] p3)) none pos) (Fm.sRaise c) :=
  ⟨PS.imp (L2N.ps_raise hc tk (L2N.pmk_own PySem.F.excBase_ValueError x.x x.m x.k (raises_own x.b x.t) hg hdb)) fun D σ H ⟨G, ι, Γ, μ, o, h⟩ => h (He.ga X.K c) none σ G ι H Ext.refl o x.m rfl⟩
end
section
variable {P : Program} {w : World} {K : PySem.W.Frag} {mg : Str -> Option Value} {base : Heap} {x qual : Str} {params : Arguments} {body : List Stmt} {scope : Scope} {f : Addr} {fd : FuncData} {N ps : List Str} {k : Nat}
end
end L3
end
section
set_option Elab.async false
set_option linter.all false
set_option maxRecDepth 100000
set_option maxHeartbeats 4000000
namespace L3
open PySem L2 PySem.Spec PyProof.Rows
open Fm (Vl MO Mem En Rs ME MF MA MT MG MS MI Out So Gd Ky)
def Ro2 (K : PySem.W.Frag) (G : Hp) (ι : Im) : Option V -> Option Vl -> Prop
  | none, none => True
  | some v, some d => Rv K G ι v d
  | _, _ => False
section
variable {K : PySem.W.Frag} {mg : Str -> Option Value} {G H : Hp} {ι : Im} {μ : Mem}
theorem Ro2.isSome {o : Option V} {p : Option Vl} (h : Ro2 K G ι o p) : o.isSome = p.isSome := by
  cases o <;> cases p <;> first | rfl | exact False.elim h
section
variable {κ : Type} [DecidableEq κ]
end
end
section
variable {X : Cx} {W : WX} {pos : Pos} {a b c : Expr} {ma mb mc : ME}
end
end L3
end
section
set_option Elab.async false
set_option linter.all false
set_option maxRecDepth 100000
set_option maxHeartbeats 4000000
namespace L3
open PySem L2 PySem.Spec PyProof.Rows
open Fm (Vl MO Mem En Rs ME MF MA MT MG MS MI Out So Gd Ky)
section
variable {X : Cx} {K : PySem.W.Frag} {mg : Str -> Option Value} {G G' H H' : Hp} {ι ι' : Im} {μ μ' : Mem}
theorem kyV_rv (k : Ky) : Rv K G ι (kV k) (Fm.kyV k) := by
  cases k with
  | inl i => exact .int i
  | inr s => exact .str s
theorem kyV_rva : ∀ (ks : List Ky), RvA K G ι (ks.map kV) (ks.map Fm.kyV)
  | [] => .nil
  | k :: r => .cons (kyV_rv k) (kyV_rva r)
theorem Ms.key (m : Ms K mg G ι H μ) {q : Addr} {k : List Ky} (h : H q = some (.tup (k.map kV))) : ∃ G', Ext G ι H G' ι H /\ Ms K mg G' ι H μ /\ Rv K G' ι (.ref q) (Fm.tkV k) := by
  cases e : G q with
  | some o =>
    have e' : G q = some (.tup (k.map kV)) := by
      rcases m.s _ _ e with w | ⟨od, z, w⟩
      . rw [h] at w
        cases w
        exact e
      . rw [h] at w
        cases w
    exact ⟨G, Ext.refl, m, .tup e' (kyV_rva k)⟩
  | none =>
    have x : Xt G ι (upd G q (.tup (k.map kV))) ι := ⟨same_upd e, fun _ _ w => w⟩
    refine ⟨upd G q (.tup (k.map kV)), ⟨x, fun a o w t g n => ⟨w, ?_, n⟩, fun a o w => ⟨o, w⟩, fun _ _ _ w => w, fun _ _ w => w⟩, ⟨fun b o w => ?_, fun i o w => ?_, m.dom, m.inj⟩, .tup upd_same (kyV_rva k)⟩
    . rw [upd_ne fun z => by subst z; rw [h] at w; cases w; exact t _ rfl]
      exact g
    . by_cases hb : b = q
      . subst hb
        rw [upd_same] at w
        cases w
        exact .inl h
      . rw [upd_ne hb] at w
        exact m.s b o w
    . obtain ⟨a, r1, r2, r3⟩ := m.at_ i o w
      have ha : a ≠ q := fun z => by subst z; exact r3.notup _ h
      exact ⟨a, r1, by rw [upd_ne ha]; exact r2, r3.up x rfl fun _ z => z⟩
variable {W : WX} {tg : Expr}
end
end L3
end
section
set_option Elab.async false
set_option linter.all false
set_option maxRecDepth 100000
set_option maxHeartbeats 4000000
namespace L3
open PySem L2 PySem.Spec PyProof.Rows
open Fm (Vl MO Mem En Rs ME MF MA MT MG MS MI Out So Gd Ky)
section
variable {X : Cx} {K : PySem.W.Frag} {mg : Str -> Option Value} {G H : Hp} {ι : Im} {μ : Mem}
variable {W : WX} {tg : Expr}
end
end L3
end
section
set_option Elab.async false
set_option linter.all false
set_option maxRecDepth 100000
set_option maxHeartbeats 4000000
namespace L3
open PySem L2 PySem.Spec PyProof.Rows
open Fm (Vl MO Mem En Rs ME MF MA MT MG MS MI Out So Gd Ky)
section
variable {X : Cx} {W : WX} {pos : Pos}
def trsOf (K : PySem.W.Frag) (mg : Str -> Option Value) (W : WX) (kvs : List (Str × ME)) : List (TE × TE) := kvs.map fun kv => (tC (.str kv.1), tE K mg W kv.2)
structure DPs (X : Cx) (W : WX) (pos : Pos) (keys : List (Option Expr)) (values : List Expr) (kvs : List (Str × ME)) : Prop where
  p : PPs X pos keys values (trsOf X.K X.mg W kvs)
end
end L3
end
section
set_option Elab.async false
set_option linter.all false
set_option maxRecDepth 100000
set_option maxHeartbeats 4000000
namespace L3
open PySem L2 PySem.Spec PyProof.Rows
open Fm (Vl MO Mem En Rs ME MF MA MT MG MS MI Out So Gd Ky)
section
variable {X : Cx} {W : WX} {pos : Pos} {ma : MA} {a b c : Expr}
end
end L3
end
section
set_option Elab.async false
set_option linter.all false
set_option maxRecDepth 100000
set_option maxHeartbeats 4000000
namespace L3
open PySem L2 PySem.Spec PyProof.Rows
open Fm (Vl MO Mem En Rs ME MF MA MT MG MS MI Out So Gd Ky)
abbrev noW : WX := fun _ _ _ _ => False
section
variable {K : PySem.W.Frag} {mg : Str -> Option Value} {G H : Hp} {ι : Im} {D : Ends} {W W' : WX}
theorem As.noEx {o : So} (h : As K mg W G ι H D (Fm.noEx o)) : As K mg W' G ι H D o := by
  match o with
  | none => exact h
  | some (.nx Γ', μ') => exact h
  | some (.bk Γ', μ') => exact h
  | some (.ct Γ', μ') => exact h
  | some (.rt x, μ') => exact h
  | some (.rf none x, μ') => exact h
  | some (.rf (some i) x, μ') => exact h
  | some (.ex c r Γ', μ') => exact h.elim
end
inductive DHs (X : Cx) (cs : List Str) : List ExceptHandler -> List (Str × MS) -> Prop
  | nil : DHs X cs [] []
  | cons {x : Str} {h : MS} {b₀ : Stmt} {suite : List Stmt} {np pos' : Pos} {hds : List ExceptHandler} {l : List (Str × MS)} (hg : Gl X x) (hd : (x == ("__debug__" : Str)) = false) (hm : X.mg x = some (.ref (He.ga X.K x)))
      (hx : ∀ c ∈ cs, X.mg c = some (.ref (He.ga X.K c)) /\ PySem.W.exmOne X.K (.ref (He.ga X.K c)) (.ref (He.ga X.K x)) = some (Fm.takesX c x))
      (hsu : ∀ (a : Addr) (oe : Obj) (pn : List (Addr × Obj)), DSs (X.suite a ((a, oe) :: pn)) noW (b₀ :: suite) h) (r : DHs X cs hds l) :
      DHs X cs (.ExceptHandler (some (.Name x np)) none (b₀ :: suite) pos' :: hds) ((x, h) :: l)
def toL (X : Cx) (l : List (Str × MS)) : List (Value × (Addr -> Value -> Option Addr -> TS)) := l.map fun p => (.ref (He.ga X.K p.1), fun _ _ _ => tS X.K X.mg noW p.2)
theorem DHs.ok {X : Cx} {cs : List Str} : ∀ {hds : List ExceptHandler} {l : List (Str × MS)}, DHs X cs hds l -> L2N.HdsOk X hds (toL X l)
  | _, _, .nil => .nil
  | _, _, .cons hg hd hm hx hsu r => .cons ⟨hg, hd, .inl hm⟩ (fun a oe cls d pn _ _ => (hsu a oe pn).p) r.ok
theorem DHs.go {X : Cx} {cs : List Str} {W : WX} {D : Ends} {G G' H H' : Hp} {ι ι' : Im} {Γ' : En} {μ' : Mem} {c : Str} {r : Option Int} {d : Option Addr} {σ' : L2.St} (hc : c ∈ cs) (e : Ext G ι H G' ι' H') (o : Ok X.K X.mg G' ι' H' σ' Γ' μ') (hd : Xd r d H') {C : Addr} (hC : X.mg c = some (.ref C)) :
    ∀ {hds : List ExceptHandler} {l : List (Str × MS)}, DHs X cs hds l -> As X.K X.mg W G ι H D (Fm.tryGo c r l Γ' μ') -> wMany X.K W D (toL X l) (.ref C) d σ' H'
  | _, _, .nil, h => h C d σ' G' ι' H' e o hC hd
  | _, _, .cons (x := x) hg hdb hm hx hsu q, h => by
    obtain ⟨z1, z2⟩ := hx c hc
    rw [hC] at z1
    cases z1
    refine ⟨_, z2, fun b => ?_, fun b => ?_⟩
    . unfold Fm.tryGo at h
      rw [if_pos b] at h
      exact fun a _ => ⟨G', ι', Γ', μ', o, (As.up e h).noEx⟩
    . unfold Fm.tryGo at h
      rw [b] at h
      exact DHs.go hc e o hd hC q h
theorem stry {X : Cx} {W : WX} {cs : List Str} {body : List Stmt} {h₀ : ExceptHandler} {hds : List ExceptHandler} {pos : Pos} {mb : MS} {l : List (Str × MS)} (tk : L2N.Takes X W)
    (hb : ∀ (W' : WX) (pn : List (Addr × Obj)) (xe : Value -> Shared -> Prop), L2N.Takes (X.tr pn xe) W' -> DSs (X.tr pn xe) W' body mb) (hh : DHs X cs (h₀ :: hds) l) (hs : X.stack = X.env :: X.outer := by rfl) (hf : X.env.frame = some X.env.locals := by rfl) :
    DS X W (.Try body (h₀ :: hds) [] [] pos) (Fm.sTry cs mb l) := ⟨PS.imp (L2N.ps_try_many hs hf tk (tb := fun W' => tS X.K X.mg W' mb) (fun W' pn xe t _ => (hb W' pn xe t).p) hh.ok) fun D σ H ⟨G, ι, Γ, μ, o, h⟩ => ⟨G, ι, Γ, μ, o, by
  unfold Fm.sTry at h
  match q : mb Γ μ with
  | none =>
    rw [q] at h
    exact h
  | some (.nx Γ', μ') =>
    rw [q] at h
    exact h
  | some (.bk Γ', μ') =>
    rw [q] at h
    exact h
  | some (.ct Γ', μ') =>
    rw [q] at h
    exact h
  | some (.rt x, μ') =>
    rw [q] at h
    exact h
  | some (.rf none x, μ') =>
    rw [q] at h
    exact h
  | some (.rf (some i) x, μ') =>
    rw [q] at h
    exact h
  | some (.ex c r Γ', μ') =>
    rw [q] at h
    have h : As X.K X.mg W G ι H D (if c ∈ cs then Fm.tryGo c r l Γ' μ' else none) := h
    split at h
    . rename_i hc
      exact fun C d σ' G' ι' H' e' o' hC hd => hh.go hc e' o' hd hC h
    . exact h.elim⟩⟩
end L3
end
section
set_option Elab.async false
set_option linter.all false
set_option maxRecDepth 100000
set_option maxHeartbeats 4000000
namespace L3
open PySem L2 PySem.Spec PyProof.Rows
open Fm (Vl MO Mem En Rs ME MF MA MT MG MS MI Out So Gd Ky)
section
variable {X : Cx} {W : WX} {K : PySem.W.Frag} {mg : Str -> Option Value}
theorem idx_at {ns : List Int} {k : Int} (h : k ∈ ns) : ns[ns.idxOf k]? = some k /\ ∀ m z, m < ns.idxOf k -> ns[m]? = some z -> z ≠ k := by
  have l := List.idxOf_lt_length_of_mem h
  refine ⟨by rw [List.getElem?_eq_getElem l, List.getElem_idxOf l], fun m z hm e1 e2 => ?_⟩
  subst e2
  obtain ⟨h1, h2⟩ := List.getElem?_eq_some_iff.mp e1
  have := List.not_of_lt_findIdx (p := fun x => x == z) (xs := ns) (i := m) hm
  simp [h2] at this
theorem dindexL {o e : Expr} {mo me : ME} {p2 p3 : Pos} (ho : DE X W o mo) (he : DE X W e me) (hbase : attributeBase o "index" X.env (eval o X.env) = eval o X.env := by rfl)
    (hfew : ((backTo p3 (starEach [e] X.env)).all (fun x => !x.1) && (backToKw p3 (keywordEach [] X.env)).all (fun x => x.1.isSome)
      && decide (([e] : List Expr).length + ([] : List Keyword).length + (if ([] : List Keyword).isEmpty then 0 else 1) < 30)) = true := by rfl)
    (hline : (p2.endLine == p3.line) = true := by rfl) (hs : starEach [e] X.env = (false, eval e X.env) :: starEach [] X.env := by rfl) (hplain : (backTo p3 (starEach [] X.env)).any (·.1) = false := by rfl) :
    DE X W (.Call (.Attribute o "index" p2) [e] [] p3) (Fm.eIdxL mo me) := by
  have z := pe_bm PySem.F.plainAttrs_list PySem.F.slot_list_index PySem.F.type_list_index (mt_index (X := X)) ho.p (pa_cons he.p pa_nil hs) hbase hfew hline hs hplain
  refine ⟨PE.imp z fun σ H Q ⟨G, ι, Γ, μ, o, h⟩ => ⟨G, ι, Γ, μ, o, Af.bind h fun x μ1 v G1 ι1 H1 _ e1 o1 r1 h1 => ?_⟩⟩
  split at h1
  . rename_i xs q1
    obtain ⟨a, us, rfl, q2, _⟩ := lstOf_of o1.m r1 q1
    refine ⟨Or.inl ⟨rfl, _, SqL.of q2⟩, G1, ι1, Γ, μ1, o1, Af.bind h1 fun y μ2 u G2 ι2 H2 _ e2 o2 r2 h2 => ?_⟩
    obtain ⟨w, w1, h3⟩ := Af.of h2
    obtain ⟨ys, w2, w3⟩ := bnd w1
    split at w3
    . rename_i hc
      obtain ⟨a2, vs, z2, q3, q4⟩ := lstOf_of o2.m (Rv.up e2.toXt r1) w2
      cases z2
      unfold Fm.idxL at w3
      split at w3
      . rename_i k _ 
        obtain ⟨ns, n1, n2⟩ := bnd w3
        have n3 := ints_of q4 n1
        subst n3
        split at n2
        . rename_i hk
          cases n2
          have r3 := int_of r2
          subst r3
          obtain ⟨i1, i2⟩ := idx_at hk
          refine ⟨a, ns.map V.int, .int k, ns.idxOf k, .int k, rfl, rfl, SqL.of q3, rfl, ?_, ?_, ?_, fun m z' hm hz => ?_, af_val o2 h3 Ext.refl o2.m (.int _)⟩
          . exact List.all_eq_true.mpr fun v hv => by
              obtain ⟨i, _, rfl⟩ := List.mem_map.mp hv
              rfl
          . rw [List.getElem?_map, i1]
            rfl
          . simp [eqV]
          . rw [List.getElem?_map] at hz
            obtain ⟨z3, z4, rfl⟩ := Option.map_eq_some_iff.mp hz
            have := i2 m z3 hm z4
            simp [eqV, this]
        . cases n2
      . cases w3
    . cases w3
  . exact h1.elim
end
end L3
end
section
set_option Elab.async false
set_option linter.all false
set_option maxRecDepth 100000
set_option maxHeartbeats 4000000
namespace L3
open PySem L2 PySem.Spec PyProof.Rows
open Fm (Vl MO Mem En Rs ME MF MA MT MG MS MI Out So Gd Ky)
section
variable {X : Cx} {W : WX} {K : PySem.W.Frag} {mg : Str -> Option Value} {G H : Hp} {ι : Im} {μ : Mem}
def rTupN (K : PySem.W.Frag) : List V -> Hp -> VK -> Prop := fun xs H Q => ∃ p ys, xs = [.ref p] /\ SqL K H p ys /\ ∀ l od, od.dict = none -> H l = none -> Q (.ref l) (upd H l (.frz od (.tup ys)))
theorem call_tupleN : CallR X (.type "tuple") (rTupN X.K) := by
  intro pins s σ H xs us Q I r h
  obtain ⟨p, ys, rfl, hq, q⟩ := h
  obtain ⟨u, rfl, rx⟩ := vals1 r
  cases rx
  obtain ⟨its, r', pl, hz⟩ := I.list hq
  have hlen := r'.length
  refine call_tuple_list pl.isList (fun h' kp => ?_) (by simp only [List.size_toArray] <;> omega)
  have I1 : Inv X pins σ H { s with heap := h' } := I.kept (t' := s.toks) kp
  have I2 : Inv X pins σ (upd H h'.objs.size (.frz { cls := .type "tuple", data := .seq its.toArray } (.tup ys))) { s with heap := h'.push { cls := .type "tuple", data := .seq its.toArray } } :=
    I1.laid (t' := s.toks) (fun b o e => Heap.get?_push_of_some _ e) (Nat.le_refl _) ⟨Heap.get?_push_size _ rfl, hz, its, r', IsTup.new _ _⟩
  exact ⟨.ref h'.objs.size, _, I2, rfl, q _ _ rfl (I1.hok.fresh (Nat.le_refl _))⟩
theorem newTF (m : Ms K mg G ι H μ) {ns : List Int} {Q : VK} (q : ∀ v G' H', Ext G ι H G' ι H' -> Ms K mg G' ι H' μ -> Rv K G' ι v (.ltup ns) -> Q v H') : ∀ p od, od.dict = none -> H p = none -> Q (.ref p) (upd H p (.frz od (.tup (ns.map V.int)))) := fun p od hd hp => by
  obtain ⟨m', e'⟩ := m.new (o := .frz od (.tup (ns.map V.int))) hp
  exact q _ _ _ e' m' (.ltup upd_same hd)
theorem ca_tupN : CaD K mg (rTupN K) Fm.bTupN := by
  intro vs G H ι μ ds dz Q m hv e q
  unfold Fm.bTupN at e
  split at e
  . obtain ⟨xs, e1, e2⟩ := bnd e
    obtain ⟨ns, e3, e4⟩ := bnd e2
    cases e4
    obtain ⟨v, rfl, h1⟩ := one_of hv
    obtain ⟨a, us, rfl, r2, r3⟩ := lstOf_of m h1 e1
    have := ints_of r3 e3
    subst this
    exact ⟨a, _, rfl, SqL.of r2, newTF m q⟩
  . cases e
theorem db_tupN : DB X "tuple" Fm.bTupN := ⟨_, fun hg hm ha he hp => pe_callTy call_tupleN hg hm (by decide +kernel) ha (by decide) (by decide) he hp, ca_tupN⟩
theorem ev_slN : SlD K mg (rSlA K) Fm.slN := by
  intro x lo hi G H ι μ dx dz Q m hx e q
  unfold Fm.slN at e
  split at e
  . split at e
    . cases e
    . rename_i hc
      cases e
      obtain ⟨a, od, rfl, r2, _⟩ := ltup_of hx
      refine ⟨a, _, rfl, .inl (.inr ⟨od, m.s.ltup r2⟩), fun hw => ?_, fun _ => newT m ((RvA.ivs0 (K := K) (G := G) (ι := ι)).cut lo hi) q⟩
      refine absurd ?_ hc
      have h1 := hw.1
      have h2 := hw.2
      rw [List.length_map] at h1 h2
      exact ⟨h1, h2⟩
  . cases e
theorem dslN {pos p2 : Pos} {a : Expr} {ma : ME} {lo hi : Option Expr} {ml mh : En -> Mem -> Rs (Option Int)} (ha : DE X W a ma) (hl : DO X W lo ml) (hh : DO X W hi mh) : DE X W (.Subscript a (.Slice lo hi none p2) pos) (Fm.eSl Fm.slN ma ml mh) := ⟨PE.imp (pe_slice sl_tupA ha.p hl.p hh.p) fun σ H Q ⟨G, ι, Γ, μ, o, h⟩ =>
  ⟨G, ι, Γ, μ, o, Af.bind h fun x μ1 v G1 ι1 H1 _ e1 o1 r1 h1 => ⟨G1, ι1, Γ, μ1, o1, Af.bind h1 fun y μ2 u G2 ι2 H2 _ e2 o2 r2 h2 => ⟨G2, ι2, Γ, μ2, o2, Af.bind h2 fun z μ3 t G3 ι3 H3 _ e3 o3 r3 h3 => by
    cases (show u = y from r2)
    cases (show t = z from r3)
    obtain ⟨w, e, h4⟩ := Af.of h3
    exact ev_slN v y z G3 H3 ι3 μ3 x w Q o3.m (Rv.up e3.toXt (Rv.up e2.toXt r1)) e fun v' G' H' e' m' r' => af_val o3 h4 e' m' r'⟩⟩⟩⟩
def tyFz (x : V) (H : Hp) : Prop := ∃ a od xs, x = .ref a /\ H a = some (.frz od (.tup xs)) /\ od.dict = none
theorem ty_fz : TyOk X "tuple" tyFz := by
  intro pins σ H s x v I r ty
  obtain ⟨a, od, xs, rfl, m, hd⟩ := ty
  cases r
  obtain ⟨e, hz, its, rv, ob, hob, hc, _⟩ := I.hok a _ m
  rw [e] at hob
  cases hob
  exact ⟨⟨od, e, hc⟩, fun b e2 => by cases e2; exact ⟨od, e, hd⟩⟩
theorem intsAre_of : ∀ {ys : List Int} {us : List Value}, Vals (ys.map V.int) us -> IntsAre us ys
  | [], _, .nil => .nil
  | y :: ys, _, .cons r t => by
    obtain ⟨k, rfl⟩ := r
    exact .cons y k (intsAre_of t)
theorem mt_tup_indexI : MtR X "tuple.index" (fun x xs H Q => ∃ p, ∃ ns : List Int, ∃ k : Int, x = .ref p /\ xs = [.int k] /\ SqT X.K H p (ns.map V.int) /\ k ∈ ns /\ Q (.int (ns.idxOf k : Nat)) H) := by
  intro pins s σ H x xs v us Q I rx rs h
  obtain ⟨p, ns, k, rfl, rfl, hq, hk, q⟩ := h
  cases rx
  obtain ⟨u, rfl, t, rfl⟩ := vals1 rs
  obtain ⟨its, r, pl, hz⟩ := I.tuple hq
  exact PySem.SeqAt.tuple_index_ints (vs := its) pl (intsAre_of (by simpa using r)) hk ⟨.int (ns.idxOf k : Nat), H, I.tok _, ⟨_, rfl⟩, q⟩
theorem dindexT {o e : Expr} {mo me : ME} {p2 p3 : Pos} (ho : DE X W o mo) (he : DE X W e me) (hbase : attributeBase o "index" X.env (eval o X.env) = eval o X.env := by rfl)
    (hfew : ((backTo p3 (starEach [e] X.env)).all (fun x => !x.1) && (backToKw p3 (keywordEach [] X.env)).all (fun x => x.1.isSome)
      && decide (([e] : List Expr).length + ([] : List Keyword).length + (if ([] : List Keyword).isEmpty then 0 else 1) < 30)) = true := by rfl)
    (hline : (p2.endLine == p3.line) = true := by rfl) (hs : starEach [e] X.env = (false, eval e X.env) :: starEach [] X.env := by rfl) (hplain : (backTo p3 (starEach [] X.env)).any (·.1) = false := by rfl) :
    DE X W (.Call (.Attribute o "index" p2) [e] [] p3) (Fm.eIdxT mo me) := by
  have z := pe_mG (ty_fz (X := X)) PySem.F.plainAttrs_tuple PySem.F.slot_tuple_index PySem.F.type_tuple_index (mt_tup_indexI (X := X)) ho.p (pa_cons he.p pa_nil hs) hbase hfew hline hs hplain
  refine ⟨PE.imp z fun σ H Q ⟨G, ι, Γ, μ, o, h⟩ => ⟨G, ι, Γ, μ, o, Af.bind h fun x μ1 v G1 ι1 H1 _ e1 o1 r1 h1 => ?_⟩⟩
  split at h1
  . rename_i ns _
    obtain ⟨a, od, rfl, r2, hd⟩ := ltup_of r1
    refine ⟨⟨a, od, _, rfl, o1.m.s.ltup r2, hd⟩, G1, ι1, Γ, μ1, o1, Af.bind h1 fun y μ2 u G2 ι2 H2 _ e2 o2 r3 h2 => ?_⟩
    obtain ⟨w, w1, h3⟩ := Af.of h2
    split at w1
    . rename_i k _
      split at w1
      . rename_i hk
        cases w1
        have r4 := int_of r3
        subst r4
        exact ⟨a, ns, k, rfl, rfl, .inl (.inr ⟨od, o2.m.s.ltup (e2.g _ _ r2)⟩), hk, af_val o2 h3 Ext.refl o2.m (.int _)⟩
      . cases w1
    . cases w1
  . exact h1.elim
end
end L3
end
section
set_option Elab.async false
set_option linter.all false
set_option maxRecDepth 100000
set_option maxHeartbeats 4000000
namespace Q
open PySem L2 L2H L3 RZ PyProof.Rows PySem.Spec
open Fm (Vl MO Mem En Rs ME MF MA MT MG MS MI Out So Gd Ky)
structure Tx (K : PySem.W.Frag) (mg : Str -> Option Value) : Prop where
  b_all : mg "all" = none
  b_bool : mg "bool" = none
  b_int : mg "int" = none
  b_isinstance : mg "isinstance" = none
  b_len : mg "len" = none
  b_list : mg "list" = none
  b_max : mg "max" = none
  b_min : mg "min" = none
  b_range : mg "range" = none
  b_sorted : mg "sorted" = none
  b_str : mg "str" = none
  b_tuple : mg "tuple" = none
  b_zip : mg "zip" = none
  x_NoLane : Xc K mg "NoLane"
  e_NoLane_NoLane : PySem.W.exmOne K (.ref (He.ga K "NoLane")) (.ref (He.ga K "NoLane")) = some (Fm.takesX "NoLane" "NoLane")
  g_NoLane : mg "NoLane" = some (.ref (He.ga K "NoLane"))
theorem hx_NoLane {K : PySem.W.Frag} {mg : Str -> Option Value} (T : Tx K mg) : ∀ c ∈ (["NoLane"] : List Str), mg c = some (.ref (He.ga K c)) /\ PySem.W.exmOne K (.ref (He.ga K c)) (.ref (He.ga K "NoLane")) = some (Fm.takesX c "NoLane") := List.forall_mem_cons.mpr ⟨⟨T.x_NoLane.m, T.e_NoLane_NoLane⟩, fun _ h => nomatch h⟩
section
variable {P : Program} {w : World} {K : PySem.W.Frag} {mg : Str -> Option Value} {base : Heap} {a : Addr} {fd : FuncData}
theorem sc_road_down : FnScope ["reaches", "reach", "found"] ["reaches", "reach"] (defScope s_road_down) := ⟨rfl, rfl, rfl, by decide +kernel, rfl, by decide +kernel, by decide +kernel⟩
theorem d_road_down (T : Tx K mg)  : Bd P w K mg base "road_down" (defBody s_road_down) (defScope s_road_down) a ["reaches", "reach", "found"] 0 m_road_down := fun cdv A outer s H E hr => by
  have tk : L2N.Takes (cxOf (L2N.CX P w) P w K mg base ["reaches", "reach", "found"] "road_down" (defScope s_road_down) a cdv A outer s H E) (wE E) := L2N.takes_of rfl rfl rfl rfl
  have nd := sc_road_down.nd
  exact sc (sset 2 nd (dnew (dlst (dac (dv 1) danil)))) (sc (swhile [] 100000 (passes_of rfl) (dcmpT (o_ne (hu64 hr)) (dix (dix (dv 0) (dix (dv 2) (dneg di))) di) (dneg di)) (s1 (sapp (dv 2) (dix (dix (dv 0) (dix (dv 2) (dneg di))) di)))) (s1 (sret (dB (db_tupN) T.b_tuple (dac (dv 2) danil)))))
theorem fd_road_down (T : Tx K mg)  (F : FunD K "road_down" "road_down" (defArgs s_road_down) (defBody s_road_down) (defScope s_road_down) [] [] a fd) (hm : mg "road_down" = some (.ref a)) : Fd P w K mg base "road_down" 1 (spV K mg 2 F_road_down) := ⟨a, fd, _, okV F sc_road_down (d_road_down T ), hm, F.kp, F.bindsN (ps := ["reaches", "reach"]) fun _ _ _ _ _ _ us hl => match us, hl with | [_, _], _ => rfl⟩
theorem sc_from_below : FnScope ["road"] ["road"] (defScope s_from_below) := ⟨rfl, rfl, rfl, by decide +kernel, rfl, by decide +kernel, by decide +kernel⟩
theorem d_from_below (T : Tx K mg)  : Bd P w K mg base "from_below" (defBody s_from_below) (defScope s_from_below) a ["road"] 0 m_from_below := fun cdv A outer s H E hr => by
  have tk : L2N.Takes (cxOf (L2N.CX P w) P w K mg base ["road"] "from_below" (defScope s_from_below) a cdv A outer s H E) (wE E) := L2N.takes_of rfl rfl rfl rfl
  have nd := sc_from_below.nd
  exact s1 (sret (drevT (dv 0)))
theorem fd_from_below (T : Tx K mg)  (F : FunD K "from_below" "from_below" (defArgs s_from_below) (defBody s_from_below) (defScope s_from_below) [] [] a fd) (hm : mg "from_below" = some (.ref a)) : Fd P w K mg base "from_below" 1 (spV K mg 1 F_from_below) := ⟨a, fd, _, okV F sc_from_below (d_from_below T ), hm, F.kp, F.bindsN (ps := ["road"]) fun _ _ _ _ _ _ us hl => match us, hl with | [_], _ => rfl⟩
theorem sc_ground_of : FnScope ["reaches", "road", "found", "reach"] ["reaches", "road"] (defScope s_ground_of) := ⟨rfl, rfl, rfl, by decide +kernel, rfl, by decide +kernel, by decide +kernel⟩
theorem d_ground_of (T : Tx K mg)  : Bd P w K mg base "ground_of" (defBody s_ground_of) (defScope s_ground_of) a ["reaches", "road", "found", "reach"] 0 m_ground_of := fun cdv A outer s H E hr => by
  have tk : L2N.Takes (cxOf (L2N.CX P w) P w K mg base ["reaches", "road", "found", "reach"] "ground_of" (defScope s_ground_of) a cdv A outer s H E) (wE E) := L2N.takes_of rfl rfl rfl rfl
  have nd := sc_ground_of.nd
  exact sc (sset 2 nd (dl (dlst danil))) (sc (sfor [3] (passes_of rfl) (iseq (dv 1)) (gn 3 nd) (s1 (sset 2 nd (dop o_add (dv 2) (dl (dBF db_list T.b_list (dac (dix (dix (dv 0) (dv 3)) di) danil))))))) (s1 (sret (dv 2))))
theorem fd_ground_of (T : Tx K mg)  (F : FunD K "ground_of" "ground_of" (defArgs s_ground_of) (defBody s_ground_of) (defScope s_ground_of) [] [] a fd) (hm : mg "ground_of" = some (.ref a)) : Fd P w K mg base "ground_of" 1 (spV K mg 2 F_ground_of) := ⟨a, fd, _, okV F sc_ground_of (d_ground_of T ), hm, F.kp, F.bindsN (ps := ["reaches", "road"]) fun _ _ _ _ _ _ us hl => match us, hl with | [_, _], _ => rfl⟩
theorem sc_l_box : FnScope ["_law_script", "_law_seed", "_law_cell"] ["_law_script"] (defScope s_l_box) := ⟨rfl, rfl, rfl, by decide +kernel, rfl, by decide +kernel, by decide +kernel⟩
theorem d_l_box (T : Tx K mg)  : Bd P w K mg base "_law_box" (defBody s_l_box) (defScope s_l_box) a ["_law_script", "_law_seed", "_law_cell"] 0 m_l_box := fun cdv A outer s H E hr => by
  have tk : L2N.Takes (cxOf (L2N.CX P w) P w K mg base ["_law_script", "_law_seed", "_law_cell"] "_law_box" (defScope s_l_box) a cdv A outer s H E) (wE E) := L2N.takes_of rfl rfl rfl rfl
  have nd := sc_l_box.nd
  exact sc (sset 1 nd di) (sc (sfor [2] (passes_of rfl) (iseq (dv 0)) (gn 2 nd) (s1 (sset 1 nd (dop o_mod (dop o_add (dop o_add (dop o_mul (dv 1) di) (dop o_mod (dv 2) di)) di) di)))) (s1 (sretF (dlst (dac (dl (dBF db_list T.b_list (dac (dv 0) danil))) (dac di (dac di (dac di (dac (dv 1) danil)))))))))
theorem fd_l_box (T : Tx K mg)  (F : FunD K "_law_box" "_law_box" (defArgs s_l_box) (defBody s_l_box) (defScope s_l_box) [] [] a fd) (hm : mg "_law_box" = some (.ref a)) : Fd P w K mg base "_law_box" 1 (spF K mg 1 F_l_box) := ⟨a, fd, _, okF F sc_l_box (d_l_box T ), hm, F.kp, F.bindsN (ps := ["_law_script"]) fun _ _ _ _ _ _ us hl => match us, hl with | [_], _ => rfl⟩
theorem sc_l_mixed : FnScope ["_law_number", "_law_turn", "_law_one"] ["_law_number", "_law_turn"] (defScope s_l_mixed) := ⟨rfl, rfl, rfl, by decide +kernel, rfl, by decide +kernel, by decide +kernel⟩
theorem d_l_mixed (T : Tx K mg)  : Bd P w K mg base "_law_mixed" (defBody s_l_mixed) (defScope s_l_mixed) a ["_law_number", "_law_turn", "_law_one"] 0 m_l_mixed := fun cdv A outer s H E hr => by
  have tk : L2N.Takes (cxOf (L2N.CX P w) P w K mg base ["_law_number", "_law_turn", "_law_one"] "_law_mixed" (defScope s_l_mixed) a cdv A outer s H E) (wE E) := L2N.takes_of rfl rfl rfl rfl
  have nd := sc_l_mixed.nd
  exact sc (sset 2 nd (dop o_mod (dop o_add (dop o_add (dop o_mul (dv 0) di) (dop o_mul (dv 1) di)) di) di)) (s1 (sret (dop o_div (dop o_mod (dop o_add (dop o_add (dop o_mul (dv 2) (dop o_add (dop o_mod (dv 2) di) di)) (dop o_mul (dv 1) di)) (dop o_mod (dop o_div (dv 0) di) di)) di) di)))
theorem fd_l_mixed (T : Tx K mg)  (F : FunD K "_law_mixed" "_law_mixed" (defArgs s_l_mixed) (defBody s_l_mixed) (defScope s_l_mixed) [] [] a fd) (hm : mg "_law_mixed" = some (.ref a)) : Fd P w K mg base "_law_mixed" 1 (spV K mg 2 F_l_mixed) := ⟨a, fd, _, okV F sc_l_mixed (d_l_mixed T ), hm, F.kp, F.bindsN (ps := ["_law_number", "_law_turn"]) fun _ _ _ _ _ _ us hl => match us, hl with | [_, _], _ => rfl⟩
theorem sc_l_whole : FnScope ["_law_found"] ["_law_found"] (defScope s_l_whole) := ⟨rfl, rfl, rfl, by decide +kernel, rfl, by decide +kernel, by decide +kernel⟩
theorem d_l_whole (T : Tx K mg)  : Bd P w K mg base "_law_whole" (defBody s_l_whole) (defScope s_l_whole) a ["_law_found"] 0 m_l_whole := fun cdv A outer s H E hr => by
  have tk : L2N.Takes (cxOf (L2N.CX P w) P w K mg base ["_law_found"] "_law_whole" (defScope s_l_whole) a cdv A outer s H E) (wE E) := L2N.takes_of rfl rfl rfl rfl
  have nd := sc_l_whole.nd
  exact s1 (sret (dand (dIsi .int T.b_isinstance T.b_int (dv 0)) (done (dnot (dIsi .bool T.b_isinstance T.b_bool (dv 0))))))
theorem fd_l_whole (T : Tx K mg)  (F : FunD K "_law_whole" "_law_whole" (defArgs s_l_whole) (defBody s_l_whole) (defScope s_l_whole) [] [] a fd) (hm : mg "_law_whole" = some (.ref a)) : Fd P w K mg base "_law_whole" 1 (spV K mg 1 F_l_whole) := ⟨a, fd, _, okV F sc_l_whole (d_l_whole T ), hm, F.kp, F.bindsN (ps := ["_law_found"]) fun _ _ _ _ _ _ us hl => match us, hl with | [_], _ => rfl⟩
theorem sc_l_roads : FnScope ["_law_reaches_here", "_law_to", "_law_ground_here", "_law_led", "_law_found", "_law_head", "_law_road"] ["_law_reaches_here"] (defScope s_l_roads) := ⟨rfl, rfl, rfl, by decide +kernel, rfl, by decide +kernel, by decide +kernel⟩
theorem d_l_roads (T : Tx K mg)  : Bd P w K mg base "_law_roads" (defBody s_l_roads) (defScope s_l_roads) a ["_law_reaches_here", "_law_to", "_law_ground_here", "_law_led", "_law_found", "_law_head", "_law_road"] 0 m_l_roads := fun cdv A outer s H E hr => by
  have tk : L2N.Takes (cxOf (L2N.CX P w) P w K mg base ["_law_reaches_here", "_law_to", "_law_ground_here", "_law_led", "_law_found", "_law_head", "_law_road"] "_law_roads" (defScope s_l_roads) a cdv A outer s H E) (wE E) := L2N.takes_of rfl rfl rfl rfl
  have nd := sc_l_roads.nd
  exact sc (sComp (i := 3) (own := [("_law_to", 1), ("_law_ground_here", 2)]) nd (blkOk_by (by kernel_rfl)) (iseq (dv 0)) (fun _ _ _ _ _ => gt (gsc (gn 1 nd) (gsc (gn 2 nd) gsn))) (fun _ _ _ _ _ => cy) (fun _ _ _ _ _ => dv 1) (sw_true rfl rfl rfl (by decide +kernel))) (sc (sset 4 nd (dnew (dlst danil))) (sc (sfor [5] (passes_of rfl) (irng1 T.b_range (dac (dB (db_len) T.b_len (dac (dv 0) danil)) danil)) (gn 5 nd) (s1 (sif (dcmpT o_nin (dv 5) (dv 3)) (sc (sset 6 nd (dl (dlst (dac (dv 5) danil)))) (sc (swhile [] 100000 (passes_of rfl) (dcmpT (o_ne (hu64 hr)) (dix (dix (dv 0) (dix (dv 6) di)) di) (dop o_sub di di)) (s1 (sset 6 nd (dop o_add (dl (dlst (dac (dix (dix (dv 0) (dix (dv 6) di)) di) danil))) (dv 6))))) (s1 (sapp (dv 4) (dv 6))))) sn))) (s1 (sret (dl (fcomp (own := [("_law_road", 6)]) nd (blkOk_by (by kernel_rfl)) (iseq (dl (dBF (db_sorted (hu64 hr)) T.b_sorted (dac (dv 4) danil)))) (fun _ _ _ _ _ => gn 6 nd) (fun _ _ _ _ _ => cy) (fun _ _ _ _ _ => dl (drev (dv 6)))))))))
theorem fd_l_roads (T : Tx K mg)  (F : FunD K "_law_roads" "_law_roads" (defArgs s_l_roads) (defBody s_l_roads) (defScope s_l_roads) [] [] a fd) (hm : mg "_law_roads" = some (.ref a)) : Fd P w K mg base "_law_roads" 1 (spV K mg 1 F_l_roads) := ⟨a, fd, _, okV F sc_l_roads (d_l_roads T ), hm, F.kp, F.bindsN (ps := ["_law_reaches_here"]) fun _ _ _ _ _ _ us hl => match us, hl with | [_], _ => rfl⟩
theorem sc_l_ground : FnScope ["_law_reaches_here", "_law_road", "_law_found", "_law_reach", "_law_height"] ["_law_reaches_here", "_law_road"] (defScope s_l_ground) := ⟨rfl, rfl, rfl, by decide +kernel, rfl, by decide +kernel, by decide +kernel⟩
theorem d_l_ground (T : Tx K mg)  : Bd P w K mg base "_law_ground" (defBody s_l_ground) (defScope s_l_ground) a ["_law_reaches_here", "_law_road", "_law_found", "_law_reach", "_law_height"] 0 m_l_ground := fun cdv A outer s H E hr => by
  have tk : L2N.Takes (cxOf (L2N.CX P w) P w K mg base ["_law_reaches_here", "_law_road", "_law_found", "_law_reach", "_law_height"] "_law_ground" (defScope s_l_ground) a cdv A outer s H E) (wE E) := L2N.takes_of rfl rfl rfl rfl
  have nd := sc_l_ground.nd
  exact sc (sset 2 nd (dnew (dlst danil))) (sc (sfor [3, 4] (passes_of rfl) (iseq (dv 1)) (gn 3 nd) (s1 (sfor [4] (passes_of rfl) (iseq (dix (dix (dv 0) (dv 3)) di)) (gn 4 nd) (s1 (sapp (dv 2) (dv 4)))))) (s1 (sret (ddeep (dv 2)))))
theorem fd_l_ground (T : Tx K mg)  (F : FunD K "_law_ground" "_law_ground" (defArgs s_l_ground) (defBody s_l_ground) (defScope s_l_ground) [] [] a fd) (hm : mg "_law_ground" = some (.ref a)) : Fd P w K mg base "_law_ground" 1 (spV K mg 2 F_l_ground) := ⟨a, fd, _, okV F sc_l_ground (d_l_ground T ), hm, F.kp, F.bindsN (ps := ["_law_reaches_here", "_law_road"]) fun _ _ _ _ _ _ us hl => match us, hl with | [_, _], _ => rfl⟩
theorem sc_begins : FnScope ["reaches", "road", "reach"] ["reaches", "road", "reach"] (defScope s_begins) := ⟨rfl, rfl, rfl, by decide +kernel, rfl, by decide +kernel, by decide +kernel⟩
theorem d_begins (T : Tx K mg) (f_ground_of : Fd P w K mg base "ground_of" 1 (spV K mg 2 F_ground_of)) : Bd P w K mg base "begins" (defBody s_begins) (defScope s_begins) a ["reaches", "road", "reach"] 1 m_begins := fun cdv A outer s H E hr => by
  have tk : L2N.Takes (cxOf (L2N.CX P w) P w K mg base ["reaches", "road", "reach"] "begins" (defScope s_begins) a cdv A outer s H E) (wE E) := L2N.takes_of rfl rfl rfl rfl
  have nd := sc_begins.nd
  exact s1 (sret (dB (db_len) T.b_len (dac (dcall f_ground_of (hr.mono (by decide)) tk (dac (dv 0) (dac (dslN (dv 1) don (dos (dindexT (dv 1) (dv 2)))) danil)) fnV_len) danil)))
theorem fd_begins (T : Tx K mg) (f_ground_of : Fd P w K mg base "ground_of" 1 (spV K mg 2 F_ground_of)) (F : FunD K "begins" "begins" (defArgs s_begins) (defBody s_begins) (defScope s_begins) [] [] a fd) (hm : mg "begins" = some (.ref a)) : Fd P w K mg base "begins" 2 (spV K mg 3 F_begins) := ⟨a, fd, _, okV F sc_begins (d_begins T f_ground_of), hm, F.kp, F.bindsN (ps := ["reaches", "road", "reach"]) fun _ _ _ _ _ _ us hl => match us, hl with | [_, _, _], _ => rfl⟩
theorem sc_l_take : FnScope ["_law_box_here", "_law_size", "_law_left", "_law_cell"] ["_law_box_here", "_law_size"] (defScope s_l_take) := ⟨rfl, rfl, rfl, by decide +kernel, rfl, by decide +kernel, by decide +kernel⟩
theorem d_l_take (T : Tx K mg) (f_l_mixed : Fd P w K mg base "_law_mixed" 1 (spV K mg 2 F_l_mixed)) : Bd P w K mg base "_law_take" (defBody s_l_take) (defScope s_l_take) a ["_law_box_here", "_law_size", "_law_left", "_law_cell"] 1 m_l_take := fun cdv A outer s H E hr => by
  have tk : L2N.Takes (cxOf (L2N.CX P w) P w K mg base ["_law_box_here", "_law_size", "_law_left", "_law_cell"] "_law_take" (defScope s_l_take) a cdv A outer s H E) (wE E) := L2N.takes_of rfl rfl rfl rfl
  have nd := sc_l_take.nd
  exact sc (ssetIx (dv 0) di (dop o_add (dix (dv 0) di) di)) (sc (sif (dcmpT o_gt (dix (dv 0) di) di) (sc (sset 2 nd (dix (dv 0) di)) (sc (ssetIx (dv 0) di (dop o_div (dv 2) (dv 1))) (s1 (sret (dop o_mod (dv 2) (dv 1)))))) sn) (sc (sif (dcmpT o_ge (dix (dv 0) di) (dB (db_len) T.b_len (dac (dix (dv 0) di) danil))) (s1 (sret (dop o_mod (dcall f_l_mixed (hr.mono (by decide)) tk (dac (dix (dv 0) di) (dac (dix (dv 0) di) danil)) fnV_len) (dv 1)))) sn) (sc (sset 3 nd (dix (dix (dv 0) di) (dix (dv 0) di))) (sc (ssetIx (dv 0) di (dop o_add (dix (dv 0) di) di)) (sc (sif (dcmpT o_lt (dv 3) (dop o_pow di di)) (s1 (sret (dop o_mod (dcall f_l_mixed (hr.mono (by decide)) tk (dac (dv 3) (dac (dix (dv 0) di) danil)) fnV_len) (dv 1)))) sn) (sc (ssetIx (dv 0) di (dop o_div (dv 3) (dv 1))) (s1 (sret (dop o_mod (dv 3) (dv 1))))))))))
theorem fd_l_take (T : Tx K mg) (f_l_mixed : Fd P w K mg base "_law_mixed" 1 (spV K mg 2 F_l_mixed)) (F : FunD K "_law_take" "_law_take" (defArgs s_l_take) (defBody s_l_take) (defScope s_l_take) [] [] a fd) (hm : mg "_law_take" = some (.ref a)) : Fd P w K mg base "_law_take" 2 (spV K mg 2 F_l_take) := ⟨a, fd, _, okV F sc_l_take (d_l_take T f_l_mixed), hm, F.kp, F.bindsN (ps := ["_law_box_here", "_law_size"]) fun _ _ _ _ _ _ us hl => match us, hl with | [_, _], _ => rfl⟩
theorem sc_l_meets : FnScope ["_law_reaches_here", "_law_here", "_law_there", "_law_reach", "_law_shared", "_law_left", "_law_right"] ["_law_reaches_here", "_law_here", "_law_there"] (defScope s_l_meets) := ⟨rfl, rfl, rfl, by decide +kernel, rfl, by decide +kernel, by decide +kernel⟩
theorem d_l_meets (T : Tx K mg) (f_l_ground : Fd P w K mg base "_law_ground" 1 (spV K mg 2 F_l_ground)) : Bd P w K mg base "_law_meets" (defBody s_l_meets) (defScope s_l_meets) a ["_law_reaches_here", "_law_here", "_law_there", "_law_reach", "_law_shared", "_law_left", "_law_right"] 1 m_l_meets := fun cdv A outer s H E hr => by
  have tk : L2N.Takes (cxOf (L2N.CX P w) P w K mg base ["_law_reaches_here", "_law_here", "_law_there", "_law_reach", "_law_shared", "_law_left", "_law_right"] "_law_meets" (defScope s_l_meets) a cdv A outer s H E) (wE E) := L2N.takes_of rfl rfl rfl rfl
  have nd := sc_l_meets.nd
  exact sc (sset 4 nd (dix (dl (fcomp (own := [("_law_reach", 3)]) nd (blkOk_by (by kernel_rfl)) (iseq (dv 1)) (fun _ _ _ _ _ => gn 3 nd) (fun _ _ _ _ _ => c1 (dcmpT o_in (dv 3) (dv 2))) (fun _ _ _ _ _ => dv 3))) di)) (sc (sset 5 nd (dB (db_len) T.b_len (dac (dcall f_l_ground (hr.mono (by decide)) tk (dac (dv 0) (dac (dl (dslL (dv 1) don (dos (dindexL (dv 1) (dv 4))))) danil)) fnV_len) danil))) (sc (sset 6 nd (dB (db_len) T.b_len (dac (dcall f_l_ground (hr.mono (by decide)) tk (dac (dv 0) (dac (dl (dslL (dv 2) don (dos (dindexL (dv 2) (dv 4))))) danil)) fnV_len) danil))) (s1 (sret (dtup (dac (dv 4) (dac (dv 5) (dac (dv 6) danil))))))))
theorem fd_l_meets (T : Tx K mg) (f_l_ground : Fd P w K mg base "_law_ground" 1 (spV K mg 2 F_l_ground)) (F : FunD K "_law_meets" "_law_meets" (defArgs s_l_meets) (defBody s_l_meets) (defScope s_l_meets) [] [] a fd) (hm : mg "_law_meets" = some (.ref a)) : Fd P w K mg base "_law_meets" 2 (spV K mg 3 F_l_meets) := ⟨a, fd, _, okV F sc_l_meets (d_l_meets T f_l_ground), hm, F.kp, F.bindsN (ps := ["_law_reaches_here", "_law_here", "_law_there"]) fun _ _ _ _ _ _ us hl => match us, hl with | [_, _, _], _ => rfl⟩
theorem sc_l_ground_drawn : FnScope ["_law_box_here", "_law_top", "_law_size", "_law_pick", "_law_turn", "_law_step", "_law_place"] ["_law_box_here", "_law_top", "_law_size"] (defScope s_l_ground_drawn) := ⟨rfl, rfl, rfl, by decide +kernel, rfl, by decide +kernel, by decide +kernel⟩
theorem d_l_ground_drawn (T : Tx K mg) (f_l_take : Fd P w K mg base "_law_take" 2 (spV K mg 2 F_l_take)) : Bd P w K mg base "_law_ground_drawn" (defBody s_l_ground_drawn) (defScope s_l_ground_drawn) a ["_law_box_here", "_law_top", "_law_size", "_law_pick", "_law_turn", "_law_step", "_law_place"] 2 m_l_ground_drawn := fun cdv A outer s H E hr => by
  have tk : L2N.Takes (cxOf (L2N.CX P w) P w K mg base ["_law_box_here", "_law_top", "_law_size", "_law_pick", "_law_turn", "_law_step", "_law_place"] "_law_ground_drawn" (defScope s_l_ground_drawn) a cdv A outer s H E) (wE E) := L2N.takes_of rfl rfl rfl rfl
  have nd := sc_l_ground_drawn.nd
  exact sc (sset 3 nd (dcall f_l_take (hr.mono (by decide)) tk (dac (dv 0) (dac di danil)) fnV_len)) (sc (sif (dcmpT (o_eq (hu64 hr)) (dv 3) di) (s1 (sret (dl (fcomp (own := [("_law_turn", 4)]) nd (blkOk_by (by kernel_rfl)) (irng1 T.b_range (dac (dv 2) danil)) (fun _ _ _ _ _ => gn 4 nd) (fun _ _ _ _ _ => cy) (fun _ _ _ _ _ => dcall f_l_take (hr.mono (by decide)) takesN (dac (dv 0) (dac di danil)) fnV_len))))) sn) (sc (sset 5 nd (dop o_add di (dcall f_l_take (hr.mono (by decide)) tk (dac (dv 0) (dac di danil)) fnV_len))) (s1 (sret (dl (fcomp (own := [("_law_place", 6)]) nd (blkOk_by (by kernel_rfl)) (irng1 T.b_range (dac (dv 2) danil)) (fun _ _ _ _ _ => gn 6 nd) (fun _ _ _ _ _ => cy) (fun _ _ _ _ _ => dB (db_max2 rfl) T.b_max (dac di (dac (dop o_sub (dv 1) (dop o_mul (dv 5) (dv 6))) danil)))))))))
theorem fd_l_ground_drawn (T : Tx K mg) (f_l_take : Fd P w K mg base "_law_take" 2 (spV K mg 2 F_l_take)) (F : FunD K "_law_ground_drawn" "_law_ground_drawn" (defArgs s_l_ground_drawn) (defBody s_l_ground_drawn) (defScope s_l_ground_drawn) [] [] a fd) (hm : mg "_law_ground_drawn" = some (.ref a)) : Fd P w K mg base "_law_ground_drawn" 3 (spV K mg 3 F_l_ground_drawn) := ⟨a, fd, _, okV F sc_l_ground_drawn (d_l_ground_drawn T f_l_take), hm, F.kp, F.bindsN (ps := ["_law_box_here", "_law_top", "_law_size"]) fun _ _ _ _ _ _ us hl => match us, hl with | [_, _, _], _ => rfl⟩
theorem sc_roads : FnScope ["reaches", "to", "ground", "led", "number", "heads", "head", "found"] ["reaches"] (defScope s_roads) := ⟨rfl, rfl, rfl, by decide +kernel, rfl, by decide +kernel, by decide +kernel⟩
theorem d_roads (T : Tx K mg) (f_from_below : Fd P w K mg base "from_below" 1 (spV K mg 1 F_from_below)) (f_road_down : Fd P w K mg base "road_down" 1 (spV K mg 2 F_road_down)) : Bd P w K mg base "roads" (defBody s_roads) (defScope s_roads) a ["reaches", "to", "ground", "led", "number", "heads", "head", "found"] 3 m_roads := fun cdv A outer s H E hr => by
  have tk : L2N.Takes (cxOf (L2N.CX P w) P w K mg base ["reaches", "to", "ground", "led", "number", "heads", "head", "found"] "roads" (defScope s_roads) a cdv A outer s H E) (wE E) := L2N.takes_of rfl rfl rfl rfl
  have nd := sc_roads.nd
  exact sc (sset 3 nd (dl (fcomp (own := [("to", 1), ("ground", 2)]) nd (blkOk_by (by kernel_rfl)) (iseq (dv 0)) (fun _ _ _ _ _ => gt (gsc (gn 1 nd) (gsc (gn 2 nd) gsn))) (fun _ _ _ _ _ => cy) (fun _ _ _ _ _ => dv 1)))) (sc (sComp (i := 5) (own := [("number", 4)]) nd (blkOk_by (by kernel_rfl)) (irng1 T.b_range (dac (dB (db_len) T.b_len (dac (dv 0) danil)) danil)) (fun _ _ _ _ _ => gn 4 nd) (fun _ _ _ _ _ => c1 (dcmpT o_nin (dv 4) (dv 3))) (fun _ _ _ _ _ => dv 4) (sw_true rfl rfl rfl (by decide +kernel))) (sc (sComp (i := 7) (own := [("head", 6)]) nd (blkOk_by (by kernel_rfl)) (iseq (dv 5)) (fun _ _ _ _ _ => gn 6 nd) (fun _ _ _ _ _ => cy) (fun _ _ _ _ _ => dcall f_road_down (hr.mono (by decide)) takesN (dac (dv 0) (dac (dv 6) danil)) fnV_len) (sw_true rfl rfl rfl (by decide +kernel))) (s1 (sret (dl (dsortK f_from_below (hr.mono (by decide)) T.b_sorted (dv 7)))))))
theorem fd_roads (T : Tx K mg) (f_from_below : Fd P w K mg base "from_below" 1 (spV K mg 1 F_from_below)) (f_road_down : Fd P w K mg base "road_down" 1 (spV K mg 2 F_road_down)) (F : FunD K "roads" "roads" (defArgs s_roads) (defBody s_roads) (defScope s_roads) [] [] a fd) (hm : mg "roads" = some (.ref a)) : Fd P w K mg base "roads" 4 (spV K mg 1 F_roads) := ⟨a, fd, _, okV F sc_roads (d_roads T f_from_below f_road_down), hm, F.kp, F.bindsN (ps := ["reaches"]) fun _ _ _ _ _ _ us hl => match us, hl with | [_], _ => rfl⟩
theorem sc_l_reaches : FnScope ["_law_box_here", "_law_tops", "_law_sizes", "_law_rows", "_law_deep", "_law_number", "_law_to", "_law_row", "_law_led", "_law_one", "_law_heads", "_law_size"] ["_law_box_here"] (defScope s_l_reaches) := ⟨rfl, rfl, rfl, by decide +kernel, rfl, by decide +kernel, by decide +kernel⟩
theorem d_l_reaches (T : Tx K mg) (f_l_ground_drawn : Fd P w K mg base "_law_ground_drawn" 3 (spV K mg 3 F_l_ground_drawn)) (f_l_take : Fd P w K mg base "_law_take" 2 (spV K mg 2 F_l_take)) : Bd P w K mg base "_law_reaches" (defBody s_l_reaches) (defScope s_l_reaches) a ["_law_box_here", "_law_tops", "_law_sizes", "_law_rows", "_law_deep", "_law_number", "_law_to", "_law_row", "_law_led", "_law_one", "_law_heads", "_law_size"] 3 m_l_reaches := fun cdv A outer s H E hr => by
  have tk : L2N.Takes (cxOf (L2N.CX P w) P w K mg base ["_law_box_here", "_law_tops", "_law_sizes", "_law_rows", "_law_deep", "_law_number", "_law_to", "_law_row", "_law_led", "_law_one", "_law_heads", "_law_size"] "_law_reaches" (defScope s_l_reaches) a cdv A outer s H E) (wE E) := L2N.takes_of rfl rfl rfl rfl
  have nd := sc_l_reaches.nd
  exact sc (sset 1 nd (dnew (dlst (dac (dop o_add di (dcall f_l_take (hr.mono (by decide)) tk (dac (dv 0) (dac di danil)) fnV_len)) danil)))) (sc (sset 2 nd (dl (dlst (dac (dop o_add di (dcall f_l_take (hr.mono (by decide)) tk (dac (dv 0) (dac di danil)) fnV_len)) danil)))) (sc (sset 3 nd (dnew (dlst (dac (dtup (dac (dop o_sub di di) (dac (dB (db_tuple) T.b_tuple (dac (dcall f_l_ground_drawn (hr.mono (by decide)) tk (dac (dv 0) (dac (dix (dv 1) di) (dac (dix (dv 2) di) danil))) fnV_len) danil)) danil))) danil)))) (sc (sset 4 nd (dnew (dlst (dac (dix (dv 2) di) danil)))) (sc (sfor [5, 6, 8, 10, 11] (passes_of rfl) (irng2 T.b_range (dac di (dac (dop o_add di (dcall f_l_take (hr.mono (by decide)) tk (dac (dv 0) (dac (dix (dl (dlst (dac di (dac di (dac di danil))))) (dcall f_l_take (hr.mono (by decide)) tk (dac (dv 0) (dac di danil)) fnV_len)) danil)) fnV_len)) danil))) (gn 5 nd) (sc (sset 6 nd (dcall f_l_take (hr.mono (by decide)) tk (dac (dv 0) (dac (dv 5) danil)) fnV_len)) (sc (sset 8 nd (dl (fcomp (own := [("_law_row", 7)]) nd (blkOk_by (by kernel_rfl)) (iseq (dv 3)) (fun _ _ _ _ _ => gn 7 nd) (fun _ _ _ _ _ => cy) (fun _ _ _ _ _ => dix (dv 7) di)))) (sc (sset 10 nd (dB (db_len) T.b_len (dac (dl (fcomp (own := [("_law_one", 9)]) nd (blkOk_by (by kernel_rfl)) (irng1 T.b_range (dac (dv 5) danil)) (fun _ _ _ _ _ => gn 9 nd) (fun _ _ _ _ _ => c1 (dcmpT o_nin (dv 9) (dv 8))) (fun _ _ _ _ _ => dv 9))) danil))) (sc (sif (dtw (dtand (dcmpT (o_eq (hu64 hr)) (dv 10) di) (dtand1 (dcmpT o_in (dv 6) (dv 8))))) (s1 (sset 6 nd (dop o_sub (dv 5) di))) sn) (s1 (sif (dcmpT o_lt (dix (dv 4) (dv 6)) di) (sc (sset 11 nd (dop o_add di (dcall f_l_take (hr.mono (by decide)) tk (dac (dv 0) (dac (dB (db_min2 rfl) T.b_min (dac di (dac (dop o_sub di (dix (dv 4) (dv 6))) danil))) danil)) fnV_len))) (sc (sapp (dv 1) (dB (db_min2 rfl) T.b_min (dac di (dac (dop o_add (dix (dv 1) (dv 6)) (dcall f_l_take (hr.mono (by decide)) tk (dac (dv 0) (dac di danil)) fnV_len)) danil)))) (sc (sapp (dv 3) (dtup (dac (dv 6) (dac (dB (db_tuple) T.b_tuple (dac (dcall f_l_ground_drawn (hr.mono (by decide)) tk (dac (dv 0) (dac (dix (dv 1) (dneg di)) (dac (dv 11) danil))) fnV_len) danil)) danil)))) (s1 (sapp (dv 4) (dop o_add (dix (dv 4) (dv 6)) (dv 11))))))) (s1 (sret (ddeep (dv 3))))))))))) (s1 (sret (ddeep (dv 3))))))))
theorem fd_l_reaches (T : Tx K mg) (f_l_ground_drawn : Fd P w K mg base "_law_ground_drawn" 3 (spV K mg 3 F_l_ground_drawn)) (f_l_take : Fd P w K mg base "_law_take" 2 (spV K mg 2 F_l_take)) (F : FunD K "_law_reaches" "_law_reaches" (defArgs s_l_reaches) (defBody s_l_reaches) (defScope s_l_reaches) [] [] a fd) (hm : mg "_law_reaches" = some (.ref a)) : Fd P w K mg base "_law_reaches" 4 (spV K mg 1 F_l_reaches) := ⟨a, fd, _, okV F sc_l_reaches (d_l_reaches T f_l_ground_drawn f_l_take), hm, F.kp, F.bindsN (ps := ["_law_box_here"]) fun _ _ _ _ _ _ us hl => match us, hl with | [_], _ => rfl⟩
theorem sc_road_of : FnScope ["reaches", "lane", "every"] ["reaches", "lane"] (defScope s_road_of) := ⟨rfl, rfl, rfl, by decide +kernel, rfl, by decide +kernel, by decide +kernel⟩
theorem d_road_of (T : Tx K mg) (f_roads : Fd P w K mg base "roads" 4 (spV K mg 1 F_roads)) : Bd P w K mg base "road_of" (defBody s_road_of) (defScope s_road_of) a ["reaches", "lane", "every"] 4 m_road_of := fun cdv A outer s H E hr => by
  have tk : L2N.Takes (cxOf (L2N.CX P w) P w K mg base ["reaches", "lane", "every"] "road_of" (defScope s_road_of) a cdv A outer s H E) (wE E) := L2N.takes_of rfl rfl rfl rfl
  have nd := sc_road_of.nd
  exact sc (sset 2 nd (dcall f_roads (hr.mono (by decide)) tk (dac (dv 0) danil) fnV_len)) (sc (sif (dtnot (dchainT o_le o_lt di (dv 1) (dB (db_len) T.b_len (dac (dv 2) danil)))) (s1 (sraise T.x_NoLane tk)) sn) (s1 (sret (dix (dv 2) (dv 1)))))
theorem fd_road_of (T : Tx K mg) (f_roads : Fd P w K mg base "roads" 4 (spV K mg 1 F_roads)) (F : FunD K "road_of" "road_of" (defArgs s_road_of) (defBody s_road_of) (defScope s_road_of) [] [] a fd) (hm : mg "road_of" = some (.ref a)) : Fd P w K mg base "road_of" 5 (spV K mg 2 F_road_of) := ⟨a, fd, _, okV F sc_road_of (d_road_of T f_roads), hm, F.kp, F.bindsN (ps := ["reaches", "lane"]) fun _ _ _ _ _ _ us hl => match us, hl with | [_, _], _ => rfl⟩
theorem sc_across : FnScope ["reaches", "reach", "every", "lane"] ["reaches", "reach"] (defScope s_across) := ⟨rfl, rfl, rfl, by decide +kernel, rfl, by decide +kernel, by decide +kernel⟩
theorem d_across (T : Tx K mg) (f_roads : Fd P w K mg base "roads" 4 (spV K mg 1 F_roads)) : Bd P w K mg base "across" (defBody s_across) (defScope s_across) a ["reaches", "reach", "every", "lane"] 4 m_across := fun cdv A outer s H E hr => by
  have tk : L2N.Takes (cxOf (L2N.CX P w) P w K mg base ["reaches", "reach", "every", "lane"] "across" (defScope s_across) a cdv A outer s H E) (wE E) := L2N.takes_of rfl rfl rfl rfl
  have nd := sc_across.nd
  exact sc (sset 2 nd (dcall f_roads (hr.mono (by decide)) tk (dac (dv 0) danil) fnV_len)) (s1 (sret (dl (fcomp (own := [("lane", 3)]) nd (blkOk_by (by kernel_rfl)) (irng1 T.b_range (dac (dB (db_len) T.b_len (dac (dv 2) danil)) danil)) (fun _ _ _ _ _ => gn 3 nd) (fun _ _ _ _ _ => c1 (dcmpT o_in (dv 1) (dix (dv 2) (dv 3)))) (fun _ _ _ _ _ => dv 3)))))
theorem fd_across (T : Tx K mg) (f_roads : Fd P w K mg base "roads" 4 (spV K mg 1 F_roads)) (F : FunD K "across" "across" (defArgs s_across) (defBody s_across) (defScope s_across) [] [] a fd) (hm : mg "across" = some (.ref a)) : Fd P w K mg base "across" 5 (spV K mg 2 F_across) := ⟨a, fd, _, okV F sc_across (d_across T f_roads), hm, F.kp, F.bindsN (ps := ["reaches", "reach"]) fun _ _ _ _ _ _ us hl => match us, hl with | [_, _], _ => rfl⟩
theorem sc_meeting : FnScope ["reaches", "one", "other", "here", "there", "reach", "shared"] ["reaches", "one", "other"] (defScope s_meeting) := ⟨rfl, rfl, rfl, by decide +kernel, rfl, by decide +kernel, by decide +kernel⟩
theorem d_meeting (T : Tx K mg) (f_begins : Fd P w K mg base "begins" 2 (spV K mg 3 F_begins)) (f_road_of : Fd P w K mg base "road_of" 5 (spV K mg 2 F_road_of)) : Bd P w K mg base "meeting" (defBody s_meeting) (defScope s_meeting) a ["reaches", "one", "other", "here", "there", "reach", "shared"] 5 m_meeting := fun cdv A outer s H E hr => by
  have tk : L2N.Takes (cxOf (L2N.CX P w) P w K mg base ["reaches", "one", "other", "here", "there", "reach", "shared"] "meeting" (defScope s_meeting) a cdv A outer s H E) (wE E) := L2N.takes_of rfl rfl rfl rfl
  have nd := sc_meeting.nd
  exact sc (sset 3 nd (dcall f_road_of (hr.mono (by decide)) tk (dac (dv 0) (dac (dv 1) danil)) fnV_len)) (sc (sset 4 nd (dcall f_road_of (hr.mono (by decide)) tk (dac (dv 0) (dac (dv 2) danil)) fnV_len)) (sc (sset 6 nd (dix (dl (fcomp (own := [("reach", 5)]) nd (blkOk_by (by kernel_rfl)) (iseq (dv 3)) (fun _ _ _ _ _ => gn 5 nd) (fun _ _ _ _ _ => c1 (dcmpT o_in (dv 5) (dv 4))) (fun _ _ _ _ _ => dv 5))) di)) (s1 (sret (dtup (dac (dv 6) (dac (dcall f_begins (hr.mono (by decide)) tk (dac (dv 0) (dac (dv 3) (dac (dv 6) danil))) fnV_len) (dac (dcall f_begins (hr.mono (by decide)) tk (dac (dv 0) (dac (dv 4) (dac (dv 6) danil))) fnV_len) danil))))))))
theorem fd_meeting (T : Tx K mg) (f_begins : Fd P w K mg base "begins" 2 (spV K mg 3 F_begins)) (f_road_of : Fd P w K mg base "road_of" 5 (spV K mg 2 F_road_of)) (F : FunD K "meeting" "meeting" (defArgs s_meeting) (defBody s_meeting) (defScope s_meeting) [] [] a fd) (hm : mg "meeting" = some (.ref a)) : Fd P w K mg base "meeting" 6 (spV K mg 3 F_meeting) := ⟨a, fd, _, okV F sc_meeting (d_meeting T f_begins f_road_of), hm, F.kp, F.bindsN (ps := ["reaches", "one", "other"]) fun _ _ _ _ _ _ us hl => match us, hl with | [_, _, _], _ => rfl⟩
theorem sc_l_sides : FnScope ["_law_reaches_here", "_law_paths", "_law_one", "_law_other", "_law_reach", "_law_at", "_law_to", "_law_step", "_law_row"] ["_law_reaches_here", "_law_paths", "_law_one", "_law_other", "_law_reach"] (defScope s_l_sides) := ⟨rfl, rfl, rfl, by decide +kernel, rfl, by decide +kernel, by decide +kernel⟩
theorem d_l_sides (T : Tx K mg) (f_across : Fd P w K mg base "across" 5 (spV K mg 2 F_across)) : Bd P w K mg base "_law_sides" (defBody s_l_sides) (defScope s_l_sides) a ["_law_reaches_here", "_law_paths", "_law_one", "_law_other", "_law_reach", "_law_at", "_law_to", "_law_step", "_law_row"] 5 m_l_sides := fun cdv A outer s H E hr => by
  have tk : L2N.Takes (cxOf (L2N.CX P w) P w K mg base ["_law_reaches_here", "_law_paths", "_law_one", "_law_other", "_law_reach", "_law_at", "_law_to", "_law_step", "_law_row"] "_law_sides" (defScope s_l_sides) a cdv A outer s H E) (wE E) := L2N.takes_of rfl rfl rfl rfl
  have nd := sc_l_sides.nd
  exact sc (sset 5 nd (dindexL (dix (dv 1) (dv 2)) (dv 4))) (sc (sset 6 nd (dindexL (dix (dv 1) (dv 3)) (dv 4))) (sc (sif (dtw (dtor (dcmpT (o_ne (hu64 hr)) (dl (dslL (dix (dv 1) (dv 2)) (dos (dv 5)) don)) (dl (dslL (dix (dv 1) (dv 3)) (dos (dv 6)) don))) (dtor1 (dcmpT o_ge (dix (dix (dv 1) (dv 2)) (dop o_sub (dv 5) di)) (dix (dix (dv 1) (dv 3)) (dop o_sub (dv 6) di)))))) (s1 (sret dbl)) sn) (sc (sif (dcmpT o_gt (dB (db_len) T.b_len (dac (dl (fcomp (own := [("_law_step", 7)]) nd (blkOk_by (by kernel_rfl)) (iseq (dl (dslL (dix (dv 1) (dv 2)) don (dos (dv 5))))) (fun _ _ _ _ _ => gn 7 nd) (fun _ _ _ _ _ => c1 (dcmpT o_in (dv 7) (dix (dv 1) (dv 3)))) (fun _ _ _ _ _ => dv 7))) danil)) di) (s1 (sret dbl)) sn) (sc (sfor [7, 8] (passes_of rfl) (iseq (dl (dslL (dix (dv 1) (dv 2)) (dos (dv 5)) don))) (gn 7 nd) (sc (sset 8 nd (dcall f_across (hr.mono (by decide)) tk (dac (dl (dBF db_list T.b_list (dac (dv 0) danil))) (dac (dv 7) danil)) fnV_len)) (s1 (sif (dtw (dtor (dcmpT o_nin (dv 2) (dv 8)) (dtor (dcmpT o_nin (dv 3) (dv 8)) (dtor1 (dcmpT o_ge (dindexL (dv 8) (dv 2)) (dindexL (dv 8) (dv 3))))))) (s1 (sret dbl)) sn)))) (s1 (sret dbl))))))
theorem fd_l_sides (T : Tx K mg) (f_across : Fd P w K mg base "across" 5 (spV K mg 2 F_across)) (F : FunD K "_law_sides" "_law_sides" (defArgs s_l_sides) (defBody s_l_sides) (defScope s_l_sides) [] [] a fd) (hm : mg "_law_sides" = some (.ref a)) : Fd P w K mg base "_law_sides" 6 (spV K mg 5 F_l_sides) := ⟨a, fd, _, okV F sc_l_sides (d_l_sides T f_across), hm, F.kp, F.bindsN (ps := ["_law_reaches_here", "_law_paths", "_law_one", "_law_other", "_law_reach"]) fun _ _ _ _ _ _ us hl => match us, hl with | [_, _, _, _, _], _ => rfl⟩
theorem sc_l_alike : FnScope ["_law_found", "_law_due", "_law_one", "_law_other"] ["_law_found", "_law_due"] (defScope s_l_alike) := ⟨rfl, rfl, rfl, by decide +kernel, rfl, by decide +kernel, by decide +kernel⟩
theorem len_l_alike : ∀ (n : Nat) xs μ, F_l_alike n xs μ ≠ .no -> xs.length = 2
  | 0, _, _, h => absurd rfl h
  | _ + 1, xs, μ, h => fnV_len xs μ h
theorem d_l_alike (T : Tx K mg) (f_l_whole : Fd P w K mg base "_law_whole" 1 (spV K mg 1 F_l_whole)) {n : Nat} (f_l_alike : Fd P w K mg base "_law_alike" (n + 2) (spV K mg 2 (F_l_alike n))) : Bd P w K mg base "_law_alike" (defBody s_l_alike) (defScope s_l_alike) a ["_law_found", "_law_due", "_law_one", "_law_other"] (n + 2) (m_l_alike (F_l_alike n)) := fun cdv A outer s H E hr => by
  have tk : L2N.Takes (cxOf (L2N.CX P w) P w K mg base ["_law_found", "_law_due", "_law_one", "_law_other"] "_law_alike" (defScope s_l_alike) a cdv A outer s H E) (wE E) := L2N.takes_of rfl rfl rfl rfl
  have nd := sc_l_alike.nd
  exact sc (sif (dcmpT o_isN (dv 1) dnon) (s1 (sret (dcmp o_isN (dv 0) dnon))) sn) (sc (sif (dtB (dIsi .bool T.b_isinstance T.b_bool (dv 1))) (s1 (sret (dand (dIsi .bool T.b_isinstance T.b_bool (dv 0)) (done (dcmp (o_eq (hu64 hr)) (dv 0) (dv 1)))))) sn) (sc (sif (dtB (dIsi .int T.b_isinstance T.b_int (dv 1))) (s1 (sret (dand (dcall f_l_whole (hr.mono (by omega)) tk (dac (dv 0) danil) fnV_len) (done (dcmp (o_eq (hu64 hr)) (dv 0) (dv 1)))))) sn) (sc (sif (dtB (dIsi .str T.b_isinstance T.b_str (dv 1))) (s1 (sret (dand (dIsi .str T.b_isinstance T.b_str (dv 0)) (done (dcmp (o_eq (hu64 hr)) (dv 0) (dv 1)))))) sn) (sc (sif (dtw (dtor (dcmpT (o_ne (hu64 hr)) (dIsi .list T.b_isinstance T.b_list (dv 1)) (dIsi .list T.b_isinstance T.b_list (dv 0))) (dtor1 (dcmpT (o_ne (hu64 hr)) (dIsi .tuple T.b_isinstance T.b_tuple (dv 1)) (dIsi .tuple T.b_isinstance T.b_tuple (dv 0)))))) (s1 (sret dbl)) sn) (s1 (sret (dand (dcmp (o_eq (hu64 hr)) (dB (db_len) T.b_len (dac (dv 0) danil)) (dB (db_len) T.b_len (dac (dv 1) danil))) (done (dB (db_all rfl) T.b_all (dac (dl (fcomp (own := [("_law_one", 2), ("_law_other", 3)]) nd (blkOk_by (by kernel_rfl)) (izip T.b_zip (dac (dv 0) (dac (dv 1) danil))) (fun _ _ _ _ _ => gt (gsc (gn 2 nd) (gsc (gn 3 nd) gsn))) (fun _ _ _ _ _ => cy) (fun _ _ _ _ _ => dcall f_l_alike hr takesN (dac (dv 2) (dac (dv 3) danil)) (len_l_alike _)))) danil))))))))))
theorem fd_l_alike (T : Tx K mg) (f_l_whole : Fd P w K mg base "_law_whole" 1 (spV K mg 1 F_l_whole)) (F : FunD K "_law_alike" "_law_alike" (defArgs s_l_alike) (defBody s_l_alike) (defScope s_l_alike) [] [] a fd) (hm : mg "_law_alike" = some (.ref a)) : ∀ n, Fd P w K mg base "_law_alike" (n + 2) (spV K mg 2 (F_l_alike n))
  | 0 => ⟨_, _, _, fn_none, hm, F.kp, F.bindsN (ps := ["_law_found", "_law_due"]) fun _ _ _ _ _ _ us hl => match us, hl with | [_, _], _ => rfl⟩
  | n + 1 => fd_of F (okV F sc_l_alike (d_l_alike T f_l_whole (fd_l_alike T f_l_whole F hm n))) hm (F.bindsN (ps := ["_law_found", "_law_due"]) fun _ _ _ _ _ _ us hl => match us, hl with | [_, _], _ => rfl)
theorem sc_law : FnScope ["_law_script", "_law_box_here", "_law_reaches_here", "_law_paths", "_law_one", "_law_other", "_law_reach", "_law_left", "_law_right", "_law_gone"] ["_law_script"] (defScope s_law) := ⟨rfl, rfl, rfl, by decide +kernel, rfl, by decide +kernel, by decide +kernel⟩
theorem d_law (T : Tx K mg) (f_l_alike : Fd P w K mg base "_law_alike" 7 (spV K mg 2 (F_l_alike 5))) (f_l_box : Fd P w K mg base "_law_box" 1 (spF K mg 1 F_l_box)) (f_l_meets : Fd P w K mg base "_law_meets" 2 (spV K mg 3 F_l_meets)) (f_l_reaches : Fd P w K mg base "_law_reaches" 4 (spV K mg 1 F_l_reaches)) (f_l_roads : Fd P w K mg base "_law_roads" 1 (spV K mg 1 F_l_roads)) (f_l_sides : Fd P w K mg base "_law_sides" 6 (spV K mg 5 F_l_sides)) (f_l_take : Fd P w K mg base "_law_take" 2 (spV K mg 2 F_l_take)) (f_meeting : Fd P w K mg base "meeting" 6 (spV K mg 3 F_meeting)) : Bd P w K mg base "law" (defBody s_law) (defScope s_law) a ["_law_script", "_law_box_here", "_law_reaches_here", "_law_paths", "_law_one", "_law_other", "_law_reach", "_law_left", "_law_right", "_law_gone"] 7 m_law := fun cdv A outer s H E hr => by
  have tk : L2N.Takes (cxOf (L2N.CX P w) P w K mg base ["_law_script", "_law_box_here", "_law_reaches_here", "_law_paths", "_law_one", "_law_other", "_law_reach", "_law_left", "_law_right", "_law_gone"] "law" (defScope s_law) a cdv A outer s H E) (wE E) := L2N.takes_of rfl rfl rfl rfl
  have nd := sc_law.nd
  exact sc (sset 1 nd (dnew (dcallF f_l_box (hr.mono (by decide)) tk (dac (dv 0) danil) fnF_len))) (sc (sset 2 nd (dcall f_l_reaches (hr.mono (by decide)) tk (dac (dv 1) danil) fnV_len)) (sc (sset 3 nd (dcall f_l_roads (hr.mono (by decide)) tk (dac (dv 2) danil) fnV_len)) (sc (sfor [4, 5, 6, 7, 8] (passes_of rfl) (irng1 T.b_range (dac (dB (db_len) T.b_len (dac (dv 3) danil)) danil)) (gn 4 nd) (s1 (sfor [5, 6, 7, 8] (passes_of rfl) (irng1 T.b_range (dac (dv 4) danil)) (gn 5 nd) (sc (sasg (dcall f_l_meets (hr.mono (by decide)) tk (dac (dv 2) (dac (dix (dv 3) (dv 5)) (dac (dix (dv 3) (dv 4)) danil))) fnV_len) (gt (gsc (gn 6 nd) (gsc (gn 7 nd) (gsc (gn 8 nd) gsn))))) (sc (sif (dtnot (dtB (dcall f_l_alike (hr.mono (by decide)) tk (dac (dcall f_meeting (hr.mono (by decide)) tk (dac (dl (dBF db_list T.b_list (dac (dv 2) danil))) (dac (dv 5) (dac (dv 4) danil))) fnV_len) (dac (dtup (dac (dv 6) (dac (dv 7) (dac (dv 8) danil)))) danil)) (len_l_alike _)))) (s1 (sret dbl)) sn) (sc (sif (dtnot (dtB (dcall f_l_alike (hr.mono (by decide)) tk (dac (dcall f_meeting (hr.mono (by decide)) tk (dac (dl (dBF db_list T.b_list (dac (dv 2) danil))) (dac (dv 4) (dac (dv 5) danil))) fnV_len) (dac (dtup (dac (dv 6) (dac (dv 8) (dac (dv 7) danil)))) danil)) (len_l_alike _)))) (s1 (sret dbl)) sn) (s1 (sif (dtnot (dtB (dcall f_l_sides (hr.mono (by decide)) tk (dac (dv 2) (dac (dv 3) (dac (dv 5) (dac (dv 4) (dac (dv 6) danil))))) fnV_len))) (s1 (sret dbl)) sn)))))))) (sc (sset 9 nd di) (sc (sfor [4, 5] (passes_of rfl) (iseq (dl (dlst (dac (dtup (dac (dop o_sub di di) (dac di danil))) (dac (dtup (dac di (dac (dB (db_len) T.b_len (dac (dv 3) danil)) danil))) (dac (dtup (dac (dop o_add (dB (db_len) T.b_len (dac (dv 3) danil)) (dcall f_l_take (hr.mono (by decide)) tk (dac (dv 1) (dac di danil)) fnV_len)) (dac (dop o_sub di di) danil))) danil)))))) (gt (gsc (gn 4 nd) (gsc (gn 5 nd) gsn))) (s1 (stry tk (fun W pn xe tk => s1 (sexpr (dcall f_meeting (hr.mono (by decide)) tk (dac (dl (dBF db_list T.b_list (dac (dv 2) danil))) (dac (dv 4) (dac (dv 5) danil))) fnV_len))) (DHs.cons rfl (by decide) T.g_NoLane (hx_NoLane T) (fun a oe pn => s1 (sset 9 nd (dop o_add (dv 9) di))) DHs.nil)))) (s1 (sret (dcmp (o_eq (hu64 hr)) (dv 9) di))))))))
end
end Q
end
section
set_option linter.all false
set_option maxRecDepth 100000
set_option maxHeartbeats 4000000
namespace Fm
open PySem
theorem gc_len {b : Bool} {μ μ' : Mem} (h : μ'.length = μ.length) : gcM b μ μ' = μ' := by
  unfold gcM
  split
  . rw [<- h]
    exact List.take_length
  . rfl
theorem gc_self {b : Bool} {μ : Mem} : gcM b μ μ = μ := gc_len rfl
theorem gc_set {b : Bool} {μ : Mem} {i : Nat} {o : Option MO} : gcM b μ (μ.set i o) = μ.set i o := gc_len (List.length_set ..)
mutual
theorem Vl.und_up {n m : Nat} (h : n <= m) : ∀ {v : Vl}, v.und n = true -> v.und m = true
  | .non, _ => rfl
  | .bl _, _ => rfl
  | .int _, _ => rfl
  | .str _, _ => rfl
  | .scr _, _ => rfl
  | .tup xs, u => Vl.undA_up h (xs := xs) u
  | .lst xs, u => Vl.undA_up h (xs := xs) u
  | .dct _ xs, u => Vl.undA_up h (xs := xs) u
  | .dtt _ xs, u => Vl.undA_up h (xs := xs) u
  | .ins _ _ xs, u => Vl.undA_up h (xs := xs) u
  | .ltup _, _ => rfl
  | .adr _, _ => rfl
  | .ref i, u => by
    have u' := of_decide_eq_true u
    exact decide_eq_true (Nat.lt_of_lt_of_le u' h)
theorem Vl.undA_up {n m : Nat} (h : n <= m) : ∀ {xs : List Vl}, Vl.undA n xs = true -> Vl.undA m xs = true
  | [], _ => rfl
  | x :: r, u => by
    unfold Vl.undA at u ⊢
    rw [Bool.and_eq_true] at u ⊢
    exact ⟨Vl.und_up h u.1, Vl.undA_up h u.2⟩
end
theorem MO.und_up {n m : Nat} (h : n <= m) {o : MO} (u : o.und n = true) : o.und m = true := by
  cases o <;> exact Vl.undA_up h u
theorem gc_app {μ ν : Mem} {b : Bool} (h : b = true) : gcM b μ (μ ++ ν) = μ := by
  unfold gcM
  rw [if_pos]
  . exact List.take_left
  . refine ⟨h, fun i hi => .inl ?_⟩
    rw [List.getElem?_append_left hi]
theorem gc_app_set {μ ν : Mem} {b : Bool} {i : Nat} {o : MO} (h : b = true) (u : o.und 0 = true) : gcM b μ (μ.set i (some o) ++ ν) = μ.set i (some o) := by
  unfold gcM
  have l : (μ.set i (some o)).length = μ.length := List.length_set ..
  rw [if_pos]
  . rw [<- l]
    exact List.take_left
  . refine ⟨h, fun j hj => ?_⟩
    rw [List.getElem?_append_left (by rw [l]; exact hj)]
    by_cases e : i = j
    . subst e
      rw [List.getElem?_set_self hj]
      exact .inr ⟨_, rfl, fun m e => by cases e; exact MO.und_up (Nat.zero_le _) u⟩
    . rw [List.getElem?_set_ne e]
      exact .inl rfl
def boxO (ns : List Int) (p l t s : Int) : MO := .lst [.lst (ns.map .int), .int p, .int l, .int t, .int s]
structure Bx (μ : Mem) (b : Nat) : Prop where
  ex : ∃ ns p l t s, μ[b]? = some (some (boxO ns p l t s)) /\ 0 <= p
theorem Bx.lt {μ : Mem} {b : Nat} (h : Bx μ b) : b < μ.length := by
  obtain ⟨_, _, _, _, _, h, _⟩ := h.ex
  exact (List.getElem?_eq_some_iff.mp h).1
structure Bt (b : Nat) (μ μ' : Mem) : Prop where
  ex : ∃ ns p l t s, μ' = μ.set b (some (boxO ns p l t s)) /\ 0 <= p
  bx : Bx μ b
theorem Bt.to {b : Nat} {μ μ' : Mem} (h : Bt b μ μ') : Bx μ' b := by
  obtain ⟨ns, p, l, t, s, rfl, hp⟩ := h.ex
  exact ⟨ns, p, l, t, s, List.getElem?_set_self h.bx.lt, hp⟩
theorem Bt.refl {b : Nat} {μ : Mem} (h : Bx μ b) : Bt b μ μ := by
  obtain ⟨ns, p, l, t, s, e, hp⟩ := h.ex
  refine ⟨⟨ns, p, l, t, s, ?_, hp⟩, h⟩
  obtain ⟨h1, h2⟩ := List.getElem?_eq_some_iff.mp e
  rw [<- h2]
  exact (List.set_getElem_self h1).symm
theorem Bt.trans {b : Nat} {μ μ1 μ2 : Mem} (h : Bt b μ μ1) (k : Bt b μ1 μ2) : Bt b μ μ2 := by
  obtain ⟨ns, p, l, t, s, rfl, hp⟩ := h.ex
  obtain ⟨ns', p', l', t', s', rfl, hp'⟩ := k.ex
  exact ⟨⟨ns', p', l', t', s', List.set_set .., hp'⟩, h.bx⟩
theorem Bt.len {b : Nat} {μ μ' : Mem} (h : Bt b μ μ') : μ'.length = μ.length := by
  obtain ⟨ns, p, l, t, s, rfl, hp⟩ := h.ex
  exact List.length_set ..
theorem Bt.gc {b : Nat} {μ μ' : Mem} {c : Bool} (h : Bt b μ μ') : gcM c μ μ' = μ' := gc_len h.len
theorem Bt.other {b i : Nat} {μ μ' : Mem} (h : Bt b μ μ') (n : i ≠ b) : μ'[i]? = μ[i]? := by
  obtain ⟨ns, p, l, t, s, rfl, hp⟩ := h.ex
  exact List.getElem?_set_ne (Ne.symm n)
end Fm
end
section
set_option linter.all false
set_option maxRecDepth 100000
set_option maxHeartbeats 4000000
namespace Fm
open PySem
section
variable {α β : Type} {Γ : En} {μ μ' : Mem}
@[simp] theorem s_bind_ok {x : α} {f : α -> Mem -> Rs β} : (Rs.ok x μ).bind f = f x μ := rfl
@[simp] theorem s_bind_no {f : α -> Mem -> Rs β} : (Rs.no : Rs α).bind f = .no := rfl
@[simp] theorem s_bind_ex {c : Str} {r : Option Int} {f : α -> Mem -> Rs β} : (Rs.ex c r μ : Rs α).bind f = .ex c r μ := rfl
@[simp] theorem s_of_some {x : α} : Rs.of (some x) μ = .ok x μ := rfl
@[simp] theorem s_of_none : Rs.of (none : Option α) μ = .no := rfl
@[simp] theorem s_st_ok {x : α} {f : α -> Mem -> So} : (Rs.ok x μ).st Γ f = f x μ := rfl
@[simp] theorem s_st_ex {c : Str} {r : Option Int} {f : α -> Mem -> So} : (Rs.ex c r μ : Rs α).st Γ f = some (.ex c r Γ, μ) := rfl
@[simp] theorem s_tame_ok {x : α} : (Rs.ok x μ).tame = .ok x μ := rfl
@[simp] theorem s_slot0 {x : Option Vl} {r : En} : slotV 0 (x :: r) = x := by cases x <;> rfl
@[simp] theorem s_slotS {i : Nat} {x : Option Vl} {r : En} : slotV (i + 1) (x :: r) = slotV i r := rfl
@[simp] theorem s_eVar {i : Nat} : eVar i Γ μ = Rs.of (slotV i Γ) μ := rfl
@[simp] theorem s_eC {x : Vl} : eC x Γ μ = .ok x μ := rfl
@[simp] theorem s_eOp {g : Vl -> Vl -> Mem -> Option Vl} {a b : ME} : eOp g a b Γ μ = (a Γ μ).bind fun x μ1 => (b Γ μ1).bind fun y μ2 => Rs.of (g x y μ2) μ2 := rfl
@[simp] theorem s_fOp {g : Vl -> Vl -> Mem -> Option MO} {a b : ME} : fOp g a b Γ μ = (a Γ μ).bind fun x μ1 => (b Γ μ1).bind fun y μ2 => Rs.of (g x y μ2) μ2 := rfl
@[simp] theorem s_eUn {g : Vl -> Mem -> Option Vl} {a : ME} : eUn g a Γ μ = (a Γ μ).bind fun x μ1 => Rs.of (g x μ1) μ1 := rfl
def bK (x : Vl) (f : Bool -> Rs α) : Rs α := match getB x with
  | some c => f c
  | none => .no
@[simp] theorem s_bK {c : Bool} {f : Bool -> Rs α} : bK (.bl c) f = f c := rfl
@[simp] theorem s_eAnd {a b : ME} : eAnd a b Γ μ = (a Γ μ).bind fun x μ1 => bK x fun c => if c = true then b Γ μ1 else .ok (.bl false) μ1 := by
  unfold eAnd bK
  congr
  funext x μ1
  cases getB x with
  | none => rfl
  | some c => cases c <;> rfl
@[simp] theorem s_eOr {a b : ME} : eOr a b Γ μ = (a Γ μ).bind fun x μ1 => bK x fun c => if c = true then .ok (.bl true) μ1 else b Γ μ1 := by
  unfold eOr bK
  congr
  funext x μ1
  cases getB x with
  | none => rfl
  | some c => cases c <;> rfl
@[simp] theorem s_eNot {a : ME} : eNot a Γ μ = (a Γ μ).bind fun x μ1 => bK x fun c => .ok (.bl (!c)) μ1 := by
  unfold eNot bK
  congr
@[simp] theorem s_eIf {t : MT} {a b : ME} : eIf t a b Γ μ = (t Γ μ).bind fun c μ1 => if c = true then a Γ μ1 else b Γ μ1 := by
  unfold eIf
  congr
  funext x μ1
  cases x <;> rfl
def chK (o : Option Vl) (f g : Rs Vl) : Rs Vl := match o with
  | some (.bl true) => f
  | some (.bl false) => g
  | _ => .no
@[simp] theorem s_chK {c : Bool} {f g : Rs Vl} : chK (some (.bl c)) f g = if c = true then f else g := by cases c <;> rfl
@[simp] theorem s_eChain {g h : Vl -> Vl -> Mem -> Option Vl} {a b c : ME} : eChain g h a b c Γ μ = (a Γ μ).bind fun x μ1 => (b Γ μ1).bind fun y μ2 => chK (g x y μ2) ((c Γ μ2).bind fun z μ3 => Rs.of (h y z μ3) μ3) (.ok (.bl false) μ2) := by
  unfold eChain chK
  congr
@[simp] theorem s_aNil : aNil Γ μ = .ok [] μ := rfl
@[simp] theorem s_aCons {a : ME} {r : MA} : aCons a r Γ μ = (a Γ μ).bind fun x μ1 => (r Γ μ1).bind fun xs μ2 => .ok (x :: xs) μ2 := rfl
@[simp] theorem s_fits0 : fits ([] : List α) = some [] := rfl
@[simp] theorem s_fits1 {a : α} : fits [a] = some [a] := rfl
@[simp] theorem s_fits2 {a b : α} : fits [a, b] = some [a, b] := rfl
@[simp] theorem s_fits3 {a b c : α} : fits [a, b, c] = some [a, b, c] := rfl
@[simp] theorem s_fits4 {a b c d : α} : fits [a, b, c, d] = some [a, b, c, d] := rfl
@[simp] theorem s_fits5 {a b c d e : α} : fits [a, b, c, d, e] = some [a, b, c, d, e] := rfl
@[simp] theorem s_fits6 {a b c d e f : α} : fits [a, b, c, d, e, f] = some [a, b, c, d, e, f] := rfl
def oK (o : Option α) (f : α -> Rs β) : Rs β := match o with
  | some x => f x
  | none => .no
@[simp] theorem s_oK {x : α} {f : α -> Rs β} : oK (some x) f = f x := rfl
@[simp] theorem s_oKn {f : α -> Rs β} : oK (none : Option α) f = .no := rfl
@[simp] theorem s_eTup {as : MA} : eTup as Γ μ = (as Γ μ).bind fun xs μ1 => oK (fits xs) fun ys => .ok (.tup ys) μ1 := by
  unfold eTup oK
  congr
  funext x μ1
  cases fits x <;> rfl
@[simp] theorem s_fLst {as : MA} : fLst as Γ μ = (as Γ μ).bind fun xs μ1 => oK (fits xs) fun ys => .ok (.lst ys) μ1 := by
  unfold fLst oK
  congr
  funext x μ1
  cases fits x <;> rfl
def frzK (o : MO) (μ : Mem) : Rs Vl := match o with
  | .lst xs => .ok (.lst xs) μ
  | .dk _ kvs => .ok (.dct (kvs.map (·.1)) (kvs.map (·.2))) μ
  | .dt _ kvs => .ok (.dtt (kvs.map (·.1)) (kvs.map (·.2))) μ
  | .ins c fs => .ok (.ins c (fs.map (·.1)) (fs.map (·.2))) μ
@[simp] theorem s_frzL {xs : List Vl} : frzK (.lst xs) μ = .ok (.lst xs) μ := rfl
@[simp] theorem s_frzD {l : Bool} {kvs : List (Ky × Vl)} : frzK (.dk l kvs) μ = .ok (.dct (kvs.map (·.1)) (kvs.map (·.2))) μ := rfl
@[simp] theorem s_eFrz {f : MF} : eFrz f Γ μ = (f Γ μ).bind frzK := by
  unfold eFrz
  congr
@[simp] theorem s_eNew {f : MF} : eNew f Γ μ = (f Γ μ).bind fun o μ1 => .ok (.ref μ1.length) (μ1 ++ [some o]) := rfl
@[simp] theorem s_eB {g : List Vl -> Mem -> Option Vl} {as : MA} : eB g as Γ μ = (as Γ μ).bind fun xs μ1 => Rs.of (g xs μ1) μ1 := rfl
@[simp] theorem s_fB {g : List Vl -> Mem -> Option MO} {as : MA} : fB g as Γ μ = (as Γ μ).bind fun xs μ1 => Rs.of (g xs μ1) μ1 := rfl
@[simp] theorem s_iB {g : List Vl -> Mem -> Option (List Vl × Gd)} {as : MA} : iB g as Γ μ = (as Γ μ).bind fun xs μ1 => Rs.of (g xs μ1) μ1 := rfl
@[simp] theorem s_eCall {F : List Vl -> Mem -> Rs Vl} {as : MA} : eCall F as Γ μ = (as Γ μ).bind F := rfl
@[simp] theorem s_fCall {F : List Vl -> Mem -> Rs MO} {as : MA} : fCall F as Γ μ = (as Γ μ).bind F := rfl
@[simp] theorem s_oNo : oNo Γ μ = .ok none μ := rfl
@[simp] theorem s_oIs {a : ME} : oIs a Γ μ = (a Γ μ).bind fun x μ1 => oK (getI x) fun k => .ok (some k) μ1 := by
  unfold oIs oK
  congr
  funext x μ1
  cases getI x <;> rfl
@[simp] theorem s_eSl {g : Vl -> Option Int -> Option Int -> Mem -> Option Vl} {e : ME} {lo hi : MO'} : eSl g e lo hi Γ μ = (e Γ μ).bind fun x μ1 => (lo Γ μ1).bind fun l μ2 => (hi Γ μ2).bind fun h μ3 => Rs.of (g x l h μ3) μ3 := rfl
@[simp] theorem s_fSl {g : Vl -> Option Int -> Option Int -> Mem -> Option MO} {e : ME} {lo hi : MO'} : fSl g e lo hi Γ μ = (e Γ μ).bind fun x μ1 => (lo Γ μ1).bind fun l μ2 => (hi Γ μ2).bind fun h μ3 => Rs.of (g x l h μ3) μ3 := rfl
@[simp] theorem s_tB {e : ME} : tB e Γ μ = (e Γ μ).bind fun x μ1 => Rs.of (getB x) μ1 := rfl
@[simp] theorem s_tYes : tYes Γ μ = .ok true μ := rfl
@[simp] theorem s_tAnd {a b : MT} : tAnd a b Γ μ = (a Γ μ).bind fun c μ1 => if c = true then b Γ μ1 else .ok false μ1 := by
  unfold tAnd
  congr
  funext x μ1
  cases x <;> rfl
@[simp] theorem s_tOr {a b : MT} : tOr a b Γ μ = (a Γ μ).bind fun c μ1 => if c = true then .ok true μ1 else b Γ μ1 := by
  unfold tOr
  congr
  funext x μ1
  cases x <;> rfl
@[simp] theorem s_tNot {a : MT} : tNot a Γ μ = (a Γ μ).bind fun c μ1 => .ok (!c) μ1 := rfl
@[simp] theorem s_getB {b : Bool} : getB (.bl b) = some b := rfl
@[simp] theorem s_getI {i : Int} : getI (.int i) = some i := rfl
@[simp] theorem s_getT {xs : List Vl} : getT (.tup xs) = some xs := rfl
@[simp] theorem s_gName {i : Nat} {x : Vl} : gName i x Γ = some (Γ.set i (some x)) := rfl
@[simp] theorem s_gsNil : gsNil [] Γ = some Γ := rfl
@[simp] theorem s_gsCons {g : MG} {r : List Vl -> En -> Option En} {x : Vl} {xs : List Vl} : gsCons g r (x :: xs) Γ = (g x Γ).bind fun Γ1 => r xs Γ1 := rfl
@[simp] theorem s_gTup {n : Nat} {gs : List Vl -> En -> Option En} {xs : List Vl} : gTup n gs (.tup xs) Γ = if xs.length = n then gs xs Γ else none := rfl
@[simp] theorem s_sNext : sNext Γ μ = some (.nx Γ, μ) := rfl
def thenK (o : So) (b : MS) : So := match o with
  | some (.nx Γ1, μ1) => b Γ1 μ1
  | r => r
@[simp] theorem s_thenK {b : MS} : thenK (some (.nx Γ, μ)) b = b Γ μ := rfl
@[simp] theorem s_thenR {b : MS} {x : Vl} : thenK (some (.rt x, μ)) b = some (.rt x, μ) := rfl
@[simp] theorem s_thenB {b : MS} : thenK (some (.bk Γ, μ)) b = some (.bk Γ, μ) := rfl
@[simp] theorem s_thenC {b : MS} : thenK (some (.ct Γ, μ)) b = some (.ct Γ, μ) := rfl
@[simp] theorem s_thenF {b : MS} {i : Option Nat} {o : MO} : thenK (some (.rf i o, μ)) b = some (.rf i o, μ) := rfl
@[simp] theorem s_thenX {b : MS} {c : Str} {r : Option Int} : thenK (some (.ex c r Γ, μ)) b = some (.ex c r Γ, μ) := rfl
@[simp] theorem s_sSeq {a b : MS} : sSeq a b Γ μ = thenK (a Γ μ) b := rfl
@[simp] theorem s_thenIf {p : Prop} [Decidable p] {x y : So} {b : MS} : thenK (if p then x else y) b = if p then thenK x b else thenK y b := by split <;> rfl
def gK (o : Option En) (μ : Mem) : So := match o with
  | some Γ1 => some (.nx Γ1, μ)
  | none => none
@[simp] theorem s_gK : gK (some Γ) μ = some (.nx Γ, μ) := rfl
@[simp] theorem s_sAsg {e : ME} {g : MG} : sAsg e g Γ μ = (e Γ μ).st Γ fun x μ1 => gK (g x Γ) μ1 := by
  unfold sAsg gK
  congr
@[simp] theorem s_sDrop {e : ME} : sDrop e Γ μ = (e Γ μ).st Γ fun _ μ1 => some (.nx Γ, μ1) := rfl
@[simp] theorem s_sRet {e : ME} : sRet e Γ μ = (e Γ μ).st Γ fun x μ1 => some (.rt x, μ1) := rfl
@[simp] theorem s_sRetN : sRetN Γ μ = some (.rt .non, μ) := rfl
@[simp] theorem s_sRetF {f : MF} : sRetF f Γ μ = (f Γ μ).st Γ fun o μ1 => some (.rf none o, μ1) := rfl
@[simp] theorem s_sIf {t : MT} {a b : MS} : sIf t a b Γ μ = (t Γ μ).st Γ fun c μ1 => if c = true then a Γ μ1 else b Γ μ1 := by
  unfold sIf
  congr
  funext x μ1
  cases x <;> rfl
@[simp] theorem s_gAddI {a b : Int} : gAdd (.int a) (.int b) μ = some (.int (a + b)) := rfl
@[simp] theorem s_gSubI {a b : Int} : gSub (.int a) (.int b) μ = some (.int (a - b)) := rfl
theorem s_gMulI {a b : Int} (h : small a \/ small b) : gMul (.int a) (.int b) μ = some (.int (a * b)) := if_pos h
theorem s_gDivI {a b : Int} (h : 0 < b /\ b < 10 ^ 100) : gDiv (.int a) (.int b) μ = some (.int (a / b)) := if_pos h
theorem s_gModI {a b : Int} (h : 0 < b) : gMod (.int a) (.int b) μ = some (.int (a % b)) := if_pos h
@[simp] theorem s_gLt {a b : Int} : gLt (.int a) (.int b) μ = some (.bl (decide (a < b))) := rfl
@[simp] theorem s_gLe {a b : Int} : gLe (.int a) (.int b) μ = some (.bl (decide (a <= b))) := rfl
@[simp] theorem s_gGt {a b : Int} : gGt (.int a) (.int b) μ = some (.bl (decide (b < a))) := rfl
@[simp] theorem s_gGe {a b : Int} : gGe (.int a) (.int b) μ = some (.bl (decide (b <= a))) := rfl
@[simp] theorem s_gIsN {a : Vl} : gIsN a .non μ = some (.bl (isNon a)) := rfl
@[simp] theorem s_gIsnN {a : Vl} : gIsnN a .non μ = some (.bl (!isNon a)) := rfl
@[simp] theorem s_isNonN : isNon .non = true := rfl
@[simp] theorem s_isNonB {b : Bool} : isNon (.bl b) = false := rfl
@[simp] theorem s_isNonI {b : Int} : isNon (.int b) = false := rfl
@[simp] theorem s_isNonS {b : Str} : isNon (.str b) = false := rfl
@[simp] theorem s_isNonT {b : List Vl} : isNon (.tup b) = false := rfl
@[simp] theorem s_isNonL {b : List Vl} : isNon (.lst b) = false := rfl
@[simp] theorem s_isNonR {b : Nat} : isNon (.ref b) = false := rfl
@[simp] theorem s_gIx {x i : Vl} : gIx x i μ = (seqOf μ x).bind fun xs => (getI i).bind fun k => atI xs k := rfl
@[simp] theorem s_seqT {xs : List Vl} : seqOf μ (.tup xs) = some xs := rfl
@[simp] theorem s_seqL {xs : List Vl} : seqOf μ (.lst xs) = some xs := rfl
@[simp] theorem s_lstL {xs : List Vl} : lstOf μ (.lst xs) = some xs := rfl
theorem s_seqR {i : Nat} {xs : List Vl} (h : μ[i]? = some (some (.lst xs))) : seqOf μ (.ref i) = some xs := by
  unfold seqOf lstOf
  simp only [h]
theorem s_lstR {i : Nat} {xs : List Vl} (h : μ[i]? = some (some (.lst xs))) : lstOf μ (.ref i) = some xs := by
  unfold lstOf
  simp only [h]
theorem s_memL {i : Nat} {xs : List Vl} (h : μ[i]? = some (some (.lst xs))) : memL μ (.ref i) = some (i, xs) := by
  unfold memL
  simp only [h]
@[simp] theorem s_at0 {a : α} {r : List α} : atI (a :: r) 0 = some a := by simp [atI, ixN]
theorem atI_nat {xs : List α} {k : Nat} (h : k < xs.length) : atI xs (k : Int) = xs[k]? := by
  unfold atI ixN
  rw [if_pos (Int.natCast_nonneg k), if_pos (by omega)]
  simp
theorem atI_get {xs : List α} {i : Int} (h0 : 0 <= i) (h : i < xs.length) : ∃ x, atI xs i = some x /\ xs[i.toNat]? = some x := by
  unfold atI ixN
  rw [if_pos h0, if_pos h]
  have hk : i.toNat < xs.length := by omega
  exact ⟨_, List.getElem?_eq_getElem hk, List.getElem?_eq_getElem hk⟩
@[simp] theorem s_at1 {a b : α} {r : List α} : atI (a :: b :: r) 1 = some b := (atI_nat (xs := a :: b :: r) (k := 1) (by simp)).trans rfl
@[simp] theorem s_at2 {a b c : α} {r : List α} : atI (a :: b :: c :: r) 2 = some c := (atI_nat (xs := a :: b :: c :: r) (k := 2) (by simp)).trans rfl
@[simp] theorem s_at3 {a b c d : α} {r : List α} : atI (a :: b :: c :: d :: r) 3 = some d := (atI_nat (xs := a :: b :: c :: d :: r) (k := 3) (by simp)).trans rfl
@[simp] theorem s_at4 {a b c d e : α} {r : List α} : atI (a :: b :: c :: d :: e :: r) 4 = some e := (atI_nat (xs := a :: b :: c :: d :: e :: r) (k := 4) (by simp)).trans rfl
@[simp] theorem s_bLenL {xs : List Vl} : bLen [.lst xs] μ = some (.int xs.length) := rfl
@[simp] theorem s_bLenT {xs : List Vl} : bLen [.tup xs] μ = some (.int xs.length) := rfl
@[simp] theorem s_bMax {a b : Int} : bMax2 [.int a, .int b] μ = some (.int (max a b)) := by
  have : (if b > a then b else a) = max a b := by simp only [Int.max_def]; split <;> split <;> omega
  simp only [bMax2, this]
@[simp] theorem s_bMin {a b : Int} : bMin2 [.int a, .int b] μ = some (.int (min a b)) := by
  have : (if b < a then b else a) = min a b := by simp only [Int.min_def]; split <;> split <;> omega
  simp only [bMin2, this]
@[simp] theorem s_bListT {xs : List Vl} : bList [.tup xs] μ = some (.lst xs) := rfl
@[simp] theorem s_bListL {xs : List Vl} : bList [.lst xs] μ = some (.lst xs) := rfl
@[simp] theorem s_bListS {xs : List Int} : bList [.scr xs] μ = some (.lst (xs.map .int)) := rfl
@[simp] theorem s_bTupL {xs : List Vl} : bTuple [.lst xs] μ = some (.tup xs) := rfl
@[simp] theorem s_fnV {k n : Nat} {b : MS} {xs : List Vl} : fnV k n b xs μ = if xs.length = k then outV μ (b (args n xs) μ) else .no := rfl
@[simp] theorem s_fnF {k n : Nat} {b : MS} {xs : List Vl} : fnF k n b xs μ = if xs.length = k then outF μ (b (args n xs) μ) else .no := rfl
@[simp] theorem s_outR {x : Vl} : outV μ (some (.rt x, μ')) = .ok x (gcM (x.und μ.length) μ μ') := rfl
@[simp] theorem s_outN : outV μ (some (.nx Γ, μ')) = .ok .non (gcM true μ μ') := rfl
@[simp] theorem s_outF {o : MO} : outF μ (some (.rf none o, μ')) = .ok o (gcM (o.und μ.length) μ μ') := rfl
@[simp] theorem s_outIf {p : Prop} [Decidable p] {x y : So} : outV μ (if p then x else y) = if p then outV μ x else outV μ y := by split <;> rfl
@[simp] theorem s_gc {b : Bool} : gcM b μ μ = μ := gc_self
@[simp] theorem s_gcS {b : Bool} {i : Nat} {o : Option MO} : gcM b μ (μ.set i o) = μ.set i o := gc_set
@[simp] theorem s_args {n : Nat} {xs : List Vl} : args n xs = xs.map some ++ List.replicate (n - xs.length) none := rfl
@[simp] theorem s_seqSet {b : Nat} {xs : List Vl} (h : b < μ.length) : seqOf (setM μ b (.lst xs)) (.ref b) = some xs := s_seqR (List.getElem?_set_self h)
@[simp] theorem s_lstSet {b : Nat} {xs : List Vl} (h : b < μ.length) : lstOf (setM μ b (.lst xs)) (.ref b) = some xs := s_lstR (List.getElem?_set_self h)
@[simp] theorem s_memSet {b : Nat} {xs : List Vl} (h : b < μ.length) : memL (setM μ b (.lst xs)) (.ref b) = some (b, xs) := s_memL (List.getElem?_set_self h)
@[simp] theorem s_setset {b : Nat} {x y : MO} : setM (setM μ b x) b y = setM μ b y := List.set_set ..
@[simp] theorem s_setlen {b : Nat} {x : MO} : (setM μ b x).length = μ.length := List.length_set ..
@[simp] theorem s_gcM {b : Bool} {i : Nat} {o : MO} : gcM b μ (setM μ i o) = setM μ i o := gc_set
@[simp] theorem s_set0 {a v : Vl} {r : List Vl} : setIx (a :: r) 0 v = some (v :: r) := by simp [setIx, ixN]
theorem setIx_nat {xs : List Vl} {k : Nat} {v : Vl} (h : k < xs.length) : setIx xs (k : Int) v = some (xs.set k v) := by
  unfold setIx ixN
  rw [if_pos (Int.natCast_nonneg k), if_pos (by omega)]
  simp
@[simp] theorem s_set1 {a b v : Vl} {r : List Vl} : setIx (a :: b :: r) 1 v = some (a :: v :: r) := (setIx_nat (xs := a :: b :: r) (k := 1) (by simp)).trans rfl
@[simp] theorem s_set2 {a b c v : Vl} {r : List Vl} : setIx (a :: b :: c :: r) 2 v = some (a :: b :: v :: r) := (setIx_nat (xs := a :: b :: c :: r) (k := 2) (by simp)).trans rfl
@[simp] theorem s_set3 {a b c d v : Vl} {r : List Vl} : setIx (a :: b :: c :: d :: r) 3 v = some (a :: b :: c :: v :: r) := (setIx_nat (xs := a :: b :: c :: d :: r) (k := 3) (by simp)).trans rfl
def soK {α : Type} (o : Option α) (f : α -> So) : So := match o with
  | some x => f x
  | none => none
@[simp] theorem s_soK {x : α} {f : α -> So} : soK (some x) f = f x := rfl
@[simp] theorem s_soKn {f : α -> So} : soK (none : Option α) f = none := rfl
@[simp] theorem s_sSetIx {o b e : ME} : sSetIx o b e Γ μ = (e Γ μ).st Γ fun v μ1 => (o Γ μ1).st Γ fun x μ2 => (b Γ μ2).st Γ fun k μ3 => soK (memL μ3 x) fun p => soK (getI k) fun k => soK (setIx p.2 k v) fun ys => some (.nx Γ, setM μ3 p.1 (.lst ys)) := by
  unfold sSetIx soK
  congr
  funext v μ1
  congr
  funext x μ2
  congr
  funext k μ3
  cases memL μ3 x with
  | none => rfl
  | some p =>
    cases getI k with
    | none => rfl
    | some k => cases h : setIx p.2 k v <;> simp [h]
@[simp] theorem s_sApp {o e : ME} : sApp o e Γ μ = (o Γ μ).st Γ fun x μ1 => soK (memL μ1 x) fun _ => (e Γ μ1).st Γ fun v μ2 => soK (memL μ2 x) fun p => if p.2.length < cap then some (.nx Γ, setM μ2 p.1 (.lst (p.2 ++ [v]))) else none := by
  unfold sApp soK
  congr
  funext x μ1
  cases memL μ1 x with
  | none => rfl
  | some q =>
    simp only
    congr
    funext v μ2
    cases memL μ2 x <;> rfl
@[simp] theorem s_wip0 : wip [] Γ = Γ := rfl
@[simp] theorem s_wip1 {i : Nat} {r : List Nat} : wip (i :: r) Γ = wip r (Γ.set i none) := rfl
@[simp] theorem s_rng1 {j : Int} (h : j < 10 ^ 15) : rng1 [.int j] μ = some (ivs 0 j.toNat, .free) := if_pos h
@[simp] theorem s_sFor {it : MI} {g : MG} {b : MS} {ws : List Nat} : sFor it g b ws Γ μ = (it Γ μ).st Γ fun p μ1 => forGo g b p.2 ws p.1 (wip ws Γ) μ1 := rfl
@[simp] theorem s_iSeq {e : ME} : iSeq e Γ μ = (e Γ μ).bind fun x μ1 => Rs.of (srcOf μ1 x) μ1 := rfl
@[simp] theorem s_srcL {xs : List Vl} : srcOf μ (.lst xs) = some (xs, .free) := rfl
@[simp] theorem s_srcT {xs : List Vl} : srcOf μ (.tup xs) = some (xs, .free) := rfl
@[simp] theorem s_srcS {xs : List Int} : srcOf μ (.scr xs) = some (xs.map .int, .free) := rfl
end
end Fm
end
section
set_option linter.all false
set_option maxRecDepth 100000
set_option maxHeartbeats 4000000
namespace Q
open PySem Fm
theorem mixed_ok (a t : Int) (μ : Mem) : ∃ r, F_l_mixed [.int a, .int t] μ = .ok (.int r) μ /\ 0 <= r := by
  have s1 : small (7919 : Int) := by decide
  have s2 : small (104729 : Int) := by decide
  have s3 : small (31337 : Int) := by decide
  have s4 : ∀ x : Int, small (x % 2147483647) := fun x => by unfold small; omega
  refine ⟨_, by simp [F_l_mixed, m_l_mixed, s_gMulI, s_gModI, s_gDivI, s1, s2, s3, s4]; rfl, ?_⟩
  omega
theorem take_ok {μ : Mem} {b : Nat} (h : Bx μ b) {k : Int} (h1 : 0 < k) (h2 : k < 10 ^ 100) : ∃ r μ', F_l_take [.ref b, .int k] μ = .ok (.int r) μ' /\ Bt b μ μ' /\ 0 <= r /\ r < k := by
  obtain ⟨ns, p, l, t, s, e, hp⟩ := h.ex
  have hlt := h.lt
  unfold boxO at e
  have hd : ∀ a μ, gDiv (.int a) (.int k) μ = some (.int (a / k)) := fun _ _ => s_gDivI ⟨h1, h2⟩
  by_cases hl : 0 < l
  . refine ⟨_, _, by simp [F_l_take, m_l_take, s_seqR e, s_gModI, hd, h1, s_memL e, hlt, hl]; first | exact ⟨rfl, rfl⟩ | rfl, ⟨⟨ns, p, _, _, s, rfl, hp⟩, h⟩, Int.emod_nonneg _ (by omega), Int.emod_lt_of_pos _ h1⟩
  . by_cases hq : (ns.length : Int) <= p
    . obtain ⟨r, hr, _⟩ := mixed_ok s (t + 1) (setM μ b (.lst [.lst (ns.map .int), .int p, .int l, .int (t + 1), .int s]))
      refine ⟨_, _, by simp [F_l_take, m_l_take, s_seqR e, s_gModI, hd, h1, s_memL e, hlt, hl, hq, hr]; first | exact ⟨rfl, rfl⟩ | rfl, ⟨⟨ns, p, _, _, s, rfl, hp⟩, h⟩, Int.emod_nonneg _ (by omega), Int.emod_lt_of_pos _ h1⟩
    . obtain ⟨x, hx, hx'⟩ := atI_get (xs := ns.map Vl.int) hp (by rw [List.length_map]; omega)
      obtain ⟨c, rfl⟩ : ∃ c, x = .int c := by
        rw [List.getElem?_map] at hx'
        cases q : ns[p.toNat]? with
        | none => rw [q] at hx'; cases hx'
        | some c => rw [q] at hx'; cases hx'; exact ⟨c, rfl⟩
      by_cases hc : c < 1000000000000000000
      . obtain ⟨r, hr, _⟩ := mixed_ok c (t + 1) (setM μ b (.lst [.lst (ns.map .int), .int (p + 1), .int l, .int (t + 1), .int s]))
        refine ⟨_, _, by simp [F_l_take, m_l_take, s_seqR e, s_gModI, hd, h1, s_memL e, hlt, hl, hq, hr, hx, hc, gPow, gI, small]; first | exact ⟨rfl, rfl⟩ | rfl, ⟨⟨ns, p + 1, _, _, s, rfl, by omega⟩, h⟩, Int.emod_nonneg _ (by omega), Int.emod_lt_of_pos _ h1⟩
      . refine ⟨_, _, by simp [F_l_take, m_l_take, s_seqR e, s_gModI, hd, h1, s_memL e, hlt, hl, hq, hx, hc, gPow, gI, small]; first | exact ⟨rfl, rfl⟩ | rfl, ⟨⟨ns, p + 1, _, _, s, rfl, by omega⟩, h⟩, Int.emod_nonneg _ (by omega), Int.emod_lt_of_pos _ h1⟩
theorem box_ok (ns : List Int) (μ : Mem) : ∃ s, F_l_box [.scr ns] μ = .ok (boxO ns 0 0 0 s) μ := by
  have loop : ∀ (xs : List Int) (seed : Int) (c : Option Vl), ∃ s, forGo (gName 2) B1_l_box .free [2] (xs.map .int) [some (.scr ns), some (.int seed), none] μ = some (.nx [some (.scr ns), some (.int s), none], μ) := by
    intro xs
    induction xs with
    | nil =>
      intro seed _
      exact ⟨seed, by simp [forGo, Gd.ok]⟩
    | cons x r ih =>
      intro seed _
      have s1 : small (48271 : Int) := by decide
      obtain ⟨s, hs⟩ := ih ((seed * 48271 + x % 1000003 + 11) % 2147483647) none
      refine ⟨s, ?_⟩
      have st : B1_l_box [some (.scr ns), some (.int seed), some (.int x)] μ = some (.nx [some (.scr ns), some (.int ((seed * 48271 + x % 1000003 + 11) % 2147483647)), some (.int x)], μ) := by
        simp [B1_l_box, s_gMulI, s_gModI, s1]
      simp [forGo, Gd.ok, st, hs]
  obtain ⟨s, hs⟩ := loop ns 7 none
  refine ⟨s, ?_⟩
  simp [F_l_box, m_l_box, hs, boxO]
def rowV (r : Int × Int × Int) : Vl := .tup [.int r.1, .int r.2.1, .int r.2.2]
def RowOk (r : Int × Int × Int) : Prop := 0 <= r.1 /\ r.1 <= 100 /\ 0 <= r.2.1 /\ r.2.1 <= 9 /\ 0 <= r.2.2 /\ r.2.2 <= 9
inductive All2 {α β : Type} (R : α -> β -> Prop) : List α -> List β -> Prop
  | nil : All2 R [] []
  | cons {a : α} {b : β} {as : List α} {bs : List β} : R a b -> All2 R as bs -> All2 R (a :: as) (b :: bs)
def flat1 : Vl -> Bool
  | .non => true
  | .bl _ => true
  | .int _ => true
  | .str x => PyData.canLay0 (.str x)
  | _ => false
def Alk (μ : Mem) : Nat -> Vl -> Vl -> Prop
  | 0, _, _ => False
  | n + 1, v, w => (v = w /\ flat1 v = true) \/ (∃ xs ys, v = .tup xs /\ w = .tup ys /\ xs.length <= 10000000 /\ All2 (Alk μ n) xs ys) \/ ∃ xs ys, lstOf μ v = some xs /\ lstOf μ w = some ys /\ xs.length <= 10000000 /\ All2 (Alk μ n) xs ys
theorem All2.len {α β : Type} {R : α -> β -> Prop} {as : List α} {bs : List β} (h : All2 R as bs) : as.length = bs.length := by
  induction h with
  | nil => rfl
  | cons _ _ ih => simp [ih]
theorem guard_ok {v : Vl} {μ : Mem} : (guardOf v μ).ok μ := by
  unfold guardOf
  split
  . split
    . simpa [Gd.ok]
    . trivial
  . trivial
@[simp] theorem eq_int {a b : Int} {μ : Mem} : gEq (.int a) (.int b) μ = some (.bl (decide (a = b))) := by
  unfold gEq gEqB depthP pyV
  simp [SeqAt.shaped, PyData.eqv, PyData.canLay0, PyData.depth]
  by_cases h : a = b <;> simp [h]
@[simp] theorem ne_int {a b : Int} {μ : Mem} : gNe (.int a) (.int b) μ = some (.bl (!decide (a = b))) := by
  unfold gNe gEqB depthP pyV
  simp [SeqAt.shaped, PyData.eqv, PyData.canLay0, PyData.depth]
  by_cases h : a = b <;> simp [h]
@[simp] theorem eq_bl {a b : Bool} {μ : Mem} : gEq (.bl a) (.bl b) μ = some (.bl (a == b)) := by
  unfold gEq gEqB depthP pyV
  simp [SeqAt.shaped, PyData.eqv, PyData.canLay0, PyData.depth]
@[simp] theorem ne_bl {a b : Bool} {μ : Mem} : gNe (.bl a) (.bl b) μ = some (.bl (!(a == b))) := by
  unfold gNe gEqB depthP pyV
  simp [SeqAt.shaped, PyData.eqv, PyData.canLay0, PyData.depth]
theorem eq_str {a b : Str} {μ : Mem} (h : PyData.canLay0 (.str a) = true) (k : PyData.canLay0 (.str b) = true) : gEq (.str a) (.str b) μ = some (.bl (a == b)) := by
  unfold gEq gEqB depthP pyV
  simp [SeqAt.shaped, PyData.eqv, PyData.depth, h, k]
@[simp] theorem s_eIsi {T : Ty} {a : ME} {Γ : En} {μ : Mem} : eIsi T a Γ μ = (a Γ μ).bind fun x μ1 => Rs.of ((isiB μ1 T x).map .bl) μ1 := rfl
theorem isi_lst {μ : Mem} {v : Vl} {xs : List Vl} (h : lstOf μ v = some xs) (T : Ty) : isiB μ T v = some (match T with | .list => true | _ => false) := by
  unfold lstOf at h
  split at h
  . cases T <;> rfl
  . split at h
    . rename_i q
      cases T <;> (unfold isiB; simp only [q])
    . cases h
  . cases h
theorem non_lst {μ : Mem} {v : Vl} {xs : List Vl} (h : lstOf μ v = some xs) : isNon v = false := by
  cases v <;> first | rfl | cases h
theorem len_lst {μ : Mem} {v : Vl} {xs : List Vl} (h : lstOf μ v = some xs) : bLen [v] μ = some (.int xs.length) := by
  unfold lstOf at h
  split at h
  . cases h
    rfl
  . split at h
    . rename_i q
      cases h
      show (seqOf μ (.ref _)).bind _ = _
      rw [s_seqR q]
      rfl
    . cases h
  . cases h
theorem zip_lst {μ : Mem} {v w : Vl} {xs ys : List Vl} (h : lstOf μ v = some xs) (k : lstOf μ w = some ys) : bZip [v, w] μ = some ((xs.zip ys).map fun p => .tup [p.1, p.2], .both (guardOf v μ) (guardOf w μ)) := by
  cases v <;> first | (cases h; done) | skip
  . cases w <;> first | (cases k; done) | skip
    . simp only [bZip, h, k]
    . simp only [bZip, h, k]
  . simp only [bZip, h, k]
theorem pairs_go {μ : Mem} {F : List Vl -> Mem -> Rs Vl} {gd : Gd} (hg : gd.ok μ) {a c : Vl} : ∀ {xs ys : List Vl}, All2 (fun x y => F [x, y] μ = .ok (.bl true) μ) xs ys ->
    compGo (gTup 2 (gsCons (gName 2) (gsCons (gName 3) gsNil))) tYes (C1_l_alike F) gd [some a, some c, none, none] ((xs.zip ys).map fun p => .tup [p.1, p.2]) μ = .ok (List.replicate xs.length (.bl true)) μ
  | _, _, .nil => by simp [compGo, hg]
  | _, _, .cons h r => by
    have st : ∀ x y, C1_l_alike F [some a, some c, some x, some y] μ = F [x, y] μ := fun x y => by simp [C1_l_alike]
    simp [compGo, hg, h, st, pairs_go hg r, List.replicate]
theorem all_true {n : Nat} {μ : Mem} : bAll [.lst (List.replicate n (.bl true))] μ = some (.bl true) := by
  have h : ∀ n, bools (List.replicate n (.bl true)) = some (List.replicate n true) := by
    intro n
    induction n with
    | zero => rfl
    | succ n ih =>
      unfold bools at ih ⊢
      simp [List.replicate, mapO, ih]
  show ((lstOf μ (.lst (List.replicate n (.bl true)))).bind fun xs => (bools xs).bind fun bs => some (Vl.bl (bs.all id))) = some (Vl.bl true)
  simp [h]
theorem All2.imp {α β : Type} {R S : α -> β -> Prop} (h : ∀ a b, R a b -> S a b) {as : List α} {bs : List β} (k : All2 R as bs) : All2 S as bs := by
  induction k with
  | nil => exact .nil
  | cons x _ ih => exact .cons (h _ _ x) ih
theorem alike_ok {μ : Mem} : ∀ (n : Nat) {v w : Vl}, Alk μ n v w -> F_l_alike n [v, w] μ = .ok (.bl true) μ
  | 0, _, _, h => False.elim h
  | n + 1, v, w, h => by
    rcases h with ⟨rfl, h⟩ | ⟨xs, ys, rfl, rfl, hz, h⟩ | ⟨xs, ys, hx, hy, hz, h⟩
    . cases v with
      | non => simp [F_l_alike, m_l_alike]
      | bl b => simp [F_l_alike, m_l_alike, isiB]
      | int i => simp [F_l_alike, m_l_alike, isiB, F_l_whole, m_l_whole]
      | str x =>
        have q : gEq (.str x) (.str x) μ = some (.bl (x == x)) := eq_str h h
        simp [F_l_alike, m_l_alike, isiB, q]
      | _ => cases h
    . have e := h.len
      have q := pairs_go (μ := μ) (gd := .free) trivial (a := .tup xs) (c := .tup ys) (All2.imp (fun a b => alike_ok n) h)
      have l : ((xs.zip ys).map fun p => Vl.tup [p.1, p.2]).length <= cap := by
        rw [List.length_map, List.length_zip]
        show min xs.length ys.length <= 10000000
        omega
      have z : bZip [.tup xs, .tup ys] μ = some ((xs.zip ys).map fun p => .tup [p.1, p.2], .free) := rfl
      have l2 : ys.length <= cap := by show ys.length <= 10000000; omega
      simp [F_l_alike, m_l_alike, isiB, e, z, fComp, l2, q, all_true]
    . have e := h.len
      have q := pairs_go (μ := μ) (gd := .both (guardOf v μ) (guardOf w μ)) ⟨guard_ok, guard_ok⟩ (a := v) (c := w) (All2.imp (fun a b => alike_ok n) h)
      have l2 : ys.length <= cap := by show ys.length <= 10000000; omega
      simp [F_l_alike, m_l_alike, isi_lst hx, isi_lst hy, non_lst hy, len_lst hx, len_lst hy, e, zip_lst hx hy, fComp, l2, q, all_true]
def Nx (J : En -> Mem -> Prop) (o : So) : Prop := ∃ Γ μ, o = some (.nx Γ, μ) /\ J Γ μ
@[simp] theorem nx_some {J : En -> Mem -> Prop} {Γ : En} {μ : Mem} : Nx J (some (.nx Γ, μ)) <-> J Γ μ := ⟨fun ⟨_, _, e, h⟩ => by cases e; exact h, fun h => ⟨_, _, rfl, h⟩⟩
theorem comp_all {g : MG} {e : ME} {gd : Gd} {Γ : En} (I : Mem -> Prop) (R : Vl -> Prop) (hgd : ∀ μ, I μ -> gd.ok μ) : ∀ {xs : List Vl}, (∀ x ∈ xs, ∀ μ, I μ -> ∃ Γ1, g x Γ = some Γ1 /\ ∃ y μ', e Γ1 μ = .ok y μ' /\ R y /\ I μ') -> ∀ {μ}, I μ ->
    ∃ ys μ', compGo g tYes e gd Γ xs μ = .ok ys μ' /\ ys.length = xs.length /\ (∀ y ∈ ys, R y) /\ I μ'
  | [], _, μ, h => ⟨[], μ, by simp [compGo, hgd μ h], rfl, by simp, h⟩
  | x :: r, step, μ, h => by
    obtain ⟨Γ1, e1, y, μ1, e2, hy, h1⟩ := step x List.mem_cons_self μ h
    obtain ⟨ys, μ2, e3, l, hr, h2⟩ := comp_all I R hgd (xs := r) (fun z hz => step z (List.mem_cons_of_mem _ hz)) h1
    exact ⟨y :: ys, μ2, by simp [compGo, hgd μ h, e1, e2, e3], by simp [l], by simpa using ⟨hy, hr⟩, h2⟩
theorem comp_map {α : Type} {g : MG} {e : ME} {gd : Gd} {Γ : En} {μ : Mem} (enc : α -> Vl) (f : α -> Vl) (hgd : gd.ok μ) : ∀ {xs : List α}, (∀ x ∈ xs, ∃ Γ1, g (enc x) Γ = some Γ1 /\ e Γ1 μ = .ok (f x) μ) -> compGo g tYes e gd Γ (xs.map enc) μ = .ok (xs.map f) μ
  | [], _ => by simp [compGo, hgd]
  | x :: r, step => by
    obtain ⟨Γ1, e1, e2⟩ := step x List.mem_cons_self
    have ih := comp_map enc f hgd (xs := r) (fun z hz => step z (List.mem_cons_of_mem _ hz))
    simp [compGo, hgd, e1, e2, ih]
abbrev Row := Int × Int × Int
instance (r : Row) : Decidable (RowOk r) := by unfold RowOk; infer_instance
theorem mapO_map {α β γ : Type} {f : β -> Option γ} {g : α -> β} {h : α -> γ} : ∀ {xs : List α}, (∀ x ∈ xs, f (g x) = some (h x)) -> mapO f (xs.map g) = some (xs.map h)
  | [], _ => rfl
  | x :: r, k => by
    have e1 := k x List.mem_cons_self
    have e2 := mapO_map (f := f) (g := g) (h := h) (xs := r) fun y hy => k y (List.mem_cons_of_mem _ hy)
    show (f (g x)).bind _ = _
    rw [e1]
    show (mapO f (r.map g)).bind _ = _
    rw [e2]
    rfl
theorem pyV_depth {μ : Mem} : ∀ (n : Nat) (v : Vl) (d : PyData), pyV n μ v = some d -> d.depth <= n := by
  intro n
  induction n with
  | zero =>
    intro v d h
    cases h
  | succ n ih =>
    have all : ∀ (xs : List Vl) (ds : List PyData), mapO (pyV n μ) xs = some ds -> PyData.depthAll ds <= n := by
      intro xs
      induction xs with
      | nil =>
        intro ds h
        cases h
        exact Nat.zero_le _
      | cons x r ih2 =>
        intro ds h
        obtain ⟨y, e1, e2⟩ := Option.bind_eq_some_iff.mp (show (pyV n μ x).bind _ = some ds from h)
        obtain ⟨ys, e3, e4⟩ := Option.bind_eq_some_iff.mp e2
        cases e4
        have h1 := ih x y e1
        have h2 := ih2 ys e3
        rw [PyData.depthAll]
        omega
    intro v d h
    unfold pyV at h
    split at h
    . cases h; simp [PyData.depth]
    . cases h; simp [PyData.depth]
    . cases h; simp [PyData.depth]
    . cases h; simp [PyData.depth]
    . obtain ⟨ys, e1, e2⟩ := Option.bind_eq_some_iff.mp h
      cases e2
      have := all _ _ e1
      rw [PyData.depth]
      omega
    . obtain ⟨ys, e1, e2⟩ := Option.bind_eq_some_iff.mp h
      cases e2
      have := all _ _ e1
      rw [PyData.depth]
      omega
    . split at h
      . obtain ⟨ys, e1, e2⟩ := Option.bind_eq_some_iff.mp h
        cases e2
        have := all _ _ e1
        rw [PyData.depth]
        omega
      . cases h
    . cases h
theorem shaped_py {μ : Mem} {v : Vl} {d : PyData} (h : pyV depthP μ v = some d) (c : d.canLay0 = true) : SeqAt.shaped d = true := by
  have := pyV_depth _ _ _ h
  unfold depthP at this
  unfold SeqAt.shaped
  rw [c]
  simp
  omega
theorem eq_by {μ : Mem} {a b : Vl} {x y : PyData} (ha : pyV depthP μ a = some x) (hb : pyV depthP μ b = some y) (ca : x.canLay0 = true) (cb : y.canLay0 = true) : gEq a b μ = some (.bl (PyData.eqv x y)) /\ gNe a b μ = some (.bl (!PyData.eqv x y)) := by
  unfold gEq gNe gEqB
  simp [ha, hb, shaped_py ha ca, shaped_py hb cb]
theorem eq_same {μ : Mem} {a b : Vl} {d : PyData} (ha : pyV depthP μ a = some d) (hb : pyV depthP μ b = some d) (c : d.canLay0 = true) : gEq a b μ = some (.bl true) /\ gNe a b μ = some (.bl false) := by
  have := eq_by ha hb c c
  rw [SeqAt.eqv_refl d c] at this
  exact this
theorem canLay_map {α : Type} {f : α -> PyData} : ∀ {xs : List α}, (∀ x ∈ xs, (f x).canLay0 = true) -> PyData.canLayAll0 (xs.map f) = true
  | [], _ => rfl
  | x :: r, h => by
    rw [List.map_cons, PyData.canLayAll0, h x List.mem_cons_self, canLay_map fun y hy => h y (List.mem_cons_of_mem _ hy)]
    rfl
theorem py_lst {α : Type} {n : Nat} {μ : Mem} {v : Vl} {f : α -> Vl} {g : α -> PyData} {xs : List α} (hv : lstOf μ v = some (xs.map f)) (h : ∀ x ∈ xs, pyV n μ (f x) = some (g x)) : pyV (n + 1) μ v = some (.list (xs.map g)) := by
  have e := mapO_map h
  unfold lstOf at hv
  split at hv
  . cases hv
    simp [pyV, e]
  . split at hv
    . rename_i q
      cases hv
      simp [pyV, q, e]
    . cases hv
  . cases hv
theorem _root_.Fm.Bx.app {μ ν : Mem} {b : Nat} (h : Bx μ b) : Bx (μ ++ ν) b := by
  obtain ⟨ns, p, l, t, s, e, hp⟩ := h.ex
  exact ⟨ns, p, l, t, s, by rw [List.getElem?_append_left h.lt]; exact e, hp⟩
theorem add_lst {μ : Mem} {a b : List Vl} (h : a.length + b.length <= 10000000) : gAdd (.lst a) (.lst b) μ = some (.lst (a ++ b)) := if_pos h
end Q
end
section
set_option linter.all false
set_option maxRecDepth 100000
set_option maxHeartbeats 4000000
namespace Fm
open PySem
section
variable {α β : Type} {Γ : En} {μ μ' : Mem}
@[simp] theorem s_fUn {g : Vl -> Mem -> Option MO} {a : ME} : fUn g a Γ μ = (a Γ μ).bind fun x μ1 => Rs.of (g x μ1) μ1 := rfl
@[simp] theorem s_gNeg {a : Int} : gNeg (.int a) μ = some (.int (-a)) := rfl
@[simp] theorem s_gRevL {xs : List Vl} : gRev (.lst xs) μ = some (.lst xs.reverse) := rfl
@[simp] theorem s_ePop {e : ME} : ePop e Γ μ = (e Γ μ).bind fun x μ1 => oK (memL μ1 x) fun p => oK (p.2[p.2.length - 1]?) fun y => .ok y (setM μ1 p.1 (.lst p.2.dropLast)) := by
  unfold ePop oK
  congr
  funext x μ1
  cases memL μ1 x with
  | none => rfl
  | some q =>
    simp only
    cases q.2[q.2.length - 1]? <;> rfl
@[simp] theorem s_eClr {e : ME} : eClr e Γ μ = (e Γ μ).bind fun x μ1 => oK (memL μ1 x) fun p => .ok .non (setM μ1 p.1 (.lst [])) := by
  unfold eClr oK
  congr
  funext x μ1
  cases memL μ1 x <;> rfl
theorem ixN_last {n : Nat} : ixN (n + 1) (-1) = some n := by
  unfold ixN
  rw [if_neg (by decide), if_pos (by omega)]
  congr 1
  omega
@[simp] theorem at_last {xs : List α} {x : α} : atI (xs ++ [x]) (-1) = some x := by
  unfold atI
  rw [List.length_append]
  show (ixN (xs.length + 1) (-1)).bind _ = _
  rw [ixN_last]
  simp
@[simp] theorem set_last {xs : List Vl} {x v : Vl} : setIx (xs ++ [x]) (-1) v = some (xs ++ [v]) := by
  unfold setIx
  rw [List.length_append]
  show (ixN (xs.length + 1) (-1)).bind _ = _
  rw [ixN_last]
  simp
@[simp] theorem get_end {o : Option MO} {r : Mem} : (μ ++ o :: r)[μ.length]? = some o := by simp
@[simp] theorem get_end1 {a o : Option MO} {r : Mem} : (μ ++ a :: o :: r)[μ.length + 1]? = some o := by simp [List.getElem?_append_right]
@[simp] theorem set_end {o : MO} {a : Option MO} {r : Mem} : setM (μ ++ a :: r) μ.length o = μ ++ some o :: r := by simp [setM]
@[simp] theorem set_end1 {o : MO} {a b : Option MO} {r : Mem} : setM (μ ++ a :: b :: r) (μ.length + 1) o = μ ++ a :: some o :: r := by simp [setM, List.set_append]
@[simp] theorem mem_end {xs : List Vl} {r : Mem} : memL (μ ++ some (.lst xs) :: r) (.ref μ.length) = some (μ.length, xs) := s_memL get_end
@[simp] theorem mem_end1 {xs : List Vl} {a : Option MO} {r : Mem} : memL (μ ++ a :: some (.lst xs) :: r) (.ref (μ.length + 1)) = some (μ.length + 1, xs) := s_memL get_end1
@[simp] theorem lst_end {xs : List Vl} {r : Mem} : lstOf (μ ++ some (.lst xs) :: r) (.ref μ.length) = some xs := s_lstR get_end
@[simp] theorem lst_end1 {xs : List Vl} {a : Option MO} {r : Mem} : lstOf (μ ++ a :: some (.lst xs) :: r) (.ref (μ.length + 1)) = some xs := s_lstR get_end1
@[simp] theorem seq_end {xs : List Vl} {r : Mem} : seqOf (μ ++ some (.lst xs) :: r) (.ref μ.length) = some xs := s_seqR get_end
@[simp] theorem seq_end1 {xs : List Vl} {a : Option MO} {r : Mem} : seqOf (μ ++ a :: some (.lst xs) :: r) (.ref (μ.length + 1)) = some xs := s_seqR get_end1
@[simp] theorem len_end {xs : List Vl} {r : Mem} : bLen [.ref μ.length] (μ ++ some (.lst xs) :: r) = some (.int xs.length) := Q.len_lst lst_end
@[simp] theorem len_end1 {xs : List Vl} {a : Option MO} {r : Mem} : bLen [.ref (μ.length + 1)] (μ ++ a :: some (.lst xs) :: r) = some (.int xs.length) := Q.len_lst lst_end1
@[simp] theorem gc_end {ν : Mem} : gcM true μ (μ ++ ν) = μ := gc_app rfl
def Pure (v : Vl) : Prop := v.und 0 = true /\ ∀ n μ, rchV n μ v = []
theorem undA_all {n : Nat} : ∀ {xs : List Vl}, (∀ x ∈ xs, x.und n = true) -> Vl.undA n xs = true
  | [], _ => rfl
  | x :: r, h => by
    unfold Vl.undA
    rw [h x List.mem_cons_self, undA_all fun y hy => h y (List.mem_cons_of_mem _ hy)]
    rfl
theorem flat_nil {f : Vl -> List Nat} : ∀ {xs : List Vl}, (∀ x ∈ xs, f x = []) -> flatL f xs = []
  | [], _ => rfl
  | x :: r, h => by
    show f x ++ flatL f r = []
    rw [h x List.mem_cons_self, flat_nil fun y hy => h y (List.mem_cons_of_mem _ hy)]
    rfl
theorem pure_tup {xs : List Vl} (h : ∀ x ∈ xs, Pure x) : Pure (.tup xs) := ⟨undA_all fun x hx => (h x hx).1, fun n μ => by
  cases n with
  | zero => rfl
  | succ n => exact flat_nil fun x hx => (h x hx).2 n μ⟩
theorem pure_lst {xs : List Vl} (h : ∀ x ∈ xs, Pure x) : Pure (.lst xs) := ⟨undA_all fun x hx => (h x hx).1, fun n μ => by
  cases n with
  | zero => rfl
  | succ n => exact flat_nil fun x hx => (h x hx).2 n μ⟩
theorem pure_int {i : Int} : Pure (.int i) := ⟨rfl, fun n μ => by cases n <;> rfl⟩
theorem Pure.und {v : Vl} (h : Pure v) (n : Nat) : v.und n = true := Vl.und_up (Nat.zero_le _) h.1
theorem mapO_id {f : Vl -> Option Vl} : ∀ {xs : List Vl}, (∀ x ∈ xs, f x = some x) -> mapO f xs = some xs
  | [], _ => rfl
  | x :: r, h => by
    show (f x).bind _ = _
    rw [h x List.mem_cons_self]
    show (mapO f r).bind _ = _
    rw [mapO_id fun y hy => h y (List.mem_cons_of_mem _ hy)]
    rfl
theorem frz_pure {n : Nat} {v : Vl} (h : Pure v) : frzV n μ v = some v := by
  cases n <;> (unfold frzV; rw [if_pos h.1])
theorem kill_end {o : Option MO} : kill [μ.length] (μ ++ [o]) = μ ++ [none] := by
  unfold kill
  rw [List.mapIdx_append]
  congr 1
  . apply List.ext_getElem
    . simp
    . intro i h1 h2
      rw [List.getElem_mapIdx, if_neg]
      simp
      omega
  . simp
theorem deep_end {xs : List Vl} (h : ∀ x ∈ xs, Pure x) {e : ME} (he : e Γ (μ ++ [some (.lst xs)]) = .ok (.ref μ.length) (μ ++ [some (.lst xs)])) : eDeep e Γ (μ ++ [some (.lst xs)]) = .ok (.lst xs) (μ ++ [none]) := by
  have h1 : frzV depthF (μ ++ [some (.lst xs)]) (.ref μ.length) = some (.lst xs) := by
    unfold depthF frzV
    rw [if_neg (by simp [Vl.und])]
    simp only [get_end]
    rw [mapO_id fun x hx => frz_pure (h x hx)]
    rfl
  have h2 : rchV depthF (μ ++ [some (.lst xs)]) (.ref μ.length) = [μ.length] := by
    unfold depthF rchV
    simp only [get_end]
    rw [flat_nil fun x hx => (h x hx).2 _ _]
  unfold eDeep
  rw [he]
  simp only [s_bind_ok, h1, h2, kill_end]
end
end Fm
namespace Q
open PySem Fm
theorem alk_int {μ : Mem} {n : Nat} {i : Int} : Alk μ (n + 1) (.int i) (.int i) := .inl ⟨rfl, rfl⟩
theorem src_lst {μ : Mem} {v : Vl} {xs : List Vl} (hv : lstOf μ v = some xs) : ∃ gd, srcOf μ v = some (xs, gd) /\ ∀ ν, gd.ok (μ ++ ν) := by
  unfold lstOf at hv
  split at hv
  . cases hv
    exact ⟨.free, rfl, fun _ => trivial⟩
  . split at hv
    . rename_i q
      cases hv
      rename_i i _
      exact ⟨.same i (.lst xs), by simp only [srcOf, q], fun ν => by
        show (μ ++ ν)[i]? = _
        rw [List.getElem?_append_left (List.getElem?_eq_some_iff.mp q).1]
        exact q⟩
    . cases hv
  . cases hv
end Q
end
section
set_option linter.all false
set_option maxRecDepth 100000
set_option maxHeartbeats 4000000
namespace Fm
open PySem
section
variable {α β : Type} {Γ : En} {μ μ' : Mem}
@[simp] theorem s_eFld {c f : Str} {e : ME} : eFld c f e Γ μ = (e Γ μ).bind fun x μ1 => Rs.of (fldOf μ1 c f x) μ1 := rfl
@[simp] theorem s_eMeth {c m : Str} {F : List Vl -> Mem -> Rs Vl} {o : ME} {as : MA} : eMeth c m F o as Γ μ = (o Γ μ).bind fun x μ1 => if isIns μ1 c m x = true then (as Γ μ1).bind fun xs μ2 => F (x :: xs) μ2 else .no := rfl
@[simp] theorem s_fMeth {c m : Str} {F : List Vl -> Mem -> Rs MO} {o : ME} {as : MA} : fMeth c m F o as Γ μ = (o Γ μ).bind fun x μ1 => if isIns μ1 c m x = true then (as Γ μ1).bind fun xs μ2 => F (x :: xs) μ2 else .no := rfl
@[simp] theorem s_sRaise {c : Str} : sRaise c Γ μ = some (.ex c none Γ, μ) := rfl
@[simp] theorem s_fnR {k n : Nat} {b : MS} {xs : List Vl} : fnR k n b xs μ = if xs.length = k then outR (b (args n xs) μ) else .no := rfl
@[simp] theorem s_rR {x : Vl} : outR (some (.rt x, μ)) = .ok x μ := rfl
@[simp] theorem s_rN : outR (some (.nx Γ, μ)) = .ok .non μ := rfl
@[simp] theorem s_rX {c : Str} {r : Option Int} : outR (some (.ex c r Γ, μ)) = .ex c r μ := rfl
@[simp] theorem s_rIf {p : Prop} [Decidable p] {x y : So} : outR (if p then x else y) = if p then outR x else outR y := by split <;> rfl
@[simp] theorem s_outX {c : Str} {r : Option Int} : outV μ (some (.ex c r Γ, μ')) = .ex c r (gcM true μ μ') := rfl
@[simp] theorem s_bIf {p : Prop} [Decidable p] {x y : Rs α} {f : α -> Mem -> Rs β} : (if p then x else y).bind f = if p then x.bind f else y.bind f := by split <;> rfl
@[simp] theorem s_stIf {p : Prop} [Decidable p] {x y : Rs α} {f : α -> Mem -> So} : (if p then x else y).st Γ f = if p then x.st Γ f else y.st Γ f := by split <;> rfl
@[simp] theorem s_st_no {f : α -> Mem -> So} : (Rs.no : Rs α).st Γ f = none := rfl
@[simp] theorem s_fDNewK : fDNewK Γ μ = .ok (.dk false []) μ := rfl
@[simp] theorem s_fDNewT : fDNewT Γ μ = .ok (.dt false []) μ := rfl
@[simp] theorem s_gDIx {d k : Vl} : gDIx d k μ = (dGet μ d k).bind id := rfl
@[simp] theorem s_gDIn {d k : Vl} {neg : Bool} : gDIn neg k d μ = (dGet μ d k).map fun o => .bl (if neg then !o.isSome else o.isSome) := rfl
@[simp] theorem s_eDGet {d k x : ME} : eDGet d k x Γ μ = (d Γ μ).bind fun o μ1 => if isD μ1 o = true then (k Γ μ1).bind fun y μ2 => (x Γ μ2).bind fun z μ3 => Rs.of ((dGet μ3 o y).map fun r => r.getD z) μ3 else .no := rfl
def mK (o : Option Mem) (Γ : En) : So := match o with
  | some μ => some (.nx Γ, μ)
  | none => none
@[simp] theorem s_mK : mK (some μ) Γ = some (.nx Γ, μ) := rfl
@[simp] theorem s_sDPut {o b e : ME} : sDPut o b e Γ μ = (e Γ μ).st Γ fun v μ1 => (o Γ μ1).st Γ fun x μ2 => (b Γ μ2).st Γ fun k μ3 => mK (dPut μ3 x k v) Γ := by
  unfold sDPut
  congr
@[simp] theorem s_iDict {e : ME} : iDict e Γ μ = (e Γ μ).bind fun x μ1 => Rs.of (dsrc μ1 x) μ1 := rfl
@[simp] theorem s_aDisp0 : aDisp [] Γ μ = .ok [] μ := rfl
@[simp] theorem s_aDispS {k : Str} {e : ME} {r : List (Str × ME)} : aDisp ((k, e) :: r) Γ μ = (e Γ μ).bind fun v μ1 => (aDisp r Γ μ1).bind fun z μ2 => .ok ((.inr k, v) :: z) μ2 := rfl
@[simp] theorem s_fDisp {kvs : List (Str × ME)} : fDisp kvs Γ μ = (aDisp kvs Γ μ).bind fun z μ1 => .ok (.dk false (z.foldl (fun acc kv => setK acc kv.1 kv.2) [])) μ1 := rfl
@[simp] theorem s_sPar2 {i j : Nat} {as : MA} : sPar2 i j as Γ μ = (as Γ μ).st Γ fun xs μ1 => match xs with
  | [x, y] => some (.nx ((Γ.set i (some x)).set j (some y)), μ1)
  | _ => none := rfl
@[simp] theorem s_sPar3 {i j l : Nat} {as : MA} : sPar3 i j l as Γ μ = (as Γ μ).st Γ fun xs μ1 => match xs with
  | [x, y, z] => some (.nx (((Γ.set i (some x)).set j (some y)).set l (some z)), μ1)
  | _ => none := rfl
@[simp] theorem s_bAbs {i : Int} : bAbs [.int i] μ = some (.int (if i < 0 then -i else i)) := rfl
@[simp] theorem s_bIntI {i : Int} : bIntB [.int i] μ = some (.int i) := rfl
@[simp] theorem s_bIntBl {b : Bool} : bIntB [.bl b] μ = some (.int (if b then 1 else 0)) := rfl
theorem s_rng2 {i j : Int} (h : j - i < 10 ^ 15) : rng2 [.int i, .int j] μ = some (ivs i (j - i).toNat, .free) := if_pos h
@[simp] theorem s_free : Gd.free.ok μ = True := rfl
theorem for_foldP {α σ : Type} {g : MG} {b : MS} {gd : Gd} {ws : List Nat} (enc : α -> Vl) (env : σ -> En) (step : σ -> α -> σ) (P : List α -> σ -> Prop) (hgd : gd.ok μ) (h : ∀ x r s, P (x :: r) s -> ∃ Γ1, g (enc x) (env s) = some Γ1 /\ (∃ Γ2, b Γ1 μ = some (.nx Γ2, μ) /\ wip ws Γ2 = env (step s x)) /\ P r (step s x)) :
    ∀ {xs : List α} {s : σ}, P xs s -> forGo g b gd ws (xs.map enc) (env s) μ = some (.nx (env (xs.foldl step s)), μ)
  | [], s, _ => by simp [forGo, hgd]
  | x :: r, s, p => by
    obtain ⟨Γ1, e1, ⟨Γ2, e2, e3⟩, q⟩ := h x r s p
    have ih := for_foldP enc env step P hgd h q
    simp only [List.map_cons, forGo, hgd, if_true, e1, e2, e3, List.foldl_cons]
    exact ih
theorem for_foldM {α σ : Type} {g : MG} {b : MS} {gd : Gd} {ws : List Nat} (enc : α -> Vl) (env : σ -> En) (mem : σ -> Mem) (step : σ -> α -> σ) (P : List α -> σ -> Prop) (hgd : ∀ r s, P r s -> gd.ok (mem s))
    (h : ∀ x r s, P (x :: r) s -> ∃ Γ1, g (enc x) (env s) = some Γ1 /\ (∃ Γ2, b Γ1 (mem s) = some (.nx Γ2, mem (step s x)) /\ wip ws Γ2 = env (step s x)) /\ P r (step s x)) :
    ∀ {xs : List α} {s : σ}, P xs s -> forGo g b gd ws (xs.map enc) (env s) (mem s) = some (.nx (env (xs.foldl step s)), mem (xs.foldl step s))
  | [], s, p => by simp [forGo, hgd _ _ p]
  | x :: r, s, p => by
    obtain ⟨Γ1, e1, ⟨Γ2, e2, e3⟩, q⟩ := h x r s p
    have ih := for_foldM enc env mem step P hgd h q
    simp only [List.map_cons, forGo, hgd _ _ p, if_true, e1, e2, e3, List.foldl_cons]
    exact ih
end
end Fm
end
section
set_option linter.all false
set_option maxRecDepth 100000
set_option maxHeartbeats 1000000
namespace Q
open PySem Fm
abbrev Rch := Int × List Int
def reachV (r : Rch) : Vl := .tup [.int r.1, .tup (r.2.map .int)]
structure Gla where
  valley : List Rch
  round : List Row
  grounds : List (List Int)
  single : List (Int × Row)
  leaps : List (List (Int × Int))
def groundV (g : List Int) : Vl := .lst (g.map .int)
def singleK (s : List (Int × Row)) : List (Ky × Vl) := s.map fun p => (.inl p.1, rowV p.2)
def leapK (l : List (Int × Int)) : List (Ky × Vl) := l.map fun p => (.inl p.1, .int p.2)
def iceFs (a b c d e : Vl) : List (Str × Vl) := [("valley_rows", a), ("round_rows", b), ("grounds", c), ("single", d), ("leaps", e)]
structure IceAt (μ : Mem) (v : Vl) (I : Gla) : Prop where
  ex : ∃ a b c d e ls, insOf μ v = some (("Ice" : Str), iceFs a b c d e) /\ lstOf μ a = some (I.valley.map reachV) /\ lstOf μ b = some (I.round.map rowV) /\ lstOf μ c = some (I.grounds.map groundV) /\ dkOf μ d = some (singleK I.single) /\ lstOf μ e = some ls /\
    All2 (fun x l => dkOf μ x = some (leapK l)) ls I.leaps
section
variable {μ : Mem} {v : Vl} {I : Gla}
theorem fld_grounds {a b c d e : Vl} (h : insOf μ v = some (("Ice" : Str), iceFs a b c d e)) : fldOf μ "Ice" "grounds" v = some c := by
  unfold fldOf
  rw [h]
  rfl
theorem fld_round {a b c d e : Vl} (h : insOf μ v = some (("Ice" : Str), iceFs a b c d e)) : fldOf μ "Ice" "round_rows" v = some b := by
  unfold fldOf
  rw [h]
  rfl
theorem IceAt.gr (h : IceAt μ v I) : ∃ c, fldOf μ "Ice" "grounds" v = some c /\ lstOf μ c = some (I.grounds.map groundV) := by
  obtain ⟨a, b, c, d, e, ls, h1, _, _, h2, _⟩ := h.ex
  exact ⟨c, fld_grounds h1, h2⟩
theorem IceAt.rd (h : IceAt μ v I) : ∃ c, fldOf μ "Ice" "round_rows" v = some c /\ lstOf μ c = some (I.round.map rowV) := by
  obtain ⟨a, b, c, d, e, ls, h1, _, h2, _⟩ := h.ex
  exact ⟨b, fld_round h1, h2⟩
theorem seq_lst {v : Vl} {xs : List Vl} (h : lstOf μ v = some xs) : seqOf μ v = some xs := by
  cases v <;> first | exact h | cases h
end
theorem chainB {p q : Prop} [Decidable p] [Decidable q] {μ : Mem} : (if p then (Rs.ok (Vl.bl (decide q)) μ) else .ok (.bl false) μ) = .ok (.bl (decide (p /\ q))) μ := by
  by_cases p <;> by_cases q <;> simp [*]
theorem atI_map {α β : Type} {xs : List α} {f : α -> β} {i : Int} : atI (xs.map f) i = (atI xs i).map f := by
  unfold atI
  rw [List.length_map]
  cases ixN xs.length i with
  | none => rfl
  | some j => simp
theorem atI_in {α : Type} [Inhabited α] {xs : List α} {i : Int} (h0 : 0 <= i) (h1 : i < xs.length) : atI xs i = some (xs.getD i.toNat default) := by
  obtain ⟨x, e1, e2⟩ := atI_get h0 h1
  rw [e1, List.getD_eq_getElem?_getD, e2]
  rfl
section
variable {μ : Mem} {v : Vl} {I : Gla}
end
end Q
end
section
set_option linter.all false
set_option maxRecDepth 100000
set_option maxHeartbeats 1000000
namespace Q
open PySem Fm
def hB (h : Int) : Bool := decide (0 <= h) && decide (h <= 99)
def toB (n to : Int) : Bool := if n = 0 then decide (to = -1) else decide (0 <= to /\ to < n)
def groundB (g : List Int) : Bool := decide (1 <= g.length /\ g.length <= 12) && (g.map hB).all id
def reachB (n : Int) (r : Rch) : Bool := toB n r.1 && groundB r.2
@[simp] theorem g2_reach {gs : List Vl -> En -> Option En} {Γ : En} {r : Rch} : gTup 2 gs (reachV r) Γ = gs [.int r.1, .tup (r.2.map .int)] Γ := rfl
def toOf (rs : List Rch) (i : Int) : Int := match rs[i.toNat]? with
  | some r => r.1
  | none => -1
def groundOf (rs : List Rch) (i : Int) : List Int := match rs[i.toNat]? with
  | some r => r.2
  | none => []
def Falls (rs : List Rch) : Prop := ∀ (i : Nat) (r : Rch), rs[i]? = some r -> toB i r.1 = true
def road (rs : List Rch) : Nat -> Int -> List Int
  | 0, _ => []
  | n + 1, i => if toOf rs i = -1 then [i] else i :: road rs n (toOf rs i)
theorem Falls.to {rs : List Rch} (h : Falls rs) {i : Int} (h0 : 0 <= i) (h1 : i < rs.length) : (i = 0 /\ toOf rs i = -1) \/ (0 < i /\ 0 <= toOf rs i /\ toOf rs i < i) := by
  have hk : i.toNat < rs.length := by omega
  have e := List.getElem?_eq_getElem hk
  have q := h i.toNat _ e
  have et : toOf rs i = rs[i.toNat].1 := by unfold toOf; rw [e]
  rw [et]
  unfold toB at q
  split at q
  . rename_i z
    exact .inl ⟨by omega, of_decide_eq_true q⟩
  . have := of_decide_eq_true q
    exact .inr ⟨by omega, by omega, by omega⟩
theorem lst_app {μ ν : Mem} {v : Vl} {xs : List Vl} (h : lstOf μ v = some xs) : lstOf (μ ++ ν) v = some xs := by
  unfold lstOf at h ⊢
  split at h
  . exact h
  . split at h
    . rename_i q
      cases h
      simp only [List.getElem?_append_left (List.getElem?_eq_some_iff.mp q).1, q]
    . cases h
  . cases h
theorem at_reach {rs : List Rch} {i : Int} (h0 : 0 <= i) (h1 : i < rs.length) : atI (rs.map reachV) i = some (reachV (toOf rs i, groundOf rs i)) := by
  obtain ⟨x, e1, e2⟩ := atI_get (xs := rs.map reachV) h0 (by simpa using h1)
  rw [e1]
  have hk : i.toNat < rs.length := by omega
  rw [List.getElem?_map, List.getElem?_eq_getElem hk] at e2
  have et : toOf rs i = rs[i.toNat].1 := by unfold toOf; rw [List.getElem?_eq_getElem hk]
  have eg : groundOf rs i = rs[i.toNat].2 := by unfold groundOf; rw [List.getElem?_eq_getElem hk]
  rw [et, eg]
  exact e2.symm
@[simp] theorem seq_reach {μ : Mem} {r : Rch} : seqOf μ (reachV r) = some [.int r.1, .tup (r.2.map .int)] := rfl
theorem down_loop {μ : Mem} {v : Vl} {rs : List Rch} {a : Option Vl} (hv : lstOf μ v = some (rs.map reachV)) (hf : Falls rs) (hl : rs.length <= 1000) : ∀ (n k : Nat) (acc : List Int) (i : Int), 0 <= i -> i < rs.length -> i < n -> i < k -> acc.length + i.toNat <= 5000 ->
    whileGo (tB (eOp gNe (eOp gIx (eOp gIx (eVar 0) (eOp gIx (eVar 2) (eUn gNeg (eC (.int 1))))) (eC (.int 0))) (eUn gNeg (eC (.int 1))))) B1_road_down [] n [some v, a, some (.ref μ.length)] (μ ++ [some (.lst (acc.map .int ++ [.int i]))])
      = some (.nx [some v, a, some (.ref μ.length)], μ ++ [some (.lst ((acc ++ road rs k i).map .int))])
  | 0, _, _, _, h0, _, hn, _, _ => by omega
  | _, 0, _, _, h0, _, _, hk, _ => by omega
  | n + 1, k + 1, acc, i, h0, h1, hn, hk, hc => by
    have sq := fun ν => seq_lst (lst_app (ν := ν) hv)
    have ar := at_reach h0 h1
    unfold road
    rcases hf.to h0 h1 with ⟨rfl, e⟩ | ⟨hp, t0, t1⟩
    . rw [if_pos e]
      simp [whileGo, sq, ar, e]
    . have ne : toOf rs i ≠ -1 := by omega
      rw [if_neg ne]
      have ih := down_loop (a := a) hv hf hl n k (acc ++ [i]) (toOf rs i) t0 (by omega) (by omega) (by omega) (by simp; omega)
      have lc : acc.length + 1 < cap := by show _ < 10000000; omega
      have e1 : (acc ++ [i]).map Vl.int ++ [Vl.int (toOf rs i)] = acc.map .int ++ [.int i] ++ [.int (toOf rs i)] := by simp
      have e2 : acc ++ [i] ++ road rs k (toOf rs i) = acc ++ i :: road rs k (toOf rs i) := by simp
      rw [e1, e2] at ih
      refine Eq.trans ?_ ih
      conv => lhs; unfold whileGo
      simp [sq, ar, ne, B1_road_down, lc]
theorem road_down_ok {μ : Mem} {v : Vl} {rs : List Rch} {i : Int} (hv : lstOf μ v = some (rs.map reachV)) (hf : Falls rs) (hl : rs.length <= 1000) (h0 : 0 <= i) (h1 : i < rs.length) : F_road_down [v, .int i] μ = .ok (.ltup (road rs rs.length i)) μ := by
  have lp := down_loop (a := some (.int i)) hv hf hl 100000 rs.length [] i h0 h1 (by omega) h1 (by simp; omega)
  have u : (Vl.ltup (road rs rs.length i)).und μ.length = true := rfl
  have bt : bTupN [.ref μ.length] (μ ++ [some (.lst ((road rs rs.length i).map .int))]) = some (.ltup (road rs rs.length i)) := by
    have h1 : intsOf ((road rs rs.length i).map .int) = some (road rs rs.length i) := by
      have := mapO_map (f := getI) (g := Vl.int) (h := fun i => i) (xs := road rs rs.length i) (fun _ _ => rfl)
      unfold intsOf
      rw [this]
      simp
    simp [bTupN, lstOf, h1]
  simp only [List.map_nil, List.nil_append] at lp
  simp [F_road_down, m_road_down, sWhile, lp, bt, u]
theorem comp_if {α : Type} {g : MG} {t : MT} {e : ME} {gd : Gd} {Γ : En} {μ : Mem} (enc : α -> Vl) (p : α -> Bool) (f : α -> Vl) (hgd : gd.ok μ) : ∀ {xs : List α}, (∀ x ∈ xs, ∃ Γ1, g (enc x) Γ = some Γ1 /\ t Γ1 μ = .ok (p x) μ /\ (p x = true -> e Γ1 μ = .ok (f x) μ)) -> compGo g t e gd Γ (xs.map enc) μ = .ok ((xs.filter p).map f) μ
  | [], _ => by simp [compGo, hgd]
  | x :: r, step => by
    obtain ⟨Γ1, e1, e2, e3⟩ := step x List.mem_cons_self
    have ih := comp_if enc p f hgd (xs := r) (fun z hz => step z (List.mem_cons_of_mem _ hz))
    cases hp : p x with
    | true =>
      rw [hp] at e2
      simp [compGo, hgd, e1, e2, e3 hp, ih, hp]
    | false =>
      rw [hp] at e2
      simp [compGo, hgd, e1, e2, ih, hp]
theorem in_ints {μ : Mem} {i : Int} {ns : List Int} {v : Vl} (hv : lstOf μ v = some (ns.map .int)) {neg : Bool} : gIn neg (.int i) v μ = some (.bl (if neg then !decide (i ∈ ns) else decide (i ∈ ns))) := by
  have h1 : mapO flatP (ns.map .int) = some (ns.map .int) := mapO_map fun _ _ => rfl
  have h2 : ((ns.map PyData.int).any fun z => PyData.eqv z (.int i)) = decide (i ∈ ns) := by
    rw [List.any_map]
    by_cases h : i ∈ ns
    . rw [decide_eq_true h, List.any_eq_true]
      exact ⟨i, h, by simp [PyData.eqv]⟩
    . rw [decide_eq_false h, List.any_eq_false]
      intro x hx z
      have : x = i := by simpa [PyData.eqv] using z
      exact h (this ▸ hx)
  unfold gIn
  rw [seq_lst hv]
  simp only [flatP, h1, h2]
def tupV (ns : List Int) : Vl := .ltup ns
def heads (rs : List Rch) : List Int := ((List.range rs.length).filter fun (k : Nat) => !decide ((k : Int) ∈ rs.map (·.1))).map fun (k : Nat) => (k : Int)
theorem heads_lt {rs : List Rch} {i : Int} (h : i ∈ heads rs) : 0 <= i /\ i < rs.length := by
  obtain ⟨k, hk, rfl⟩ := List.mem_map.mp h
  have := List.mem_range.mp (List.mem_filter.mp hk).1
  omega
theorem from_below_key {ns : List Int} : keyOf F_from_below ns = some ns.reverse := by
  have e : F_from_below [.ltup ns] [] = .ok (.tup (ns.map .int).reverse) [] := by simp [F_from_below, m_from_below, gRevT]
  unfold keyOf
  rw [e]
  show mapO getI (ns.map .int).reverse = _
  rw [<- List.map_reverse]
  have := mapO_map (f := getI) (g := Vl.int) (h := fun i => i) (xs := ns.reverse) (fun _ _ => rfl)
  rw [this]
  simp
theorem road_ne {rs : List Rch} {n : Nat} {i : Int} : road rs (n + 1) i ≠ [] := by
  unfold road
  split <;> simp
end Q
end
section
set_option linter.all false
set_option maxRecDepth 100000
set_option maxHeartbeats 1000000
namespace Q
open PySem Fm
def dLe (a b : List Int) : Bool := PySem.W.dataLe false (fun x : List Int => .tuple (x.map .int)) a b
def roadsU (rs : List Rch) : List (List Int) := (heads rs).map (road rs rs.length)
def roadsOf (rs : List Rch) : List (List Int) := (roadsU rs).mergeSort fun a b => dLe a.reverse b.reverse
theorem roads_perm {rs : List Rch} : (roadsOf rs).Perm (roadsU rs) := List.mergeSort_perm ..
theorem sortK_eq {k : List Int -> List Int} {nss : List (List Int)} (hk : ∀ ns, k ns = ns.reverse) : sortK k nss (nss.map tupV) = (nss.mergeSort fun a b => dLe a.reverse b.reverse).map tupV := by
  have hz : (nss.map tupV).zip nss = nss.map fun ns => (tupV ns, ns) := by
    induction nss with
    | nil => rfl
    | cons a r ih => simp [ih]
  unfold sortK
  rw [hz, <- List.map_mergeSort (r := fun a b => dLe a.reverse b.reverse) (s := PySem.W.dataLe false fun b : Vl × List Int => .tuple ((k b.2).map .int)) (f := fun ns => (tupV ns, ns)) (fun a _ b _ => by
    show dLe a.reverse b.reverse = _
    unfold dLe PySem.W.dataLe PySem.W.sortLe
    simp only [hk]), List.map_map]
  rfl
theorem heads_len {rs : List Rch} : (heads rs).length <= rs.length := by
  unfold heads
  rw [List.length_map]
  refine Nat.le_trans (List.length_filter_le ..) ?_
  simp
theorem tupInts_all {nss : List (List Int)} : mapO tupIntsN (nss.map tupV) = some nss := by
  have := mapO_map (f := tupIntsN) (g := tupV) (h := fun ns => ns) (xs := nss) (fun ns _ => rfl)
  rw [this]
  simp
theorem key_below {ns : List Int} : keyD F_from_below ns = ns.reverse := by
  unfold keyD
  rw [from_below_key]
  rfl
theorem keys_below {nss : List (List Int)} (h : ∀ ns ∈ nss, ns ≠ []) : (nss.all fun ns => (keyOf F_from_below ns).isSome && !(keyD F_from_below ns).isEmpty) = true := by
  rw [List.all_eq_true]
  intro ns hn
  rw [key_below, from_below_key]
  have := h ns hn
  cases ns with
  | nil => exact absurd rfl this
  | cons a r => simp
theorem sort_below {Γ : En} {μ : Mem} {e : ME} {nss : List (List Int)} (h : e Γ μ = .ok (.lst (nss.map tupV)) μ) (hn : ∀ ns ∈ nss, ns ≠ []) (hz : nss.length <= cap) : fSortK F_from_below e Γ μ = .ok (.lst ((nss.mergeSort fun a b => dLe a.reverse b.reverse).map tupV)) μ := by
  have ka := keys_below hn
  unfold fSortK
  rw [h]
  simp only [s_bind_ok, s_lstL, Option.bind_some, tupInts_all]
  rw [if_pos ⟨ka, by rw [List.length_map]; exact hz⟩, sortK_eq fun _ => key_below]
  rfl
theorem und_tups {n : Nat} {nss : List (List Int)} : Vl.undA n (nss.map tupV) = true := undA_all (by
  intro x hx
  obtain ⟨r, _, rfl⟩ := List.mem_map.mp hx
  rfl)
theorem roadsU_ne {rs : List Rch} (h1 : 1 <= rs.length) : ∀ ns ∈ roadsU rs, ns ≠ [] := by
  intro ns hn
  obtain ⟨i, _, rfl⟩ := List.mem_map.mp hn
  obtain ⟨m, hm⟩ : ∃ m, rs.length = m + 1 := ⟨rs.length - 1, by omega⟩
  rw [hm]
  exact road_ne
section
variable {μ : Mem} {v : Vl} {rs : List Rch}
theorem led_ok {Γ : En} {gd : Gd} (hsrc : srcOf μ v = some (rs.map reachV, gd)) (hg : gd.ok μ) (hz : rs.length <= cap) (a b c d e : Option Vl) : fComp (iSeq (eVar 0)) (gTup 2 (gsCons (gName 1) (gsCons (gName 2) gsNil))) tYes (eVar 1) [1, 2] [some v, none, none, a, b, c, d, e] μ = .ok (.lst ((rs.map (·.1)).map .int)) μ := by
  have c1 := comp_map (g := gTup 2 (gsCons (gName 1) (gsCons (gName 2) gsNil))) (e := eVar 1) (gd := gd) (Γ := [some v, none, none, a, b, c, d, e]) (μ := μ) reachV (fun r => .int r.1) hg (xs := rs) (fun x _ => ⟨_, rfl, by simp⟩)
  have e1 : (rs.map fun r => Vl.int r.1) = (rs.map (·.1)).map .int := by simp
  rw [e1] at c1
  simp [fComp, hsrc, hz, c1]
theorem heads_ok (hv : lstOf μ v = some (rs.map reachV)) (hl : rs.length <= 1000) (a c d e : Option Vl) : fComp (iB rng1 (aCons (eB bLen (aCons (eVar 0) aNil)) aNil)) (gName 4) T1_roads (eVar 4) [4] [some v, none, none, some (.lst ((rs.map (·.1)).map .int)), none, c, d, e] μ = .ok (.lst ((heads rs).map .int)) μ := by
  have c2 := comp_if (g := gName 4) (t := T1_roads) (e := eVar 4) (gd := .free) (Γ := [some v, none, none, some (.lst ((rs.map (·.1)).map .int)), none, c, d, e]) (μ := μ) (fun k : Nat => Vl.int (k : Int)) (fun k => !decide ((k : Int) ∈ rs.map (·.1))) (fun k => .int (k : Int)) trivial (xs := List.range rs.length) (fun x _ => by
    have q := in_ints (μ := μ) (i := (x : Int)) (ns := rs.map (·.1)) (v := .lst ((rs.map (·.1)).map .int)) rfl (neg := true)
    refine ⟨_, rfl, ?_, ?_⟩
    . simp [T1_roads, q, -List.map_map]
    . intro _
      simp)
  have e2 : ((List.range rs.length).filter fun (k : Nat) => !decide ((k : Int) ∈ rs.map (fun r : Rch => r.1))).map (fun (k : Nat) => Vl.int (k : Int)) = (heads rs).map .int := by
    unfold heads
    rw [List.map_map]
    rfl
  rw [e2] at c2
  have l := len_lst hv
  rw [List.length_map] at l
  have r1 : rng1 [.int (rs.length : Int)] μ = some ((List.range rs.length).map (fun k : Nat => Vl.int (k : Int)), .free) := by
    have h15 : (rs.length : Int) < 10 ^ 15 := by omega
    rw [s_rng1 h15, Int.toNat_natCast]
    simp [ivs]
  have hz : rs.length <= cap := Nat.le_trans hl (by decide)
  simp only [fComp, s_iB, s_aCons, s_aNil, s_eB, s_eVar, s_slot0, s_of_some, s_bind_ok, l, r1, List.length_map, List.length_range, hz, if_true, s_wip1, s_wip0, List.set_cons_succ, List.set_cons_zero, c2]
theorem roads_ok (hv : lstOf μ v = some (rs.map reachV)) (hf : Falls rs) (h1 : 1 <= rs.length) (hl : rs.length <= 1000) : F_roads [v] μ = .ok (.lst ((roadsOf rs).map tupV)) μ := by
  obtain ⟨gd, hsrc, hgd⟩ := src_lst hv
  have hg : gd.ok μ := by simpa using hgd []
  have hz : rs.length <= cap := Nat.le_trans hl (by decide)
  have hz2 : (heads rs).length <= cap := Nat.le_trans heads_len hz
  have f1 := led_ok (Γ := []) hsrc hg hz none none none none none
  have f2 := heads_ok hv hl none none none none
  have c3 := comp_map (g := gName 6) (e := C2_roads) (gd := .free) (Γ := [some v, none, none, some (.lst ((rs.map (·.1)).map .int)), none, some (.lst ((heads rs).map .int)), none, none]) (μ := μ) Vl.int (fun i => tupV (road rs rs.length i)) trivial (xs := heads rs) (fun x hx => ⟨_, rfl, by
    have := road_down_ok hv hf hl (heads_lt hx).1 (heads_lt hx).2
    simp [C2_roads, this, tupV]⟩)
  have e3 : (heads rs).map (fun i => tupV (road rs rs.length i)) = (roadsU rs).map tupV := by simp [roadsU]
  rw [e3] at c3
  have lh : ((heads rs).map Vl.int).length <= cap := by rw [List.length_map]; exact hz2
  have f3 : fComp (iSeq (eVar 5)) (gName 6) tYes C2_roads [6] [some v, none, none, some (.lst ((rs.map (·.1)).map .int)), none, some (.lst ((heads rs).map .int)), none, none] μ = .ok (.lst ((roadsU rs).map tupV)) μ := by
    simp only [fComp, s_iSeq, s_eVar, s_slotS, s_slot0, s_of_some, s_bind_ok, s_srcL, lh, if_true, s_wip1, s_wip0, List.set_cons_succ, List.set_cons_zero, c3]
  have f4 := sort_below (Γ := [some v, none, none, some (.lst ((rs.map (·.1)).map .int)), none, some (.lst ((heads rs).map .int)), none, some (.lst ((roadsU rs).map tupV))]) (μ := μ) (e := eVar 7) (nss := roadsU rs) rfl (roadsU_ne h1) (by unfold roadsU; rw [List.length_map]; exact hz2)
  have go : m_roads [some v, none, none, none, none, none, none, none] μ = some (.rt (.lst ((roadsOf rs).map tupV)), μ) := by
    unfold m_roads
    simp only [s_sSeq, s_sAsg, s_eFrz, f1, s_bind_ok, s_frzL, s_st_ok, s_gName, s_gK, s_thenK, List.set_cons_succ, List.set_cons_zero, f2, f3, s_sRet, f4]
    rfl
  have u : (Vl.lst ((roadsOf rs).map tupV)).und μ.length = true := und_tups
  unfold F_roads
  rw [s_fnV, if_pos (show [v].length = 1 from rfl)]
  have ea : args 8 [v] = [some v, none, none, none, none, none, none, none] := rfl
  rw [ea, go, s_outR, u, s_gc]
end
end Q
end
section
set_option linter.all false
set_option maxRecDepth 100000
set_option maxHeartbeats 1000000
namespace Q
open PySem Fm
def along (rs : List Rch) (r : List Int) : List Int := r.flatMap (groundOf rs)
theorem along_fold (rs : List Rch) : ∀ (r : List Int) (s : List Int), r.foldl (fun s i => s ++ groundOf rs i) s = s ++ along rs r
  | [], s => by simp [along]
  | i :: r, s => by
    rw [List.foldl_cons, along_fold rs r]
    simp [along, List.append_assoc]
def Short (rs : List Rch) : Prop := ∀ r ∈ rs, r.2.length <= 1000
theorem Short.at {rs : List Rch} (h : Short rs) (i : Int) : (groundOf rs i).length <= 1000 := by
  unfold groundOf
  split
  . rename_i r e
    exact h r (List.mem_of_getElem? e)
  . simp
theorem und_ints {n : Nat} {ks : List Int} : (Vl.lst (ks.map .int)).und n = true := undA_all (by
  intro x hx
  obtain ⟨k, _, rfl⟩ := List.mem_map.mp hx
  rfl)
section
variable {μ : Mem} {v : Vl} {rs : List Rch}
theorem ground_of_okW {w : Vl} {r : List Int} (hw : srcOf μ w = some (r.map .int, .free)) (hv : lstOf μ v = some (rs.map reachV)) (hs : Short rs) (hr : ∀ i ∈ r, 0 <= i /\ i < rs.length) (hl : r.length <= 1000) : F_ground_of [v, w] μ = .ok (.lst ((along rs r).map .int)) μ := by
  have lp := for_foldP (g := gName 3) (b := B1_ground_of) (gd := .free) (ws := [3]) (μ := μ) Vl.int (fun s : List Int => [some v, some w, some (.lst (s.map .int)), none]) (fun s i => s ++ groundOf rs i) (fun rest s => s.length + rest.length * 1000 <= 1000000 /\ ∀ i ∈ rest, 0 <= i /\ i < rs.length) trivial
    (fun i rest s ⟨h1, h2⟩ => by
      obtain ⟨i0, i1⟩ := h2 i List.mem_cons_self
      have g := hs.at i
      have ar := at_reach i0 i1
      rw [List.length_cons] at h1
      have ad : gAdd (.lst (s.map .int)) (.lst ((groundOf rs i).map .int)) μ = some (.lst ((s ++ groundOf rs i).map .int)) := by
        rw [add_lst (by simp; omega), List.map_append]
      refine ⟨_, rfl, ⟨[some v, some w, some (.lst ((s ++ groundOf rs i).map .int)), some (.int i)], ?_, rfl⟩, ?_, fun j hj => h2 j (List.mem_cons_of_mem _ hj)⟩
      . simp [B1_ground_of, seq_lst hv, ar, ad, -List.map_append]
      . rw [List.length_append]
        omega) (xs := r) (s := []) ⟨by simp; omega, hr⟩
  rw [along_fold, List.nil_append] at lp
  simp only [List.map_nil] at lp
  have st := hw
  simp [F_ground_of, m_ground_of, st, lp, und_ints]
theorem road_in {rs : List Rch} (hf : Falls rs) : ∀ (n : Nat) {i : Int}, 0 <= i -> i < rs.length -> ∀ j ∈ road rs n i, 0 <= j /\ j < rs.length
  | 0, _, _, _, j, h => by simp [road] at h
  | n + 1, i, h0, h1, j, h => by
    unfold road at h
    split at h
    . have : j = i := by simpa using h
      subst this
      exact ⟨h0, h1⟩
    . rename_i ne
      rcases List.mem_cons.mp h with rfl | h
      . exact ⟨h0, h1⟩
      . rcases hf.to h0 h1 with ⟨_, e⟩ | ⟨_, t0, t1⟩
        . exact absurd e ne
        . exact road_in hf n t0 (by omega) j h
theorem road_le {rs : List Rch} : ∀ (n : Nat) {i : Int}, (road rs n i).length <= n
  | 0, _ => by simp [road]
  | n + 1, i => by
    unfold road
    split
    . simp
    . have := road_le (rs := rs) n (i := toOf rs i)
      simp
      omega
theorem roads_mem {r : List Int} (h : r ∈ roadsOf rs) : ∃ i ∈ heads rs, r = road rs rs.length i := by
  obtain ⟨i, h1, h2⟩ := List.mem_map.mp (roads_perm.mem_iff.mp h)
  exact ⟨i, h1, h2.symm⟩
theorem roads_in (hf : Falls rs) {r : List Int} (h : r ∈ roadsOf rs) : (∀ i ∈ r, 0 <= i /\ i < rs.length) /\ r.length <= rs.length := by
  obtain ⟨i, h1, rfl⟩ := roads_mem h
  exact ⟨road_in hf _ (heads_lt h1).1 (heads_lt h1).2, road_le _⟩
theorem roads_len : (roadsOf rs).length = (heads rs).length := by rw [roads_perm.length_eq]; simp [roadsU]
def rsIx : Nat -> List Rch -> List (Nat × Rch)
  | _, [] => []
  | n, r :: t => (n, r) :: rsIx (n + 1) t
theorem rsIx_mem : ∀ {n : Nat} {rs : List Rch} {p : Nat × Rch}, p ∈ rsIx n rs -> ∃ k, p.1 = n + k /\ rs[k]? = some p.2
  | n, r :: t, p, h => by
    rcases List.mem_cons.mp h with rfl | h
    . exact ⟨0, rfl, rfl⟩
    . obtain ⟨k, h1, h2⟩ := rsIx_mem h
      exact ⟨k + 1, by omega, by simpa using h2⟩
def reachesB (rs : List Rch) : Bool := ((rsIx 0 rs).map fun p => reachB p.1 p.2).all id
def lanesB (rs : List Rch) : Bool := decide ((heads rs).length <= 6) && ((roadsOf rs).map fun r => decide ((along rs r).length <= 30)).all id
def valleyB (rs : List Rch) : Bool := decide (1 <= rs.length /\ rs.length <= 8) && (reachesB rs && lanesB rs)
end
end Q
end
section
set_option linter.all false
set_option maxRecDepth 100000
set_option maxHeartbeats 1000000
namespace Q
open PySem Fm
def lstI (r : List Int) : Vl := .lst (r.map .int)
section
variable {μ : Mem} {v : Vl} {rs : List Rch}
theorem app_loop {Γ : En} {xs : List Int} {acc : List Vl} {a b : Option Vl} {w : Vl} (hz : acc.length + xs.length <= 1000000) : forGo (gName 4) B1_l_ground .free [4] (xs.map .int) [a, b, some (.ref μ.length), some w, none] (μ ++ [some (.lst acc)]) = some (.nx [a, b, some (.ref μ.length), some w, none], μ ++ [some (.lst (acc ++ xs.map .int))]) := by
  have lp := for_foldM (g := gName 4) (b := B1_l_ground) (gd := .free) (ws := [4]) Vl.int (fun _ : List Vl => [a, b, some (.ref μ.length), some w, none]) (fun s => μ ++ [some (.lst s)]) (fun s i => s ++ [.int i]) (fun rest s => s.length + rest.length <= 1000000) (fun _ _ _ => trivial)
    (fun i rest s h => by
      rw [List.length_cons] at h
      have hc : s.length < cap := by show _ < 10000000; omega
      refine ⟨_, rfl, ⟨[a, b, some (.ref μ.length), some w, some (.int i)], ?_, rfl⟩, ?_⟩
      . simp [B1_l_ground, hc]
      . simp
        omega) (xs := xs) (s := acc) hz
  have e : ∀ (xs : List Int) (acc : List Vl), xs.foldl (fun s i => s ++ [Vl.int i]) acc = acc ++ xs.map .int := by
    intro xs
    induction xs with
    | nil => intro acc; simp
    | cons x r ih => intro acc; rw [List.foldl_cons, ih]; simp
  rw [e] at lp
  exact lp
theorem pure_ints {ks : List Int} : ∀ x ∈ ks.map Vl.int, Pure x := by
  intro x hx
  obtain ⟨k, _, rfl⟩ := List.mem_map.mp hx
  exact pure_int
theorem l_ground_ok (hv : lstOf μ v = some (rs.map reachV)) (hs : Short rs) {r : List Int} (hr : ∀ i ∈ r, 0 <= i /\ i < rs.length) (hl : r.length <= 900) : F_l_ground [v, lstI r] μ = .ok (lstI (along rs r)) μ := by
  have hv' : lstOf (μ ++ [some (.lst [])]) v = some (rs.map reachV) := lst_app hv
  have lp := for_foldM (g := gName 3) (b := B2_l_ground) (gd := .free) (ws := [3, 4]) Vl.int (fun _ : List Int => [some v, some (lstI r), some (.ref μ.length), none, none]) (fun s => μ ++ [some (.lst (s.map .int))]) (fun s i => s ++ groundOf rs i) (fun rest s => s.length + rest.length * 1000 <= 900000 /\ ∀ i ∈ rest, 0 <= i /\ i < rs.length) (fun _ _ _ => trivial)
    (fun i rest s ⟨h1, h2⟩ => by
      obtain ⟨i0, i1⟩ := h2 i List.mem_cons_self
      have g := hs.at i
      have ar := at_reach i0 i1
      rw [List.length_cons] at h1
      have hv2 := seq_lst (lst_app (ν := [some (.lst (s.map .int))]) hv)
      have al := app_loop (μ := μ) (Γ := []) (xs := groundOf rs i) (acc := s.map .int) (a := some v) (b := some (lstI r)) (w := .int i) (by simp; omega)
      refine ⟨_, rfl, ⟨[some v, some (lstI r), some (.ref μ.length), some (.int i), none], ?_, rfl⟩, ?_, fun j hj => h2 j (List.mem_cons_of_mem _ hj)⟩
      . simp [B2_l_ground, hv2, ar, al]
      . rw [List.length_append]
        omega) (xs := r) (s := []) ⟨by simp; omega, hr⟩
  rw [along_fold, List.nil_append] at lp
  simp only [List.map_nil] at lp
  have de := fun Γ => deep_end (Γ := Γ) (μ := μ) (xs := (along rs r).map .int) pure_ints (e := eVar 2)
  have st : ∀ μ', srcOf μ' (lstI r) = some (r.map .int, .free) := fun _ => rfl
  have de' := de [some v, some (lstI r), some (.ref μ.length), none, none] (by simp)
  simp [F_l_ground, m_l_ground, st, lp, de', und_ints]
  rfl
theorem up_loop {a b c d e : Option Vl} (hv : lstOf μ v = some (rs.map reachV)) (hf : Falls rs) (hl : rs.length <= 1000) : ∀ (n k : Nat) (acc : List Int) (i : Int), 0 <= i -> i < rs.length -> i < n -> i < k -> acc.length + i.toNat <= 5000 ->
    whileGo (tB (eOp gNe (eOp gIx (eOp gIx (eVar 0) (eOp gIx (eVar 6) (eC (.int 0)))) (eC (.int 0))) (eOp gSub (eC (.int 0)) (eC (.int 1))))) B1_l_roads [] n [some v, a, b, c, d, e, some (lstI (i :: acc))] μ
      = some (.nx [some v, a, b, c, d, e, some (lstI ((road rs k i).reverse ++ acc))], μ)
  | 0, _, _, _, h0, _, hn, _, _ => by omega
  | _, 0, _, _, h0, _, _, hk, _ => by omega
  | n + 1, k + 1, acc, i, h0, h1, hn, hk, hc => by
    have sq := seq_lst hv
    have ar := at_reach h0 h1
    unfold road
    rcases hf.to h0 h1 with ⟨rfl, e0⟩ | ⟨hp, t0, t1⟩
    . rw [if_pos e0]
      simp [whileGo, sq, ar, e0, lstI]
    . have ne : toOf rs i ≠ -1 := by omega
      rw [if_neg ne]
      have ih := up_loop (a := a) (b := b) (c := c) (d := d) (e := e) hv hf hl n k (i :: acc) (toOf rs i) t0 (by omega) (by omega) (by omega) (by simp; omega)
      have e2 : (road rs k (toOf rs i)).reverse ++ i :: acc = (i :: road rs k (toOf rs i)).reverse ++ acc := by simp
      rw [e2] at ih
      refine Eq.trans ?_ ih
      conv => lhs; unfold whileGo
      have ad : gAdd (.lst [.int (toOf rs i)]) (lstI (i :: acc)) μ = some (lstI (toOf rs i :: i :: acc)) := by
        show gAdd (.lst [.int (toOf rs i)]) (.lst _) μ = _
        rw [add_lst (by simp; omega)]
        rfl
      have sL : seqOf μ (lstI (i :: acc)) = some (.int i :: acc.map .int) := rfl
      simp [sq, sL, ar, ne, B1_l_roads, ad]
def lRoad (rs : List Rch) (s : List (List Int) × Option Vl) (k : Nat) : List (List Int) × Option Vl := if (k : Int) ∈ rs.map (·.1) then s else (s.1 ++ [(road rs rs.length (k : Int)).reverse], some (lstI (road rs rs.length (k : Int)).reverse))
theorem lRoad_fold (rs : List Rch) : ∀ (ks : List Nat) (s : List (List Int) × Option Vl), (ks.foldl (lRoad rs) s).1 = s.1 ++ (((ks.filter fun (k : Nat) => !decide ((k : Int) ∈ rs.map (·.1))).map fun (k : Nat) => (k : Int)).map (road rs rs.length)).map List.reverse
  | [], s => by simp
  | k :: r, s => by
    rw [List.foldl_cons, lRoad_fold rs r]
    unfold lRoad
    by_cases h : (k : Int) ∈ rs.map (·.1)
    . rw [if_pos h, List.filter_cons, if_neg (by simp [h])]
    . rw [if_neg h, List.filter_cons, if_pos (by simp [h])]
      simp
theorem py_ints {n : Nat} {μ : Mem} {r : List Int} : pyV (n + 2) μ (lstI r) = some (.list (r.map .int)) := by
  have := mapO_map (f := pyV (n + 1) μ) (g := Vl.int) (h := PyData.int) (xs := r) (fun _ _ => rfl)
  show (mapO (pyV (n + 1) μ) (r.map .int)).bind _ = _
  rw [this]
  rfl
theorem alike_ints : ∀ (a b : List Int), PySem.W.alikeAll (a.map .int) (b.map .int) = true
  | [], _ => by cases ‹List Int› <;> rfl
  | _ :: _, [] => rfl
  | x :: a, y :: b => by
    simp only [List.map_cons, PySem.W.alikeAll, PySem.W.alike, alike_ints a b, Bool.and_self]
theorem sort_lists {μ : Mem} {w : Vl} {nss : List (List Int)} (h : lstOf μ w = some ((nss.map List.reverse).map lstI)) (hz : nss.length <= cap) : bSorted [w] μ = some (.lst ((nss.mergeSort fun a b => dLe a.reverse b.reverse).map fun r => lstI r.reverse)) := by
  have hm : mapO (pyV depthP μ) ((nss.map List.reverse).map lstI) = some ((nss.map List.reverse).map fun r => PyData.list (r.map .int)) := mapO_map (g := lstI) (fun r _ => py_ints (n := 7))
  have hp : ∀ d ∈ (nss.map List.reverse).map (fun r => PyData.list (r.map .int)), ∃ r : List Int, d = .list (r.map .int) := by
    intro d hd
    obtain ⟨r, _, rfl⟩ := List.mem_map.mp hd
    exact ⟨r, rfl⟩
  have c : PySem.W.AllAlike ((nss.map List.reverse).map fun r => PyData.list (r.map .int)) /\ PySem.W.Sortable ((nss.map List.reverse).map fun r => PyData.list (r.map .int)) /\ (∀ d ∈ (nss.map List.reverse).map (fun r => PyData.list (r.map .int)), d.depth <= 9) /\ ((nss.map List.reverse).map lstI).length <= cap := by
    refine ⟨fun d hd d' hd' => ?_, .inr fun d hd => ?_, fun d hd => ?_, by simpa using hz⟩
    . obtain ⟨a, rfl⟩ := hp d hd
      obtain ⟨b, rfl⟩ := hp d' hd'
      simp only [PySem.W.alike]
      exact alike_ints a b
    . obtain ⟨a, rfl⟩ := hp d hd
      exact ⟨fun z => (by cases z), fun xs z => (by cases z)⟩
    . obtain ⟨a, rfl⟩ := hp d hd
      exact pyV_depth 9 _ _ (py_ints (n := 7) (μ := []) (r := a))
  simp only [bSorted, h, Option.bind_some, hm]
  rw [if_pos c]
  congr 2
  have hz : ((nss.map List.reverse).map lstI).zip ((nss.map List.reverse).map fun r => PyData.list (r.map .int)) = nss.map fun r => (lstI r.reverse, PyData.list (r.reverse.map .int)) := by
    clear hm hp c h hz
    induction nss with
    | nil => rfl
    | cons a r ih =>
      simp only [List.map_cons, List.zip_cons_cons]
      rw [ih]
  unfold sortBy
  rw [hz, <- List.map_mergeSort (r := fun a b => dLe a.reverse b.reverse) (s := PySem.W.dataLe false fun b : Vl × PyData => b.2) (f := fun r : List Int => (lstI r.reverse, PyData.list (r.reverse.map PyData.int))) (fun a _ b _ => by
    show dLe a.reverse b.reverse = _
    unfold dLe PySem.W.dataLe PySem.W.sortLe
    simp only [PySem.W.keyToks]), List.map_map]
  rfl
theorem und_lsts {n : Nat} {nss : List (List Int)} : (Vl.lst (nss.map lstI)).und n = true := undA_all (by
  intro x hx
  obtain ⟨r, _, rfl⟩ := List.mem_map.mp hx
  exact und_ints)
theorem l_roads_ok (hv : lstOf μ v = some (rs.map reachV)) (hf : Falls rs) (h1 : 1 <= rs.length) (hl : rs.length <= 1000) : F_l_roads [v] μ = .ok (.lst ((roadsOf rs).map lstI)) μ := by
  obtain ⟨gd, hsrc, hgd⟩ := src_lst hv
  have hg : gd.ok μ := by simpa using hgd []
  have hz : rs.length <= cap := Nat.le_trans hl (by decide)
  have c1 := comp_map (g := gTup 2 (gsCons (gName 1) (gsCons (gName 2) gsNil))) (e := eVar 1) (gd := gd) (Γ := [some v, none, none, none, none, none, none]) (μ := μ) reachV (fun r => .int r.1) hg (xs := rs) (fun x _ => ⟨_, rfl, by simp⟩)
  have e1 : (rs.map fun r => Vl.int r.1) = (rs.map (·.1)).map .int := by simp
  rw [e1] at c1
  have hv' : ∀ ν, lstOf (μ ++ ν) v = some (rs.map reachV) := fun ν => lst_app hv
  have lp := for_foldM (g := gName 5) (b := B2_l_roads) (gd := .free) (ws := [5]) (fun k : Nat => Vl.int (k : Int)) (fun s : List (List Int) × Option Vl => [some v, none, none, some (.lst ((rs.map (·.1)).map .int)), some (.ref μ.length), none, s.2]) (fun s => μ ++ [some (.lst (s.1.map lstI))]) (lRoad rs)
    (fun rest s => s.1.length + rest.length <= 10000 /\ ∀ k ∈ rest, k < rs.length) (fun _ _ _ => trivial) (fun k rest s ⟨p1, p2⟩ => by
      have kl := p2 k List.mem_cons_self
      rw [List.length_cons] at p1
      have q := in_ints (μ := μ ++ [some (.lst (s.1.map lstI))]) (i := (k : Int)) (ns := rs.map (·.1)) (v := .lst ((rs.map (·.1)).map .int)) rfl (neg := true)
      unfold lRoad
      by_cases h : (k : Int) ∈ rs.map (·.1)
      . rw [if_pos h]
        refine ⟨_, rfl, ⟨[some v, none, none, some (.lst ((rs.map (·.1)).map .int)), some (.ref μ.length), some (.int k), s.2], ?_, rfl⟩, by omega, fun j hj => p2 j (List.mem_cons_of_mem _ hj)⟩
        simp only [h, decide_true, Bool.not_true, if_true] at q
        simp [B2_l_roads, q, -List.map_map]
      . rw [if_neg h]
        have wl := up_loop (a := none) (b := none) (c := some (.lst ((rs.map (·.1)).map .int))) (d := some (.ref μ.length)) (e := some (.int k)) (hv' [some (.lst (s.1.map lstI))]) hf hl 100000 rs.length [] (k : Int) (by omega) (by omega) (by omega) (by omega) (by simp; omega)
        rw [List.append_nil] at wl
        have hc : s.1.length < cap := by show _ < 10000000; omega
        refine ⟨_, rfl, ⟨[some v, none, none, some (.lst ((rs.map (·.1)).map .int)), some (.ref μ.length), some (.int k), some (lstI (road rs rs.length (k : Int)).reverse)], ?_, rfl⟩, ?_, fun j hj => p2 j (List.mem_cons_of_mem _ hj)⟩
        . simp only [h, decide_false, Bool.not_false, if_true] at q
          have l0 : lstI [(k : Int)] = .lst [.int k] := rfl
          rw [l0] at wl
          simp [B2_l_roads, q, sWhile, wl, hc, -List.map_map, -List.map_reverse]
        . simp
          omega) (xs := List.range rs.length) (s := ([], none)) ⟨by simp; omega, fun k hk => List.mem_range.mp hk⟩
  have ef := lRoad_fold rs (List.range rs.length) ([], none)
  have eh : (((List.range rs.length).filter fun (k : Nat) => !decide ((k : Int) ∈ rs.map (·.1))).map fun (k : Nat) => (k : Int)).map (road rs rs.length) = roadsU rs := rfl
  rw [eh, List.nil_append] at ef
  generalize hs : (List.range rs.length).foldl (lRoad rs) ([], none) = s at lp ef
  obtain ⟨s1, s2⟩ := s
  simp only at ef
  subst ef
  have hz2 : (roadsU rs).length <= cap := by unfold roadsU; rw [List.length_map]; exact Nat.le_trans heads_len hz
  have so := sort_lists (μ := μ ++ [some (.lst (((roadsU rs).map List.reverse).map lstI))]) (w := .ref μ.length) (nss := roadsU rs) (by simp) hz2
  have e5 : ((roadsU rs).mergeSort fun a b => dLe a.reverse b.reverse) = roadsOf rs := rfl
  rw [e5] at so
  have c3 := comp_map (g := gName 6) (e := C3_l_roads) (gd := .free) (Γ := [some v, none, none, some (.lst ((rs.map (·.1)).map .int)), some (.ref μ.length), none, none]) (μ := μ ++ [some (.lst (((roadsU rs).map List.reverse).map lstI))]) (fun r : List Int => lstI r.reverse) (fun r => lstI r) trivial (xs := roadsOf rs) (fun r _ => ⟨_, rfl, by
    have e6 : (lstI r.reverse) = .lst (r.map .int).reverse := by unfold lstI; rw [List.map_reverse]
    rw [e6]
    simp [C3_l_roads, lstI, -List.map_reverse]⟩)
  have l := len_lst hv
  rw [List.length_map] at l
  have l' := len_lst (hv' [some (.lst [])])
  rw [List.length_map] at l'
  have r1 : ∀ μ', rng1 [.int (rs.length : Int)] μ' = some ((List.range rs.length).map (fun k : Nat => Vl.int (k : Int)), .free) := fun μ' => by
    have h15 : (rs.length : Int) < 10 ^ 15 := by omega
    rw [s_rng1 h15, Int.toNat_natCast]
    simp [ivs]
  have hz3 : (roadsOf rs).length <= cap := by rw [roads_perm.length_eq]; exact hz2
  have lp2 : forGo (gName 5) B2_l_roads .free [5] ((List.range rs.length).map fun k : Nat => Vl.int (k : Int)) [some v, none, none, some (.lst ((rs.map (·.1)).map .int)), some (.ref μ.length), none, none] (μ ++ [some (.lst [])]) = some (.nx [some v, none, none, some (.lst ((rs.map (·.1)).map .int)), some (.ref μ.length), none, s2], μ ++ [some (.lst (((roadsU rs).map List.reverse).map lstI))]) := lp
  have f1 : fComp (iSeq (eVar 0)) (gTup 2 (gsCons (gName 1) (gsCons (gName 2) gsNil))) tYes (eVar 1) [1, 2] [some v, none, none, none, none, none, none] μ = .ok (.lst ((rs.map (·.1)).map .int)) μ := by
    simp only [fComp, s_iSeq, s_eVar, s_slot0, s_of_some, s_bind_ok, hsrc, List.length_map, hz, if_true, s_wip1, s_wip0, List.set_cons_succ, List.set_cons_zero, c1]
  have go : m_l_roads [some v, none, none, none, none, none, none] μ = some (.rt (.lst ((roadsOf rs).map lstI)), μ ++ [some (.lst (((roadsU rs).map List.reverse).map lstI))]) := by
    unfold m_l_roads
    simp only [s_sSeq, s_sAsg, s_eFrz, hsrc, hz, c1, s_bind_ok, s_frzL, s_st_ok, s_gName, s_gK, s_thenK, List.set_cons_succ, List.set_cons_zero, s_eNew, s_fLst, s_aNil, s_fits0, s_oK, s_sFor, s_iB, s_aCons, s_eB, s_eVar, s_slot0, s_of_some, l', r1, s_wip1, s_wip0, lp2, s_sRet, fComp, s_iSeq, s_fB, s_slotS, so, s_srcL, List.length_map, hz3, if_true, c3]
  have u : (Vl.lst ((roadsOf rs).map lstI)).und μ.length = true := und_lsts
  unfold F_l_roads
  rw [s_fnV, if_pos (show [v].length = 1 from rfl)]
  have ea : args 7 [v] = [some v, none, none, none, none, none, none] := rfl
  rw [ea, go, s_outR, u, gc_end]
end
end Q
end
section
set_option linter.all false
set_option maxRecDepth 100000
set_option maxHeartbeats 4000000
namespace Q
open PySem Fm
theorem le_self {x : Int} {a b : List Int} : dLe (x :: a) (x :: b) = dLe a b := by
  unfold dLe PySem.W.dataLe PySem.W.sortLe
  simp only [cond_false, List.map_cons, PySem.W.keyToks, PySem.W.keyToksAll]
  congr 1
  show PyProof.Rows.lexLt PyProof.Rows.itemOrd _ _ = PyProof.Rows.lexLt PyProof.Rows.itemOrd _ _
  rw [PyProof.Rows.lex_self, List.singleton_append, List.singleton_append, PyProof.Rows.lex_self]
theorem le_diff {x y : Int} {a b : List Int} (h : x ≠ y) : dLe (x :: a) (y :: b) = !decide (y < x) := by
  unfold dLe PySem.W.dataLe PySem.W.sortLe
  simp only [cond_false, List.map_cons, PySem.W.keyToks, PySem.W.keyToksAll]
  congr 1
  show PyProof.Rows.lexLt PyProof.Rows.itemOrd _ _ = _
  rw [PyProof.Rows.lex_self, List.singleton_append, List.singleton_append, PyProof.Rows.lex_diff (fun z => h (Sum.inl.inj z).symm)]
  rfl
theorem le_nil {x : Int} {a : List Int} : dLe (x :: a) [] = false := by
  unfold dLe PySem.W.dataLe PySem.W.sortLe
  simp only [cond_false, List.map_cons, List.map_nil, PySem.W.keyToks, PySem.W.keyToksAll]
  show (!PyProof.Rows.lexLt PyProof.Rows.itemOrd _ _) = _
  rw [PyProof.Rows.lex_diff (by decide)]
  rfl
theorem between : ∀ (P : List Int) {a b c : List Int}, P <+: a -> P <+: c -> dLe a b = true -> dLe b c = true -> P <+: b
  | [], _, _, _, _, _, _, _ => List.nil_prefix
  | x :: P, a, b, c, ha, hc, h1, h2 => by
    obtain ⟨a', rfl⟩ := ha
    obtain ⟨c', rfl⟩ := hc
    rw [List.cons_append] at h1 h2
    cases b with
    | nil =>
      rw [le_nil] at h1
      cases h1
    | cons y b =>
      by_cases e : x = y
      . subst e
        rw [le_self] at h1 h2
        obtain ⟨t, rfl⟩ := between P ⟨a', rfl⟩ ⟨c', rfl⟩ h1 h2
        exact ⟨t, rfl⟩
      . rw [le_diff e] at h1
        rw [le_diff (Ne.symm e)] at h2
        simp at h1 h2
        omega
theorem roads_sorted {rs : List Rch} : (roadsOf rs).Pairwise fun a b => dLe a.reverse b.reverse = true := by
  have T := PySem.W.sortLe_total (PyProof.Rows.listOrd PyProof.Rows.itemOrd) false (fun b : List Int => PySem.W.keyToks (.tuple (b.reverse.map .int)))
  exact List.pairwise_mergeSort (fun a b c => T.trans a b c) (fun a b => by rw [Bool.or_eq_true]; exact T.total a b) _
theorem road_stable {rs : List Rch} (hf : Falls rs) : ∀ (n m : Nat) {i : Int}, 0 <= i -> i < rs.length -> i < n -> i < m -> road rs n i = road rs m i
  | 0, _, _, h0, _, hn, _ => by omega
  | _, 0, _, h0, _, _, hm => by omega
  | n + 1, m + 1, i, h0, h1, hn, hm => by
    unfold road
    rcases hf.to h0 h1 with ⟨_, e⟩ | ⟨hp, t0, t1⟩
    . rw [if_pos e, if_pos e]
    . rw [if_neg (by omega), if_neg (by omega), road_stable hf n m t0 (by omega) (by omega) (by omega)]
theorem road_tail {rs : List Rch} (hf : Falls rs) : ∀ (n : Nat) {i x : Int}, 0 <= i -> i < rs.length -> i < n -> n <= rs.length -> x ∈ road rs n i -> road rs rs.length x <:+ road rs n i
  | 0, _, _, h0, _, hn, _, _ => by omega
  | n + 1, i, x, h0, h1, hn, hz, h => by
    by_cases e : x = i
    . subst e
      rw [road_stable hf (n + 1) rs.length h0 h1 hn (by omega)]
      exact List.suffix_refl _
    . rcases hf.to h0 h1 with ⟨_, e0⟩ | ⟨hp, t0, t1⟩
      . unfold road at h
        rw [if_pos e0] at h
        exact absurd (by simpa using h) e
      . have e2 : road rs (n + 1) i = i :: road rs n (toOf rs i) := by
          conv => lhs; unfold road
          rw [if_neg (by omega)]
        rw [e2] at h ⊢
        rcases List.mem_cons.mp h with h | h
        . exact absurd h e
        . exact (road_tail hf n t0 (by omega) (by omega) (by omega) h).trans (List.suffix_cons _ _)
theorem road_self {rs : List Rch} {x : Int} (h : 1 <= rs.length) : x ∈ road rs rs.length x := by
  obtain ⟨m, hm⟩ : ∃ m, rs.length = m + 1 := ⟨rs.length - 1, by omega⟩
  rw [hm]
  unfold road
  split <;> simp
theorem on_road {rs : List Rch} (hf : Falls rs) (h1 : 1 <= rs.length) {r : List Int} (hr : r ∈ roadsOf rs) {x : Int} : x ∈ r <-> (road rs rs.length x).reverse <+: r.reverse := by
  obtain ⟨i, hi, rfl⟩ := roads_mem hr
  obtain ⟨a, b⟩ := heads_lt hi
  rw [List.reverse_prefix]
  exact ⟨fun h => road_tail hf _ a b b (Nat.le_refl _) h, fun h => h.subset (road_self h1)⟩
theorem no_gap {p : Nat -> Bool} : ∀ (n : Nat), (∀ i j k, i < j -> j < k -> k < n -> p i = true -> p k = true -> p j = true) -> ∃ a m, (List.range n).filter p = (List.range m).map fun s => a + s
  | 0, _ => ⟨0, 0, rfl⟩
  | n + 1, h => by
    obtain ⟨a, m, e⟩ := no_gap n fun i j k h1 h2 h3 => h i j k h1 h2 (by omega)
    rw [List.range_succ, List.filter_append, e]
    by_cases c : p n = true
    . rw [List.filter_cons, if_pos c, List.filter_nil]
      cases m with
      | zero => exact ⟨n, 1, by simp⟩
      | succ m =>
        have q : a + m ∈ (List.range n).filter p := by rw [e]; exact List.mem_map.mpr ⟨m, by simp, rfl⟩
        obtain ⟨q1, q2⟩ := List.mem_filter.mp q
        have q1 := List.mem_range.mp q1
        have z : a + (m + 1) = n := by
          by_cases w : a + (m + 1) < n
          . have : a + (m + 1) ∈ (List.range n).filter p := List.mem_filter.mpr ⟨List.mem_range.mpr w, h (a + m) _ n (by omega) w (by omega) q2 c⟩
            rw [e] at this
            obtain ⟨s, s1, s2⟩ := List.mem_map.mp this
            have := List.mem_range.mp s1
            omega
          . omega
        refine ⟨a, m + 2, ?_⟩
        rw [List.range_succ (n := m + 1), List.map_append]
        simp [z]
    . rw [List.filter_cons, if_neg c, List.filter_nil, List.append_nil]
      exact ⟨a, m, rfl⟩
def acr (rs : List Rch) (x : Int) : List Nat := (List.range (roadsOf rs).length).filter fun k => decide (x ∈ (roadsOf rs).getD k [])
theorem acr_run {rs : List Rch} (hf : Falls rs) (h1 : 1 <= rs.length) (x : Int) : ∃ a m, acr rs x = (List.range m).map fun s => a + s := by
  refine no_gap _ fun i j k h1' h2 h3 hi hk => ?_
  have g : ∀ n, n < (roadsOf rs).length -> (roadsOf rs).getD n [] ∈ roadsOf rs := fun n hn => by
    rw [List.getD_eq_getElem?_getD, List.getElem?_eq_getElem hn]
    exact List.getElem_mem hn
  have o : ∀ n m, n < m -> m < (roadsOf rs).length -> dLe ((roadsOf rs).getD n []).reverse ((roadsOf rs).getD m []).reverse = true := fun n m hn hm => by
    have := List.pairwise_iff_getElem.mp (roads_sorted (rs := rs)) n m (by omega) hm hn
    rw [List.getD_eq_getElem?_getD, List.getD_eq_getElem?_getD, List.getElem?_eq_getElem hm, List.getElem?_eq_getElem (show n < (roadsOf rs).length by omega)]
    exact this
  have hi := of_decide_eq_true hi
  have hk := of_decide_eq_true hk
  refine decide_eq_true ?_
  rw [on_road hf h1 (g _ (by omega))] at hi hk ⊢
  exact between _ hi hk (o i j h1' (by omega)) (o j k h2 h3)
end Q
end
section
set_option linter.all false
set_option maxRecDepth 100000
set_option maxHeartbeats 1000000
namespace Q
open PySem Fm
section
variable {rs : List Rch} {r : Rch}
theorem toOf_app {i : Int} (h0 : 0 <= i) (h : i < rs.length) : toOf (rs ++ [r]) i = toOf rs i := by
  unfold toOf
  rw [List.getElem?_append_left (by omega)]
theorem groundOf_app {i : Int} (h0 : 0 <= i) (h : i < rs.length) : groundOf (rs ++ [r]) i = groundOf rs i := by
  unfold groundOf
  rw [List.getElem?_append_left (by omega)]
theorem toOf_end : toOf (rs ++ [r]) rs.length = r.1 := by
  unfold toOf
  rw [Int.toNat_natCast, List.getElem?_append_right (Nat.le_refl _)]
  simp
theorem groundOf_end : groundOf (rs ++ [r]) rs.length = r.2 := by
  unfold groundOf
  rw [Int.toNat_natCast, List.getElem?_append_right (Nat.le_refl _)]
  simp
theorem Falls.app (h : Falls rs) (hr : toB rs.length r.1 = true) : Falls (rs ++ [r]) := by
  intro i x e
  by_cases hi : i < rs.length
  . rw [List.getElem?_append_left hi] at e
    exact h i x e
  . have l := (List.getElem?_eq_some_iff.mp e).1
    rw [List.length_append] at l
    have : i = rs.length := by simp at l; omega
    subst this
    rw [List.getElem?_append_right (Nat.le_refl _)] at e
    simp at e
    subst e
    exact hr
theorem road_app (hf : Falls rs) : ∀ (k : Nat) {i : Int}, 0 <= i -> i < rs.length -> road (rs ++ [r]) k i = road rs k i
  | 0, _, _, _ => rfl
  | k + 1, i, h0, h1 => by
    unfold road
    rw [toOf_app h0 h1]
    split
    . rfl
    . rename_i ne
      rcases hf.to h0 h1 with ⟨_, e⟩ | ⟨_, t0, t1⟩
      . exact absurd e ne
      . rw [road_app hf k t0 (by omega)]
theorem road_fuel (hf : Falls rs) : ∀ (k j : Nat) {i : Int}, 0 <= i -> i < rs.length -> i < k -> i < j -> road rs k i = road rs j i
  | 0, _, _, h0, _, hk, _ => by omega
  | _, 0, _, h0, _, _, hj => by omega
  | k + 1, j + 1, i, h0, h1, hk, hj => by
    unfold road
    split
    . rfl
    . rename_i ne
      rcases hf.to h0 h1 with ⟨_, e⟩ | ⟨_, t0, t1⟩
      . exact absurd e ne
      . rw [road_fuel hf k j t0 (by omega) (by omega) (by omega)]
theorem along_app (hr : ∀ i ∈ l, 0 <= i /\ i < (rs.length : Int)) : along (rs ++ [r]) l = along rs l := by
  induction l with
  | nil => rfl
  | cons i t ih =>
    unfold along at ih ⊢
    rw [List.flatMap_cons, List.flatMap_cons, ih fun j hj => hr j (List.mem_cons_of_mem _ hj)]
    obtain ⟨h0, h1⟩ := hr i List.mem_cons_self
    rw [groundOf_app h0 h1]
def dp (rs : List Rch) (i : Int) : Nat := (along rs (road rs rs.length i)).length
theorem dp_app (hf : Falls rs) {i : Int} (h0 : 0 <= i) (h1 : i < rs.length) : dp (rs ++ [r]) i = dp rs i := by
  unfold dp
  rw [road_app hf _ h0 h1, road_fuel hf _ rs.length h0 h1 (by simp; omega) h1, along_app (road_in hf _ h0 h1)]
theorem dp_end (hf : Falls rs) (h0 : 0 <= r.1) (h1 : r.1 < rs.length) : dp (rs ++ [r]) rs.length = r.2.length + dp rs r.1 := by
  unfold dp
  rw [List.length_append]
  have e0 : road (rs ++ [r]) (rs.length + [r].length) rs.length = (rs.length : Int) :: road rs rs.length r.1 := by
    rw [<- road_app (r := r) hf _ h0 h1]
    show road (rs ++ [r]) (rs.length + 1) rs.length = _
    conv => lhs; unfold road
    rw [toOf_end, if_neg (by omega)]
  rw [e0]
  have e : along (rs ++ [r]) ((rs.length : Int) :: road rs rs.length r.1) = r.2 ++ along rs (road rs rs.length r.1) := by
    have := along_app (r := r) (road_in hf rs.length h0 h1)
    unfold along at this ⊢
    rw [List.flatMap_cons, groundOf_end, this]
  rw [e, List.length_append]
theorem heads_mem {i : Int} : i ∈ heads rs <-> (0 <= i /\ i < rs.length) /\ i ∉ rs.map (·.1) := by
  unfold heads
  rw [List.mem_map]
  constructor
  . rintro ⟨k, hk, rfl⟩
    obtain ⟨h1, h2⟩ := List.mem_filter.mp hk
    have := List.mem_range.mp h1
    exact ⟨by omega, by simpa using h2⟩
  . rintro ⟨⟨h0, h1⟩, h2⟩
    refine ⟨i.toNat, List.mem_filter.mpr ⟨List.mem_range.mpr (by omega), ?_⟩, by omega⟩
    have : ((i.toNat : Nat) : Int) = i := by omega
    rw [this]
    simpa using h2
theorem heads_nd : (heads rs).Nodup := by
  unfold heads
  rw [List.nodup_iff_pairwise_ne, List.pairwise_map]
  have : ((List.range rs.length).filter fun (k : Nat) => !decide ((k : Int) ∈ rs.map (·.1))).Nodup := List.nodup_range.filter _
  exact this.imp fun h z => h (by omega)
theorem to_lt (hf : Falls rs) {x : Int} (h : x ∈ rs.map (·.1)) : x + 1 < rs.length := by
  obtain ⟨p, hp, rfl⟩ := List.mem_map.mp h
  obtain ⟨i, hi⟩ := List.getElem?_of_mem hp
  have l := (List.getElem?_eq_some_iff.mp hi).1
  have q := hf i p hi
  unfold toB at q
  split at q
  . have := of_decide_eq_true q
    omega
  . have := of_decide_eq_true q
    omega
theorem len_le_of_nd : ∀ {xs ys : List Int}, xs.Nodup -> (∀ x ∈ xs, x ∈ ys) -> xs.length <= ys.length
  | [], _, _, _ => Nat.zero_le _
  | x :: t, ys, nd, h => by
    rw [List.nodup_cons] at nd
    have m := h x List.mem_cons_self
    have ih := len_le_of_nd (xs := t) (ys := ys.erase x) nd.2 fun y hy => (List.mem_erase_of_ne fun z => nd.1 (by rw [<- z]; exact hy)).mpr (h y (List.mem_cons_of_mem _ hy))
    have := List.length_erase_of_mem m
    have := List.length_pos_of_mem m
    rw [List.length_cons]
    omega
theorem heads_app (hf : Falls rs) (h0 : 0 <= r.1) (h1 : r.1 < rs.length) : (heads (rs ++ [r])).length <= (heads rs).length + (if r.1 ∈ rs.map (·.1) then 1 else 0) := by
  have sub : ∀ x ∈ heads (rs ++ [r]), x ∈ (rs.length : Int) :: (heads rs).erase r.1 := by
    intro x hx
    obtain ⟨⟨a0, a1⟩, a2⟩ := heads_mem.mp hx
    rw [List.length_append] at a1
    rw [List.map_append, List.mem_append, not_or] at a2
    by_cases e : x = rs.length
    . rw [e]
      exact List.mem_cons_self
    . refine List.mem_cons_of_mem _ ((List.mem_erase_of_ne fun z => a2.2 (by simp [z])).mpr (heads_mem.mpr ⟨⟨a0, ?_⟩, a2.1⟩))
      simp at a1
      omega
  have l := len_le_of_nd heads_nd sub
  rw [List.length_cons] at l
  by_cases q : r.1 ∈ rs.map (·.1)
  . rw [if_pos q]
    have := List.length_erase_le (a := r.1) (l := heads rs)
    omega
  . rw [if_neg q]
    have m : r.1 ∈ heads rs := heads_mem.mpr ⟨⟨h0, h1⟩, q⟩
    have := List.length_erase_of_mem m
    have : 0 < (heads rs).length := List.length_pos_of_mem m
    omega
theorem last_free (hf : Falls rs) (h1 : 1 <= rs.length) : (rs.length : Int) - 1 ∉ rs.map (·.1) := fun h => by
  have := to_lt hf h
  omega
structure Vy (rs : List Rch) : Prop where
  n1 : 1 <= rs.length
  ok : ∀ (i : Nat) (r : Rch), rs[i]? = some r -> reachB i r = true
  dp : ∀ i : Int, 0 <= i -> i < rs.length -> Q.dp rs i <= 30
  hd : (heads rs).length <= 6
theorem Vy.falls (h : Vy rs) : Falls rs := fun i r e => by
  have := h.ok i r e
  unfold reachB at this
  rw [Bool.and_eq_true] at this
  exact this.1
theorem Vy.valley (h : Vy rs) (h8 : rs.length <= 8) : valleyB rs = true := by
  unfold valleyB reachesB lanesB
  rw [Bool.and_eq_true, Bool.and_eq_true, Bool.and_eq_true]
  refine ⟨decide_eq_true ⟨h.n1, h8⟩, ?_, decide_eq_true h.hd, ?_⟩
  . rw [List.all_eq_true]
    intro b hb
    obtain ⟨p, hp, rfl⟩ := List.mem_map.mp hb
    obtain ⟨k, h1, h2⟩ := rsIx_mem hp
    have := h.ok k p.2 h2
    have e : p.1 = k := by omega
    rw [e]
    exact this
  . rw [List.all_eq_true]
    intro b hb
    obtain ⟨l, hl, rfl⟩ := List.mem_map.mp hb
    obtain ⟨i, hi, rfl⟩ := roads_mem hl
    exact decide_eq_true (h.dp i (heads_lt hi).1 (heads_lt hi).2)
theorem Vy.short (h : Vy rs) : Short rs := fun r hr => by
  obtain ⟨i, hi⟩ := List.getElem?_of_mem hr
  have := h.ok i r hi
  unfold reachB groundB at this
  rw [Bool.and_eq_true, Bool.and_eq_true] at this
  have := of_decide_eq_true this.2.1
  omega
theorem Vy.app (h : Vy rs) (h0 : 0 <= r.1) (h1 : r.1 < rs.length) (hg : groundB r.2 = true) (hd : r.2.length + Q.dp rs r.1 <= 30) (hh : r.1 ∈ rs.map (·.1) -> (heads rs).length <= 5) : Vy (rs ++ [r]) := by
  have hf := h.falls
  have ht : toB rs.length r.1 = true := by
    unfold toB
    rw [if_neg (by have := h.n1; omega)]
    exact decide_eq_true ⟨h0, h1⟩
  refine ⟨by simp, fun i x e => ?_, fun i i0 i1 => ?_, ?_⟩
  . by_cases hi : i < rs.length
    . rw [List.getElem?_append_left hi] at e
      exact h.ok i x e
    . have l := (List.getElem?_eq_some_iff.mp e).1
      rw [List.length_append] at l
      have : i = rs.length := by simp at l; omega
      subst this
      rw [List.getElem?_append_right (Nat.le_refl _)] at e
      simp at e
      subst e
      unfold reachB
      rw [ht, hg]
      rfl
  . rw [List.length_append] at i1
    by_cases hi : i < rs.length
    . rw [dp_app hf i0 hi]
      exact h.dp i i0 hi
    . have : i = rs.length := by simp at i1; omega
      subst this
      rw [dp_end hf h0 h1]
      exact hd
  . have := heads_app hf h0 h1
    have := h.hd
    split at * <;> rename_i q
    . have := hh q
      omega
    . omega
end
end Q
end
section
set_option linter.all false
set_option maxRecDepth 100000
set_option maxHeartbeats 1000000
namespace Q
open PySem Fm
theorem bt_split {μ ν μ' : Mem} {b : Nat} (h : Bt b (μ ++ ν) μ') (hb : Bx μ b) : ∃ μ1, μ' = μ1 ++ ν /\ Bt b μ μ1 := by
  obtain ⟨ns, p, l, t, s, rfl, hp⟩ := h.ex
  refine ⟨μ.set b (some (boxO ns p l t s)), ?_, ⟨ns, p, l, t, s, rfl, hp⟩, hb⟩
  rw [List.set_append_left _ _ hb.lt]
theorem take_app {μ : Mem} {b : Nat} (h : Bx μ b) (ν : Mem) {k : Int} (h1 : 0 < k) (h2 : k < 10 ^ 100) : ∃ r μ', F_l_take [.ref b, .int k] (μ ++ ν) = .ok (.int r) (μ' ++ ν) /\ Bt b μ μ' /\ 0 <= r /\ r < k := by
  obtain ⟨r, μ', e, t, hr⟩ := take_ok (h.app (ν := ν)) h1 h2
  obtain ⟨μ1, rfl, t1⟩ := bt_split t h
  exact ⟨r, μ1, e, t1, hr⟩
section
variable {μ : Mem} {b : Nat}
theorem ivs_len {lo : Int} {n : Nat} : (ivs lo n).length = n := by unfold ivs; simp
def Hts (g : List Int) : Prop := ∀ h ∈ g, 0 <= h /\ h <= 99
theorem ints_of_all : ∀ {ys : List Vl}, (∀ y ∈ ys, ∃ i, y = .int i /\ 0 <= i /\ i <= 99) -> ∃ g : List Int, ys = g.map .int /\ Hts g
  | [], _ => ⟨[], rfl, by simp [Hts]⟩
  | y :: r, h => by
    obtain ⟨i, rfl, hi⟩ := h y List.mem_cons_self
    obtain ⟨g, rfl, hg⟩ := ints_of_all (ys := r) fun z hz => h z (List.mem_cons_of_mem _ hz)
    exact ⟨i :: g, rfl, by simpa [Hts] using ⟨hi, hg⟩⟩
theorem ground_drawn_ok (h : Bx μ b) {top size : Int} (ht : 0 <= top /\ top <= 99) (hs : 0 <= size /\ size <= 1000) : ∃ g μ', F_l_ground_drawn [.ref b, .int top, .int size] μ = .ok (lstI g) μ' /\ Bt b μ μ' /\ (g.length : Int) = size /\ Hts g := by
  obtain ⟨x1, μ1, e1, t1, a1, c1⟩ := take_ok h (k := 3) (by decide) (by decide)
  have hc : (ivs 0 size.toNat).length <= cap := by rw [ivs_len]; show _ <= 10000000; omega
  have h15 : size < 10 ^ 15 := by omega
  by_cases z : x1 = 0
  . have cp := comp_all (g := gName 4) (e := C1_l_ground_drawn) (gd := .free) (Γ := [some (.ref b), some (.int top), some (.int size), some (.int x1), none, none, none]) (fun μ => Bt b μ1 μ) (fun y => ∃ i, y = .int i /\ 0 <= i /\ i <= 99) (fun _ _ => trivial) (xs := ivs 0 size.toNat) (by
      intro x hx μ hμ
      obtain ⟨r, μ', e, t, r0, r1⟩ := take_ok hμ.to (k := 100) (by decide) (by decide)
      exact ⟨_, rfl, .int r, μ', by simp [C1_l_ground_drawn, e], ⟨r, rfl, r0, by omega⟩, hμ.trans t⟩) (Bt.refl t1.to)
    obtain ⟨ys, μ2, e2, l2, q2, t2⟩ := cp
    obtain ⟨g, rfl, hg⟩ := ints_of_all q2
    rw [ivs_len] at l2
    refine ⟨g, μ2, ?_, t1.trans t2, ?_, hg⟩
    . rw [z] at e2
      simp [F_l_ground_drawn, m_l_ground_drawn, e1, z, s_rng1 h15, fComp, hc, e2, (t1.trans t2).gc]
      rfl
    . simp at l2
      omega
  . obtain ⟨x2, μ2, e2, t2, a2, c2⟩ := take_ok t1.to (k := 9) (by decide) (by decide)
    have sm : ∀ k : Int, small (1 + x2) \/ small k := fun k => .inl (by unfold small; omega)
    have cp := comp_all (g := gName 6) (e := C2_l_ground_drawn) (gd := .free) (Γ := [some (.ref b), some (.int top), some (.int size), some (.int x1), none, some (.int (1 + x2)), none]) (fun μ => μ = μ2) (fun y => ∃ i, y = .int i /\ 0 <= i /\ i <= 99) (fun _ _ => trivial) (xs := ivs 0 size.toNat) (by
      rintro x hx μ rfl
      unfold ivs at hx
      obtain ⟨k, _, rfl⟩ := List.mem_map.mp hx
      have p : 0 <= (1 + x2) * (0 + (k : Int)) := Int.mul_nonneg (by omega) (by omega)
      refine ⟨_, rfl, .int (max 0 (top - (1 + x2) * (0 + (k : Int)))), _, by simp [C2_l_ground_drawn, s_gMulI (sm _)], ⟨_, rfl, by omega, by omega⟩, rfl⟩) rfl
    obtain ⟨ys, μ3, e3, l3, q3, rfl⟩ := cp
    obtain ⟨g, rfl, hg⟩ := ints_of_all q3
    rw [ivs_len] at l3
    refine ⟨g, μ3, ?_, t1.trans t2, ?_, hg⟩
    . simp [F_l_ground_drawn, m_l_ground_drawn, e1, z, e2, s_rng1 h15, fComp, hc, e3, (t1.trans t2).gc]
      rfl
    . simp at l3
      omega
end
end Q
end
section
set_option linter.all false
set_option maxRecDepth 100000
set_option maxHeartbeats 2000000
namespace Fm
open PySem
section
variable {μ : Mem} {Γ : En}
@[simp] theorem get_end2 {a b o : Option MO} {r : Mem} : (μ ++ a :: b :: o :: r)[μ.length + 2]? = some o := by simp [List.getElem?_append_right]
@[simp] theorem set_end2 {o : MO} {a b c : Option MO} {r : Mem} : setM (μ ++ a :: b :: c :: r) (μ.length + 2) o = μ ++ a :: b :: some o :: r := by simp [setM, List.set_append]
@[simp] theorem mem_end2 {xs : List Vl} {a b : Option MO} {r : Mem} : memL (μ ++ a :: b :: some (.lst xs) :: r) (.ref (μ.length + 2)) = some (μ.length + 2, xs) := s_memL get_end2
@[simp] theorem lst_end2 {xs : List Vl} {a b : Option MO} {r : Mem} : lstOf (μ ++ a :: b :: some (.lst xs) :: r) (.ref (μ.length + 2)) = some xs := s_lstR get_end2
@[simp] theorem seq_end2 {xs : List Vl} {a b : Option MO} {r : Mem} : seqOf (μ ++ a :: b :: some (.lst xs) :: r) (.ref (μ.length + 2)) = some xs := s_seqR get_end2
theorem src_end1 {xs : List Vl} {a : Option MO} {r : Mem} : srcOf (μ ++ a :: some (.lst xs) :: r) (.ref (μ.length + 1)) = some (xs, .same (μ.length + 1) (.lst xs)) := by
  unfold srcOf
  simp only [get_end1]
theorem kill_mid {a b c : Option MO} : kill [μ.length + 1] (μ ++ [a, b, c]) = μ ++ [a, none, c] := by
  unfold kill
  rw [List.mapIdx_append]
  congr 1
  . apply List.ext_getElem
    . simp
    . intro i h1 h2
      rw [List.getElem_mapIdx, if_neg]
      simp
      omega
  . simp
    exact ⟨fun h => absurd (by omega) h, fun h => absurd h (by omega)⟩
theorem deep_mid {a c xs : List Vl} (h : ∀ x ∈ xs, Pure x) {e : ME} (he : e Γ (μ ++ [some (.lst a), some (.lst xs), some (.lst c)]) = .ok (.ref (μ.length + 1)) (μ ++ [some (.lst a), some (.lst xs), some (.lst c)])) :
    eDeep e Γ (μ ++ [some (.lst a), some (.lst xs), some (.lst c)]) = .ok (.lst xs) (μ ++ [some (.lst a), none, some (.lst c)]) := by
  have h1 : frzV depthF (μ ++ [some (.lst a), some (.lst xs), some (.lst c)]) (.ref (μ.length + 1)) = some (.lst xs) := by
    unfold depthF frzV
    rw [if_neg (by simp [Vl.und])]
    simp only [get_end1]
    rw [mapO_id fun x hx => frz_pure (h x hx)]
    rfl
  have h2 : rchV depthF (μ ++ [some (.lst a), some (.lst xs), some (.lst c)]) (.ref (μ.length + 1)) = [μ.length + 1] := by
    unfold depthF rchV
    simp only [get_end1]
    rw [flat_nil fun x hx => (h x hx).2 _ _]
  unfold eDeep
  rw [he]
  simp only [s_bind_ok, h1, h2, kill_mid]
end
section
variable {μ : Mem} {m : Nat}
theorem c_mem0 {xs : List Vl} {r : Mem} (h : μ.length = m) : memL (μ ++ some (.lst xs) :: r) (.ref m) = some (m, xs) := by subst h; simp
theorem c_mem1 {xs : List Vl} {a : Option MO} {r : Mem} (h : μ.length = m) : memL (μ ++ a :: some (.lst xs) :: r) (.ref (m + 1)) = some (m + 1, xs) := by subst h; simp
theorem c_mem2 {xs : List Vl} {a b : Option MO} {r : Mem} (h : μ.length = m) : memL (μ ++ a :: b :: some (.lst xs) :: r) (.ref (m + 2)) = some (m + 2, xs) := by subst h; simp
theorem c_seq0 {xs : List Vl} {r : Mem} (h : μ.length = m) : seqOf (μ ++ some (.lst xs) :: r) (.ref m) = some xs := by subst h; simp
theorem c_seq2 {xs : List Vl} {a b : Option MO} {r : Mem} (h : μ.length = m) : seqOf (μ ++ a :: b :: some (.lst xs) :: r) (.ref (m + 2)) = some xs := by subst h; simp
theorem c_set0 {o : MO} {a : Option MO} {r : Mem} (h : μ.length = m) : setM (μ ++ a :: r) m o = μ ++ some o :: r := by subst h; simp
theorem c_set1 {o : MO} {a b : Option MO} {r : Mem} (h : μ.length = m) : setM (μ ++ a :: b :: r) (m + 1) o = μ ++ a :: some o :: r := by subst h; simp
theorem c_set2 {o : MO} {a b c : Option MO} {r : Mem} (h : μ.length = m) : setM (μ ++ a :: b :: c :: r) (m + 2) o = μ ++ a :: b :: some o :: r := by subst h; simp
theorem c_src1 {xs : List Vl} {a : Option MO} {r : Mem} (h : μ.length = m) : srcOf (μ ++ a :: some (.lst xs) :: r) (.ref (m + 1)) = some (xs, .same (m + 1) (.lst xs)) := by subst h; exact src_end1
end
theorem box_und {ns : List Int} {p l t s : Int} : (boxO ns p l t s).und 0 = true := by
  have : Vl.undA 0 (ns.map .int) = true := undA_all (by
    intro x hx
    obtain ⟨k, _, rfl⟩ := List.mem_map.mp hx
    rfl)
  simp [boxO, MO.und, Vl.und, Vl.undA, this]
theorem Bt.gcA {b : Nat} {μ μ1 ν : Mem} (h : Bt b μ μ1) : gcM true μ (μ1 ++ ν) = μ1 := by
  obtain ⟨ns, p, l, t, s, rfl, hp⟩ := h.ex
  exact gc_app_set rfl box_und
end Fm
namespace Q
open PySem Fm
theorem pure_reach {r : Rch} : Pure (reachV r) := pure_tup (by
  intro x hx
  simp at hx
  rcases hx with rfl | rfl
  . exact pure_int
  . exact pure_tup pure_ints)
theorem pure_reaches {rs : List Rch} : ∀ x ∈ rs.map reachV, Pure x := by
  intro x hx
  obtain ⟨r, _, rfl⟩ := List.mem_map.mp hx
  exact pure_reach
structure Dr (rs : List Rch) (tops deep : List Int) : Prop where
  v : Vy rs
  tl : tops.length = rs.length
  dl : deep.length = rs.length
  th : ∀ t ∈ tops, 0 <= t /\ t <= 99
  de : ∀ (i : Nat) d, deep[i]? = some d -> d = dp rs i
theorem Dr.at_deep {rs : List Rch} {tops deep : List Int} (h : Dr rs tops deep) {i : Int} (h0 : 0 <= i) (h1 : i < rs.length) : atI (deep.map Vl.int) i = some (.int (dp rs i)) := by
  rw [atI_map]
  obtain ⟨x, e1, e2⟩ := atI_get (xs := deep) h0 (by rw [h.dl]; exact h1)
  rw [e1]
  have := h.de i.toNat x e2
  rw [this]
  have : ((i.toNat : Nat) : Int) = i := by omega
  rw [this]
  rfl
theorem Dr.at_top {rs : List Rch} {tops deep : List Int} (h : Dr rs tops deep) {i : Int} (h0 : 0 <= i) (h1 : i < rs.length) : ∃ t, atI (tops.map Vl.int) i = some (.int t) /\ 0 <= t /\ t <= 99 := by
  rw [atI_map]
  obtain ⟨x, e1, e2⟩ := atI_get (xs := tops) h0 (by rw [h.tl]; exact h1)
  rw [e1]
  exact ⟨x, rfl, h.th x (List.mem_of_getElem? e2)⟩
theorem Dr.app {rs : List Rch} {tops deep : List Int} (h : Dr rs tops deep) {r : Rch} {t : Int} (h0 : 0 <= r.1) (h1 : r.1 < rs.length) (hg : groundB r.2 = true) (hd : r.2.length + dp rs r.1 <= 30) (hh : r.1 ∈ rs.map (·.1) -> (heads rs).length <= 5) (ht : 0 <= t /\ t <= 99) : Dr (rs ++ [r]) (tops ++ [t]) (deep ++ [(dp rs r.1 : Int) + r.2.length]) := by
  refine ⟨h.v.app h0 h1 hg hd hh, by simp [h.tl], by simp [h.dl], fun x hx => ?_, fun i d e => ?_⟩
  . rcases List.mem_append.mp hx with z | z
    . exact h.th x z
    . have : x = t := by simpa using z
      subst this
      exact ht
  . by_cases hi : i < deep.length
    . rw [List.getElem?_append_left hi] at e
      rw [h.de i d e, dp_app h.v.falls (by omega) (by rw [h.dl] at hi; omega)]
    . have l := (List.getElem?_eq_some_iff.mp e).1
      rw [List.length_append] at l
      have hi' : i = rs.length := by simp at l; rw [h.dl] at hi l; omega
      rw [hi', <- h.dl, List.getElem?_append_right (Nat.le_refl _)] at e
      simp at e
      rw [hi', dp_end h.v.falls h0 h1, <- e]
      omega
def dMem (μ : Mem) (rs : List Rch) (tops deep : List Int) : Mem := μ ++ [some (.lst (tops.map .int)), some (.lst (rs.map reachV)), some (.lst (deep.map .int))]
def dEnv (b m : Nat) (z : Option Vl) : En := [some (.ref b), some (.ref m), z, some (.ref (m + 1)), some (.ref (m + 2)), none, none, none, none, none, none, none]
theorem gB_of {g : List Int} (h1 : 1 <= g.length /\ g.length <= 12) (h : Hts g) : groundB g = true := by
  unfold groundB
  rw [Bool.and_eq_true]
  refine ⟨decide_eq_true h1, ?_⟩
  rw [List.all_eq_true]
  intro x hx
  obtain ⟨y, hy, rfl⟩ := List.mem_map.mp hx
  have := h y hy
  unfold hB
  simp [this.1, this.2]
section
variable {b : Nat}
theorem draw_step {μ : Mem} {z : Option Vl} (hb : Bx μ b) {rs : List Rch} {tops deep : List Int} (d : Dr rs tops deep) (h8 : rs.length <= 8) :
    (∃ Γ2 μ2 r t e, B3_l_reaches ((dEnv b μ.length z).set 5 (some (.int rs.length))) (dMem μ rs tops deep) = some (.nx Γ2, dMem μ2 (rs ++ [r]) (tops ++ [t]) (deep ++ [e])) /\ wip [5, 6, 8, 10, 11] Γ2 = dEnv b μ.length z /\ Bt b μ μ2 /\ Dr (rs ++ [r]) (tops ++ [t]) (deep ++ [e])) \/
    ∃ μ2 ν, B3_l_reaches ((dEnv b μ.length z).set 5 (some (.int rs.length))) (dMem μ rs tops deep) = some (.rt (.lst (rs.map reachV)), μ2 ++ ν) /\ Bt b μ μ2 := by
  have n1 := d.v.n1
  obtain ⟨to, μ1, e1, t1, a1, c1⟩ := take_app hb [some (.lst (tops.map .int)), some (.lst (rs.map reachV)), some (.lst (deep.map .int))] (k := rs.length) (by omega) (by omega)
  have l1 := t1.len
  have hz : rs.length <= cap := Nat.le_trans h8 (by decide)
  have gd1 : (Gd.same (μ.length + 1) (.lst (rs.map reachV))).ok (μ1 ++ [some (.lst (tops.map .int)), some (.lst (rs.map reachV)), some (.lst (deep.map .int))]) := by
    show _ = _
    rw [<- l1]
    exact get_end1
  have c1 := comp_map (g := gName 7) (e := C1_l_reaches) (gd := .same (μ.length + 1) (.lst (rs.map reachV))) (Γ := [some (.ref b), some (.ref μ.length), z, some (.ref (μ.length + 1)), some (.ref (μ.length + 2)), some (.int rs.length), some (.int to), none, none, none, none, none]) (μ := μ1 ++ [some (.lst (tops.map .int)), some (.lst (rs.map reachV)), some (.lst (deep.map .int))]) reachV (fun r => .int r.1) gd1 (xs := rs) (fun x _ => ⟨_, rfl, by simp [C1_l_reaches]⟩)
  have e0 : (rs.map fun r => Vl.int r.1) = (rs.map (·.1)).map .int := by simp
  rw [e0] at c1
  have c2 := comp_if (g := gName 9) (t := T2_l_reaches) (e := eVar 9) (gd := .free) (Γ := [some (.ref b), some (.ref μ.length), z, some (.ref (μ.length + 1)), some (.ref (μ.length + 2)), some (.int rs.length), some (.int to), none, some (.lst ((rs.map (·.1)).map .int)), none, none, none]) (μ := μ1 ++ [some (.lst (tops.map .int)), some (.lst (rs.map reachV)), some (.lst (deep.map .int))]) (fun k : Nat => Vl.int (k : Int)) (fun k => !decide ((k : Int) ∈ rs.map (·.1))) (fun k => .int (k : Int)) trivial (xs := List.range rs.length) (fun x _ => by
    have q := in_ints (μ := μ1 ++ [some (.lst (tops.map .int)), some (.lst (rs.map reachV)), some (.lst (deep.map .int))]) (i := (x : Int)) (ns := rs.map (·.1)) (v := .lst ((rs.map (·.1)).map .int)) rfl (neg := true)
    refine ⟨_, rfl, ?_, ?_⟩
    . simp [T2_l_reaches, q, -List.map_map]
    . intro _
      simp)
  have e2 : ((List.range rs.length).filter fun (k : Nat) => !decide ((k : Int) ∈ rs.map (fun r : Rch => r.1))).map (fun (k : Nat) => Vl.int (k : Int)) = (heads rs).map .int := by
    unfold heads
    rw [List.map_map]
    rfl
  rw [e2] at c2
  have r1 : ∀ μ', rng1 [.int (rs.length : Int)] μ' = some ((List.range rs.length).map (fun k : Nat => Vl.int (k : Int)), .free) := fun μ' => by
    have h15 : (rs.length : Int) < 10 ^ 15 := by omega
    rw [s_rng1 h15, Int.toNat_natCast]
    simp [ivs]
  have inl := fun M => in_ints (μ := M) (i := to) (ns := rs.map (·.1)) (v := .lst ((rs.map (·.1)).map .int)) rfl (neg := false)
  obtain ⟨tz, htz, tz0, tz1, tzh⟩ : ∃ tz : Int, (if (heads rs).length = 6 /\ to ∈ rs.map (·.1) then tz = rs.length - 1 else tz = to) /\ 0 <= tz /\ tz < rs.length /\ (tz ∈ rs.map (·.1) -> (heads rs).length <= 5) := by
    have h6 := d.v.hd
    by_cases q : (heads rs).length = 6 /\ to ∈ rs.map (·.1)
    . refine ⟨rs.length - 1, by rw [if_pos q], by omega, by omega, fun w => absurd w (last_free d.v.falls n1)⟩
    . refine ⟨to, by rw [if_neg q], a1, by omega, fun w => ?_⟩
      have : (heads rs).length ≠ 6 := fun w2 => q ⟨w2, w⟩
      omega
  have dpz := d.v.dp tz tz0 tz1
  have ad := d.at_deep tz0 tz1
  obtain ⟨tp, at1, tp0, tp1⟩ := d.at_top tz0 tz1
  have fst : ∀ (k : MS), thenK (thenK (some (.nx [some (.ref b), some (.ref μ.length), z, some (.ref (μ.length + 1)), some (.ref (μ.length + 2)), some (.int rs.length), some (.int to), none, none, none, none, none], μ1 ++ [some (.lst (tops.map .int)), some (.lst (rs.map reachV)), some (.lst (deep.map .int))])) (fun Γ μ => some (.nx Γ, μ))) k = k [some (.ref b), some (.ref μ.length), z, some (.ref (μ.length + 1)), some (.ref (μ.length + 2)), some (.int rs.length), some (.int to), none, none, none, none, none] (μ1 ++ [some (.lst (tops.map .int)), some (.lst (rs.map reachV)), some (.lst (deep.map .int))]) := fun k => rfl
  have lh : (rs.map reachV).length <= cap := by rw [List.length_map]; exact hz
  have lr : ((List.range rs.length).map (fun k : Nat => Vl.int (k : Int))).length <= cap := by rw [List.length_map, List.length_range]; exact hz
  by_cases q30 : dp rs tz < 30
  . obtain ⟨x2, μ2, e3, t2, a2, c3⟩ := take_app t1.to [some (.lst (tops.map .int)), some (.lst (rs.map reachV)), some (.lst (deep.map .int))] (k := min 12 (30 - (dp rs tz : Int))) (by omega) (by omega)
    have l2 : μ2.length = μ.length := t2.len.trans l1
    obtain ⟨x3, μ3, e4, t3, a3, c4⟩ := take_app t2.to [some (.lst (tops.map .int)), some (.lst (rs.map reachV)), some (.lst (deep.map .int))] (k := 50) (by decide) (by decide)
    have l3 : μ3.length = μ.length := t3.len.trans l2
    obtain ⟨g, μ4', e5, t4', gl, gh⟩ := ground_drawn_ok (μ := μ3 ++ [some (.lst (tops.map .int ++ [.int (min 99 (tp + x3))])), some (.lst (rs.map reachV)), some (.lst (deep.map .int))]) (t3.to.app) (top := min 99 (tp + x3)) (size := 1 + x2) (by omega) (by omega)
    obtain ⟨μ4, rfl, t4⟩ := bt_split t4' t3.to
    have l4 : μ4.length = μ.length := t4.len.trans l3
    have gz : g.length <= cap := by show _ <= 10000000; omega
    have q30' : (dp rs tz : Int) < 30 := by omega
    have hg12 : 1 <= g.length /\ g.length <= 12 := by omega
    have hg30 : g.length + dp rs tz <= 30 := by omega
    have dA : Dr (rs ++ [(tz, g)]) (tops ++ [min 99 (tp + x3)]) (deep ++ [(dp rs tz : Int) + (1 + x2)]) := by
      have := d.app (r := (tz, g)) (t := min 99 (tp + x3)) tz0 tz1 (gB_of hg12 gh) hg30 tzh (by omega)
      rw [show ((g.length : Int)) = 1 + x2 from gl] at this
      exact this
    have t14 := ((t1.trans t2).trans t3).trans t4
    left
    refine ⟨[some (.ref b), some (.ref μ.length), z, some (.ref (μ.length + 1)), some (.ref (μ.length + 2)), some (.int rs.length), some (.int tz), none, some (.lst ((rs.map (·.1)).map .int)), none, some (.int (heads rs).length), some (.int (1 + x2))], μ4, (tz, g), min 99 (tp + x3), (dp rs tz : Int) + (1 + x2), ?_, rfl, t14, dA⟩
    have tl : tops.length < cap := by rw [d.tl]; exact Nat.lt_of_le_of_lt h8 (by decide)
    have dl : deep.length < cap := by rw [d.dl]; exact Nat.lt_of_le_of_lt h8 (by decide)
    have rl : rs.length < cap := Nat.lt_of_le_of_lt h8 (by decide)
    have e5' : F_l_ground_drawn [.ref b, .int (min 99 (tp + x3)), .int (1 + x2)] (μ3 ++ [some (.lst (tops.map .int ++ [.int (min 99 (tp + x3))])), some (.lst (rs.map reachV)), some (.lst (deep.map .int))]) = .ok (.lst (g.map .int)) (μ4 ++ [some (.lst (tops.map .int ++ [.int (min 99 (tp + x3))])), some (.lst (rs.map reachV)), some (.lst (deep.map .int))]) := e5
    by_cases q6 : (heads rs).length = 6 /\ to ∈ rs.map (·.1)
    . rw [if_pos q6] at htz
      subst htz
      have i1 : ∀ M, gIn false (.int to) (.lst ((rs.map (·.1)).map .int)) M = some (.bl true) := fun M => by rw [inl M]; simp only [q6.2, decide_true]; rfl
      have q6' : ((heads rs).length : Int) = 6 := by omega
      simp only [B3_l_reaches, dEnv, dMem, s_sSeq, s_sAsg, s_eCall, s_aCons, s_eVar, s_slot0, s_slotS, s_of_some, s_bind_ok, s_aNil, e1, s_st_ok, s_gName, s_gK, s_thenK, List.set_cons_succ, List.set_cons_zero, s_eFrz, fComp, s_iSeq, c_src1 l1, hz, List.length_range, if_true, s_wip1, s_wip0, c1, s_frzL, s_eB, s_iB, r1, c2, s_bLenL, List.length_map, s_sIf, s_tAnd, s_tB, s_eOp, s_eC, eq_int, q6', decide_true, s_getB, i1, s_gSubI, s_gIx, c_seq2 l1, Option.bind_some, s_getI, ad, s_gLt, q30', s_bMin, e3, s_gAddI, s_sApp, c_mem0 l2, c_seq0 l2, at1, e4, c_mem0 l3, tl, c_set0 l3, c_seq2 l2, c_seq2 l3, s_soK, c_mem1 l3, c_seq0 l3, s_eUn, s_gNeg, at_last, e5', s_bTupL, s_eTup, s_fits2, s_oK, c_mem1 l4, rl, c_set1 l4, c_mem2 l4, c_seq2 l4, dl, c_set2 l4, List.map_append, List.map_cons, List.map_nil]
      rfl
    . rw [if_neg q6] at htz
      subst htz
      by_cases h6 : (heads rs).length = 6
      . have q6' : ((heads rs).length : Int) = 6 := by omega
        have nin : tz ∉ rs.map (·.1) := fun w => q6 ⟨h6, w⟩
        have i1 : ∀ M, gIn false (.int tz) (.lst ((rs.map (·.1)).map .int)) M = some (.bl false) := fun M => by rw [inl M]; simp only [nin, decide_false]; rfl
        simp only [B3_l_reaches, dEnv, dMem, s_sSeq, s_sAsg, s_eCall, s_aCons, s_eVar, s_slot0, s_slotS, s_of_some, s_bind_ok, s_aNil, e1, s_st_ok, s_gName, s_gK, s_thenK, List.set_cons_succ, List.set_cons_zero, s_eFrz, fComp, s_iSeq, c_src1 l1, hz, List.length_range, if_true, s_wip1, s_wip0, c1, s_frzL, s_eB, s_iB, r1, c2, s_bLenL, List.length_map, s_sIf, s_tAnd, s_tB, s_eOp, s_eC, eq_int, q6', decide_true, s_getB, i1, s_gSubI, s_gIx, c_seq2 l1, Option.bind_some, s_getI, ad, s_gLt, q30', s_bMin, e3, s_gAddI, s_sApp, c_mem0 l2, c_seq0 l2, at1, e4, c_mem0 l3, tl, c_set0 l3, c_seq2 l2, c_seq2 l3, s_soK, c_mem1 l3, c_seq0 l3, s_eUn, s_gNeg, at_last, e5', s_bTupL, s_eTup, s_fits2, s_oK, c_mem1 l4, rl, c_set1 l4, c_mem2 l4, c_seq2 l4, dl, c_set2 l4, List.map_append, List.map_cons, List.map_nil, Bool.false_eq_true, if_false, s_sNext]
        rfl
      . have q6' : ¬ ((heads rs).length : Int) = 6 := by omega
        simp only [B3_l_reaches, dEnv, dMem, s_sSeq, s_sAsg, s_eCall, s_aCons, s_eVar, s_slot0, s_slotS, s_of_some, s_bind_ok, s_aNil, e1, s_st_ok, s_gName, s_gK, s_thenK, List.set_cons_succ, List.set_cons_zero, s_eFrz, fComp, s_iSeq, c_src1 l1, hz, List.length_range, if_true, s_wip1, s_wip0, c1, s_frzL, s_eB, s_iB, r1, c2, s_bLenL, List.length_map, s_sIf, s_tAnd, s_tB, s_eOp, s_eC, eq_int, q6', decide_true, s_getB, s_gSubI, s_gIx, c_seq2 l1, Option.bind_some, s_getI, ad, s_gLt, q30', s_bMin, e3, s_gAddI, s_sApp, c_mem0 l2, c_seq0 l2, at1, e4, c_mem0 l3, tl, c_set0 l3, c_seq2 l2, c_seq2 l3, s_soK, c_mem1 l3, c_seq0 l3, s_eUn, s_gNeg, at_last, e5', s_bTupL, s_eTup, s_fits2, s_oK, c_mem1 l4, rl, c_set1 l4, c_mem2 l4, c_seq2 l4, dl, c_set2 l4, List.map_append, List.map_cons, List.map_nil, Bool.false_eq_true, if_false, decide_false, s_sNext]
        rfl
  . right
    have q30' : ¬ (dp rs tz : Int) < 30 := by omega
    refine ⟨μ1, [some (.lst (tops.map .int)), none, some (.lst (deep.map .int))], ?_, t1⟩
    have dm : ∀ s6 s10, eDeep (eVar 3) [some (.ref b), some (.ref μ.length), z, some (.ref (μ.length + 1)), some (.ref (μ.length + 2)), some (.int rs.length), s6, none, some (.lst ((rs.map (·.1)).map .int)), none, s10, none] (μ1 ++ [some (.lst (tops.map .int)), some (.lst (rs.map reachV)), some (.lst (deep.map .int))]) = .ok (.lst (rs.map reachV)) (μ1 ++ [some (.lst (tops.map .int)), none, some (.lst (deep.map .int))]) := fun s6 s10 => by
      refine deep_mid pure_reaches ?_
      rw [l1]
      rfl
    by_cases q6 : (heads rs).length = 6 /\ to ∈ rs.map (·.1)
    . rw [if_pos q6] at htz
      subst htz
      have i1 : ∀ M, gIn false (.int to) (.lst ((rs.map (·.1)).map .int)) M = some (.bl true) := fun M => by rw [inl M]; simp only [q6.2, decide_true]; rfl
      have q6' : ((heads rs).length : Int) = 6 := by omega
      simp only [B3_l_reaches, dEnv, dMem, s_sSeq, s_sAsg, s_eCall, s_aCons, s_eVar, s_slot0, s_slotS, s_of_some, s_bind_ok, s_aNil, e1, s_st_ok, s_gName, s_gK, s_thenK, List.set_cons_succ, List.set_cons_zero, s_eFrz, fComp, s_iSeq, c_src1 l1, hz, List.length_range, if_true, s_wip1, s_wip0, c1, s_frzL, s_eB, s_iB, r1, c2, s_bLenL, List.length_map, s_sIf, s_tAnd, s_tB, s_eOp, s_eC, eq_int, q6', decide_true, s_getB, i1, s_gSubI, s_gIx, c_seq2 l1, Option.bind_some, s_getI, ad, s_gLt, q30', decide_false, Bool.false_eq_true, if_false, s_sNext, s_sRet, dm]
    . rw [if_neg q6] at htz
      subst htz
      by_cases h6 : (heads rs).length = 6
      . have q6' : ((heads rs).length : Int) = 6 := by omega
        have nin : tz ∉ rs.map (·.1) := fun w => q6 ⟨h6, w⟩
        have i1 : ∀ M, gIn false (.int tz) (.lst ((rs.map (·.1)).map .int)) M = some (.bl false) := fun M => by rw [inl M]; simp only [nin, decide_false]; rfl
        simp only [B3_l_reaches, dEnv, dMem, s_sSeq, s_sAsg, s_eCall, s_aCons, s_eVar, s_slot0, s_slotS, s_of_some, s_bind_ok, s_aNil, e1, s_st_ok, s_gName, s_gK, s_thenK, List.set_cons_succ, List.set_cons_zero, s_eFrz, fComp, s_iSeq, c_src1 l1, hz, List.length_range, if_true, s_wip1, s_wip0, c1, s_frzL, s_eB, s_iB, r1, c2, s_bLenL, List.length_map, s_sIf, s_tAnd, s_tB, s_eOp, s_eC, eq_int, q6', decide_true, s_getB, i1, s_gSubI, s_gIx, c_seq2 l1, Option.bind_some, s_getI, ad, s_gLt, q30', decide_false, Bool.false_eq_true, if_false, s_sNext, s_sRet, dm]
      . have q6' : ¬ ((heads rs).length : Int) = 6 := by omega
        simp only [B3_l_reaches, dEnv, dMem, s_sSeq, s_sAsg, s_eCall, s_aCons, s_eVar, s_slot0, s_slotS, s_of_some, s_bind_ok, s_aNil, e1, s_st_ok, s_gName, s_gK, s_thenK, List.set_cons_succ, List.set_cons_zero, s_eFrz, fComp, s_iSeq, c_src1 l1, hz, List.length_range, if_true, s_wip1, s_wip0, c1, s_frzL, s_eB, s_iB, r1, c2, s_bLenL, List.length_map, s_sIf, s_tAnd, s_tB, s_eOp, s_eC, eq_int, q6', decide_true, s_getB, s_gSubI, s_gIx, c_seq2 l1, Option.bind_some, s_getI, ad, s_gLt, q30', decide_false, Bool.false_eq_true, if_false, s_sNext, s_sRet, dm]
end
end Q
end
section
set_option linter.all false
set_option maxRecDepth 100000
set_option maxHeartbeats 2000000
namespace Q
open PySem Fm
theorem ivs_cons {lo : Int} {n : Nat} : ivs lo (n + 1) = .int lo :: ivs (lo + 1) n := by
  unfold ivs
  rw [List.range_succ_eq_map]
  simp [Function.comp_def]
  intro a _
  omega
theorem ivs_nil {lo : Int} : ivs lo 0 = [] := rfl
theorem dr_start {g : List Int} {t s : Int} (hg : 1 <= g.length /\ g.length <= 12) (hh : Hts g) (ht : 0 <= t /\ t <= 99) (hs : s = g.length) : Dr [(-1, g)] [t] [s] := by
  have e0 : dp [(-1, g)] 0 = g.length := by
    unfold dp along road
    simp [toOf, groundOf]
  refine ⟨⟨by simp, fun i r e => ?_, fun i i0 i1 => ?_, Nat.le_trans heads_len (by simp)⟩, rfl, rfl, by simpa using ht, fun i d e => ?_⟩
  . cases i with
    | zero =>
      cases (Option.some.inj e)
      unfold reachB
      rw [gB_of hg hh]
      rfl
    | succ i => simp at e
  . have : i = 0 := by simp at i1; omega
    subst this
    rw [e0]
    omega
  . cases i with
    | zero =>
      cases (Option.some.inj e)
      rw [hs]
      exact congrArg _ e0.symm
    | succ i => simp at e
section
variable {b : Nat} {μ : Mem}
def DrEnd (b : Nat) (μ : Mem) (z : Option Vl) (o : So) : Prop := ∃ rs μk ν, Bt b μ μk /\ Vy rs /\ rs.length <= 8 /\ (o = some (.rt (.lst (rs.map reachV)), μk ++ ν) \/ ∃ tops deep, o = some (.nx (dEnv b μ.length z), dMem μk rs tops deep))
theorem draw_loop {z : Option Vl} : ∀ (n : Nat) {μk : Mem} {rs : List Rch} {tops deep : List Int}, Bt b μ μk -> Dr rs tops deep -> rs.length + n <= 8 -> DrEnd b μ z (forGo (gName 5) B3_l_reaches .free [5, 6, 8, 10, 11] (ivs rs.length n) (dEnv b μ.length z) (dMem μk rs tops deep))
  | 0, μk, rs, tops, deep, t, d, h => by
    rw [ivs_nil]
    refine ⟨rs, μk, [], t, d.v, by omega, .inr ⟨tops, deep, by simp [forGo]⟩⟩
  | n + 1, μk, rs, tops, deep, t, d, h => by
    rw [ivs_cons]
    have l := t.len
    have st := draw_step (z := z) t.to d (by omega)
    rw [l] at st
    rcases st with ⟨Γ2, μ2, r, tt, e, q1, q2, q3, q4⟩ | ⟨μ2, ν, q1, q2⟩
    . have e1 : forGo (gName 5) B3_l_reaches .free [5, 6, 8, 10, 11] (.int rs.length :: ivs (rs.length + 1) n) (dEnv b μ.length z) (dMem μk rs tops deep) = forGo (gName 5) B3_l_reaches .free [5, 6, 8, 10, 11] (ivs (rs.length + 1) n) (dEnv b μ.length z) (dMem μ2 (rs ++ [r]) (tops ++ [tt]) (deep ++ [e])) := by
        simp only [forGo, s_free, if_true, s_gName, q1, q2]
      rw [e1]
      have ih := draw_loop (z := z) n (t.trans q3) q4 (by simp; omega)
      have e2 : (((rs ++ [r]).length : Nat) : Int) = rs.length + 1 := by simp
      rw [e2] at ih
      exact ih
    . have e1 : forGo (gName 5) B3_l_reaches .free [5, 6, 8, 10, 11] (.int rs.length :: ivs (rs.length + 1) n) (dEnv b μ.length z) (dMem μk rs tops deep) = some (.rt (.lst (rs.map reachV)), μ2 ++ ν) := by
        simp only [forGo, s_free, if_true, s_gName, q1]
      rw [e1]
      exact ⟨rs, μ2, ν, t.trans q2, d.v, by omega, .inl rfl⟩
theorem und_reaches {n : Nat} {rs : List Rch} : (Vl.lst (rs.map reachV)).und n = true := (pure_lst pure_reaches).und n
theorem reaches_ok (h : Bx μ b) : ∃ rs μ', F_l_reaches [.ref b] μ = .ok (.lst (rs.map reachV)) μ' /\ Bt b μ μ' /\ Vy rs /\ rs.length <= 8 := by
  obtain ⟨x1, μ1, e1, t1, a1, c1⟩ := take_ok h (k := 70) (by decide) (by decide)
  have l1 := t1.len
  obtain ⟨x2, μ2, e2, t2, a2, c2⟩ := take_app t1.to [some (.lst [.int (20 + x1)])] (k := 12) (by decide) (by decide)
  have l2 : μ2.length = μ.length := t2.len.trans l1
  obtain ⟨g, μ3', e3, t3', gl, gh⟩ := ground_drawn_ok (μ := μ2 ++ [some (.lst [.int (20 + x1)])]) t2.to.app (top := 20 + x1) (size := 1 + x2) (by omega) (by omega)
  obtain ⟨μ3, rfl, t3⟩ := bt_split t3' t2.to
  have l3 : μ3.length = μ.length := t3.len.trans l2
  have d := dr_start (g := g) (t := 20 + x1) (s := 1 + x2) (by omega) gh (by omega) gl.symm
  obtain ⟨x4, μ4, e4, t4, a4, c4⟩ := take_app t3.to [some (.lst [.int (20 + x1)]), some (.lst [reachV (-1, g)]), some (.lst [.int (1 + x2)])] (k := 3) (by decide) (by decide)
  have l4 : μ4.length = μ.length := t4.len.trans l3
  obtain ⟨k, hk, hk0, hk1⟩ : ∃ k : Int, atI [Vl.int 1, .int 3, .int 8] x4 = some (.int k) /\ 0 < k /\ k <= 8 := by
    have q : x4 = 0 \/ x4 = 1 \/ x4 = 2 := by omega
    rcases q with rfl | rfl | rfl
    . exact ⟨1, by simp, by decide, by decide⟩
    . exact ⟨3, by simp, by decide, by decide⟩
    . exact ⟨8, by simp, by decide, by decide⟩
  obtain ⟨x5, μ5, e5, t5, a5, c5⟩ := take_app t4.to [some (.lst [.int (20 + x1)]), some (.lst [reachV (-1, g)]), some (.lst [.int (1 + x2)])] (k := k) hk0 (by omega)
  have l5 : μ5.length = μ.length := t5.len.trans l4
  have tt := (((t1.trans t2).trans t3).trans t4).trans t5
  obtain ⟨rs, μk, ν, q1, q2, q3, q4⟩ := draw_loop (z := some (.lst [.int (1 + x2)])) x5.toNat tt d (by simp; omega)
  have rg : ∀ M, rng2 [.int 1, .int (1 + x5)] M = some (ivs 1 x5.toNat, .free) := fun M => by
    rw [s_rng2 (by omega)]
    have : (1 + x5 - 1).toNat = x5.toNat := by omega
    rw [this]
  have e3' : F_l_ground_drawn [.ref b, .int (20 + x1), .int (1 + x2)] (μ2 ++ [some (.lst [.int (20 + x1)])]) = .ok (.lst (g.map .int)) (μ3 ++ [some (.lst [.int (20 + x1)])]) := e3
  have go : m_l_reaches [some (.ref b), none, none, none, none, none, none, none, none, none, none, none] μ = thenK (forGo (gName 5) B3_l_reaches .free [5, 6, 8, 10, 11] (ivs (([(-1, g)] : List Rch).length : Nat) x5.toNat) (dEnv b μ.length (some (.lst [.int (1 + x2)]))) (dMem μ5 [(-1, g)] [20 + x1] [1 + x2])) (sRet (eDeep (eVar 3))) := by
    have rv : reachV (-1, g) = .tup [.int (-1), .tup (g.map .int)] := rfl
    rw [rv] at e4 e5
    simp only [m_l_reaches, s_sSeq, s_sAsg, s_eNew, s_fLst, s_aCons, s_eOp, s_eC, s_eCall, s_eVar, s_slot0, s_slotS, s_of_some, s_bind_ok, s_aNil, e1, s_gAddI, s_fits1, s_oK, s_st_ok, s_gName, s_gK, s_thenK, List.set_cons_succ, List.set_cons_zero, e2, s_eFrz, s_frzL, s_eTup, s_gSubI, s_eB, s_gIx, c_seq0 l2, l1, Option.bind_some, s_getI, s_at0, s_seqL, e3', s_bTupL, s_fits2, List.length_append, l3, List.length_singleton, List.append_assoc, List.singleton_append, s_sFor, s_iB, s_fits3, e4, hk, e5, rg, s_wip1, s_wip0, List.length_cons, List.length_nil, Int.reduceSub, Int.reduceNeg, List.cons_append, List.nil_append, Nat.zero_add, Nat.reduceAdd]
    rfl
  have fin : ∀ (o : So) M, m_l_reaches [some (.ref b), none, none, none, none, none, none, none, none, none, none, none] μ = some (.rt (.lst (rs.map reachV)), μk ++ M) -> F_l_reaches [.ref b] μ = .ok (.lst (rs.map reachV)) μk := fun o M w => by
    unfold F_l_reaches
    rw [s_fnV, if_pos (show [Vl.ref b].length = 1 from rfl)]
    have ea : args 12 [Vl.ref b] = [some (.ref b), none, none, none, none, none, none, none, none, none, none, none] := rfl
    rw [ea, w, s_outR, und_reaches, q1.gcA]
  rcases q4 with q4 | ⟨tops, deep, q4⟩
  . refine ⟨rs, μk, fin none ν ?_, q1, q2, q3⟩
    rw [go, q4]
    rfl
  . refine ⟨rs, μk, fin none [some (.lst (tops.map .int)), none, some (.lst (deep.map .int))] ?_, q1, q2, q3⟩
    rw [go, q4, s_thenK]
    have dm : eDeep (eVar 3) (dEnv b μ.length (some (.lst [.int (1 + x2)]))) (dMem μk rs tops deep) = .ok (.lst (rs.map reachV)) (μk ++ [some (.lst (tops.map .int)), none, some (.lst (deep.map .int))]) := by
      refine deep_mid pure_reaches ?_
      rw [q1.len]
      rfl
    rw [s_sRet, dm, s_st_ok]
end
end Q
end
section
set_option linter.all false
set_option maxRecDepth 100000
set_option maxHeartbeats 1000000
namespace Q
open PySem Fm
def lp (I : Gla) (l : Int) : List (Int × Int) := I.leaps.getD l.toNat []
structure LeapOk (l : List (Int × Int)) : Prop where
  nd : (l.map (·.1)).Nodup
  ky : ∀ p ∈ l, 0 <= p.1 /\ p.1 <= 99
  vl : ∀ p ∈ l, 1 <= p.2 /\ p.2 <= 9
  ln : l.length < 64
structure GlaOk (I : Gla) : Prop where
  n1 : 1 <= I.grounds.length
  n2 : I.grounds.length <= 6
  lz : I.leaps.length = I.grounds.length
  gl : ∀ g ∈ I.grounds, 1 <= g.length /\ g.length <= 30 /\ ∀ h ∈ g, 0 <= h /\ h <= 99
  lo : ∀ l ∈ I.leaps, LeapOk l
  r1 : 1 <= I.round.length /\ I.round.length <= 12
  ro : ∀ r ∈ I.round, RowOk r
  sn : (I.single.map (·.1)).Nodup
  sk : ∀ p ∈ I.single, 0 <= p.1 /\ p.1 <= 99 /\ RowOk p.2
  sl : I.single.length < 64
section
variable {μ : Mem} {v : Vl} {I : Gla} {l : Int}
end
section
variable {μ : Mem} {v : Vl} {I : Gla} {l : Int}
end
end Q
end
section
set_option linter.all false
set_option maxRecDepth 100000
set_option maxHeartbeats 2000000
namespace Q
open PySem Fm
section
variable {μ : Mem} {b : Nat}
end
section
variable {β : Type}
def putS (s : List (Int × β)) (k : Int) (v : β) : List (Int × β) := if s.any (fun p => decide (p.1 = k)) = true then s.map fun p => if p.1 = k then (p.1, v) else p else s ++ [(k, v)]
theorem putS_keys {s : List (Int × β)} {k : Int} {v : β} (nd : (s.map (·.1)).Nodup) : ((putS s k v).map (·.1)).Nodup := by
  unfold putS
  split
  . have e : (s.map fun p => if p.1 = k then (p.1, v) else p).map (·.1) = s.map (·.1) := by
      rw [List.map_map]
      refine List.map_congr_left fun p _ => ?_
      by_cases z : p.1 = k <;> simp [z]
    rw [e]
    exact nd
  . rename_i h
    rw [List.map_append, List.nodup_append]
    refine ⟨nd, by simp, fun a ha b hb => ?_⟩
    have hb' : b = k := by simpa using hb
    subst hb'
    intro z
    subst z
    obtain ⟨p, hp, e⟩ := List.mem_map.mp ha
    exact h (List.any_eq_true.mpr ⟨p, hp, decide_eq_true e⟩)
theorem putS_mem {s : List (Int × β)} {k : Int} {v : β} {p : Int × β} (h : p ∈ putS s k v) : p ∈ s \/ p = (k, v) := by
  unfold putS at h
  split at h
  . obtain ⟨q, hq, rfl⟩ := List.mem_map.mp h
    by_cases e : q.1 = k
    . right
      simp [e]
    . left
      simp [e, hq]
  . rcases List.mem_append.mp h with h | h
    . exact .inl h
    . exact .inr (by simpa using h)
theorem putS_len {s : List (Int × β)} {k : Int} {v : β} : (putS s k v).length <= s.length + 1 := by
  unfold putS
  split <;> simp
end
theorem putS_leap {l : List (Int × Int)} {k v : Int} (h : LeapOk l) (hk : 0 <= k /\ k <= 99) (hv : 1 <= v /\ v <= 9) (hl : l.length + 1 < 64) : LeapOk (putS l k v) := by
  refine ⟨putS_keys h.nd, fun p hp => ?_, fun p hp => ?_, by have := putS_len (s := l) (k := k) (v := v); omega⟩
  . rcases putS_mem hp with q | rfl
    . exact h.ky p q
    . exact hk
  . rcases putS_mem hp with q | rfl
    . exact h.vl p q
    . exact hv
structure SingOk (s : List (Int × Row)) : Prop where
  nd : (s.map (·.1)).Nodup
  ok : ∀ p ∈ s, 0 <= p.1 /\ p.1 <= 99 /\ RowOk p.2
section
variable {R W s G L : Vl}
end
end Q
end
section
set_option linter.all false
set_option maxRecDepth 100000
set_option maxHeartbeats 2000000
namespace Q
open PySem Fm
section
variable {μ : Mem} {m : Nat} {s : List (Int × Row)} {kv : List (Ky × Vl)} {ls : List (List (Int × Int))}
end
section
variable {b : Nat} {μ : Mem} {R W G L : Vl}
structure LsOk (ls : List (List (Int × Int))) (n k : Nat) : Prop where
  ln : ls.length = n
  ok : ∀ l ∈ ls, LeapOk l /\ l.length + k <= 40
theorem LsOk.set {ls : List (List (Int × Int))} {n k i : Nat} {l : List (Int × Int)} (h : LsOk ls n (k + 1)) (hl : ls[i]? = some l) {y v : Int} (hy : 0 <= y /\ y <= 99) (hv : 1 <= v /\ v <= 9) : LsOk (ls.set i (putS l y v)) n k := by
  refine ⟨by rw [List.length_set]; exact h.ln, fun x hx => ?_⟩
  rcases List.mem_or_eq_of_mem_set hx with q | rfl
  . obtain ⟨a, c⟩ := h.ok x q
    exact ⟨a, by omega⟩
  . obtain ⟨a, c⟩ := h.ok l (List.mem_of_getElem? hl)
    have := putS_len (s := l) (k := y) (v := v)
    exact ⟨putS_leap a hy hv (by omega), by omega⟩
end
end Q
end
section
set_option linter.all false
set_option maxRecDepth 100000
set_option maxHeartbeats 2000000
namespace Q
open PySem Fm
section
variable {μ : Mem}
end
def lanesOf (rs : List Rch) : List (List Int) := (roadsOf rs).map (along rs)
section
variable {rs : List Rch}
theorem heads_pos (h : Vy rs) : 1 <= (heads rs).length := List.length_pos_of_mem (heads_mem.mpr ⟨⟨by have := h.n1; omega, by have := h.n1; omega⟩, last_free h.falls h.n1⟩)
theorem Vy.gB (h : Vy rs) {i : Int} (h0 : 0 <= i) (h1 : i < rs.length) : groundB (groundOf rs i) = true := by
  have e := List.getElem?_eq_getElem (l := rs) (i := i.toNat) (by omega)
  have := h.ok i.toNat _ e
  unfold reachB at this
  rw [Bool.and_eq_true] at this
  unfold groundOf
  rw [e]
  exact this.2
end
structure ScOk (S : Gla) : Prop extends GlaOk S where
  vy : Vy S.valley
  v8 : S.valley.length <= 8
  gr : S.grounds = lanesOf S.valley
end Q
end
section
set_option linter.all false
set_option maxRecDepth 100000
set_option maxHeartbeats 2000000
namespace Q
open PySem Fm
section
variable {b : Nat} {μ : Mem}
end
end Q
end
section
set_option linter.all false
set_option maxRecDepth 100000
set_option maxHeartbeats 2000000
namespace Fm
open PySem
section
variable {Γ : En} {μ : Mem}
def fPut (μ : Mem) (c f : Str) (x v : Vl) : Option Mem := match x with
  | .ref i => match μ[i]? with
    | some (some (.ins c' fs)) => if c' = c /\ fs.length < 1000 then some (setM μ i (.ins c (putFl f v fs))) else none
    | _ => none
  | _ => none
theorem s_sFld {c f : Str} {o e : ME} : sFld c f o e Γ μ = (e Γ μ).st Γ fun v μ1 => (o Γ μ1).st Γ fun x μ2 => mK (fPut μ2 c f x v) Γ := by
  unfold sFld
  congr
  funext v μ1
  congr
  funext x μ2
  unfold fPut
  cases x with
  | ref i =>
    simp only
    cases μ2[i]? with
    | none => rfl
    | some q =>
      cases q with
      | none => rfl
      | some o =>
        cases o with
        | ins c' fs =>
          simp only
          split <;> rfl
        | _ => rfl
  | _ => rfl
def nonK (v : Vl) (r : Rs Vl) : Rs Vl := match v with
  | .non => r
  | _ => .no
@[simp] theorem s_nonK {r : Rs Vl} : nonK .non r = r := rfl
end
end Fm
namespace Q
open PySem Fm
section
variable {μ : Mem} {R W G L : Vl} {m : Nat} {s : List (Int × Row)} {ls : List (List (Int × Int))}
end
end Q
end
section
set_option linter.all false
set_option maxRecDepth 100000
set_option maxHeartbeats 4000000
namespace Fm
open PySem
section defs
variable {α : Type}
def Wp (o : So) (Q : Out -> Mem -> Prop) : Prop := match o with
  | none => False
  | some (o, μ) => Q o μ
def WpR (r : Rs α) (Q : α -> Mem -> Prop) (E : Str -> Option Int -> Mem -> Prop) : Prop := match r with
  | .no => False
  | .ok x μ => Q x μ
  | .ex c i μ => E c i μ
def WpO (o : Option α) (Q : α -> Prop) : Prop := match o with
  | some x => Q x
  | none => False
def Kn (b : MS) (Q : Out -> Mem -> Prop) (o : Out) (μ : Mem) : Prop := match o with
  | .nx Γ => Wp (b Γ μ) Q
  | o => Q o μ
def KV (μ : Mem) (Q : Vl -> Mem -> Prop) (E : Str -> Option Int -> Mem -> Prop) (o : Out) (μ' : Mem) : Prop := WpR (outV μ (some (o, μ'))) Q E
def KF (μ : Mem) (Q : MO -> Mem -> Prop) (E : Str -> Option Int -> Mem -> Prop) (o : Out) (μ' : Mem) : Prop := WpR (outF μ (some (o, μ'))) Q E
def KR (Q : Vl -> Mem -> Prop) (E : Str -> Option Int -> Mem -> Prop) (o : Out) (μ' : Mem) : Prop := WpR (outR (some (o, μ'))) Q E
def KL (ws : List Nat) (J : En -> Mem -> Prop) (Q : Out -> Mem -> Prop) (o : Out) (μ : Mem) : Prop := match o with
  | .nx Γ => J (wip ws Γ) μ
  | .ct Γ => J (wip ws Γ) μ
  | .bk Γ => Q (.nx (wip ws Γ)) μ
  | o => Q o μ
def XK (Q : Out -> Mem -> Prop) (Γ : En) (c : Str) (i : Option Int) (μ : Mem) : Prop := Q (.ex c i Γ) μ
def noX : Str -> Option Int -> Mem -> Prop := fun _ _ _ => False
end defs
section
variable {α : Type} {Γ : En} {μ μ' : Mem} {Q : Out -> Mem -> Prop} {E : Str -> Option Int -> Mem -> Prop} {R : Vl -> Mem -> Prop}
@[simp ↓, simp] theorem w_some {o : Out} : Wp (some (o, μ)) Q = Q o μ := rfl
@[simp ↓, simp] theorem w_none : Wp none Q = False := rfl
@[simp ↓, simp] theorem w_ok {x : α} {R : α -> Mem -> Prop} : WpR (.ok x μ) R E = R x μ := rfl
@[simp ↓, simp] theorem w_ex {c : Str} {i : Option Int} {R : α -> Mem -> Prop} : WpR (.ex c i μ) R E = E c i μ := rfl
@[simp ↓, simp] theorem w_no {R : α -> Mem -> Prop} : WpR .no R E = False := rfl
@[simp ↓, simp] theorem w_osome {x : α} {R : α -> Prop} : WpO (some x) R = R x := rfl
@[simp ↓, simp] theorem w_onone {R : α -> Prop} : WpO none R = False := rfl
@[simp ↓, simp] theorem k_nx {b : MS} : Kn b Q (.nx Γ) μ = Wp (b Γ μ) Q := rfl
@[simp ↓, simp] theorem k_rt {b : MS} {x : Vl} : Kn b Q (.rt x) μ = Q (.rt x) μ := rfl
@[simp ↓, simp] theorem k_rf {b : MS} {i : Option Nat} {o : MO} : Kn b Q (.rf i o) μ = Q (.rf i o) μ := rfl
@[simp ↓, simp] theorem k_bk {b : MS} : Kn b Q (.bk Γ) μ = Q (.bk Γ) μ := rfl
@[simp ↓, simp] theorem k_ct {b : MS} : Kn b Q (.ct Γ) μ = Q (.ct Γ) μ := rfl
@[simp ↓, simp] theorem k_ex {b : MS} {c : Str} {i : Option Int} : Kn b Q (.ex c i Γ) μ = Q (.ex c i Γ) μ := rfl
@[simp ↓, simp] theorem kv_rt {x : Vl} : KV μ R E (.rt x) μ' = R x (gcM (x.und μ.length) μ μ') := rfl
@[simp ↓, simp] theorem kv_nx : KV μ R E (.nx Γ) μ' = R .non (gcM true μ μ') := rfl
@[simp ↓, simp] theorem kv_ex {c : Str} {i : Option Int} : KV μ R E (.ex c i Γ) μ' = E c i (gcM true μ μ') := rfl
@[simp ↓, simp] theorem kf_rf {o : MO} {R : MO -> Mem -> Prop} : KF μ R E (.rf none o) μ' = R o (gcM (o.und μ.length) μ μ') := rfl
@[simp ↓, simp] theorem kf_ex {c : Str} {i : Option Int} {R : MO -> Mem -> Prop} : KF μ R E (.ex c i Γ) μ' = E c i (gcM true μ μ') := rfl
@[simp ↓, simp] theorem kr_rt {x : Vl} : KR R E (.rt x) μ' = R x μ' := rfl
@[simp ↓, simp] theorem kr_nx : KR R E (.nx Γ) μ' = R .non μ' := rfl
@[simp ↓, simp] theorem kr_ex {c : Str} {i : Option Int} : KR R E (.ex c i Γ) μ' = E c i μ' := rfl
@[simp ↓, simp] theorem kl_nx {ws : List Nat} {J : En -> Mem -> Prop} : KL ws J Q (.nx Γ) μ = J (wip ws Γ) μ := rfl
@[simp ↓, simp] theorem kl_ct {ws : List Nat} {J : En -> Mem -> Prop} : KL ws J Q (.ct Γ) μ = J (wip ws Γ) μ := rfl
@[simp ↓, simp] theorem kl_bk {ws : List Nat} {J : En -> Mem -> Prop} : KL ws J Q (.bk Γ) μ = Q (.nx (wip ws Γ)) μ := rfl
@[simp ↓, simp] theorem kl_rt {ws : List Nat} {J : En -> Mem -> Prop} {x : Vl} : KL ws J Q (.rt x) μ = Q (.rt x) μ := rfl
@[simp ↓, simp] theorem kl_rf {ws : List Nat} {J : En -> Mem -> Prop} {i : Option Nat} {o : MO} : KL ws J Q (.rf i o) μ = Q (.rf i o) μ := rfl
@[simp ↓, simp] theorem kl_ex {ws : List Nat} {J : En -> Mem -> Prop} {c : Str} {i : Option Int} : KL ws J Q (.ex c i Γ) μ = Q (.ex c i Γ) μ := rfl
@[simp ↓, simp] theorem xk {c : Str} {i : Option Int} : XK Q Γ c i μ = Q (.ex c i Γ) μ := rfl
@[simp ↓, simp] theorem x_no {c : Str} {i : Option Int} : noX c i μ = False := rfl
theorem wp_iff {o : So} : Wp o Q <-> ∃ x μ, o = some (x, μ) /\ Q x μ := by
  cases o with
  | none => exact ⟨fun h => h.elim, fun ⟨_, _, h, _⟩ => by cases h⟩
  | some p => exact ⟨fun h => ⟨p.1, p.2, rfl, h⟩, fun ⟨_, _, h, q⟩ => by cases h; exact q⟩
theorem wpr_iff {r : Rs α} {R : α -> Mem -> Prop} : WpR r R noX <-> ∃ x μ, r = .ok x μ /\ R x μ := by
  cases r with
  | no => exact ⟨fun h => h.elim, fun ⟨_, _, h, _⟩ => by cases h⟩
  | ok x μ => exact ⟨fun h => ⟨x, μ, rfl, h⟩, fun ⟨_, _, h, q⟩ => by cases h; exact q⟩
  | ex c i μ => exact ⟨fun h => h.elim, fun ⟨_, _, h, _⟩ => by cases h⟩
theorem wpr_eq {r : Rs α} {v : α} (h : WpR r (fun x μ' => x = v /\ μ' = μ) noX) : r = .ok v μ := by
  obtain ⟨x, μ', e, rfl, rfl⟩ := wpr_iff.mp h
  exact e
theorem wpr_to {r : Rs α} {x : α} {R : α -> Mem -> Prop} (h : r = .ok x μ) (k : R x μ) : WpR r R E := by rw [h]; exact k
theorem Wp.mono {o : So} {Q' : Out -> Mem -> Prop} (h : Wp o Q) (k : ∀ x μ, Q x μ -> Q' x μ) : Wp o Q' := by
  obtain ⟨x, μ, e, q⟩ := wp_iff.mp h
  rw [e]
  exact k x μ q
theorem WpR.mono {r : Rs α} {R R' : α -> Mem -> Prop} {E' : Str -> Option Int -> Mem -> Prop} (h : WpR r R E) (k : ∀ x μ, R x μ -> R' x μ) (e : ∀ c i μ, E c i μ -> E' c i μ) : WpR r R' E' := by
  cases r with
  | no => exact h
  | ok x μ => exact k x μ h
  | ex c i μ => exact e c i μ h
theorem WpR.use {r : Rs α} {R R' : α -> Mem -> Prop} (h : WpR r R noX) (k : ∀ x μ, R x μ -> R' x μ) : WpR r R' E := h.mono k fun _ _ _ h => h.elim
theorem WpO.mono {o : Option α} {A B : α -> Prop} (h : WpO o A) (k : ∀ x, A x -> B x) : WpO o B := by
  cases o with
  | none => exact h
  | some x => exact k x h
theorem w_bind {β : Type} {r : Rs α} {f : α -> Mem -> Rs β} {R : β -> Mem -> Prop} : WpR (r.bind f) R E = WpR r (fun x μ => WpR (f x μ) R E) E := by cases r <;> rfl
theorem w_of {o : Option α} {R : α -> Mem -> Prop} : WpR (Rs.of o μ) R E = WpO o (fun x => R x μ) := by cases o <;> rfl
theorem w_st {r : Rs α} {f : α -> Mem -> So} : Wp (r.st Γ f) Q = WpR r (fun x μ => Wp (f x μ) Q) (XK Q Γ) := by cases r <;> rfl
theorem wr_congr {r : Rs α} {R R' : α -> Mem -> Prop} (h : ∀ x μ, R x μ = R' x μ) : WpR r R E = WpR r R' E := by
  have : R = R' := funext fun x => funext fun μ => h x μ
  rw [this]
end
def kR {β : Type} (R : β -> Mem -> Prop) (μ : Mem) (z : β) : Prop := R z μ
@[simp ↓, simp] theorem kR_w {β : Type} {R : β -> Mem -> Prop} {μ : Mem} {z : β} : kR R μ z = R z μ := rfl
@[simp ↓] theorem w_var {i : Nat} {Γ : En} {μ : Mem} {R : Vl -> Mem -> Prop} {E : Str -> Option Int -> Mem -> Prop} : WpR (eVar i Γ μ) R E = WpO (slotV i Γ) (kR R μ) := w_of
@[simp ↓] theorem w_C {x : Vl} {Γ : En} {μ : Mem} {R : Vl -> Mem -> Prop} {E : Str -> Option Int -> Mem -> Prop} : WpR (eC x Γ μ) R E = R x μ := rfl
def kOp2 {β : Type} (g2 : Vl -> Vl -> Mem -> Option β) (x : Vl) (Rb : β -> Mem -> Prop) (y : Vl) (μ : Mem) : Prop := WpO (g2 x y μ) (kR Rb μ)
@[simp ↓, simp] theorem kOp2_w {β : Type} {g2 : Vl -> Vl -> Mem -> Option β} {x : Vl} {Rb : β -> Mem -> Prop} {y : Vl} {μ : Mem} : kOp2 g2 x Rb y μ = (WpO (g2 x y μ) (kR Rb μ)) := rfl
def kOp1 {β : Type} (g2 : Vl -> Vl -> Mem -> Option β) (b : ME) (Γ : En) (Rb : β -> Mem -> Prop) (E : Str -> Option Int -> Mem -> Prop) (x : Vl) (μ : Mem) : Prop := WpR (b Γ μ) (kOp2 g2 x Rb) E
@[simp ↓, simp] theorem kOp1_w {β : Type} {g2 : Vl -> Vl -> Mem -> Option β} {b : ME} {Γ : En} {Rb : β -> Mem -> Prop} {E : Str -> Option Int -> Mem -> Prop} {x : Vl} {μ : Mem} : kOp1 g2 b Γ Rb E x μ = (WpR (b Γ μ) (kOp2 g2 x Rb) E) := rfl
@[simp ↓] theorem w_eOp {h2 : Vl -> Vl -> Mem -> Option Vl} {a : ME} {b : ME} {Γ : En} {μ : Mem} {R : Vl -> Mem -> Prop} {E : Str -> Option Int -> Mem -> Prop} : WpR (eOp h2 a b Γ μ) R E = WpR (a Γ μ) (kOp1 h2 b Γ R E) E := by
  rw [s_eOp, w_bind]
  refine wr_congr fun x μ => ?_
  rw [w_bind]
  refine wr_congr fun x μ => ?_
  exact w_of
@[simp ↓] theorem w_fOp {g : Vl -> Vl -> Mem -> Option MO} {a b : ME} {Γ : En} {μ : Mem} {R : MO -> Mem -> Prop} {E : Str -> Option Int -> Mem -> Prop} : WpR (fOp g a b Γ μ) R E = WpR (a Γ μ) (kOp1 g b Γ R E) E := by
  rw [s_fOp, w_bind]
  refine wr_congr fun x μ => ?_
  rw [w_bind]
  refine wr_congr fun x μ => ?_
  exact w_of
def kUn {β : Type} (g1 : Vl -> Mem -> Option β) (Rb : β -> Mem -> Prop) (x : Vl) (μ : Mem) : Prop := WpO (g1 x μ) (kR Rb μ)
@[simp ↓, simp] theorem kUn_w {β : Type} {g1 : Vl -> Mem -> Option β} {Rb : β -> Mem -> Prop} {x : Vl} {μ : Mem} : kUn g1 Rb x μ = (WpO (g1 x μ) (kR Rb μ)) := rfl
@[simp ↓] theorem w_eUn {g : Vl -> Mem -> Option Vl} {a : ME} {Γ : En} {μ : Mem} {R : Vl -> Mem -> Prop} {E : Str -> Option Int -> Mem -> Prop} : WpR (eUn g a Γ μ) R E = WpR (a Γ μ) (kUn g R) E := by
  rw [s_eUn, w_bind]
  exact wr_congr fun x μ => w_of
@[simp ↓] theorem w_fUn {g : Vl -> Mem -> Option MO} {a : ME} {Γ : En} {μ : Mem} {R : MO -> Mem -> Prop} {E : Str -> Option Int -> Mem -> Prop} : WpR (fUn g a Γ μ) R E = WpR (a Γ μ) (kUn g R) E := by
  rw [s_fUn, w_bind]
  exact wr_congr fun x μ => w_of
def WAnd (ci : Bool) (b : ME) (Γ : En) (μ : Mem) (R : Vl -> Mem -> Prop) (E : Str -> Option Int -> Mem -> Prop) : Prop := match ci with
  | true => WpR (b Γ μ) R E
  | false => R (.bl false) μ
@[simp ↓, simp] theorem WAnd_t {b : ME} {Γ : En} {μ : Mem} {R : Vl -> Mem -> Prop} {E : Str -> Option Int -> Mem -> Prop} : WAnd true b Γ μ R E = (WpR (b Γ μ) R E) := rfl
@[simp ↓, simp] theorem WAnd_f {b : ME} {Γ : En} {μ : Mem} {R : Vl -> Mem -> Prop} {E : Str -> Option Int -> Mem -> Prop} : WAnd false b Γ μ R E = (R (.bl false) μ) := rfl
def WOr (ci : Bool) (b : ME) (Γ : En) (μ : Mem) (R : Vl -> Mem -> Prop) (E : Str -> Option Int -> Mem -> Prop) : Prop := match ci with
  | true => R (.bl true) μ
  | false => WpR (b Γ μ) R E
@[simp ↓, simp] theorem WOr_t {b : ME} {Γ : En} {μ : Mem} {R : Vl -> Mem -> Prop} {E : Str -> Option Int -> Mem -> Prop} : WOr true b Γ μ R E = (R (.bl true) μ) := rfl
@[simp ↓, simp] theorem WOr_f {b : ME} {Γ : En} {μ : Mem} {R : Vl -> Mem -> Prop} {E : Str -> Option Int -> Mem -> Prop} : WOr false b Γ μ R E = (WpR (b Γ μ) R E) := rfl
def kAnd2 (b : ME) (Γ : En) (μ : Mem) (R : Vl -> Mem -> Prop) (E : Str -> Option Int -> Mem -> Prop) (ci : Bool) : Prop := WAnd ci b Γ μ R E
@[simp ↓, simp] theorem kAnd2_w {b : ME} {Γ : En} {μ : Mem} {R : Vl -> Mem -> Prop} {E : Str -> Option Int -> Mem -> Prop} {ci : Bool} : kAnd2 b Γ μ R E ci = (WAnd ci b Γ μ R E) := rfl
def kOr2 (b : ME) (Γ : En) (μ : Mem) (R : Vl -> Mem -> Prop) (E : Str -> Option Int -> Mem -> Prop) (ci : Bool) : Prop := WOr ci b Γ μ R E
@[simp ↓, simp] theorem kOr2_w {b : ME} {Γ : En} {μ : Mem} {R : Vl -> Mem -> Prop} {E : Str -> Option Int -> Mem -> Prop} {ci : Bool} : kOr2 b Γ μ R E ci = (WOr ci b Γ μ R E) := rfl
def kNot2 (R : Vl -> Mem -> Prop) (μ : Mem) (ci : Bool) : Prop := R (.bl (!ci)) μ
@[simp ↓, simp] theorem kNot2_w {R : Vl -> Mem -> Prop} {μ : Mem} {ci : Bool} : kNot2 R μ ci = (R (.bl (!ci)) μ) := rfl
def kAnd (b : ME) (Γ : En) (R : Vl -> Mem -> Prop) (E : Str -> Option Int -> Mem -> Prop) (x : Vl) (μ : Mem) : Prop := WpO (getB x) (kAnd2 b Γ μ R E)
@[simp ↓, simp] theorem kAnd_w {b : ME} {Γ : En} {R : Vl -> Mem -> Prop} {E : Str -> Option Int -> Mem -> Prop} {x : Vl} {μ : Mem} : kAnd b Γ R E x μ = (WpO (getB x) (kAnd2 b Γ μ R E)) := rfl
def kOr (b : ME) (Γ : En) (R : Vl -> Mem -> Prop) (E : Str -> Option Int -> Mem -> Prop) (x : Vl) (μ : Mem) : Prop := WpO (getB x) (kOr2 b Γ μ R E)
@[simp ↓, simp] theorem kOr_w {b : ME} {Γ : En} {R : Vl -> Mem -> Prop} {E : Str -> Option Int -> Mem -> Prop} {x : Vl} {μ : Mem} : kOr b Γ R E x μ = (WpO (getB x) (kOr2 b Γ μ R E)) := rfl
def kNot (R : Vl -> Mem -> Prop) (x : Vl) (μ : Mem) : Prop := WpO (getB x) (kNot2 R μ)
@[simp ↓, simp] theorem kNot_w {R : Vl -> Mem -> Prop} {x : Vl} {μ : Mem} : kNot R x μ = (WpO (getB x) (kNot2 R μ)) := rfl
@[simp ↓] theorem w_eAnd {a : ME} {b : ME} {Γ : En} {μ : Mem} {R : Vl -> Mem -> Prop} {E : Str -> Option Int -> Mem -> Prop} : WpR (eAnd a b Γ μ) R E = WpR (a Γ μ) (kAnd b Γ R E) E := by
  unfold eAnd
  rw [w_bind]
  refine wr_congr fun x μ => ?_
  show _ = WpO (getB x) _
  cases getB x with
  | none => rfl
  | some c => cases c <;> rfl
@[simp ↓] theorem w_eOr {a : ME} {b : ME} {Γ : En} {μ : Mem} {R : Vl -> Mem -> Prop} {E : Str -> Option Int -> Mem -> Prop} : WpR (eOr a b Γ μ) R E = WpR (a Γ μ) (kOr b Γ R E) E := by
  unfold eOr
  rw [w_bind]
  refine wr_congr fun x μ => ?_
  show _ = WpO (getB x) _
  cases getB x with
  | none => rfl
  | some c => cases c <;> rfl
@[simp ↓] theorem w_eNot {a : ME} {Γ : En} {μ : Mem} {R : Vl -> Mem -> Prop} {E : Str -> Option Int -> Mem -> Prop} : WpR (eNot a Γ μ) R E = WpR (a Γ μ) (kNot R) E := by
  unfold eNot
  rw [w_bind]
  refine wr_congr fun x μ => ?_
  show _ = WpO (getB x) _
  cases getB x with
  | none => rfl
  | some c => cases c <;> rfl
def WIfE (ci : Bool) (a : ME) (b : ME) (Γ : En) (μ : Mem) (R : Vl -> Mem -> Prop) (E : Str -> Option Int -> Mem -> Prop) : Prop := match ci with
  | true => WpR (a Γ μ) R E
  | false => WpR (b Γ μ) R E
@[simp ↓, simp] theorem WIfE_t {a : ME} {b : ME} {Γ : En} {μ : Mem} {R : Vl -> Mem -> Prop} {E : Str -> Option Int -> Mem -> Prop} : WIfE true a b Γ μ R E = (WpR (a Γ μ) R E) := rfl
@[simp ↓, simp] theorem WIfE_f {a : ME} {b : ME} {Γ : En} {μ : Mem} {R : Vl -> Mem -> Prop} {E : Str -> Option Int -> Mem -> Prop} : WIfE false a b Γ μ R E = (WpR (b Γ μ) R E) := rfl
def kIfE (a : ME) (b : ME) (Γ : En) (R : Vl -> Mem -> Prop) (E : Str -> Option Int -> Mem -> Prop) (ci : Bool) (μ : Mem) : Prop := WIfE ci a b Γ μ R E
@[simp ↓, simp] theorem kIfE_w {a : ME} {b : ME} {Γ : En} {R : Vl -> Mem -> Prop} {E : Str -> Option Int -> Mem -> Prop} {ci : Bool} {μ : Mem} : kIfE a b Γ R E ci μ = (WIfE ci a b Γ μ R E) := rfl
@[simp ↓] theorem w_eIf {ts : MT} {a : ME} {b : ME} {Γ : En} {μ : Mem} {R : Vl -> Mem -> Prop} {E : Str -> Option Int -> Mem -> Prop} : WpR (eIf ts a b Γ μ) R E = WpR (ts Γ μ) (kIfE a b Γ R E) E := by
  unfold eIf
  rw [w_bind]
  refine wr_congr fun x μ => ?_
  cases x <;> rfl
def WCh (ci : Bool) (q2 : Vl -> Vl -> Mem -> Option Vl) (y : Vl) (c : ME) (Γ : En) (μ : Mem) (R : Vl -> Mem -> Prop) (E : Str -> Option Int -> Mem -> Prop) : Prop := match ci with
  | true => WpR (c Γ μ) (kOp2 q2 y R) E
  | false => R (.bl false) μ
@[simp ↓, simp] theorem WCh_t {q2 : Vl -> Vl -> Mem -> Option Vl} {y : Vl} {c : ME} {Γ : En} {μ : Mem} {R : Vl -> Mem -> Prop} {E : Str -> Option Int -> Mem -> Prop} : WCh true q2 y c Γ μ R E = (WpR (c Γ μ) (kOp2 q2 y R) E) := rfl
@[simp ↓, simp] theorem WCh_f {q2 : Vl -> Vl -> Mem -> Option Vl} {y : Vl} {c : ME} {Γ : En} {μ : Mem} {R : Vl -> Mem -> Prop} {E : Str -> Option Int -> Mem -> Prop} : WCh false q2 y c Γ μ R E = (R (.bl false) μ) := rfl
def kCh4 (q2 : Vl -> Vl -> Mem -> Option Vl) (y : Vl) (c : ME) (Γ : En) (μ : Mem) (R : Vl -> Mem -> Prop) (E : Str -> Option Int -> Mem -> Prop) (ci : Bool) : Prop := WCh ci q2 y c Γ μ R E
@[simp ↓, simp] theorem kCh4_w {q2 : Vl -> Vl -> Mem -> Option Vl} {y : Vl} {c : ME} {Γ : En} {μ : Mem} {R : Vl -> Mem -> Prop} {E : Str -> Option Int -> Mem -> Prop} {ci : Bool} : kCh4 q2 y c Γ μ R E ci = (WCh ci q2 y c Γ μ R E) := rfl
def kCh3 (q2 : Vl -> Vl -> Mem -> Option Vl) (y : Vl) (c : ME) (Γ : En) (μ : Mem) (R : Vl -> Mem -> Prop) (E : Str -> Option Int -> Mem -> Prop) (z : Vl) : Prop := WpO (getB z) (kCh4 q2 y c Γ μ R E)
@[simp ↓, simp] theorem kCh3_w {q2 : Vl -> Vl -> Mem -> Option Vl} {y : Vl} {c : ME} {Γ : En} {μ : Mem} {R : Vl -> Mem -> Prop} {E : Str -> Option Int -> Mem -> Prop} {z : Vl} : kCh3 q2 y c Γ μ R E z = (WpO (getB z) (kCh4 q2 y c Γ μ R E)) := rfl
def kCh2 (h2 : Vl -> Vl -> Mem -> Option Vl) (q2 : Vl -> Vl -> Mem -> Option Vl) (x : Vl) (c : ME) (Γ : En) (R : Vl -> Mem -> Prop) (E : Str -> Option Int -> Mem -> Prop) (y : Vl) (μ : Mem) : Prop := WpO (h2 x y μ) (kCh3 q2 y c Γ μ R E)
@[simp ↓, simp] theorem kCh2_w {h2 : Vl -> Vl -> Mem -> Option Vl} {q2 : Vl -> Vl -> Mem -> Option Vl} {x : Vl} {c : ME} {Γ : En} {R : Vl -> Mem -> Prop} {E : Str -> Option Int -> Mem -> Prop} {y : Vl} {μ : Mem} : kCh2 h2 q2 x c Γ R E y μ = (WpO (h2 x y μ) (kCh3 q2 y c Γ μ R E)) := rfl
def kCh1 (h2 : Vl -> Vl -> Mem -> Option Vl) (q2 : Vl -> Vl -> Mem -> Option Vl) (b : ME) (c : ME) (Γ : En) (R : Vl -> Mem -> Prop) (E : Str -> Option Int -> Mem -> Prop) (x : Vl) (μ : Mem) : Prop := WpR (b Γ μ) (kCh2 h2 q2 x c Γ R E) E
@[simp ↓, simp] theorem kCh1_w {h2 : Vl -> Vl -> Mem -> Option Vl} {q2 : Vl -> Vl -> Mem -> Option Vl} {b : ME} {c : ME} {Γ : En} {R : Vl -> Mem -> Prop} {E : Str -> Option Int -> Mem -> Prop} {x : Vl} {μ : Mem} : kCh1 h2 q2 b c Γ R E x μ = (WpR (b Γ μ) (kCh2 h2 q2 x c Γ R E) E) := rfl
@[simp ↓] theorem w_eChain {h2 : Vl -> Vl -> Mem -> Option Vl} {q2 : Vl -> Vl -> Mem -> Option Vl} {a : ME} {b : ME} {c : ME} {Γ : En} {μ : Mem} {R : Vl -> Mem -> Prop} {E : Str -> Option Int -> Mem -> Prop} : WpR (eChain h2 q2 a b c Γ μ) R E = WpR (a Γ μ) (kCh1 h2 q2 b c Γ R E) E := by
  unfold eChain
  rw [w_bind]
  refine wr_congr fun x μ => ?_
  rw [w_bind]
  refine wr_congr fun y μ => ?_
  show _ = WpO (h2 x y μ) _
  cases h2 x y μ with
  | none => rfl
  | some v =>
    cases v with
    | bl c =>
      cases c with
      | false => rfl
      | true =>
        show WpR (Rs.bind _ _) _ _ = WpR _ _ _
        rw [w_bind]
        exact wr_congr fun z μ => w_of
    | _ => rfl
@[simp ↓] theorem w_aNil {Γ : En} {μ : Mem} {RA : List Vl -> Mem -> Prop} {E : Str -> Option Int -> Mem -> Prop} : WpR (aNil Γ μ) RA E = RA [] μ := rfl
def kCons2 (x : Vl) (RA : List Vl -> Mem -> Prop) (xs : List Vl) (μ : Mem) : Prop := RA (x :: xs) μ
@[simp ↓, simp] theorem kCons2_w {x : Vl} {RA : List Vl -> Mem -> Prop} {xs : List Vl} {μ : Mem} : kCons2 x RA xs μ = (RA (x :: xs) μ) := rfl
def kCons (as : MA) (Γ : En) (RA : List Vl -> Mem -> Prop) (E : Str -> Option Int -> Mem -> Prop) (x : Vl) (μ : Mem) : Prop := WpR (as Γ μ) (kCons2 x RA) E
@[simp ↓, simp] theorem kCons_w {as : MA} {Γ : En} {RA : List Vl -> Mem -> Prop} {E : Str -> Option Int -> Mem -> Prop} {x : Vl} {μ : Mem} : kCons as Γ RA E x μ = (WpR (as Γ μ) (kCons2 x RA) E) := rfl
@[simp ↓] theorem w_aCons {a : ME} {as : MA} {Γ : En} {μ : Mem} {RA : List Vl -> Mem -> Prop} {E : Str -> Option Int -> Mem -> Prop} : WpR (aCons a as Γ μ) RA E = WpR (a Γ μ) (kCons as Γ RA E) E := by
  rw [s_aCons, w_bind]
  refine wr_congr fun x μ => ?_
  rw [w_bind]
  rfl
def kTup2 (R : Vl -> Mem -> Prop) (μ : Mem) (xs : List Vl) : Prop := R (.tup xs) μ
@[simp ↓, simp] theorem kTup2_w {R : Vl -> Mem -> Prop} {μ : Mem} {xs : List Vl} : kTup2 R μ xs = (R (.tup xs) μ) := rfl
def kTup (R : Vl -> Mem -> Prop) (xs : List Vl) (μ : Mem) : Prop := WpO (fits xs) (kTup2 R μ)
@[simp ↓, simp] theorem kTup_w {R : Vl -> Mem -> Prop} {xs : List Vl} {μ : Mem} : kTup R xs μ = (WpO (fits xs) (kTup2 R μ)) := rfl
@[simp ↓] theorem w_eTup {as : MA} {Γ : En} {μ : Mem} {R : Vl -> Mem -> Prop} {E : Str -> Option Int -> Mem -> Prop} : WpR (eTup as Γ μ) R E = WpR (as Γ μ) (kTup R) E := by
  unfold eTup
  rw [w_bind]
  refine wr_congr fun x μ => ?_
  show _ = WpO (fits x) _
  cases fits x <;> rfl
def kLst2 (RF : MO -> Mem -> Prop) (μ : Mem) (xs : List Vl) : Prop := RF (.lst xs) μ
@[simp ↓, simp] theorem kLst2_w {RF : MO -> Mem -> Prop} {μ : Mem} {xs : List Vl} : kLst2 RF μ xs = (RF (.lst xs) μ) := rfl
def kLst (RF : MO -> Mem -> Prop) (xs : List Vl) (μ : Mem) : Prop := WpO (fits xs) (kLst2 RF μ)
@[simp ↓, simp] theorem kLst_w {RF : MO -> Mem -> Prop} {xs : List Vl} {μ : Mem} : kLst RF xs μ = (WpO (fits xs) (kLst2 RF μ)) := rfl
@[simp ↓] theorem w_fLst {as : MA} {Γ : En} {μ : Mem} {RF : MO -> Mem -> Prop} {E : Str -> Option Int -> Mem -> Prop} : WpR (fLst as Γ μ) RF E = WpR (as Γ μ) (kLst RF) E := by
  unfold fLst
  rw [w_bind]
  refine wr_congr fun x μ => ?_
  show _ = WpO (fits x) _
  cases fits x <;> rfl
def kFrz (R : Vl -> Mem -> Prop) (o : MO) (μ : Mem) : Prop := match o with
  | .lst xs => R (.lst xs) μ
  | .dk _ kvs => R (.dct (kvs.map (·.1)) (kvs.map (·.2))) μ
  | .dt _ kvs => R (.dtt (kvs.map (·.1)) (kvs.map (·.2))) μ
  | .ins c fs => R (.ins c (fs.map (·.1)) (fs.map (·.2))) μ
@[simp ↓, simp] theorem kFrz_l {R : Vl -> Mem -> Prop} {xs : List Vl} {μ : Mem} : kFrz R (.lst xs) μ = R (.lst xs) μ := rfl
@[simp ↓, simp] theorem kFrz_d {R : Vl -> Mem -> Prop} {l : Bool} {kvs : List (Ky × Vl)} {μ : Mem} : kFrz R (.dk l kvs) μ = R (.dct (kvs.map (·.1)) (kvs.map (·.2))) μ := rfl
@[simp ↓, simp] theorem kFrz_t {R : Vl -> Mem -> Prop} {l : Bool} {kvs : List (List Ky × Vl)} {μ : Mem} : kFrz R (.dt l kvs) μ = R (.dtt (kvs.map (·.1)) (kvs.map (·.2))) μ := rfl
@[simp ↓] theorem w_eFrz {f : MF} {Γ : En} {μ : Mem} {R : Vl -> Mem -> Prop} {E : Str -> Option Int -> Mem -> Prop} : WpR (eFrz f Γ μ) R E = WpR (f Γ μ) (kFrz R) E := by
  unfold eFrz
  rw [w_bind]
  refine wr_congr fun o μ => ?_
  cases o <;> rfl
def kNew (R : Vl -> Mem -> Prop) (o : MO) (μ : Mem) : Prop := R (.ref μ.length) (μ ++ [some o])
@[simp ↓, simp] theorem kNew_w {R : Vl -> Mem -> Prop} {o : MO} {μ : Mem} : kNew R o μ = (R (.ref μ.length) (μ ++ [some o])) := rfl
@[simp ↓] theorem w_eNew {f : MF} {Γ : En} {μ : Mem} {R : Vl -> Mem -> Prop} {E : Str -> Option Int -> Mem -> Prop} : WpR (eNew f Γ μ) R E = WpR (f Γ μ) (kNew R) E := by
  rw [s_eNew, w_bind]
  rfl
def kB {β : Type} (gB : List Vl -> Mem -> Option β) (Rb : β -> Mem -> Prop) (xs : List Vl) (μ : Mem) : Prop := WpO (gB xs μ) (kR Rb μ)
@[simp ↓, simp] theorem kB_w {β : Type} {gB : List Vl -> Mem -> Option β} {Rb : β -> Mem -> Prop} {xs : List Vl} {μ : Mem} : kB gB Rb xs μ = (WpO (gB xs μ) (kR Rb μ)) := rfl
@[simp ↓] theorem w_eB {g : List Vl -> Mem -> Option Vl} {as : MA} {Γ : En} {μ : Mem} {R : Vl -> Mem -> Prop} {E : Str -> Option Int -> Mem -> Prop} : WpR (eB g as Γ μ) R E = WpR (as Γ μ) (kB g R) E := by
  rw [s_eB, w_bind]
  exact wr_congr fun x μ => w_of
@[simp ↓] theorem w_fB {g : List Vl -> Mem -> Option MO} {as : MA} {Γ : En} {μ : Mem} {R : MO -> Mem -> Prop} {E : Str -> Option Int -> Mem -> Prop} : WpR (fB g as Γ μ) R E = WpR (as Γ μ) (kB g R) E := by
  rw [s_fB, w_bind]
  exact wr_congr fun x μ => w_of
@[simp ↓] theorem w_iB {g : List Vl -> Mem -> Option (List Vl × Gd)} {as : MA} {Γ : En} {μ : Mem} {R : (List Vl × Gd) -> Mem -> Prop} {E : Str -> Option Int -> Mem -> Prop} : WpR (iB g as Γ μ) R E = WpR (as Γ μ) (kB g R) E := by
  rw [s_iB, w_bind]
  exact wr_congr fun x μ => w_of
def kSrc (RI : (List Vl × Gd) -> Mem -> Prop) (x : Vl) (μ : Mem) : Prop := WpO (srcOf μ x) (kR RI μ)
@[simp ↓, simp] theorem kSrc_w {RI : (List Vl × Gd) -> Mem -> Prop} {x : Vl} {μ : Mem} : kSrc RI x μ = (WpO (srcOf μ x) (kR RI μ)) := rfl
@[simp ↓] theorem w_iSeq {a : ME} {Γ : En} {μ : Mem} {RI : (List Vl × Gd) -> Mem -> Prop} {E : Str -> Option Int -> Mem -> Prop} : WpR (iSeq a Γ μ) RI E = WpR (a Γ μ) (kSrc RI) E := by
  rw [s_iSeq, w_bind]
  exact wr_congr fun x μ => w_of
def kDsrc (RI : (List Vl × Gd) -> Mem -> Prop) (x : Vl) (μ : Mem) : Prop := WpO (dsrc μ x) (kR RI μ)
@[simp ↓, simp] theorem kDsrc_w {RI : (List Vl × Gd) -> Mem -> Prop} {x : Vl} {μ : Mem} : kDsrc RI x μ = (WpO (dsrc μ x) (kR RI μ)) := rfl
@[simp ↓] theorem w_iDict {a : ME} {Γ : En} {μ : Mem} {RI : (List Vl × Gd) -> Mem -> Prop} {E : Str -> Option Int -> Mem -> Prop} : WpR (iDict a Γ μ) RI E = WpR (a Γ μ) (kDsrc RI) E := by
  rw [s_iDict, w_bind]
  exact wr_congr fun x μ => w_of
def kCall {β : Type} (F : List Vl -> Mem -> Rs β) (Rb : β -> Mem -> Prop) (E : Str -> Option Int -> Mem -> Prop) (xs : List Vl) (μ : Mem) : Prop := WpR (F xs μ) Rb E
@[simp ↓, simp] theorem kCall_w {β : Type} {F : List Vl -> Mem -> Rs β} {Rb : β -> Mem -> Prop} {E : Str -> Option Int -> Mem -> Prop} {xs : List Vl} {μ : Mem} : kCall F Rb E xs μ = (WpR (F xs μ) Rb E) := rfl
@[simp ↓] theorem w_eCall {F : List Vl -> Mem -> Rs Vl} {as : MA} {Γ : En} {μ : Mem} {R : Vl -> Mem -> Prop} {E : Str -> Option Int -> Mem -> Prop} : WpR (eCall F as Γ μ) R E = WpR (as Γ μ) (kCall F R E) E := by
  rw [s_eCall, w_bind]
  rfl
@[simp ↓] theorem w_fCall {F : List Vl -> Mem -> Rs MO} {as : MA} {Γ : En} {μ : Mem} {R : MO -> Mem -> Prop} {E : Str -> Option Int -> Mem -> Prop} : WpR (fCall F as Γ μ) R E = WpR (as Γ μ) (kCall F R E) E := by
  rw [s_fCall, w_bind]
  rfl
@[simp ↓] theorem w_oNo {Γ : En} {μ : Mem} {RO : Option Int -> Mem -> Prop} {E : Str -> Option Int -> Mem -> Prop} : WpR (oNo Γ μ) RO E = RO none μ := rfl
def kOIs2 (RO : Option Int -> Mem -> Prop) (μ : Mem) (ki : Int) : Prop := RO (some ki) μ
@[simp ↓, simp] theorem kOIs2_w {RO : Option Int -> Mem -> Prop} {μ : Mem} {ki : Int} : kOIs2 RO μ ki = (RO (some ki) μ) := rfl
def kOIs (RO : Option Int -> Mem -> Prop) (x : Vl) (μ : Mem) : Prop := WpO (getI x) (kOIs2 RO μ)
@[simp ↓, simp] theorem kOIs_w {RO : Option Int -> Mem -> Prop} {x : Vl} {μ : Mem} : kOIs RO x μ = (WpO (getI x) (kOIs2 RO μ)) := rfl
@[simp ↓] theorem w_oIs {a : ME} {Γ : En} {μ : Mem} {RO : Option Int -> Mem -> Prop} {E : Str -> Option Int -> Mem -> Prop} : WpR (oIs a Γ μ) RO E = WpR (a Γ μ) (kOIs RO) E := by
  unfold oIs
  rw [w_bind]
  refine wr_congr fun x μ => ?_
  show _ = WpO (getI x) _
  cases getI x <;> rfl
def kSl3 {β : Type} (g3 : Vl -> Option Int -> Option Int -> Mem -> Option β) (x : Vl) (l : Option Int) (Rb : β -> Mem -> Prop) (h : Option Int) (μ : Mem) : Prop := WpO (g3 x l h μ) (kR Rb μ)
@[simp ↓, simp] theorem kSl3_w {β : Type} {g3 : Vl -> Option Int -> Option Int -> Mem -> Option β} {x : Vl} {l : Option Int} {Rb : β -> Mem -> Prop} {h : Option Int} {μ : Mem} : kSl3 g3 x l Rb h μ = (WpO (g3 x l h μ) (kR Rb μ)) := rfl
def kSl2 {β : Type} (g3 : Vl -> Option Int -> Option Int -> Mem -> Option β) (x : Vl) (hi : MO') (Γ : En) (Rb : β -> Mem -> Prop) (E : Str -> Option Int -> Mem -> Prop) (l : Option Int) (μ : Mem) : Prop := WpR (hi Γ μ) (kSl3 g3 x l Rb) E
@[simp ↓, simp] theorem kSl2_w {β : Type} {g3 : Vl -> Option Int -> Option Int -> Mem -> Option β} {x : Vl} {hi : MO'} {Γ : En} {Rb : β -> Mem -> Prop} {E : Str -> Option Int -> Mem -> Prop} {l : Option Int} {μ : Mem} : kSl2 g3 x hi Γ Rb E l μ = (WpR (hi Γ μ) (kSl3 g3 x l Rb) E) := rfl
def kSl1 {β : Type} (g3 : Vl -> Option Int -> Option Int -> Mem -> Option β) (lo : MO') (hi : MO') (Γ : En) (Rb : β -> Mem -> Prop) (E : Str -> Option Int -> Mem -> Prop) (x : Vl) (μ : Mem) : Prop := WpR (lo Γ μ) (kSl2 g3 x hi Γ Rb E) E
@[simp ↓, simp] theorem kSl1_w {β : Type} {g3 : Vl -> Option Int -> Option Int -> Mem -> Option β} {lo : MO'} {hi : MO'} {Γ : En} {Rb : β -> Mem -> Prop} {E : Str -> Option Int -> Mem -> Prop} {x : Vl} {μ : Mem} : kSl1 g3 lo hi Γ Rb E x μ = (WpR (lo Γ μ) (kSl2 g3 x hi Γ Rb E) E) := rfl
@[simp ↓] theorem w_eSl {g : Vl -> Option Int -> Option Int -> Mem -> Option Vl} {a : ME} {lo hi : MO'} {Γ : En} {μ : Mem} {R : Vl -> Mem -> Prop} {E : Str -> Option Int -> Mem -> Prop} : WpR (eSl g a lo hi Γ μ) R E = WpR (a Γ μ) (kSl1 g lo hi Γ R E) E := by
  rw [s_eSl, w_bind]
  refine wr_congr fun x μ => ?_
  rw [w_bind]
  refine wr_congr fun x μ => ?_
  rw [w_bind]
  exact wr_congr fun x μ => w_of
@[simp ↓] theorem w_fSl {g : Vl -> Option Int -> Option Int -> Mem -> Option MO} {a : ME} {lo hi : MO'} {Γ : En} {μ : Mem} {R : MO -> Mem -> Prop} {E : Str -> Option Int -> Mem -> Prop} : WpR (fSl g a lo hi Γ μ) R E = WpR (a Γ μ) (kSl1 g lo hi Γ R E) E := by
  rw [s_fSl, w_bind]
  refine wr_congr fun x μ => ?_
  rw [w_bind]
  refine wr_congr fun x μ => ?_
  rw [w_bind]
  exact wr_congr fun x μ => w_of
def kTB (RB : Bool -> Mem -> Prop) (x : Vl) (μ : Mem) : Prop := WpO (getB x) (kR RB μ)
@[simp ↓, simp] theorem kTB_w {RB : Bool -> Mem -> Prop} {x : Vl} {μ : Mem} : kTB RB x μ = (WpO (getB x) (kR RB μ)) := rfl
@[simp ↓] theorem w_tB {a : ME} {Γ : En} {μ : Mem} {RB : Bool -> Mem -> Prop} {E : Str -> Option Int -> Mem -> Prop} : WpR (tB a Γ μ) RB E = WpR (a Γ μ) (kTB RB) E := by
  rw [s_tB, w_bind]
  exact wr_congr fun x μ => w_of
@[simp ↓] theorem w_tYes {Γ : En} {μ : Mem} {RB : Bool -> Mem -> Prop} {E : Str -> Option Int -> Mem -> Prop} : WpR (tYes Γ μ) RB E = RB true μ := rfl
def WTAnd (ci : Bool) (tt : MT) (Γ : En) (μ : Mem) (RB : Bool -> Mem -> Prop) (E : Str -> Option Int -> Mem -> Prop) : Prop := match ci with
  | true => WpR (tt Γ μ) RB E
  | false => RB false μ
@[simp ↓, simp] theorem WTAnd_t {tt : MT} {Γ : En} {μ : Mem} {RB : Bool -> Mem -> Prop} {E : Str -> Option Int -> Mem -> Prop} : WTAnd true tt Γ μ RB E = (WpR (tt Γ μ) RB E) := rfl
@[simp ↓, simp] theorem WTAnd_f {tt : MT} {Γ : En} {μ : Mem} {RB : Bool -> Mem -> Prop} {E : Str -> Option Int -> Mem -> Prop} : WTAnd false tt Γ μ RB E = (RB false μ) := rfl
def WTOr (ci : Bool) (tt : MT) (Γ : En) (μ : Mem) (RB : Bool -> Mem -> Prop) (E : Str -> Option Int -> Mem -> Prop) : Prop := match ci with
  | true => RB true μ
  | false => WpR (tt Γ μ) RB E
@[simp ↓, simp] theorem WTOr_t {tt : MT} {Γ : En} {μ : Mem} {RB : Bool -> Mem -> Prop} {E : Str -> Option Int -> Mem -> Prop} : WTOr true tt Γ μ RB E = (RB true μ) := rfl
@[simp ↓, simp] theorem WTOr_f {tt : MT} {Γ : En} {μ : Mem} {RB : Bool -> Mem -> Prop} {E : Str -> Option Int -> Mem -> Prop} : WTOr false tt Γ μ RB E = (WpR (tt Γ μ) RB E) := rfl
def kTAnd (tt : MT) (Γ : En) (RB : Bool -> Mem -> Prop) (E : Str -> Option Int -> Mem -> Prop) (ci : Bool) (μ : Mem) : Prop := WTAnd ci tt Γ μ RB E
@[simp ↓, simp] theorem kTAnd_w {tt : MT} {Γ : En} {RB : Bool -> Mem -> Prop} {E : Str -> Option Int -> Mem -> Prop} {ci : Bool} {μ : Mem} : kTAnd tt Γ RB E ci μ = (WTAnd ci tt Γ μ RB E) := rfl
def kTOr (tt : MT) (Γ : En) (RB : Bool -> Mem -> Prop) (E : Str -> Option Int -> Mem -> Prop) (ci : Bool) (μ : Mem) : Prop := WTOr ci tt Γ μ RB E
@[simp ↓, simp] theorem kTOr_w {tt : MT} {Γ : En} {RB : Bool -> Mem -> Prop} {E : Str -> Option Int -> Mem -> Prop} {ci : Bool} {μ : Mem} : kTOr tt Γ RB E ci μ = (WTOr ci tt Γ μ RB E) := rfl
def kTNot (RB : Bool -> Mem -> Prop) (ci : Bool) (μ : Mem) : Prop := RB (!ci) μ
@[simp ↓, simp] theorem kTNot_w {RB : Bool -> Mem -> Prop} {ci : Bool} {μ : Mem} : kTNot RB ci μ = (RB (!ci) μ) := rfl
@[simp ↓] theorem w_tAnd {ts : MT} {tt : MT} {Γ : En} {μ : Mem} {RB : Bool -> Mem -> Prop} {E : Str -> Option Int -> Mem -> Prop} : WpR (tAnd ts tt Γ μ) RB E = WpR (ts Γ μ) (kTAnd tt Γ RB E) E := by
  unfold tAnd
  rw [w_bind]
  refine wr_congr fun x μ => ?_
  cases x <;> rfl
@[simp ↓] theorem w_tOr {ts : MT} {tt : MT} {Γ : En} {μ : Mem} {RB : Bool -> Mem -> Prop} {E : Str -> Option Int -> Mem -> Prop} : WpR (tOr ts tt Γ μ) RB E = WpR (ts Γ μ) (kTOr tt Γ RB E) E := by
  unfold tOr
  rw [w_bind]
  refine wr_congr fun x μ => ?_
  cases x <;> rfl
@[simp ↓] theorem w_tNot {ts : MT} {Γ : En} {μ : Mem} {RB : Bool -> Mem -> Prop} {E : Str -> Option Int -> Mem -> Prop} : WpR (tNot ts Γ μ) RB E = WpR (ts Γ μ) (kTNot RB) E := by
  rw [s_tNot, w_bind]
  rfl
def kIsi2 (R : Vl -> Mem -> Prop) (μ : Mem) (ci : Bool) : Prop := R (.bl ci) μ
@[simp ↓, simp] theorem kIsi2_w {R : Vl -> Mem -> Prop} {μ : Mem} {ci : Bool} : kIsi2 R μ ci = (R (.bl ci) μ) := rfl
def kIsi (Ty : Ty) (R : Vl -> Mem -> Prop) (x : Vl) (μ : Mem) : Prop := WpO (isiB μ Ty x) (kIsi2 R μ)
@[simp ↓, simp] theorem kIsi_w {Ty : Ty} {R : Vl -> Mem -> Prop} {x : Vl} {μ : Mem} : kIsi Ty R x μ = (WpO (isiB μ Ty x) (kIsi2 R μ)) := rfl
@[simp ↓] theorem w_eIsi {Ty : Ty} {a : ME} {Γ : En} {μ : Mem} {R : Vl -> Mem -> Prop} {E : Str -> Option Int -> Mem -> Prop} : WpR (eIsi Ty a Γ μ) R E = WpR (a Γ μ) (kIsi Ty R) E := by
  unfold eIsi
  rw [w_bind]
  refine wr_congr fun x μ => ?_
  show _ = WpO (isiB μ Ty x) _
  cases isiB μ Ty x <;> rfl
def kPop3 (R : Vl -> Mem -> Prop) (p : Nat × List Vl) (μ : Mem) (y : Vl) : Prop := R y (setM μ p.1 (.lst p.2.dropLast))
@[simp ↓, simp] theorem kPop3_w {R : Vl -> Mem -> Prop} {p : Nat × List Vl} {μ : Mem} {y : Vl} : kPop3 R p μ y = (R y (setM μ p.1 (.lst p.2.dropLast))) := rfl
def kPop2 (R : Vl -> Mem -> Prop) (μ : Mem) (p : Nat × List Vl) : Prop := WpO (p.2[p.2.length - 1]?) (kPop3 R p μ)
@[simp ↓, simp] theorem kPop2_w {R : Vl -> Mem -> Prop} {μ : Mem} {p : Nat × List Vl} : kPop2 R μ p = (WpO (p.2[p.2.length - 1]?) (kPop3 R p μ)) := rfl
def kPop (R : Vl -> Mem -> Prop) (x : Vl) (μ : Mem) : Prop := WpO (memL μ x) (kPop2 R μ)
@[simp ↓, simp] theorem kPop_w {R : Vl -> Mem -> Prop} {x : Vl} {μ : Mem} : kPop R x μ = (WpO (memL μ x) (kPop2 R μ)) := rfl
@[simp ↓] theorem w_ePop {a : ME} {Γ : En} {μ : Mem} {R : Vl -> Mem -> Prop} {E : Str -> Option Int -> Mem -> Prop} : WpR (ePop a Γ μ) R E = WpR (a Γ μ) (kPop R) E := by
  unfold ePop
  rw [w_bind]
  refine wr_congr fun x μ => ?_
  show _ = WpO (memL μ x) _
  cases memL μ x with
  | none => rfl
  | some p =>
    show _ = WpO (p.2[p.2.length - 1]?) _
    cases h : p.2[p.2.length - 1]? with
    | none => simp [h, WpR, WpO]
    | some y => simp [h, WpR, WpO, kPop3]
def kClr2 (R : Vl -> Mem -> Prop) (μ : Mem) (p : Nat × List Vl) : Prop := R .non (setM μ p.1 (.lst []))
@[simp ↓, simp] theorem kClr2_w {R : Vl -> Mem -> Prop} {μ : Mem} {p : Nat × List Vl} : kClr2 R μ p = (R .non (setM μ p.1 (.lst []))) := rfl
def kClr (R : Vl -> Mem -> Prop) (x : Vl) (μ : Mem) : Prop := WpO (memL μ x) (kClr2 R μ)
@[simp ↓, simp] theorem kClr_w {R : Vl -> Mem -> Prop} {x : Vl} {μ : Mem} : kClr R x μ = (WpO (memL μ x) (kClr2 R μ)) := rfl
@[simp ↓] theorem w_eClr {a : ME} {Γ : En} {μ : Mem} {R : Vl -> Mem -> Prop} {E : Str -> Option Int -> Mem -> Prop} : WpR (eClr a Γ μ) R E = WpR (a Γ μ) (kClr R) E := by
  unfold eClr
  rw [w_bind]
  refine wr_congr fun x μ => ?_
  show _ = WpO (memL μ x) _
  cases memL μ x <;> rfl
def kFld (cn : Str) (fn : Str) (R : Vl -> Mem -> Prop) (x : Vl) (μ : Mem) : Prop := WpO (fldOf μ cn fn x) (kR R μ)
@[simp ↓, simp] theorem kFld_w {cn : Str} {fn : Str} {R : Vl -> Mem -> Prop} {x : Vl} {μ : Mem} : kFld cn fn R x μ = (WpO (fldOf μ cn fn x) (kR R μ)) := rfl
@[simp ↓] theorem w_eFld {cn : Str} {fn : Str} {a : ME} {Γ : En} {μ : Mem} {R : Vl -> Mem -> Prop} {E : Str -> Option Int -> Mem -> Prop} : WpR (eFld cn fn a Γ μ) R E = WpR (a Γ μ) (kFld cn fn R) E := by
  rw [s_eFld, w_bind]
  exact wr_congr fun x μ => w_of
def kMeth2 {β : Type} (F : List Vl -> Mem -> Rs β) (x : Vl) (Rb : β -> Mem -> Prop) (E : Str -> Option Int -> Mem -> Prop) (xs : List Vl) (μ : Mem) : Prop := WpR (F (x :: xs) μ) Rb E
@[simp ↓, simp] theorem kMeth2_w {β : Type} {F : List Vl -> Mem -> Rs β} {x : Vl} {Rb : β -> Mem -> Prop} {E : Str -> Option Int -> Mem -> Prop} {xs : List Vl} {μ : Mem} : kMeth2 F x Rb E xs μ = (WpR (F (x :: xs) μ) Rb E) := rfl
def WMeth {β : Type} (ci : Bool) (F : List Vl -> Mem -> Rs β) (x : Vl) (as : MA) (Γ : En) (μ : Mem) (Rb : β -> Mem -> Prop) (E : Str -> Option Int -> Mem -> Prop) : Prop := match ci with
  | true => WpR (as Γ μ) (kMeth2 F x Rb E) E
  | false => False
@[simp ↓, simp] theorem WMeth_t {β : Type} {F : List Vl -> Mem -> Rs β} {x : Vl} {as : MA} {Γ : En} {μ : Mem} {Rb : β -> Mem -> Prop} {E : Str -> Option Int -> Mem -> Prop} : WMeth true F x as Γ μ Rb E = (WpR (as Γ μ) (kMeth2 F x Rb E) E) := rfl
@[simp ↓, simp] theorem WMeth_f {β : Type} {F : List Vl -> Mem -> Rs β} {x : Vl} {as : MA} {Γ : En} {μ : Mem} {Rb : β -> Mem -> Prop} {E : Str -> Option Int -> Mem -> Prop} : WMeth false F x as Γ μ Rb E = (False) := rfl
def kMeth {β : Type} (cn : Str) (fn : Str) (F : List Vl -> Mem -> Rs β) (as : MA) (Γ : En) (Rb : β -> Mem -> Prop) (E : Str -> Option Int -> Mem -> Prop) (x : Vl) (μ : Mem) : Prop := WMeth (isIns μ cn fn x) F x as Γ μ Rb E
@[simp ↓, simp] theorem kMeth_w {β : Type} {cn : Str} {fn : Str} {F : List Vl -> Mem -> Rs β} {as : MA} {Γ : En} {Rb : β -> Mem -> Prop} {E : Str -> Option Int -> Mem -> Prop} {x : Vl} {μ : Mem} : kMeth cn fn F as Γ Rb E x μ = (WMeth (isIns μ cn fn x) F x as Γ μ Rb E) := rfl
@[simp ↓] theorem w_eMeth {cn fn : Str} {F : List Vl -> Mem -> Rs Vl} {a : ME} {as : MA} {Γ : En} {μ : Mem} {R : Vl -> Mem -> Prop} {E : Str -> Option Int -> Mem -> Prop} : WpR (eMeth cn fn F a as Γ μ) R E = WpR (a Γ μ) (kMeth cn fn F as Γ R E) E := by
  rw [s_eMeth, w_bind]
  refine wr_congr fun x μ => ?_
  show _ = WMeth (isIns μ cn fn x) _ _ _ _ _ _ _
  cases isIns μ cn fn x with
  | false => rfl
  | true =>
    show WpR (Rs.bind _ _) _ _ = WpR _ _ _
    rw [w_bind]
    rfl
@[simp ↓] theorem w_fMeth {cn fn : Str} {F : List Vl -> Mem -> Rs MO} {a : ME} {as : MA} {Γ : En} {μ : Mem} {R : MO -> Mem -> Prop} {E : Str -> Option Int -> Mem -> Prop} : WpR (fMeth cn fn F a as Γ μ) R E = WpR (a Γ μ) (kMeth cn fn F as Γ R E) E := by
  rw [s_fMeth, w_bind]
  refine wr_congr fun x μ => ?_
  show _ = WMeth (isIns μ cn fn x) _ _ _ _ _ _ _
  cases isIns μ cn fn x with
  | false => rfl
  | true =>
    show WpR (Rs.bind _ _) _ _ = WpR _ _ _
    rw [w_bind]
    rfl
def kDG4 (z : Vl) (R : Vl -> Mem -> Prop) (μ : Mem) (og : Option Vl) : Prop := R (og.getD z) μ
@[simp ↓, simp] theorem kDG4_w {z : Vl} {R : Vl -> Mem -> Prop} {μ : Mem} {og : Option Vl} : kDG4 z R μ og = (R (og.getD z) μ) := rfl
def kDG3 (x : Vl) (y : Vl) (R : Vl -> Mem -> Prop) (z : Vl) (μ : Mem) : Prop := WpO (dGet μ x y) (kDG4 z R μ)
@[simp ↓, simp] theorem kDG3_w {x : Vl} {y : Vl} {R : Vl -> Mem -> Prop} {z : Vl} {μ : Mem} : kDG3 x y R z μ = (WpO (dGet μ x y) (kDG4 z R μ)) := rfl
def kDG2 (x : Vl) (c : ME) (Γ : En) (R : Vl -> Mem -> Prop) (E : Str -> Option Int -> Mem -> Prop) (y : Vl) (μ : Mem) : Prop := WpR (c Γ μ) (kDG3 x y R) E
@[simp ↓, simp] theorem kDG2_w {x : Vl} {c : ME} {Γ : En} {R : Vl -> Mem -> Prop} {E : Str -> Option Int -> Mem -> Prop} {y : Vl} {μ : Mem} : kDG2 x c Γ R E y μ = (WpR (c Γ μ) (kDG3 x y R) E) := rfl
def WDG (ci : Bool) (x : Vl) (b : ME) (c : ME) (Γ : En) (μ : Mem) (R : Vl -> Mem -> Prop) (E : Str -> Option Int -> Mem -> Prop) : Prop := match ci with
  | true => WpR (b Γ μ) (kDG2 x c Γ R E) E
  | false => False
@[simp ↓, simp] theorem WDG_t {x : Vl} {b : ME} {c : ME} {Γ : En} {μ : Mem} {R : Vl -> Mem -> Prop} {E : Str -> Option Int -> Mem -> Prop} : WDG true x b c Γ μ R E = (WpR (b Γ μ) (kDG2 x c Γ R E) E) := rfl
@[simp ↓, simp] theorem WDG_f {x : Vl} {b : ME} {c : ME} {Γ : En} {μ : Mem} {R : Vl -> Mem -> Prop} {E : Str -> Option Int -> Mem -> Prop} : WDG false x b c Γ μ R E = (False) := rfl
def kDG1 (b : ME) (c : ME) (Γ : En) (R : Vl -> Mem -> Prop) (E : Str -> Option Int -> Mem -> Prop) (x : Vl) (μ : Mem) : Prop := WDG (isD μ x) x b c Γ μ R E
@[simp ↓, simp] theorem kDG1_w {b : ME} {c : ME} {Γ : En} {R : Vl -> Mem -> Prop} {E : Str -> Option Int -> Mem -> Prop} {x : Vl} {μ : Mem} : kDG1 b c Γ R E x μ = (WDG (isD μ x) x b c Γ μ R E) := rfl
@[simp ↓] theorem w_eDGet {a : ME} {b : ME} {c : ME} {Γ : En} {μ : Mem} {R : Vl -> Mem -> Prop} {E : Str -> Option Int -> Mem -> Prop} : WpR (eDGet a b c Γ μ) R E = WpR (a Γ μ) (kDG1 b c Γ R E) E := by
  rw [s_eDGet, w_bind]
  refine wr_congr fun x μ => ?_
  show _ = WDG (isD μ x) _ _ _ _ _ _ _
  cases isD μ x with
  | false => rfl
  | true =>
    show WpR (Rs.bind _ _) _ _ = WpR _ _ _
    rw [w_bind]
    refine wr_congr fun y μ => ?_
    rw [w_bind]
    refine wr_congr fun z μ => ?_
    rw [w_of]
    show _ = WpO (dGet μ x y) _
    cases dGet μ x y <;> rfl
def kDPop3 (R : Vl -> Mem -> Prop) (dd : Vl × Mem) : Prop := R dd.1 dd.2
@[simp ↓, simp] theorem kDPop3_w {R : Vl -> Mem -> Prop} {dd : Vl × Mem} : kDPop3 R dd = (R dd.1 dd.2) := rfl
def kDPop2 (x : Vl) (R : Vl -> Mem -> Prop) (k : Vl) (μ : Mem) : Prop := WpO (dPop μ x k) (kDPop3 R)
@[simp ↓, simp] theorem kDPop2_w {x : Vl} {R : Vl -> Mem -> Prop} {k : Vl} {μ : Mem} : kDPop2 x R k μ = (WpO (dPop μ x k) (kDPop3 R)) := rfl
def WDPop (ci : Bool) (x : Vl) (b : ME) (Γ : En) (μ : Mem) (R : Vl -> Mem -> Prop) (E : Str -> Option Int -> Mem -> Prop) : Prop := match ci with
  | true => WpR (b Γ μ) (kDPop2 x R) E
  | false => False
@[simp ↓, simp] theorem WDPop_t {x : Vl} {b : ME} {Γ : En} {μ : Mem} {R : Vl -> Mem -> Prop} {E : Str -> Option Int -> Mem -> Prop} : WDPop true x b Γ μ R E = (WpR (b Γ μ) (kDPop2 x R) E) := rfl
@[simp ↓, simp] theorem WDPop_f {x : Vl} {b : ME} {Γ : En} {μ : Mem} {R : Vl -> Mem -> Prop} {E : Str -> Option Int -> Mem -> Prop} : WDPop false x b Γ μ R E = (False) := rfl
def kDPop (b : ME) (Γ : En) (R : Vl -> Mem -> Prop) (E : Str -> Option Int -> Mem -> Prop) (x : Vl) (μ : Mem) : Prop := WDPop (isD μ x) x b Γ μ R E
@[simp ↓, simp] theorem kDPop_w {b : ME} {Γ : En} {R : Vl -> Mem -> Prop} {E : Str -> Option Int -> Mem -> Prop} {x : Vl} {μ : Mem} : kDPop b Γ R E x μ = (WDPop (isD μ x) x b Γ μ R E) := rfl
@[simp ↓] theorem w_eDPop {a : ME} {b : ME} {Γ : En} {μ : Mem} {R : Vl -> Mem -> Prop} {E : Str -> Option Int -> Mem -> Prop} : WpR (eDPop a b Γ μ) R E = WpR (a Γ μ) (kDPop b Γ R E) E := by
  unfold eDPop
  rw [w_bind]
  refine wr_congr fun x μ => ?_
  show _ = WDPop (isD μ x) _ _ _ _ _ _
  cases isD μ x with
  | false => rfl
  | true =>
    show WpR (Rs.bind _ _) _ _ = WpR _ _ _
    rw [w_bind]
    refine wr_congr fun y μ => ?_
    show _ = WpO (dPop μ x y) _
    cases dPop μ x y <;> rfl
@[simp ↓] theorem w_fDNewK {Γ : En} {μ : Mem} {RF : MO -> Mem -> Prop} {E : Str -> Option Int -> Mem -> Prop} : WpR (fDNewK Γ μ) RF E = RF (.dk false []) μ := rfl
@[simp ↓] theorem w_fDNewT {Γ : En} {μ : Mem} {RF : MO -> Mem -> Prop} {E : Str -> Option Int -> Mem -> Prop} : WpR (fDNewT Γ μ) RF E = RF (.dt false []) μ := rfl
def kDs2 (ks : Str) (x : Vl) (Rz : List (Ky × Vl) -> Mem -> Prop) (kz : List (Ky × Vl)) (μ : Mem) : Prop := Rz ((.inr ks, x) :: kz) μ
@[simp ↓, simp] theorem kDs2_w {ks : Str} {x : Vl} {Rz : List (Ky × Vl) -> Mem -> Prop} {kz : List (Ky × Vl)} {μ : Mem} : kDs2 ks x Rz kz μ = (Rz ((.inr ks, x) :: kz) μ) := rfl
def kDs1 (ks : Str) (kvs : List (Str × ME)) (Γ : En) (Rz : List (Ky × Vl) -> Mem -> Prop) (E : Str -> Option Int -> Mem -> Prop) (x : Vl) (μ : Mem) : Prop := WpR (aDisp kvs Γ μ) (kDs2 ks x Rz) E
@[simp ↓, simp] theorem kDs1_w {ks : Str} {kvs : List (Str × ME)} {Γ : En} {Rz : List (Ky × Vl) -> Mem -> Prop} {E : Str -> Option Int -> Mem -> Prop} {x : Vl} {μ : Mem} : kDs1 ks kvs Γ Rz E x μ = (WpR (aDisp kvs Γ μ) (kDs2 ks x Rz) E) := rfl
@[simp ↓] theorem w_aDisp0 {Γ : En} {μ : Mem} {Rz : List (Ky × Vl) -> Mem -> Prop} {E : Str -> Option Int -> Mem -> Prop} : WpR (aDisp [] Γ μ) Rz E = Rz [] μ := rfl
@[simp ↓] theorem w_aDispS {ks : Str} {a : ME} {kvs : List (Str × ME)} {Γ : En} {μ : Mem} {Rz : List (Ky × Vl) -> Mem -> Prop} {E : Str -> Option Int -> Mem -> Prop} : WpR (aDisp ((ks, a) :: kvs) Γ μ) Rz E = WpR (a Γ μ) (kDs1 ks kvs Γ Rz E) E := by
  rw [s_aDispS, w_bind]
  refine wr_congr fun x μ => ?_
  rw [w_bind]
  rfl
def kDisp (RF : MO -> Mem -> Prop) (kz : List (Ky × Vl)) (μ : Mem) : Prop := RF (.dk false (kz.foldl (fun acc kv => setK acc kv.1 kv.2) [])) μ
@[simp ↓, simp] theorem kDisp_w {RF : MO -> Mem -> Prop} {kz : List (Ky × Vl)} {μ : Mem} : kDisp RF kz μ = (RF (.dk false (kz.foldl (fun acc kv => setK acc kv.1 kv.2) [])) μ) := rfl
@[simp ↓] theorem w_fDisp {kvs : List (Str × ME)} {Γ : En} {μ : Mem} {RF : MO -> Mem -> Prop} {E : Str -> Option Int -> Mem -> Prop} : WpR (fDisp kvs Γ μ) RF E = WpR (aDisp kvs Γ μ) (kDisp RF) E := by
  rw [s_fDisp, w_bind]
  rfl
def kDeep2 (x : Vl) (R : Vl -> Mem -> Prop) (μ : Mem) (v : Vl) : Prop := R v (kill (rchV depthF μ x) μ)
@[simp ↓, simp] theorem kDeep2_w {x : Vl} {R : Vl -> Mem -> Prop} {μ : Mem} {v : Vl} : kDeep2 x R μ v = (R v (kill (rchV depthF μ x) μ)) := rfl
def kDeep (R : Vl -> Mem -> Prop) (x : Vl) (μ : Mem) : Prop := WpO (frzV depthF μ x) (kDeep2 x R μ)
@[simp ↓, simp] theorem kDeep_w {R : Vl -> Mem -> Prop} {x : Vl} {μ : Mem} : kDeep R x μ = (WpO (frzV depthF μ x) (kDeep2 x R μ)) := rfl
@[simp ↓] theorem w_eDeep {a : ME} {Γ : En} {μ : Mem} {R : Vl -> Mem -> Prop} {E : Str -> Option Int -> Mem -> Prop} : WpR (eDeep a Γ μ) R E = WpR (a Γ μ) (kDeep R) E := by
  unfold eDeep
  rw [w_bind]
  refine wr_congr fun x μ => ?_
  show _ = WpO (frzV depthF μ x) _
  cases frzV depthF μ x <;> rfl
def kLs (RF : MO -> Mem -> Prop) (xs : List Vl) (μ : Mem) : Prop := RF (.lst xs) μ
@[simp ↓, simp] theorem kLs_w {RF : MO -> Mem -> Prop} {xs : List Vl} {μ : Mem} : kLs RF xs μ = (RF (.lst xs) μ) := rfl
def WComp (ci : Bool) (pi : List Vl × Gd) (gt : MG) (tt : MT) (a : ME) (ws : List Nat) (Γ : En) (μ : Mem) (RF : MO -> Mem -> Prop) (E : Str -> Option Int -> Mem -> Prop) : Prop := match ci with
  | true => WpR (compGo gt tt a pi.2 (wip ws Γ) pi.1 μ) (kLs RF) E
  | false => False
@[simp ↓, simp] theorem WComp_t {pi : List Vl × Gd} {gt : MG} {tt : MT} {a : ME} {ws : List Nat} {Γ : En} {μ : Mem} {RF : MO -> Mem -> Prop} {E : Str -> Option Int -> Mem -> Prop} : WComp true pi gt tt a ws Γ μ RF E = (WpR (compGo gt tt a pi.2 (wip ws Γ) pi.1 μ) (kLs RF) E) := rfl
@[simp ↓, simp] theorem WComp_f {pi : List Vl × Gd} {gt : MG} {tt : MT} {a : ME} {ws : List Nat} {Γ : En} {μ : Mem} {RF : MO -> Mem -> Prop} {E : Str -> Option Int -> Mem -> Prop} : WComp false pi gt tt a ws Γ μ RF E = (False) := rfl
def kComp (gt : MG) (tt : MT) (a : ME) (ws : List Nat) (Γ : En) (RF : MO -> Mem -> Prop) (E : Str -> Option Int -> Mem -> Prop) (pi : List Vl × Gd) (μ : Mem) : Prop := WComp (decide (pi.1.length <= cap)) pi gt tt a ws Γ μ RF E
@[simp ↓, simp] theorem kComp_w {gt : MG} {tt : MT} {a : ME} {ws : List Nat} {Γ : En} {RF : MO -> Mem -> Prop} {E : Str -> Option Int -> Mem -> Prop} {pi : List Vl × Gd} {μ : Mem} : kComp gt tt a ws Γ RF E pi μ = (WComp (decide (pi.1.length <= cap)) pi gt tt a ws Γ μ RF E) := rfl
@[simp ↓] theorem w_fComp {it : MI} {gt : MG} {tt : MT} {a : ME} {ws : List Nat} {Γ : En} {μ : Mem} {RF : MO -> Mem -> Prop} {E : Str -> Option Int -> Mem -> Prop} : WpR (fComp it gt tt a ws Γ μ) RF E = WpR (it Γ μ) (kComp gt tt a ws Γ RF E) E := by
  unfold fComp
  rw [w_bind]
  refine wr_congr fun p μ => ?_
  show _ = WComp (decide (p.1.length <= cap)) _ _ _ _ _ _ _ _ _
  by_cases h : p.1.length <= cap
  . rw [if_pos h, decide_eq_true h, w_bind]
    rfl
  . rw [if_neg h, decide_eq_false h]
    rfl
def kMk2 (i : Nat) (R : Vl -> Mem -> Prop) (v : Vl) (μ : Mem) : Prop := v = .non /\ R (.ref i) μ
@[simp ↓, simp] theorem kMk2_w {i : Nat} {R : Vl -> Mem -> Prop} {v : Vl} {μ : Mem} : kMk2 i R v μ = (v = .non /\ R (.ref i) μ) := rfl
def kMk (cn : Str) (FV : List Vl -> Mem -> Rs Vl) (R : Vl -> Mem -> Prop) (E : Str -> Option Int -> Mem -> Prop) (xs : List Vl) (μ : Mem) : Prop := WpR (FV (.ref μ.length :: xs) (μ ++ [some (.ins cn [])])) (kMk2 μ.length R) E
@[simp ↓, simp] theorem kMk_w {cn : Str} {FV : List Vl -> Mem -> Rs Vl} {R : Vl -> Mem -> Prop} {E : Str -> Option Int -> Mem -> Prop} {xs : List Vl} {μ : Mem} : kMk cn FV R E xs μ = (WpR (FV (.ref μ.length :: xs) (μ ++ [some (.ins cn [])])) (kMk2 μ.length R) E) := rfl
@[simp ↓] theorem w_eMake {cn : Str} {FV : List Vl -> Mem -> Rs Vl} {as : MA} {Γ : En} {μ : Mem} {R : Vl -> Mem -> Prop} {E : Str -> Option Int -> Mem -> Prop} : WpR (eMake cn FV as Γ μ) R E = WpR (as Γ μ) (kMk cn FV R E) E := by
  unfold eMake
  rw [w_bind]
  refine wr_congr fun x μ => ?_
  rw [w_bind]
  refine wr_congr fun v μ2 => ?_
  cases v <;> simp [WpR, kMk2]
def WfnV (ci : Bool) (n : Nat) (b : MS) (xs : List Vl) (μ : Mem) (R : Vl -> Mem -> Prop) (E : Str -> Option Int -> Mem -> Prop) : Prop := match ci with
  | true => Wp (b (args n xs) μ) (KV μ R E)
  | false => False
@[simp ↓, simp] theorem WfnV_t {n : Nat} {b : MS} {xs : List Vl} {μ : Mem} {R : Vl -> Mem -> Prop} {E : Str -> Option Int -> Mem -> Prop} : WfnV true n b xs μ R E = Wp (b (args n xs) μ) (KV μ R E) := rfl
@[simp ↓] theorem w_fnV {k n : Nat} {b : MS} {xs : List Vl} {μ : Mem} {R : Vl -> Mem -> Prop} {E : Str -> Option Int -> Mem -> Prop} : WpR (fnV k n b xs μ) R E = WfnV (decide (xs.length = k)) n b xs μ R E := by
  unfold fnV
  by_cases h : xs.length = k
  . rw [if_pos h, decide_eq_true h]
    show _ = Wp _ _
    cases b (args n xs) μ with
    | none => rfl
    | some p => rfl
  . rw [if_neg h, decide_eq_false h]
    rfl
def WfnF (ci : Bool) (n : Nat) (b : MS) (xs : List Vl) (μ : Mem) (RF : MO -> Mem -> Prop) (E : Str -> Option Int -> Mem -> Prop) : Prop := match ci with
  | true => Wp (b (args n xs) μ) (KF μ RF E)
  | false => False
@[simp ↓, simp] theorem WfnF_t {n : Nat} {b : MS} {xs : List Vl} {μ : Mem} {RF : MO -> Mem -> Prop} {E : Str -> Option Int -> Mem -> Prop} : WfnF true n b xs μ RF E = Wp (b (args n xs) μ) (KF μ RF E) := rfl
@[simp ↓] theorem w_fnF {k n : Nat} {b : MS} {xs : List Vl} {μ : Mem} {RF : MO -> Mem -> Prop} {E : Str -> Option Int -> Mem -> Prop} : WpR (fnF k n b xs μ) RF E = WfnF (decide (xs.length = k)) n b xs μ RF E := by
  unfold fnF
  by_cases h : xs.length = k
  . rw [if_pos h, decide_eq_true h]
    show _ = Wp _ _
    cases b (args n xs) μ with
    | none => rfl
    | some p => rfl
  . rw [if_neg h, decide_eq_false h]
    rfl
def WfnR (ci : Bool) (n : Nat) (b : MS) (xs : List Vl) (μ : Mem) (R : Vl -> Mem -> Prop) (E : Str -> Option Int -> Mem -> Prop) : Prop := match ci with
  | true => Wp (b (args n xs) μ) (KR R E)
  | false => False
@[simp ↓, simp] theorem WfnR_t {n : Nat} {b : MS} {xs : List Vl} {μ : Mem} {R : Vl -> Mem -> Prop} {E : Str -> Option Int -> Mem -> Prop} : WfnR true n b xs μ R E = Wp (b (args n xs) μ) (KR R E) := rfl
@[simp ↓] theorem w_fnR {k n : Nat} {b : MS} {xs : List Vl} {μ : Mem} {R : Vl -> Mem -> Prop} {E : Str -> Option Int -> Mem -> Prop} : WpR (fnR k n b xs μ) R E = WfnR (decide (xs.length = k)) n b xs μ R E := by
  unfold fnR
  by_cases h : xs.length = k
  . rw [if_pos h, decide_eq_true h]
    show _ = Wp _ _
    cases b (args n xs) μ with
    | none => rfl
    | some p => rfl
  . rw [if_neg h, decide_eq_false h]
    rfl
@[simp ↓] theorem w_sNext {Γ : En} {μ : Mem} {Q : Out -> Mem -> Prop} : Wp (sNext Γ μ) Q = Q (.nx Γ) μ := rfl
@[simp ↓] theorem w_sSeq {sa : MS} {sb : MS} {Γ : En} {μ : Mem} {Q : Out -> Mem -> Prop} : Wp (sSeq sa sb Γ μ) Q = Wp (sa Γ μ) (Kn sb Q) := by
  unfold sSeq
  cases sa Γ μ with
  | none => rfl
  | some p =>
    obtain ⟨o, μ1⟩ := p
    cases o <;> rfl
def WpG (o : Option En) (μ : Mem) (Q : Out -> Mem -> Prop) : Prop := match o with
  | some Γ => Q (.nx Γ) μ
  | none => False
@[simp] theorem w_gsome {Γ : En} {μ : Mem} {Q : Out -> Mem -> Prop} : WpG (some Γ) μ Q = Q (.nx Γ) μ := rfl
def kAsg (gt : MG) (Γ : En) (Q : Out -> Mem -> Prop) (x : Vl) (μ : Mem) : Prop := WpG (gt x Γ) μ Q
@[simp ↓, simp] theorem kAsg_w {gt : MG} {Γ : En} {Q : Out -> Mem -> Prop} {x : Vl} {μ : Mem} : kAsg gt Γ Q x μ = (WpG (gt x Γ) μ Q) := rfl
@[simp ↓] theorem w_sAsg {a : ME} {gt : MG} {Γ : En} {μ : Mem} {Q : Out -> Mem -> Prop} : Wp (sAsg a gt Γ μ) Q = WpR (a Γ μ) (kAsg gt Γ Q) (XK Q Γ) := by
  unfold sAsg
  rw [w_st]
  refine wr_congr fun x μ => ?_
  show _ = WpG (gt x Γ) _ _
  cases gt x Γ <;> rfl
def kDrop (Γ : En) (Q : Out -> Mem -> Prop) (x : Vl) (μ : Mem) : Prop := Q (.nx Γ) μ
@[simp ↓, simp] theorem kDrop_w {Γ : En} {Q : Out -> Mem -> Prop} {x : Vl} {μ : Mem} : kDrop Γ Q x μ = (Q (.nx Γ) μ) := rfl
@[simp ↓] theorem w_sDrop {a : ME} {Γ : En} {μ : Mem} {Q : Out -> Mem -> Prop} : Wp (sDrop a Γ μ) Q = WpR (a Γ μ) (kDrop Γ Q) (XK Q Γ) := by
  rw [s_sDrop, w_st]
  rfl
def kRet (Q : Out -> Mem -> Prop) (x : Vl) (μ : Mem) : Prop := Q (.rt x) μ
@[simp ↓, simp] theorem kRet_w {Q : Out -> Mem -> Prop} {x : Vl} {μ : Mem} : kRet Q x μ = (Q (.rt x) μ) := rfl
@[simp ↓] theorem w_sRet {a : ME} {Γ : En} {μ : Mem} {Q : Out -> Mem -> Prop} : Wp (sRet a Γ μ) Q = WpR (a Γ μ) (kRet Q) (XK Q Γ) := by
  rw [s_sRet, w_st]
  rfl
@[simp ↓] theorem w_sRetN {Γ : En} {μ : Mem} {Q : Out -> Mem -> Prop} : Wp (sRetN Γ μ) Q = Q (.rt .non) μ := rfl
def kRetF (Q : Out -> Mem -> Prop) (o : MO) (μ : Mem) : Prop := Q (.rf none o) μ
@[simp ↓, simp] theorem kRetF_w {Q : Out -> Mem -> Prop} {o : MO} {μ : Mem} : kRetF Q o μ = (Q (.rf none o) μ) := rfl
@[simp ↓] theorem w_sRetF {f : MF} {Γ : En} {μ : Mem} {Q : Out -> Mem -> Prop} : Wp (sRetF f Γ μ) Q = WpR (f Γ μ) (kRetF Q) (XK Q Γ) := by
  rw [s_sRetF, w_st]
  rfl
def memO (μ : Mem) : Vl -> Option (Nat × MO)
  | .ref i => match μ[i]? with
    | some (some o) => some (i, o)
    | _ => none
  | _ => none
theorem memO_at {μ : Mem} {i : Nat} {o : MO} (h : μ[i]? = some (some o)) : memO μ (.ref i) = some (i, o) := by
  unfold memO
  simp only [h]
@[simp] theorem memO_end {μ : Mem} {o : MO} {r : Mem} : memO (μ ++ some o :: r) (.ref μ.length) = some (μ.length, o) := memO_at get_end
def kRetO2 (Q : Out -> Mem -> Prop) (μ : Mem) (p : Nat × MO) : Prop := Q (.rf (some p.1) p.2) (μ.set p.1 none)
@[simp ↓, simp] theorem kRetO2_w {Q : Out -> Mem -> Prop} {μ : Mem} {p : Nat × MO} : kRetO2 Q μ p = Q (.rf (some p.1) p.2) (μ.set p.1 none) := rfl
def kRetO (Q : Out -> Mem -> Prop) (x : Vl) (μ : Mem) : Prop := WpO (memO μ x) (kRetO2 Q μ)
@[simp ↓, simp] theorem kRetO_w {Q : Out -> Mem -> Prop} {x : Vl} {μ : Mem} : kRetO Q x μ = WpO (memO μ x) (kRetO2 Q μ) := rfl
@[simp ↓] theorem w_sRetO {a : ME} {Γ : En} {μ : Mem} {Q : Out -> Mem -> Prop} : Wp (sRetO a Γ μ) Q = WpR (a Γ μ) (kRetO Q) (XK Q Γ) := by
  unfold sRetO
  rw [w_st]
  refine wr_congr fun x μ => ?_
  show _ = WpO (memO μ x) _
  cases x with
  | ref i =>
    unfold memO
    simp only
    cases h : μ[i]? with
    | none => rfl
    | some o =>
      cases o with
      | none => rfl
      | some o => rfl
  | _ => rfl
def WIf (ci : Bool) (sa : MS) (sb : MS) (Γ : En) (μ : Mem) (Q : Out -> Mem -> Prop) : Prop := match ci with
  | true => Wp (sa Γ μ) Q
  | false => Wp (sb Γ μ) Q
@[simp ↓, simp] theorem WIf_t {sa : MS} {sb : MS} {Γ : En} {μ : Mem} {Q : Out -> Mem -> Prop} : WIf true sa sb Γ μ Q = (Wp (sa Γ μ) Q) := rfl
@[simp ↓, simp] theorem WIf_f {sa : MS} {sb : MS} {Γ : En} {μ : Mem} {Q : Out -> Mem -> Prop} : WIf false sa sb Γ μ Q = (Wp (sb Γ μ) Q) := rfl
def kIf (sa : MS) (sb : MS) (Γ : En) (Q : Out -> Mem -> Prop) (ci : Bool) (μ : Mem) : Prop := WIf ci sa sb Γ μ Q
@[simp ↓, simp] theorem kIf_w {sa : MS} {sb : MS} {Γ : En} {Q : Out -> Mem -> Prop} {ci : Bool} {μ : Mem} : kIf sa sb Γ Q ci μ = (WIf ci sa sb Γ μ Q) := rfl
@[simp ↓] theorem w_sIf {ts : MT} {sa : MS} {sb : MS} {Γ : En} {μ : Mem} {Q : Out -> Mem -> Prop} : Wp (sIf ts sa sb Γ μ) Q = WpR (ts Γ μ) (kIf sa sb Γ Q) (XK Q Γ) := by
  unfold sIf
  rw [w_st]
  refine wr_congr fun x μ => ?_
  cases x <;> rfl
@[simp ↓] theorem w_sBrk {Γ : En} {μ : Mem} {Q : Out -> Mem -> Prop} : Wp (sBrk Γ μ) Q = Q (.bk Γ) μ := rfl
@[simp ↓] theorem w_sCnt {Γ : En} {μ : Mem} {Q : Out -> Mem -> Prop} : Wp (sCnt Γ μ) Q = Q (.ct Γ) μ := rfl
@[simp ↓] theorem w_sRaise {cn : Str} {Γ : En} {μ : Mem} {Q : Out -> Mem -> Prop} : Wp (sRaise cn Γ μ) Q = Q (.ex cn none Γ) μ := rfl
def kFor (gt : MG) (sb : MS) (ws : List Nat) (Γ : En) (Q : Out -> Mem -> Prop) (pi : List Vl × Gd) (μ : Mem) : Prop := Wp (forGo gt sb pi.2 ws pi.1 (wip ws Γ) μ) Q
@[simp ↓, simp] theorem kFor_w {gt : MG} {sb : MS} {ws : List Nat} {Γ : En} {Q : Out -> Mem -> Prop} {pi : List Vl × Gd} {μ : Mem} : kFor gt sb ws Γ Q pi μ = (Wp (forGo gt sb pi.2 ws pi.1 (wip ws Γ) μ) Q) := rfl
@[simp ↓] theorem w_sFor {it : MI} {gt : MG} {sb : MS} {ws : List Nat} {Γ : En} {μ : Mem} {Q : Out -> Mem -> Prop} : Wp (sFor it gt sb ws Γ μ) Q = WpR (it Γ μ) (kFor gt sb ws Γ Q) (XK Q Γ) := by
  rw [s_sFor, w_st]
  rfl
@[simp ↓] theorem w_sWhile {ts : MT} {sb : MS} {ws : List Nat} {n : Nat} {Γ : En} {μ : Mem} {Q : Out -> Mem -> Prop} : Wp (sWhile ts sb ws n Γ μ) Q = Wp (whileGo ts sb ws n (wip ws Γ) μ) Q := rfl
def kSI6 (p : Nat × List Vl) (μ : Mem) (Γ : En) (Q : Out -> Mem -> Prop) (ys : List Vl) : Prop := Q (.nx Γ) (setM μ p.1 (.lst ys))
@[simp ↓, simp] theorem kSI6_w {p : Nat × List Vl} {μ : Mem} {Γ : En} {Q : Out -> Mem -> Prop} {ys : List Vl} : kSI6 p μ Γ Q ys = (Q (.nx Γ) (setM μ p.1 (.lst ys))) := rfl
def kSI5 (v : Vl) (p : Nat × List Vl) (μ : Mem) (Γ : En) (Q : Out -> Mem -> Prop) (ki : Int) : Prop := WpO (setIx p.2 ki v) (kSI6 p μ Γ Q)
@[simp ↓, simp] theorem kSI5_w {v : Vl} {p : Nat × List Vl} {μ : Mem} {Γ : En} {Q : Out -> Mem -> Prop} {ki : Int} : kSI5 v p μ Γ Q ki = (WpO (setIx p.2 ki v) (kSI6 p μ Γ Q)) := rfl
def kSI4 (v : Vl) (k : Vl) (μ : Mem) (Γ : En) (Q : Out -> Mem -> Prop) (p : Nat × List Vl) : Prop := WpO (getI k) (kSI5 v p μ Γ Q)
@[simp ↓, simp] theorem kSI4_w {v : Vl} {k : Vl} {μ : Mem} {Γ : En} {Q : Out -> Mem -> Prop} {p : Nat × List Vl} : kSI4 v k μ Γ Q p = (WpO (getI k) (kSI5 v p μ Γ Q)) := rfl
def kSI3 (v : Vl) (x : Vl) (Γ : En) (Q : Out -> Mem -> Prop) (k : Vl) (μ : Mem) : Prop := WpO (memL μ x) (kSI4 v k μ Γ Q)
@[simp ↓, simp] theorem kSI3_w {v : Vl} {x : Vl} {Γ : En} {Q : Out -> Mem -> Prop} {k : Vl} {μ : Mem} : kSI3 v x Γ Q k μ = (WpO (memL μ x) (kSI4 v k μ Γ Q)) := rfl
def kSI2 (b : ME) (v : Vl) (Γ : En) (Q : Out -> Mem -> Prop) (x : Vl) (μ : Mem) : Prop := WpR (b Γ μ) (kSI3 v x Γ Q) (XK Q Γ)
@[simp ↓, simp] theorem kSI2_w {b : ME} {v : Vl} {Γ : En} {Q : Out -> Mem -> Prop} {x : Vl} {μ : Mem} : kSI2 b v Γ Q x μ = (WpR (b Γ μ) (kSI3 v x Γ Q) (XK Q Γ)) := rfl
def kSI1 (a : ME) (b : ME) (Γ : En) (Q : Out -> Mem -> Prop) (v : Vl) (μ : Mem) : Prop := WpR (a Γ μ) (kSI2 b v Γ Q) (XK Q Γ)
@[simp ↓, simp] theorem kSI1_w {a : ME} {b : ME} {Γ : En} {Q : Out -> Mem -> Prop} {v : Vl} {μ : Mem} : kSI1 a b Γ Q v μ = (WpR (a Γ μ) (kSI2 b v Γ Q) (XK Q Γ)) := rfl
@[simp ↓] theorem w_sSetIx {a : ME} {b : ME} {c : ME} {Γ : En} {μ : Mem} {Q : Out -> Mem -> Prop} : Wp (sSetIx a b c Γ μ) Q = WpR (c Γ μ) (kSI1 a b Γ Q) (XK Q Γ) := by
  rw [s_sSetIx, w_st]
  refine wr_congr fun v μ => ?_
  rw [w_st]
  refine wr_congr fun x μ => ?_
  rw [w_st]
  refine wr_congr fun k μ => ?_
  show _ = WpO (memL μ x) _
  cases memL μ x with
  | none => rfl
  | some p =>
    show _ = WpO (getI k) _
    cases getI k with
    | none => rfl
    | some k =>
      show Wp (soK (setIx p.2 k v) _) Q = WpO (setIx p.2 k v) _
      cases setIx p.2 k v <;> rfl
def WAp (ci : Bool) (p : Nat × List Vl) (v : Vl) (μ : Mem) (Γ : En) (Q : Out -> Mem -> Prop) : Prop := match ci with
  | true => Q (.nx Γ) (setM μ p.1 (.lst (p.2 ++ [v])))
  | false => False
@[simp ↓, simp] theorem WAp_t {p : Nat × List Vl} {v : Vl} {μ : Mem} {Γ : En} {Q : Out -> Mem -> Prop} : WAp true p v μ Γ Q = (Q (.nx Γ) (setM μ p.1 (.lst (p.2 ++ [v])))) := rfl
@[simp ↓, simp] theorem WAp_f {p : Nat × List Vl} {v : Vl} {μ : Mem} {Γ : En} {Q : Out -> Mem -> Prop} : WAp false p v μ Γ Q = (False) := rfl
def kAp4 (v : Vl) (μ : Mem) (Γ : En) (Q : Out -> Mem -> Prop) (p : Nat × List Vl) : Prop := WAp (decide (p.2.length < cap)) p v μ Γ Q
@[simp ↓, simp] theorem kAp4_w {v : Vl} {μ : Mem} {Γ : En} {Q : Out -> Mem -> Prop} {p : Nat × List Vl} : kAp4 v μ Γ Q p = (WAp (decide (p.2.length < cap)) p v μ Γ Q) := rfl
def kAp3 (x : Vl) (Γ : En) (Q : Out -> Mem -> Prop) (v : Vl) (μ : Mem) : Prop := WpO (memL μ x) (kAp4 v μ Γ Q)
@[simp ↓, simp] theorem kAp3_w {x : Vl} {Γ : En} {Q : Out -> Mem -> Prop} {v : Vl} {μ : Mem} : kAp3 x Γ Q v μ = (WpO (memL μ x) (kAp4 v μ Γ Q)) := rfl
def kAp2 (b : ME) (x : Vl) (μ : Mem) (Γ : En) (Q : Out -> Mem -> Prop) (p : Nat × List Vl) : Prop := WpR (b Γ μ) (kAp3 x Γ Q) (XK Q Γ)
@[simp ↓, simp] theorem kAp2_w {b : ME} {x : Vl} {μ : Mem} {Γ : En} {Q : Out -> Mem -> Prop} {p : Nat × List Vl} : kAp2 b x μ Γ Q p = (WpR (b Γ μ) (kAp3 x Γ Q) (XK Q Γ)) := rfl
def kAp1 (b : ME) (Γ : En) (Q : Out -> Mem -> Prop) (x : Vl) (μ : Mem) : Prop := WpO (memL μ x) (kAp2 b x μ Γ Q)
@[simp ↓, simp] theorem kAp1_w {b : ME} {Γ : En} {Q : Out -> Mem -> Prop} {x : Vl} {μ : Mem} : kAp1 b Γ Q x μ = (WpO (memL μ x) (kAp2 b x μ Γ Q)) := rfl
@[simp ↓] theorem w_sApp {a : ME} {b : ME} {Γ : En} {μ : Mem} {Q : Out -> Mem -> Prop} : Wp (sApp a b Γ μ) Q = WpR (a Γ μ) (kAp1 b Γ Q) (XK Q Γ) := by
  rw [s_sApp, w_st]
  refine wr_congr fun x μ => ?_
  show _ = WpO (memL μ x) _
  cases memL μ x with
  | none => rfl
  | some q =>
    show Wp (Rs.st _ _ _) Q = WpR _ _ _
    rw [w_st]
    refine wr_congr fun v μ2 => ?_
    show Wp (soK (memL μ2 x) _) Q = WpO (memL μ2 x) _
    cases memL μ2 x with
    | none => rfl
    | some p =>
      show Wp (if p.2.length < cap then _ else _) Q = WAp (decide (p.2.length < cap)) _ _ _ _ _
      by_cases h : p.2.length < cap
      . rw [if_pos h, decide_eq_true h]
        rfl
      . rw [if_neg h, decide_eq_false h]
        rfl
def kNx (Γ : En) (Q : Out -> Mem -> Prop) (μ : Mem) : Prop := Q (.nx Γ) μ
@[simp ↓, simp] theorem kNx_w {Γ : En} {Q : Out -> Mem -> Prop} {μ : Mem} : kNx Γ Q μ = (Q (.nx Γ) μ) := rfl
def kDP3 (v : Vl) (x : Vl) (Γ : En) (Q : Out -> Mem -> Prop) (k : Vl) (μ : Mem) : Prop := WpO (dPut μ x k v) (kNx Γ Q)
@[simp ↓, simp] theorem kDP3_w {v : Vl} {x : Vl} {Γ : En} {Q : Out -> Mem -> Prop} {k : Vl} {μ : Mem} : kDP3 v x Γ Q k μ = (WpO (dPut μ x k v) (kNx Γ Q)) := rfl
def kDP2 (b : ME) (v : Vl) (Γ : En) (Q : Out -> Mem -> Prop) (x : Vl) (μ : Mem) : Prop := WpR (b Γ μ) (kDP3 v x Γ Q) (XK Q Γ)
@[simp ↓, simp] theorem kDP2_w {b : ME} {v : Vl} {Γ : En} {Q : Out -> Mem -> Prop} {x : Vl} {μ : Mem} : kDP2 b v Γ Q x μ = (WpR (b Γ μ) (kDP3 v x Γ Q) (XK Q Γ)) := rfl
def kDP1 (a : ME) (b : ME) (Γ : En) (Q : Out -> Mem -> Prop) (v : Vl) (μ : Mem) : Prop := WpR (a Γ μ) (kDP2 b v Γ Q) (XK Q Γ)
@[simp ↓, simp] theorem kDP1_w {a : ME} {b : ME} {Γ : En} {Q : Out -> Mem -> Prop} {v : Vl} {μ : Mem} : kDP1 a b Γ Q v μ = (WpR (a Γ μ) (kDP2 b v Γ Q) (XK Q Γ)) := rfl
@[simp ↓] theorem w_sDPut {a : ME} {b : ME} {c : ME} {Γ : En} {μ : Mem} {Q : Out -> Mem -> Prop} : Wp (sDPut a b c Γ μ) Q = WpR (c Γ μ) (kDP1 a b Γ Q) (XK Q Γ) := by
  rw [s_sDPut, w_st]
  refine wr_congr fun v μ => ?_
  rw [w_st]
  refine wr_congr fun x μ => ?_
  rw [w_st]
  refine wr_congr fun k μ => ?_
  show Wp (mK (dPut μ x k v) Γ) Q = WpO (dPut μ x k v) _
  cases dPut μ x k v <;> rfl
def kSF2 (cn : Str) (fn : Str) (v : Vl) (Γ : En) (Q : Out -> Mem -> Prop) (x : Vl) (μ : Mem) : Prop := WpO (fPut μ cn fn x v) (kNx Γ Q)
@[simp ↓, simp] theorem kSF2_w {cn : Str} {fn : Str} {v : Vl} {Γ : En} {Q : Out -> Mem -> Prop} {x : Vl} {μ : Mem} : kSF2 cn fn v Γ Q x μ = (WpO (fPut μ cn fn x v) (kNx Γ Q)) := rfl
def kSF1 (cn : Str) (fn : Str) (a : ME) (Γ : En) (Q : Out -> Mem -> Prop) (v : Vl) (μ : Mem) : Prop := WpR (a Γ μ) (kSF2 cn fn v Γ Q) (XK Q Γ)
@[simp ↓, simp] theorem kSF1_w {cn : Str} {fn : Str} {a : ME} {Γ : En} {Q : Out -> Mem -> Prop} {v : Vl} {μ : Mem} : kSF1 cn fn a Γ Q v μ = (WpR (a Γ μ) (kSF2 cn fn v Γ Q) (XK Q Γ)) := rfl
@[simp ↓] theorem w_sFld {cn : Str} {fn : Str} {a : ME} {b : ME} {Γ : En} {μ : Mem} {Q : Out -> Mem -> Prop} : Wp (sFld cn fn a b Γ μ) Q = WpR (b Γ μ) (kSF1 cn fn a Γ Q) (XK Q Γ) := by
  rw [s_sFld, w_st]
  refine wr_congr fun v μ => ?_
  rw [w_st]
  refine wr_congr fun x μ => ?_
  show Wp (mK (fPut μ cn fn x v) Γ) Q = WpO (fPut μ cn fn x v) _
  cases fPut μ cn fn x v <;> rfl
def kPar2 (i j : Nat) (Γ : En) (Q : Out -> Mem -> Prop) (xs : List Vl) (μ : Mem) : Prop := match xs with
  | [x, y] => Q (.nx ((Γ.set i (some x)).set j (some y))) μ
  | _ => False
@[simp ↓, simp] theorem kPar2_w {i j : Nat} {Γ : En} {Q : Out -> Mem -> Prop} {x y : Vl} {μ : Mem} : kPar2 i j Γ Q [x, y] μ = Q (.nx ((Γ.set i (some x)).set j (some y))) μ := rfl
@[simp ↓] theorem w_sPar2 {i j : Nat} {as : MA} {Γ : En} {μ : Mem} {Q : Out -> Mem -> Prop} : Wp (sPar2 i j as Γ μ) Q = WpR (as Γ μ) (kPar2 i j Γ Q) (XK Q Γ) := by
  unfold sPar2
  rw [w_st]
  refine wr_congr fun xs μ => ?_
  match xs with
  | [] => rfl
  | [x] => rfl
  | [x, y] => rfl
  | x :: y :: z :: r => rfl
def kPar3 (i j l : Nat) (Γ : En) (Q : Out -> Mem -> Prop) (xs : List Vl) (μ : Mem) : Prop := match xs with
  | [x, y, z] => Q (.nx (((Γ.set i (some x)).set j (some y)).set l (some z))) μ
  | _ => False
@[simp ↓, simp] theorem kPar3_w {i j l : Nat} {Γ : En} {Q : Out -> Mem -> Prop} {x y z : Vl} {μ : Mem} : kPar3 i j l Γ Q [x, y, z] μ = Q (.nx (((Γ.set i (some x)).set j (some y)).set l (some z))) μ := rfl
@[simp ↓] theorem w_sPar3 {i j l : Nat} {as : MA} {Γ : En} {μ : Mem} {Q : Out -> Mem -> Prop} : Wp (sPar3 i j l as Γ μ) Q = WpR (as Γ μ) (kPar3 i j l Γ Q) (XK Q Γ) := by
  unfold sPar3
  rw [w_st]
  refine wr_congr fun xs μ => ?_
  match xs with
  | [] => rfl
  | [x] => rfl
  | [x, y] => rfl
  | [x, y, z] => rfl
  | x :: y :: z :: w :: r => rfl
end Fm
end
section
set_option linter.all false
set_option maxRecDepth 100000
set_option maxHeartbeats 4000000
namespace Fm
open PySem
section
variable {α σ : Type} {g : MG} {t : MT} {b : MS} {e : ME} {gd : Gd} {ws : List Nat} {Γ : En} {μ : Mem} {Q : Out -> Mem -> Prop} {E : Str -> Option Int -> Mem -> Prop}
def kTurn (b : MS) (μ : Mem) (K : Out -> Mem -> Prop) (Γ : En) : Prop := Wp (b Γ μ) K
@[simp ↓, simp] theorem kTurn_w : kTurn b μ Q Γ = Wp (b Γ μ) Q := rfl
theorem w_for0 : Wp (forGo g b gd ws [] Γ μ) Q <-> gd.ok μ /\ Q (.nx Γ) μ := by
  unfold forGo
  by_cases h : gd.ok μ
  . rw [if_pos h]
    exact ⟨fun q => ⟨h, q⟩, fun q => q.2⟩
  . rw [if_neg h]
    exact ⟨fun q => q.elim, fun q => h q.1⟩
theorem w_forS {x : Vl} {r : List Vl} : Wp (forGo g b gd ws (x :: r) Γ μ) Q <-> gd.ok μ /\ WpO (g x Γ) (kTurn b μ (KL ws (fun Γ2 μ2 => Wp (forGo g b gd ws r Γ2 μ2) Q) Q)) := by
  conv => lhs; unfold forGo
  by_cases h : gd.ok μ
  . rw [if_pos h]
    cases g x Γ with
    | none => exact ⟨fun q => q.elim, fun q => q.2⟩
    | some Γ1 =>
      show Wp (match b Γ1 μ with | none => none | some (.nx Γ2, μ1) => _ | some (.ct Γ2, μ1) => _ | some (.bk Γ2, μ1) => _ | some (.rt y, μ1) => _ | some (.rf i y, μ1) => _ | some (.ex c q Γ2, μ1) => _) Q <-> _ /\ Wp (b Γ1 μ) _
      cases b Γ1 μ with
      | none => exact ⟨fun q => q.elim, fun q => q.2⟩
      | some p =>
        obtain ⟨o, μ1⟩ := p
        cases o <;> exact ⟨fun q => ⟨h, q⟩, fun q => q.2⟩
  . rw [if_neg h]
    exact ⟨fun q => q.elim, fun q => h q.1⟩
theorem wp_for (I : List Vl -> En -> Mem -> Prop) (hgd : ∀ r Γ μ, I r Γ μ -> gd.ok μ) (step : ∀ x r Γ μ, I (x :: r) Γ μ -> WpO (g x Γ) (kTurn b μ (KL ws (I r) Q))) (fin : ∀ Γ μ, I [] Γ μ -> Q (.nx Γ) μ) : ∀ {xs : List Vl} {Γ : En} {μ : Mem}, I xs Γ μ -> Wp (forGo g b gd ws xs Γ μ) Q
  | [], Γ, μ, h => w_for0.mpr ⟨hgd _ _ _ h, fin _ _ h⟩
  | x :: r, Γ, μ, h => by
    refine w_forS.mpr ⟨hgd _ _ _ h, ?_⟩
    have s := step x r Γ μ h
    cases q : g x Γ with
    | none => rw [q] at s; exact s
    | some Γ1 =>
      rw [q] at s
      refine Wp.mono s fun o μ' k => ?_
      cases o with
      | nx Γ2 => exact wp_for I hgd step fin k
      | ct Γ2 => exact wp_for I hgd step fin k
      | bk Γ2 => exact k
      | rt y => exact k
      | rf i y => exact k
      | ex c i Γ2 => exact k
theorem wp_forL {L : List α} {enc : α -> Vl} (upd : σ -> En -> En) (P : List α -> σ -> Mem -> Prop) (s0 : σ) (e0 : upd s0 Γ = Γ) (h0 : P L s0 μ) (hgd : ∀ r s μ, P r s μ -> gd.ok μ)
    (step : ∀ a r s μ, P (a :: r) s μ -> WpO (g (enc a) (upd s Γ)) (kTurn b μ (KL ws (fun Γ' μ' => ∃ s', Γ' = upd s' Γ /\ P r s' μ') Q))) (fin : ∀ s μ, P [] s μ -> Q (.nx (upd s Γ)) μ) : Wp (forGo g b gd ws (L.map enc) Γ μ) Q := by
  refine wp_for (I := fun r Γ' μ' => ∃ (r' : List α) (s : σ), r = r'.map enc /\ Γ' = upd s Γ /\ P r' s μ') ?_ ?_ ?_ ⟨L, s0, rfl, e0.symm, h0⟩
  . rintro r Γ' μ' ⟨r', s, rfl, rfl, h⟩
    exact hgd _ _ _ h
  . rintro x r Γ' μ' ⟨r', s, hr, rfl, h⟩
    cases r' with
    | nil => cases hr
    | cons a r' =>
      rw [List.map_cons] at hr
      cases hr
      have q := step a r' s μ' h
      cases z : g (enc a) (upd s Γ) with
      | none => rw [z] at q; exact q
      | some Γ1 =>
        rw [z] at q
        refine Wp.mono q fun o μ2 k => ?_
        cases o with
        | nx Γ2 => obtain ⟨s', e1, e2⟩ := k; exact ⟨r', s', rfl, e1, e2⟩
        | ct Γ2 => obtain ⟨s', e1, e2⟩ := k; exact ⟨r', s', rfl, e1, e2⟩
        | bk Γ2 => exact k
        | rt y => exact k
        | rf i y => exact k
        | ex c i Γ2 => exact k
  . rintro Γ' μ' ⟨r', s, hr, rfl, h⟩
    cases r' with
    | nil => exact fin _ _ h
    | cons a r' => cases hr
theorem wp_forK {L : List α} {enc : α -> Vl} (P : List α -> Mem -> Prop) (h0 : P L μ) (hgd : ∀ r μ, P r μ -> gd.ok μ)
    (step : ∀ a r μ, P (a :: r) μ -> WpO (g (enc a) Γ) (kTurn b μ (KL ws (fun Γ' μ' => Γ' = Γ /\ P r μ') Q))) (fin : ∀ μ, P [] μ -> Q (.nx Γ) μ) : Wp (forGo g b gd ws (L.map enc) Γ μ) Q := by
  refine wp_forL (σ := Unit) (fun _ Γ => Γ) (fun r _ μ => P r μ) () rfl h0 (fun r _ μ h => hgd r μ h) (fun a r _ μ h => ?_) fun _ μ h => fin μ h
  have q := step a r μ h
  cases z : g (enc a) Γ with
  | none => rw [z] at q; exact q
  | some Γ1 =>
    rw [z] at q
    refine Wp.mono q fun o μ2 k => ?_
    cases o with
    | nx Γ2 => exact ⟨(), k⟩
    | ct Γ2 => exact ⟨(), k⟩
    | bk Γ2 => exact k
    | rt y => exact k
    | rf i y => exact k
    | ex c i Γ2 => exact k
theorem ivs_map {lo : Int} {n : Nat} : ivs lo n = (List.range n).map fun (k : Nat) => Vl.int (lo + (k : Int)) := rfl
theorem wp_forN {lo : Int} {n : Nat} (upd : σ -> En -> En) (P : Nat -> σ -> Mem -> Prop) (s0 : σ) (e0 : upd s0 Γ = Γ) (h0 : P 0 s0 μ)
    (step : ∀ (k : Nat) s μ, k < n -> P k s μ -> WpO (g (.int (lo + k)) (upd s Γ)) (kTurn b μ (KL ws (fun Γ' μ' => ∃ s', Γ' = upd s' Γ /\ P (k + 1) s' μ') Q))) (fin : ∀ s μ, P n s μ -> Q (.nx (upd s Γ)) μ) : Wp (forGo g b .free ws (ivs lo n) Γ μ) Q := by
  rw [ivs_map]
  refine wp_forL upd (fun r s μ => ∃ k, r = (List.range n).drop k /\ k <= n /\ P k s μ) s0 e0 ⟨0, by simp, Nat.zero_le _, h0⟩ (fun _ _ _ _ => trivial) ?_ ?_
  . rintro a r s μ ⟨k, hr, hk, h⟩
    have hn : k < n := by
      rcases Nat.lt_or_ge k n with q | q
      . exact q
      . rw [List.drop_eq_nil_of_le (by simpa using q)] at hr
        cases hr
    rw [List.drop_eq_getElem_cons (by simpa using hn)] at hr
    have ha : a = k := by simpa using (List.cons.inj hr).1
    have hr' := (List.cons.inj hr).2
    subst ha
    have q := step a s μ hn h
    cases z : g (.int (lo + a)) (upd s Γ) with
    | none => rw [z] at q; exact q
    | some Γ1 =>
      rw [z] at q
      refine Wp.mono q fun o μ2 k => ?_
      cases o with
      | nx Γ2 => obtain ⟨s', e1, e2⟩ := k; exact ⟨s', e1, _, hr', hn, e2⟩
      | ct Γ2 => obtain ⟨s', e1, e2⟩ := k; exact ⟨s', e1, _, hr', hn, e2⟩
      | bk Γ2 => exact k
      | rt y => exact k
      | rf i y => exact k
      | ex c i Γ2 => exact k
  . rintro s μ ⟨k, hr, hk, h⟩
    have : k = n := by
      have := congrArg List.length hr
      simp at this
      omega
    subst this
    exact fin s μ h
theorem wp_forN0 {lo : Int} {n : Nat} (P : Nat -> Mem -> Prop) (h0 : P 0 μ)
    (step : ∀ (k : Nat) μ, k < n -> P k μ -> WpO (g (.int (lo + k)) Γ) (kTurn b μ (KL ws (fun Γ' μ' => Γ' = Γ /\ P (k + 1) μ') Q))) (fin : ∀ μ, P n μ -> Q (.nx Γ) μ) : Wp (forGo g b .free ws (ivs lo n) Γ μ) Q := by
  refine wp_forN (σ := Unit) (fun _ Γ => Γ) (fun k _ μ => P k μ) () rfl h0 (fun k _ μ hk h => ?_) fun _ μ h => fin μ h
  have q := step k μ hk h
  cases z : g (.int (lo + k)) Γ with
  | none => rw [z] at q; exact q
  | some Γ1 =>
    rw [z] at q
    refine Wp.mono q fun o μ2 k => ?_
    cases o with
    | nx Γ2 => exact ⟨(), k⟩
    | ct Γ2 => exact ⟨(), k⟩
    | bk Γ2 => exact k
    | rt y => exact k
    | rf i y => exact k
    | ex c i Γ2 => exact k
theorem wp_forA {xs : List Vl} (P : Mem -> Prop) (h0 : P μ) (hgd : ∀ μ, P μ -> gd.ok μ) (step : ∀ x ∈ xs, ∀ μ, P μ -> WpO (g x Γ) (kTurn b μ (KL ws (fun Γ' μ' => Γ' = Γ /\ P μ') Q))) (fin : ∀ μ, P μ -> Q (.nx Γ) μ) : Wp (forGo g b gd ws xs Γ μ) Q := by
  have h := wp_forK (g := g) (b := b) (gd := gd) (ws := ws) (Γ := Γ) (μ := μ) (Q := Q) (L := xs) (enc := id) (fun r μ => (∀ x ∈ r, x ∈ xs) /\ P μ) ⟨fun x h => h, h0⟩ (fun _ _ h => hgd _ h.2) (fun a r μ ⟨h1, h2⟩ => ?_) fun μ h => fin μ h.2
  . simpa using h
  . have q := step a (h1 a List.mem_cons_self) μ h2
    show WpO (g a Γ) _
    cases z : g a Γ with
    | none => rw [z] at q; exact q
    | some Γ1 =>
      rw [z] at q
      refine Wp.mono q fun o μ2 k => ?_
      cases o with
      | nx Γ2 => exact ⟨k.1, fun x hx => h1 x (List.mem_cons_of_mem _ hx), k.2⟩
      | ct Γ2 => exact ⟨k.1, fun x hx => h1 x (List.mem_cons_of_mem _ hx), k.2⟩
      | bk Γ2 => exact k
      | rt y => exact k
      | rf i y => exact k
      | ex c i Γ2 => exact k
def WCt (c : Bool) (e : ME) (Γ : En) (μ : Mem) (A : Vl -> Mem -> Prop) (B : Mem -> Prop) : Prop := match c with
  | true => WpR (e Γ μ) A noX
  | false => B μ
@[simp ↓, simp] theorem WCt_t {A : Vl -> Mem -> Prop} {B : Mem -> Prop} : WCt true e Γ μ A B = WpR (e Γ μ) A noX := rfl
@[simp ↓, simp] theorem WCt_f {A : Vl -> Mem -> Prop} {B : Mem -> Prop} : WCt false e Γ μ A B = B μ := rfl
def kCt (e : ME) (Γ : En) (A : Vl -> Mem -> Prop) (B : Mem -> Prop) (c : Bool) (μ : Mem) : Prop := WCt c e Γ μ A B
@[simp ↓, simp] theorem kCt_w {A : Vl -> Mem -> Prop} {B : Mem -> Prop} {c : Bool} : kCt e Γ A B c μ = WCt c e Γ μ A B := rfl
def kCs (t : MT) (e : ME) (μ : Mem) (A : Vl -> Mem -> Prop) (B : Mem -> Prop) (Γ : En) : Prop := WpR (t Γ μ) (kCt e Γ A B) noX
@[simp ↓, simp] theorem kCs_w {A : Vl -> Mem -> Prop} {B : Mem -> Prop} : kCs t e μ A B Γ = WpR (t Γ μ) (kCt e Γ A B) noX := rfl
def kEl (e : ME) (μ : Mem) (A : Vl -> Mem -> Prop) (Γ : En) : Prop := WpR (e Γ μ) A noX
@[simp ↓, simp] theorem kEl_w {A : Vl -> Mem -> Prop} : kEl e μ A Γ = WpR (e Γ μ) A noX := rfl
def kTs (t : MT) (μ : Mem) (A : Bool -> Mem -> Prop) (Γ : En) : Prop := WpR (t Γ μ) A noX
@[simp ↓, simp] theorem kTs_w {A : Bool -> Mem -> Prop} : kTs t μ A Γ = WpR (t Γ μ) A noX := rfl
theorem wp_filt {L : List α} {enc : α -> Vl} {R : List Vl -> Mem -> Prop} (p : α -> Bool) (f : α -> Vl) (hgd : gd.ok μ) (step : ∀ a ∈ L, WpO (g (enc a) Γ) (kTs t μ (fun c μ1 => c = p a /\ μ1 = μ)) /\ (p a = true -> WpO (g (enc a) Γ) (kEl e μ (fun y μ2 => y = f a /\ μ2 = μ)))) (fin : R ((L.filter p).map f) μ) : WpR (compGo g t e gd Γ (L.map enc) μ) R E := by
  rw [Q.comp_if enc p f hgd fun x hx => ?_]
  . exact fin
  . have s := step x hx
    cases q : g (enc x) Γ with
    | none => rw [q] at s; exact s.1.elim
    | some Γ1 =>
      rw [q] at s
      exact ⟨Γ1, rfl, wpr_eq s.1, fun h => wpr_eq (s.2 h)⟩
def WWh (c : Bool) (b : MS) (Γ : En) (μ : Mem) (K Q : Out -> Mem -> Prop) : Prop := match c with
  | true => Wp (b Γ μ) K
  | false => Q (.nx Γ) μ
@[simp ↓, simp] theorem WWh_t {K : Out -> Mem -> Prop} : WWh true b Γ μ K Q = Wp (b Γ μ) K := rfl
@[simp ↓, simp] theorem WWh_f {K : Out -> Mem -> Prop} : WWh false b Γ μ K Q = Q (.nx Γ) μ := rfl
def kWh (b : MS) (Γ : En) (K Q : Out -> Mem -> Prop) (c : Bool) (μ : Mem) : Prop := WWh c b Γ μ K Q
@[simp ↓, simp] theorem kWh_w {K : Out -> Mem -> Prop} {c : Bool} : kWh b Γ K Q c μ = WWh c b Γ μ K Q := rfl
end
end Fm
end
section
set_option linter.all false
set_option maxRecDepth 100000
set_option maxHeartbeats 2000000
namespace Q
open PySem Fm
section
variable {μ : Mem} {R W G L : Vl} {m : Nat} {s : List (Int × Row)} {ls : List (List (Int × Int))}
end
section
variable {μ : Mem} {R W G L : Vl} {m : Nat} {S : Gla}
end
end Q
end
section
set_option linter.all false
set_option maxRecDepth 100000
set_option maxHeartbeats 2000000
namespace Q
open PySem Fm
section
variable {μ : Mem}
end
end Q
end
section
set_option linter.all false
set_option maxRecDepth 100000
set_option maxHeartbeats 1000000
namespace Q
open PySem Fm
section
variable {μ : Mem} {v : Vl} {I : Gla} {l : Int}
end
def upTo (s : List (Int × Int)) (y : Int) : Int := ((s.filter fun p => decide (p.1 <= y)).map (·.2)).sum
def ride (l : List (Int × Int)) (y : Int) : Int := y + upTo l y
end Q
end
section
set_option linter.all false
set_option maxRecDepth 100000
set_option maxHeartbeats 1000000
namespace Q
open PySem Fm
def rd (I : Gla) (l y : Int) : Int := ride (lp I l) y
section
variable {μ : Mem} {v : Vl} {I : Gla} {l : Int}
end
end Q
end
section
set_option linter.all false
set_option maxRecDepth 100000
set_option maxHeartbeats 2000000
namespace Q
open PySem Fm
theorem box_bx {ns : List Int} {s : Int} {r : Mem} : Bx (some (boxO ns 0 0 0 s) :: r) 0 := ⟨ns, 0, 0, 0, s, rfl, Int.le_refl _⟩
section
variable {b : Nat} {μ : Mem} {S : Gla}
end
end Q
end
section
set_option linter.all false
set_option maxRecDepth 100000
set_option maxHeartbeats 4000000
namespace Q
open PySem Fm
section
variable {b : Nat} {μ : Mem} {S : Gla} {R : Vl -> Mem -> Prop} {E : Str -> Option Int -> Mem -> Prop}
theorem take_wp {k : Int} (h : Bx μ b) (h1 : 0 < k) (h2 : k < 10 ^ 100) (q : ∀ r μ', Bt b μ μ' -> 0 <= r -> r < k -> R (.int r) μ') : WpR (F_l_take [.ref b, .int k] μ) R E := by
  obtain ⟨r, μ', e, t, r0, r1⟩ := take_ok h h1 h2
  rw [e]
  exact q r μ' t r0 r1
theorem reaches_wp (h : Bx μ b) (q : ∀ rs μ', Bt b μ μ' -> Vy rs -> rs.length <= 8 -> R (.lst (rs.map reachV)) μ') : WpR (F_l_reaches [.ref b] μ) R E := by
  obtain ⟨rs, μ', e, t, v, v8⟩ := reaches_ok h
  rw [e]
  exact q rs μ' t v v8
theorem law_wp {n : Nat} {m : MS} {ns : List Int} (h : Wp (m (args n [.scr ns]) []) (fun o _ => o = .rt (.bl true))) : ∃ μ', fnV 1 n m [.scr ns] [] = .ok (.bl true) μ' := by
  obtain ⟨o, μ, e, rfl⟩ := wp_iff.mp h
  exact ⟨gcM true [] μ, by unfold fnV; rw [e]; rfl⟩
theorem box_wp {ns : List Int} {R : MO -> Mem -> Prop} (q : ∀ s, R (boxO ns 0 0 0 s) μ) : WpR (F_l_box [.scr ns] μ) R E := by
  obtain ⟨s, e⟩ := box_ok ns μ
  rw [e]
  exact q s
end
end Q
end
section
set_option linter.all false
set_option maxRecDepth 100000
set_option maxHeartbeats 2000000
namespace Q
open PySem Fm
def sgl (s : List (Int × Row)) (y : Int) : Option Row := (s.find? fun p => decide (p.1 = y)).map (·.2)
def row (I : Gla) (y : Int) : Row := match sgl I.single y with
  | some r => r
  | none => I.round.getD (y % I.round.length).toNat (0, 0, 0)
section
variable {μ : Mem} {v : Vl} {I : Gla} {l : Int}
def chg (r : Row) (h : Int) : Int := if r.1 <= h then r.2.1 else -r.2.2
end
end Q
end
section
set_option linter.all false
set_option maxRecDepth 100000
set_option maxHeartbeats 2000000
namespace Q
open PySem Fm
section
variable {μ : Mem} {S : Gla} {l : Int}
end
end Q
end
section
set_option linter.all false
set_option maxRecDepth 100000
set_option maxHeartbeats 4000000
namespace Q
open PySem Fm
section
variable {α β : Type} {μ : Mem} {f : α -> Vl} {g : β -> Vl}
@[simp] theorem both_ok {a b : Gd} : (Gd.both a b).ok μ = (a.ok μ /\ b.ok μ) := rfl
theorem cap_le {n : Nat} (h : n <= 1000000) : n <= cap := Nat.le_trans h (by decide)
theorem any_map {p : α -> Bool} {xs : List α} : bAny [.lst (xs.map fun x => .bl (p x))] μ = some (.bl (xs.any p)) := by
  have : bools (xs.map fun x => Vl.bl (p x)) = some (xs.map p) := mapO_map fun _ _ => rfl
  simp [bAny, this, List.any_map]
theorem alk_tup {n : Nat} {xs ys : List Vl} (h : All2 (Alk μ n) xs ys) (hz : xs.length <= 1000) : Alk μ (n + 1) (.tup xs) (.tup ys) := .inr (.inl ⟨xs, ys, rfl, rfl, by omega, h⟩)
end
end Q
end
section
set_option linter.all false
set_option maxRecDepth 100000
set_option maxHeartbeats 4000000
namespace Fm
open PySem
section
variable {Γ : En} {μ : Mem} {Q : Out -> Mem -> Prop} {cs : List Str} {hs t : List (Str × MS)} {c C : Str} {r : Option Int} {h : MS}
def kNoEx (Q : Out -> Mem -> Prop) (o : Out) (μ : Mem) : Prop := match o with
  | .ex _ _ _ => False
  | o => Q o μ
@[simp ↓, simp] theorem kNoEx_nx : kNoEx Q (.nx Γ) μ = Q (.nx Γ) μ := rfl
@[simp ↓, simp] theorem kNoEx_rt {x : Vl} : kNoEx Q (.rt x) μ = Q (.rt x) μ := rfl
@[simp ↓, simp] theorem kNoEx_bk : kNoEx Q (.bk Γ) μ = Q (.bk Γ) μ := rfl
@[simp ↓, simp] theorem kNoEx_ct : kNoEx Q (.ct Γ) μ = Q (.ct Γ) μ := rfl
def WTk (b : Bool) (c : Str) (r : Option Int) (h : MS) (t : List (Str × MS)) (Γ : En) (μ : Mem) (Q : Out -> Mem -> Prop) : Prop := match b with
  | true => Wp (h Γ μ) (kNoEx Q)
  | false => Wp (tryGo c r t Γ μ) Q
@[simp ↓, simp] theorem WTk_t : WTk true c r h t Γ μ Q = Wp (h Γ μ) (kNoEx Q) := rfl
@[simp ↓, simp] theorem WTk_f : WTk false c r h t Γ μ Q = Wp (tryGo c r t Γ μ) Q := rfl
@[simp ↓] theorem w_tryGo0 : Wp (tryGo c r [] Γ μ) Q = Q (.ex c r Γ) μ := rfl
@[simp ↓] theorem w_tryGoS : Wp (tryGo c r ((C, h) :: t) Γ μ) Q = WTk (takesX c C) c r h t Γ μ Q := by
  unfold tryGo
  cases takesX c C with
  | false => rfl
  | true =>
    rw [if_pos rfl]
    show Wp (noEx (h Γ μ)) Q = Wp (h Γ μ) (kNoEx Q)
    cases h Γ μ with
    | none => rfl
    | some p =>
      obtain ⟨o, μ'⟩ := p
      cases o <;> rfl
def WTry (b : Bool) (c : Str) (r : Option Int) (hs : List (Str × MS)) (Γ : En) (μ : Mem) (Q : Out -> Mem -> Prop) : Prop := match b with
  | true => Wp (tryGo c r hs Γ μ) Q
  | false => False
@[simp ↓, simp] theorem WTry_t : WTry true c r hs Γ μ Q = Wp (tryGo c r hs Γ μ) Q := rfl
def kTry (cs : List Str) (hs : List (Str × MS)) (Q : Out -> Mem -> Prop) (o : Out) (μ : Mem) : Prop := match o with
  | .ex c r Γ => WTry (decide (c ∈ cs)) c r hs Γ μ Q
  | o => Q o μ
@[simp ↓, simp] theorem kTry_nx : kTry cs hs Q (.nx Γ) μ = Q (.nx Γ) μ := rfl
@[simp ↓, simp] theorem kTry_rt {x : Vl} : kTry cs hs Q (.rt x) μ = Q (.rt x) μ := rfl
@[simp ↓, simp] theorem kTry_bk : kTry cs hs Q (.bk Γ) μ = Q (.bk Γ) μ := rfl
@[simp ↓, simp] theorem kTry_ct : kTry cs hs Q (.ct Γ) μ = Q (.ct Γ) μ := rfl
@[simp ↓, simp] theorem kTry_ex : kTry cs hs Q (.ex c r Γ) μ = WTry (decide (c ∈ cs)) c r hs Γ μ Q := rfl
@[simp ↓] theorem w_sTry {b : MS} : Wp (sTry cs b hs Γ μ) Q = Wp (b Γ μ) (kTry cs hs Q) := by
  unfold sTry
  cases b Γ μ with
  | none => rfl
  | some p =>
    obtain ⟨o, μ'⟩ := p
    cases o with
    | ex c r Γ' =>
      show Wp (if c ∈ cs then tryGo c r hs Γ' μ' else none) Q = WTry (decide (c ∈ cs)) c r hs Γ' μ' Q
      by_cases q : c ∈ cs
      . rw [if_pos q, decide_eq_true q]
        rfl
      . rw [if_neg q, decide_eq_false q]
        rfl
    | _ => rfl
@[simp] theorem takes_self : takesX c c = true := by unfold takesX; simp
@[simp] theorem takes_firn : takesX c "FirnError" = true := by unfold takesX; simp
end
end Fm
end
section
set_option linter.all false
set_option maxRecDepth 100000
namespace Q
open PySem Fm
end Q
end
section
set_option linter.all false
set_option maxRecDepth 100000
namespace Q
open PySem Fm
end Q
end
section
set_option linter.all false
set_option maxRecDepth 100000
namespace Q
open PySem Fm
end Q
end
section
set_option linter.all false
set_option maxRecDepth 100000
namespace Q
open PySem Fm
end Q
end
section
set_option linter.all false
set_option maxRecDepth 100000
namespace Q
open PySem Fm
end Q
end
section
set_option linter.all false
set_option maxRecDepth 100000
set_option maxHeartbeats 4000000
namespace Fm
open PySem
section
variable {Γ : En} {μ : Mem} {Q : Out -> Mem -> Prop} {cs : List Str} {c : Str} {r : Option Int} {i j : Nat} {fv : Str -> Vl}
def kTE (cs : List Str) (i j : Nat) (fv : Str -> Vl) (Q : Out -> Mem -> Prop) (o : Out) (μ : Mem) : Prop := match o with
  | .ex c r Γ => (c ∈ cs /\ r = none /\ i < Γ.length) /\ Q (.nx ((Γ.set j (some (fv c))).set i none)) μ
  | o => Q o μ
@[simp ↓, simp] theorem kTE_nx : kTE cs i j fv Q (.nx Γ) μ = Q (.nx Γ) μ := rfl
@[simp ↓, simp] theorem kTE_rt {x : Vl} : kTE cs i j fv Q (.rt x) μ = Q (.rt x) μ := rfl
@[simp ↓, simp] theorem kTE_bk : kTE cs i j fv Q (.bk Γ) μ = Q (.bk Γ) μ := rfl
@[simp ↓, simp] theorem kTE_ct : kTE cs i j fv Q (.ct Γ) μ = Q (.ct Γ) μ := rfl
@[simp ↓, simp] theorem kTE_ex : kTE cs i j fv Q (.ex c r Γ) μ = ((c ∈ cs /\ r = none /\ i < Γ.length) /\ Q (.nx ((Γ.set j (some (fv c))).set i none)) μ) := rfl
@[simp ↓] theorem w_sTryE {b : MS} : Wp (sTryE cs b i j fv Γ μ) Q = Wp (b Γ μ) (kTE cs i j fv Q) := by
  unfold sTryE
  cases b Γ μ with
  | none => rfl
  | some p =>
    obtain ⟨o, μ'⟩ := p
    cases o with
    | ex c r Γ' =>
      show Wp (if c ∈ cs /\ r = none /\ i < Γ'.length then some (.nx ((Γ'.set j (some (fv c))).set i none), μ') else none) Q = ((c ∈ cs /\ r = none /\ i < Γ'.length) /\ Q (.nx ((Γ'.set j (some (fv c))).set i none)) μ')
      by_cases q : c ∈ cs /\ r = none /\ i < Γ'.length
      . rw [if_pos q]
        exact propext ⟨fun h => ⟨q, h⟩, fun h => h.2⟩
      . rw [if_neg q]
        exact propext ⟨fun h => h.elim, fun h => q h.1⟩
    | _ => rfl
end
end Fm
namespace Q
open PySem Fm
section
variable {b : Nat} {μ : Mem} {S : Gla} {R : Vl -> Mem -> Prop} {E : Str -> Option Int -> Mem -> Prop} {l p y : Int} {v : Vl}
section
variable {a : Int} {μ1 : Mem}
end
end
end Q
end
section
set_option linter.all false
set_option maxRecDepth 100000
set_option maxHeartbeats 4000000
namespace Q
open PySem Fm
section
variable {rs : List Rch}
theorem road_desc (hf : Falls rs) : ∀ (n : Nat) {i : Int}, 0 <= i -> i < rs.length -> (road rs n i).Pairwise (· > ·) /\ ∀ y ∈ road rs n i, y <= i
  | 0, _, _, _ => by simp [road]
  | n + 1, i, h0, h1 => by
    unfold road
    rcases hf.to h0 h1 with ⟨e, e0⟩ | ⟨hp, t0, t1⟩
    . rw [if_pos e0]
      simp
    . rw [if_neg (by omega)]
      obtain ⟨p, q⟩ := road_desc hf n t0 (by omega)
      refine ⟨List.pairwise_cons.mpr ⟨fun y hy => ?_, p⟩, fun y hy => ?_⟩
      . have := q y hy
        show y < i
        omega
      . rcases List.mem_cons.mp hy with rfl | hy
        . exact Int.le_refl _
        . have := q y hy
          omega
theorem road_nd (hf : Falls rs) (n : Nat) {i : Int} (h0 : 0 <= i) (h1 : i < rs.length) : (road rs n i).Nodup := (road_desc hf n h0 h1).1.imp fun h => by
  have h' : _ < _ := h
  intro z
  rw [z] at h'
  exact absurd h' (Int.lt_irrefl _)
theorem road_head {n : Nat} {i : Int} (h : 1 <= n) : ∃ t, road rs n i = i :: t := by
  obtain ⟨m, rfl⟩ : ∃ m, n = m + 1 := ⟨n - 1, by omega⟩
  unfold road
  split
  . exact ⟨_, rfl⟩
  . exact ⟨_, rfl⟩
theorem split_eq {x : Int} : ∀ {a c t t' : List Int}, a ++ x :: t = c ++ x :: t' -> x ∉ a -> x ∉ c -> a = c /\ t = t'
  | [], [], _, _, e, _, _ => ⟨rfl, (List.cons.inj e).2⟩
  | [], d :: c, _, _, e, _, h => absurd (by rw [(List.cons.inj e).1]; exact List.mem_cons_self) h
  | d :: a, [], _, _, e, h, _ => absurd (by rw [<- (List.cons.inj e).1]; exact List.mem_cons_self) h
  | d :: a, f :: c, _, _, e, h1, h2 => by
    have e' := List.cons.inj e
    obtain ⟨q1, q2⟩ := split_eq e'.2 (fun z => h1 (List.mem_cons_of_mem _ z)) (fun z => h2 (List.mem_cons_of_mem _ z))
    rw [e'.1, q1]
    exact ⟨rfl, q2⟩
theorem first_in (p : Int -> Bool) : ∀ {xs : List Int}, (∃ x ∈ xs, p x = true) -> ∃ a x t, xs = a ++ x :: t /\ (∀ y ∈ a, p y = false) /\ p x = true
  | [], h => by obtain ⟨_, h, _⟩ := h; cases h
  | y :: r, h => by
    cases e : p y with
    | true => exact ⟨[], y, r, rfl, by simp, e⟩
    | false =>
      obtain ⟨x, hx, hp⟩ := h
      obtain ⟨a, z, t, e1, e2, e3⟩ := first_in p (xs := r) ⟨x, by
        rcases List.mem_cons.mp hx with rfl | hx
        . rw [e] at hp; cases hp
        . exact hx, hp⟩
      refine ⟨y :: a, z, t, by rw [e1]; rfl, fun w hw => ?_, e3⟩
      rcases List.mem_cons.mp hw with rfl | hw
      . exact e
      . exact e2 w hw
theorem zero_on6 (hf : Falls rs) : ∀ (n : Nat) {i : Int}, 0 <= i -> i < rs.length -> i < n -> (0 : Int) ∈ road rs n i
  | 0, _, h0, _, hn => by omega
  | n + 1, i, h0, h1, hn => by
    unfold road
    rcases hf.to h0 h1 with ⟨e, e0⟩ | ⟨hp, t0, t1⟩
    . rw [if_pos e0, e]
      simp
    . rw [if_neg (by omega)]
      exact List.mem_cons_of_mem _ (zero_on6 hf n t0 (by omega) (by omega))
theorem road_next : ∀ (n : Nat) {i y x : Int} {p t : List Int}, road rs n i = p ++ y :: x :: t -> toOf rs y = x
  | 0, _, _, _, p, _, h => by
    unfold road at h
    cases p <;> cases h
  | n + 1, i, y, x, p, t, h => by
    unfold road at h
    split at h
    . cases p with
      | nil => cases h
      | cons q p =>
        have := (List.cons.inj h).2
        cases p <;> cases this
    . cases p with
      | nil =>
        obtain ⟨e1, e2⟩ := List.cons.inj h
        cases n with
        | zero => cases e2
        | succ n =>
          obtain ⟨t', e3⟩ := road_head (rs := rs) (n := n + 1) (i := toOf rs i) (by omega)
          rw [e3] at e2
          rw [<- e1]
          exact (List.cons.inj e2).1
      | cons q p => exact road_next n (List.cons.inj h).2
theorem to_mem {y : Int} (h0 : 0 <= y) (h1 : y < rs.length) : toOf rs y ∈ rs.map (·.1) := by
  have hk : y.toNat < rs.length := by omega
  have et : toOf rs y = rs[y.toNat].1 := by unfold toOf; rw [List.getElem?_eq_getElem hk]
  rw [et]
  exact List.mem_map.mpr ⟨_, List.getElem_mem hk, rfl⟩
structure Fork (A B a b : List Int) (x : Int) (t : List Int) : Prop where
  eA : A = a ++ x :: t
  eB : B = b ++ x :: t
  nA : ∀ y ∈ a, y ∉ B
  nB : ∀ y ∈ b, y ∉ A
  a0 : a ≠ []
  b0 : b ≠ []
  xa : x ∉ a
  xb : x ∉ b
theorem Fork.swap {A B a b : List Int} {x : Int} {t : List Int} (h : Fork A B a b x t) : Fork B A b a x t := ⟨h.eB, h.eA, h.nB, h.nA, h.b0, h.a0, h.xb, h.xa⟩
theorem half (hf : Falls rs) {i : Int} (hi : i ∈ heads rs) {A B a b : List Int} {x : Int} {t : List Int} (eA : A = road rs rs.length i) {j : Int} (eB : B = road rs rs.length j) (hj : j ∈ heads rs) (ne : A ≠ B) (qA : A = a ++ x :: t) (qB : B = b ++ x :: t) : a ≠ [] := by
  rintro rfl
  obtain ⟨h0, h1⟩ := heads_lt hi
  obtain ⟨j0, j1⟩ := heads_lt hj
  obtain ⟨t', e⟩ := road_head (rs := rs) (n := rs.length) (i := i) (by omega)
  rw [eA, e] at qA
  have ex : i = x := (List.cons.inj qA).1
  rcases List.eq_nil_or_concat b with rfl | ⟨b', y, rfl⟩
  . apply ne
    rw [eA, e, qA, qB]
  . have q : road rs rs.length j = b' ++ y :: x :: t := by rw [<- eB, qB]; simp
    have nx := road_next _ q
    have hy : y ∈ road rs rs.length j := by rw [q]; simp
    obtain ⟨y0, y1⟩ := road_in hf _ j0 j1 y hy
    have := to_mem (rs := rs) y0 y1
    rw [nx, <- ex] at this
    exact (heads_mem.mp hi).2 this
theorem fork (v : Vy rs) {A B : List Int} (hA : A ∈ roadsOf rs) (hB : B ∈ roadsOf rs) (ne : A ≠ B) : ∃ a b x t, Fork A B a b x t := by
  have hf := v.falls
  obtain ⟨i, hi, eA⟩ := roads_mem hA
  obtain ⟨j, hj, eB⟩ := roads_mem hB
  obtain ⟨i0, i1⟩ := heads_lt hi
  obtain ⟨j0, j1⟩ := heads_lt hj
  have zA : (0 : Int) ∈ A := by rw [eA]; exact zero_on6 hf _ i0 i1 i1
  have zB : (0 : Int) ∈ B := by rw [eB]; exact zero_on6 hf _ j0 j1 j1
  have ndA : A.Nodup := by rw [eA]; exact road_nd hf _ i0 i1
  have ndB : B.Nodup := by rw [eB]; exact road_nd hf _ j0 j1
  obtain ⟨a, x, t, e1, e2, e3⟩ := first_in (fun y => decide (y ∈ B)) (xs := A) ⟨0, zA, decide_eq_true zB⟩
  have xB := of_decide_eq_true e3
  have xA : x ∈ A := by rw [e1]; simp
  have sA : road rs rs.length x <:+ A := by
    have := road_tail hf rs.length i0 i1 i1 (Nat.le_refl _) (x := x) (by rw [<- eA]; exact xA)
    rw [eA]
    exact this
  have sB : road rs rs.length x <:+ B := by
    have := road_tail hf rs.length j0 j1 j1 (Nat.le_refl _) (x := x) (by rw [<- eB]; exact xB)
    rw [eB]
    exact this
  obtain ⟨t0, et0⟩ := road_head (rs := rs) (n := rs.length) (i := x) (by omega)
  rw [et0] at sA sB
  obtain ⟨c, ec⟩ := sA
  obtain ⟨b, eb⟩ := sB
  have nx : x ∉ a := by
    rw [e1, List.nodup_append] at ndA
    exact fun z => ndA.2.2 x z x List.mem_cons_self rfl
  have nc : x ∉ c := by
    rw [<- ec, List.nodup_append] at ndA
    exact fun z => ndA.2.2 x z x List.mem_cons_self rfl
  have nb : ∀ y ∈ b, y ∉ x :: t0 := by
    rw [<- eb, List.nodup_append] at ndB
    exact fun y z w => ndB.2.2 y z y w rfl
  obtain ⟨q1, q2⟩ := split_eq (e1.symm.trans ec.symm) nx nc
  subst q2
  have nAB : ∀ y ∈ a, y ∉ B := fun y hy => of_decide_eq_false (e2 y hy)
  refine ⟨a, b, x, t, e1, eb.symm, nAB, fun y hy hyA => ?_, half hf hi eA eB hj ne e1 eb.symm, half hf hj eB eA hi (Ne.symm ne) eb.symm e1, nx, fun z => nb x z List.mem_cons_self⟩
  rw [e1] at hyA
  rcases List.mem_append.mp hyA with h | h
  . exact nAB y h (by rw [<- eb]; exact List.mem_append_left _ hy)
  . exact nb y hy h
theorem le_pre : ∀ (P : List Int) {U W : List Int}, dLe (P ++ U) (P ++ W) = dLe U W
  | [], _, _ => rfl
  | x :: P, U, W => by rw [List.cons_append, List.cons_append, le_self, le_pre P]
theorem fork_lt {A B a b : List Int} {x : Int} {t : List Int} (f : Fork A B a b x t) (h : dLe A.reverse B.reverse = true) : ∃ a' b' y z, a = a' ++ [y] /\ b = b' ++ [z] /\ y < z := by
  rcases List.eq_nil_or_concat a with e | ⟨a', y, rfl⟩
  . exact absurd e f.a0
  rcases List.eq_nil_or_concat b with e | ⟨b', z, rfl⟩
  . exact absurd e f.b0
  refine ⟨a', b', y, z, by simp, by simp, ?_⟩
  have ne : y ≠ z := by
    rintro rfl
    exact f.nA y (by simp) (by rw [f.eB]; simp)
  have eA : A.reverse = (t.reverse ++ [x]) ++ y :: a'.reverse := by rw [f.eA]; simp
  have eB : B.reverse = (t.reverse ++ [x]) ++ z :: b'.reverse := by rw [f.eB]; simp
  rw [eA, eB, le_pre, le_diff ne] at h
  have := of_decide_eq_false (by simpa using h : decide (z < y) = false)
  omega
theorem roads_nd (h1 : 1 <= rs.length) : (roadsOf rs).Nodup := by
  refine (roads_perm.nodup_iff).mpr ?_
  unfold roadsU
  rw [List.nodup_iff_pairwise_ne, List.pairwise_map]
  refine (heads_nd (rs := rs)).imp fun {i j} hne z => hne ?_
  obtain ⟨t, e1⟩ := road_head (rs := rs) (n := rs.length) (i := i) h1
  obtain ⟨u, e2⟩ := road_head (rs := rs) (n := rs.length) (i := j) h1
  rw [e1, e2] at z
  exact (List.cons.inj z).1
def pth (rs : List Rch) (k : Nat) : List Int := (roadsOf rs).getD k []
theorem pth_mem {k : Nat} (h : k < (roadsOf rs).length) : pth rs k ∈ roadsOf rs := by
  unfold pth
  rw [List.getD_eq_getElem?_getD, List.getElem?_eq_getElem h]
  exact List.getElem_mem h
theorem pth_ne (h1 : 1 <= rs.length) {i j : Nat} (hi : i < (roadsOf rs).length) (hj : j < (roadsOf rs).length) (ne : i ≠ j) : pth rs i ≠ pth rs j := by
  unfold pth
  rw [List.getD_eq_getElem?_getD, List.getD_eq_getElem?_getD, List.getElem?_eq_getElem hi, List.getElem?_eq_getElem hj]
  intro z
  have nd := List.pairwise_iff_getElem.mp (roads_nd h1)
  rcases Nat.lt_or_gt_of_ne ne with h | h
  . exact nd i j hi hj h z
  . exact nd j i hj hi h z.symm
theorem pth_le {i j : Nat} (h : i < j) (hj : j < (roadsOf rs).length) : dLe (pth rs i).reverse (pth rs j).reverse = true := by
  have := List.pairwise_iff_getElem.mp (roads_sorted (rs := rs)) i j (by omega) hj h
  unfold pth
  rw [List.getD_eq_getElem?_getD, List.getD_eq_getElem?_getD, List.getElem?_eq_getElem hj, List.getElem?_eq_getElem (show i < (roadsOf rs).length by omega)]
  exact this
theorem idx_cut {x : Int} : ∀ {a t : List Int}, x ∉ a -> (a ++ x :: t).idxOf x = a.length
  | [], t, _ => by simp
  | y :: a, t, h => by
    have h1 : y ≠ x := fun z => h (by rw [z]; exact List.mem_cons_self)
    have ih := idx_cut (a := a) (t := t) fun z => h (List.mem_cons_of_mem _ z)
    rw [List.cons_append, List.idxOf_cons, ih]
    have : (y == x) = false := by simp [h1]
    rw [this]
    rfl
theorem cut_pre {α : Type} (a r : List α) : cut (a ++ r) none (some (a.length : Int)) = a := by
  unfold cut sIx
  simp
  rw [if_neg (by omega)]
  simp
theorem cut_suf {α : Type} (a r : List α) : cut (a ++ r) (some (a.length : Int)) none = r := by
  unfold cut sIx
  simp
  rw [if_neg (by omega)]
  simp
end
end Q
end
section
set_option linter.all false
set_option maxRecDepth 100000
set_option maxHeartbeats 4000000
namespace Q
open PySem Fm
section
variable {μ : Mem} {rs : List Rch}
theorem in_tup {x : Int} {r : List Int} : gIn false (.int x) (tupV r) μ = some (.bl (decide (x ∈ r))) := by
  have h1 : mapO flatP (r.map .int) = some (r.map .int) := mapO_map fun _ _ => rfl
  have h2 : ((r.map PyData.int).any fun z => PyData.eqv z (.int x)) = decide (x ∈ r) := by
    rw [List.any_map]
    by_cases h : x ∈ r
    . rw [decide_eq_true h, List.any_eq_true]
      exact ⟨x, h, by simp [PyData.eqv]⟩
    . rw [decide_eq_false h, List.any_eq_false]
      intro z hz w
      have : z = x := by simpa [PyData.eqv] using w
      exact h (this ▸ hz)
  unfold gIn
  rw [show seqOf μ (tupV r) = some (r.map .int) from rfl]
  simp only [flatP, h1, h2]
  rfl
def acrI (rs : List Rch) (x : Int) : List Int := (acr rs x).map fun k : Nat => (k : Int)
def acrV (rs : List Rch) (x : Int) : List Vl := (acrI rs x).map .int
theorem acr_len {x : Int} : (acr rs x).length <= (roadsOf rs).length := by
  unfold acr
  exact Nat.le_trans (List.length_filter_le ..) (by simp)
theorem acrI_len {x : Int} : (acrI rs x).length <= (roadsOf rs).length := by
  unfold acrI
  rw [List.length_map]
  exact acr_len
theorem at_nat {f : List Int -> Vl} {k : Nat} (h : k < (roadsOf rs).length) : atI ((roadsOf rs).map f) (k : Int) = some (f (pth rs k)) := by
  rw [atI_map, atI_in (by omega) (by omega)]
  simp
  rfl
theorem rng_n {n : Nat} (h : n <= 1000) (M : Mem) : rng1 [.int (n : Int)] M = some (ivs 0 n, .free) := by
  have := s_rng1 (j := (n : Int)) (μ := M) (by omega)
  simpa using this
theorem across_ok (v : Vy rs) (h8 : rs.length <= 8) {x : Int} : F_across [.lst (rs.map reachV), .int x] μ = .ok (.lst (acrV rs x)) μ := by
  have rl : (roadsOf rs).length <= 6 := by rw [roads_len]; exact v.hd
  have ro := roads_ok (μ := μ) (v := .lst (rs.map reachV)) rfl v.falls v.n1 (by omega)
  have c2 : (ivs 0 (roadsOf rs).length).length <= cap := cap_le (by rw [ivs_len]; omega)
  have u : (Vl.lst (acrV rs x)).und μ.length = true := und_ints
  refine wpr_eq ?_
  unfold F_across m_across
  simp [ro, rng_n (show (roadsOf rs).length <= 1000 by omega), c2]
  rw [ivs_map]
  refine wp_filt (fun k => decide (x ∈ pth rs k)) (fun k : Nat => .int (k : Int)) trivial (fun k hk => ⟨?_, fun _ => by simp⟩) ?_
  . have hk := List.mem_range.mp hk
    have e := at_nat (rs := rs) (f := tupV) hk
    unfold T1_across
    simp [e, in_tup]
  . have e : (((List.range (roadsOf rs).length).filter fun k => decide (x ∈ pth rs k)).map fun k : Nat => Vl.int (k : Int)) = acrV rs x := by
      unfold acrV acrI
      rw [List.map_map]
      rfl
    rw [e]
    simp [u]
theorem lane_at {l : Int} (h0 : 0 <= l) (h1 : l < (roadsOf rs).length) : atI ((roadsOf rs).map tupV) l = some (tupV (pth rs l.toNat)) := by
  rw [atI_map, atI_in h0 h1]
  simp [pth]
  rfl
theorem road_of_ok (v : Vy rs) (h8 : rs.length <= 8) {l : Int} : F_road_of [.lst (rs.map reachV), .int l] μ = if 0 <= l /\ l < (roadsOf rs).length then .ok (tupV (pth rs l.toNat)) μ else .ex "NoLane" none μ := by
  have rf := roads_ok (μ := μ) (v := .lst (rs.map reachV)) rfl v.falls v.n1 (by omega)
  by_cases c : 0 <= l /\ l < (roadsOf rs).length
  . have e := lane_at (rs := rs) c.1 c.2
    have u : (tupV (pth rs l.toNat)).und μ.length = true := rfl
    rw [if_pos c]
    refine wpr_eq ?_
    unfold F_road_of m_road_of
    simp [rf, c.1, c.2, e, u]
  . rw [if_neg c]
    simp [F_road_of, m_road_of, rf, chainB, c]
theorem begins_ok (v : Vy rs) (h8 : rs.length <= 8) {A B a b : List Int} {x : Int} {t : List Int} (f : Fork A B a b x t) (hA : ∀ i ∈ A, 0 <= i /\ i < rs.length) (zA : A.length <= 8) : F_begins [.lst (rs.map reachV), tupV A, .int x] μ = .ok (.int (along rs a).length) μ := by
  have ix : A.idxOf x = a.length := by rw [f.eA]; exact idx_cut f.xa
  have xA : x ∈ A := by rw [f.eA]; simp
  have zl : A.length = a.length + (t.length + 1) := by rw [f.eA]; simp
  have sl : ∀ M, slN (tupV A) none (some (a.length : Int)) M = some (.tup (a.map .int)) := fun M => by
    have e : (A.map Vl.int) = a.map .int ++ (x :: t).map .int := by rw [f.eA]; simp
    have c := cut_pre (a.map Vl.int) ((x :: t).map Vl.int)
    rw [<- e, List.length_map] at c
    show (if sIx A.length 0 none = 0 /\ sIx A.length A.length (some (a.length : Int)) = A.length then none else some (Vl.tup (cut (A.map .int) none (some (a.length : Int))))) = _
    rw [if_neg, c]
    rintro ⟨_, z⟩
    unfold sIx at z
    simp at z
    rw [if_neg (by omega)] at z
    omega
  have g := ground_of_okW (μ := μ) (v := .lst (rs.map reachV)) (w := .tup (a.map .int)) (r := a) rfl rfl v.short (fun i hi => hA i (by rw [f.eA]; exact List.mem_append_left _ hi)) (by omega)
  have it : ∀ M, (eIdxT (eVar 1) (eVar 2)) [some (.lst (rs.map reachV)), some (tupV A), some (.int x)] M = .ok (.int (a.length : Int)) M := fun M => by
    have : (if x ∈ A then some (Vl.int (A.idxOf x : Nat)) else none) = some (.int (a.length : Int)) := by rw [if_pos xA, ix]
    simp only [eIdxT, eVar, tupV, slotV, Rs.of, Rs.bind, List.getElem?_cons_succ, List.getElem?_cons_zero]
    rw [this]
  refine wpr_eq ?_
  unfold F_begins m_begins
  simp [eSl, oIs, oNo, it, sl, g]
theorem filt_hd {A B a b : List Int} {x : Int} {t : List Int} (f : Fork A B a b x t) : ∃ r, A.filter (fun y => decide (y ∈ B)) = x :: r := by
  have xB : x ∈ B := by rw [f.eB]; simp
  have z : a.filter (fun y => decide (y ∈ B)) = [] := List.filter_eq_nil_iff.mpr fun y hy => by simpa using f.nA y hy
  refine ⟨t.filter fun y => decide (y ∈ B), ?_⟩
  rw [f.eA, List.filter_append, z, List.filter_cons, if_pos (decide_eq_true xB)]
  rfl
theorem at_hd {y : Vl} {L : List Vl} : atI (y :: L) 0 = some y := by
  unfold atI ixN
  rw [if_pos (by omega), if_pos (by simp)]
  rfl
def meetV (rs : List Rch) (x : Int) (a b : List Int) : Vl := .tup [.int x, .int (along rs a).length, .int (along rs b).length]
theorem meeting_ok (v : Vy rs) (h8 : rs.length <= 8) {i j : Nat} (hi : i < (roadsOf rs).length) (hj : j < (roadsOf rs).length) {a b : List Int} {x : Int} {t : List Int} (f : Fork (pth rs i) (pth rs j) a b x t) : F_meeting [.lst (rs.map reachV), .int (i : Int), .int (j : Int)] μ = .ok (meetV rs x a b) μ := by
  have r1 : ∀ M, F_road_of [.lst (rs.map reachV), .int (i : Int)] M = .ok (tupV (pth rs i)) M := fun M => by rw [road_of_ok v h8, if_pos ⟨by omega, by omega⟩]; rfl
  have r2 : ∀ M, F_road_of [.lst (rs.map reachV), .int (j : Int)] M = .ok (tupV (pth rs j)) M := fun M => by rw [road_of_ok v h8, if_pos ⟨by omega, by omega⟩]; rfl
  obtain ⟨qA, zA⟩ := roads_in v.falls (pth_mem hi)
  obtain ⟨qB, zB⟩ := roads_in v.falls (pth_mem hj)
  have b1 := fun M => begins_ok (μ := M) v h8 f qA (by omega)
  have b2 := fun M => begins_ok (μ := M) v h8 f.swap qB (by omega)
  have st : ∀ M, srcOf M (tupV (pth rs i)) = some ((pth rs i).map .int, .free) := fun _ => rfl
  have cz : (pth rs i).length <= cap := cap_le (by omega)
  obtain ⟨r, er⟩ := filt_hd f
  refine wpr_eq ?_
  unfold F_meeting m_meeting
  simp [r1, r2, st, cz]
  refine wp_filt (fun y => decide (y ∈ pth rs j)) (fun y => .int y) trivial (fun y hy => ⟨?_, fun _ => by simp⟩) ?_
  . unfold T1_meeting
    simp [in_tup]
  . rw [er]
    have u : (meetV rs x a b).und μ.length = true := rfl
    unfold meetV at u ⊢
    simp [at_hd, b1, b2, u]
theorem ix_list {A B a b : List Int} {x : Int} {t : List Int} (f : Fork A B a b x t) (hz : A.length <= 8) {eo ee : ME} {Γ : En} {M : Mem} (h1 : eo Γ M = .ok (lstI A) M) (h2 : ee Γ M = .ok (.int x) M) : eIdxL eo ee Γ M = .ok (.int (a.length : Int)) M := by
  have hi : intsOf (A.map Vl.int) = some A := by
    have := mapO_map (f := getI) (g := Vl.int) (h := fun i => i) (xs := A) (fun _ _ => rfl)
    unfold intsOf
    rw [this]
    simp
  have xA : x ∈ A := by rw [f.eA]; simp
  have ix : A.idxOf x = a.length := by rw [f.eA]; exact idx_cut f.xa
  have cz : (A.map Vl.int).length <= cap := by rw [List.length_map]; exact cap_le (by omega)
  have il : idxL (A.map .int) (.int x) = some (.int (a.length : Int)) := by
    show (intsOf (A.map Vl.int)).bind _ = _
    rw [hi]
    show (if x ∈ A then some (Vl.int (A.idxOf x : Nat)) else none) = _
    rw [if_pos xA, ix]
  unfold eIdxL
  rw [h1, Rs.bind_ok]
  simp only [lstI, lstOf]
  rw [h2, Rs.bind_ok]
  simp only [Option.bind_some]
  rw [if_pos cz, il]
  rfl
theorem fork_cut {A B a b : List Int} {x : Int} {t : List Int} (f : Fork A B a b x t) : cut (A.map Vl.int) none (some (a.length : Int)) = a.map .int := by
  have e : (A.map Vl.int) = a.map .int ++ (x :: t).map .int := by rw [f.eA]; simp
  have c := cut_pre (a.map Vl.int) ((x :: t).map Vl.int)
  rw [<- e, List.length_map] at c
  exact c
theorem fork_suf {A B a b : List Int} {x : Int} {t : List Int} (f : Fork A B a b x t) : cut (A.map Vl.int) (some (a.length : Int)) none = (x :: t).map .int := by
  have e : (A.map Vl.int) = a.map .int ++ (x :: t).map .int := by rw [f.eA]; simp
  have c := cut_suf (a.map Vl.int) ((x :: t).map Vl.int)
  rw [<- e, List.length_map] at c
  exact c
theorem in_lst {x : Int} {r : List Int} {neg : Bool} : gIn neg (.int x) (lstI r) μ = some (.bl (if neg then !decide (x ∈ r) else decide (x ∈ r))) := in_ints rfl
theorem l_meets_ok (v : Vy rs) (h8 : rs.length <= 8) {i j : Nat} (hi : i < (roadsOf rs).length) (hj : j < (roadsOf rs).length) {a b : List Int} {x : Int} {t : List Int} (f : Fork (pth rs i) (pth rs j) a b x t) : F_l_meets [.lst (rs.map reachV), lstI (pth rs i), lstI (pth rs j)] μ = .ok (meetV rs x a b) μ := by
  obtain ⟨qA, zA⟩ := roads_in v.falls (pth_mem hi)
  obtain ⟨qB, zB⟩ := roads_in v.falls (pth_mem hj)
  have cz : (pth rs i).length <= cap := cap_le (by omega)
  have la : a.length <= 8 := by have := congrArg List.length f.eA; simp at this; omega
  have lb : b.length <= 8 := by have := congrArg List.length f.eB; simp at this; omega
  have ga := fun M => l_ground_ok (μ := M) (v := .lst (rs.map reachV)) rfl v.short (r := a) (fun i hi => qA i (by rw [f.eA]; exact List.mem_append_left _ hi)) (by omega)
  have gb := fun M => l_ground_ok (μ := M) (v := .lst (rs.map reachV)) rfl v.short (r := b) (fun i hi => qB i (by rw [f.eB]; exact List.mem_append_left _ hi)) (by omega)
  have fa := fork_cut f
  have fb := fork_cut f.swap
  obtain ⟨r, er⟩ := filt_hd f
  have i1 := fun Γ M e1 e2 h1 h2 => ix_list f (by omega) (eo := e1) (ee := e2) (Γ := Γ) (M := M) h1 h2
  have i2 := fun Γ M e1 e2 h1 h2 => ix_list f.swap (by omega) (eo := e1) (ee := e2) (Γ := Γ) (M := M) h1 h2
  have st : ∀ M, srcOf M (lstI (pth rs i)) = some ((pth rs i).map .int, .free) := fun _ => rfl
  refine wpr_eq ?_
  unfold F_l_meets m_l_meets
  simp [st, cz]
  refine wp_filt (fun y => decide (y ∈ pth rs j)) (fun y => .int y) trivial (fun y hy => ⟨?_, fun _ => by simp⟩) ?_
  . unfold T1_l_meets
    simp [in_lst]
  . rw [er]
    have g1 : ∀ M, F_l_ground [Vl.lst (rs.map reachV), .lst (a.map .int)] M = .ok (lstI (along rs a)) M := ga
    have g2 : ∀ M, F_l_ground [Vl.lst (rs.map reachV), .lst (b.map .int)] M = .ok (lstI (along rs b)) M := gb
    have s1 : ∀ M, slL (lstI (pth rs i)) none (some (a.length : Int)) M = some (.lst (a.map .int)) := fun M => by rw [<- fa]; rfl
    have s2 : ∀ M, slL (lstI (pth rs j)) none (some (b.length : Int)) M = some (.lst (b.map .int)) := fun M => by rw [<- fb]; rfl
    have bl : ∀ (L : List Int) M, bLen [lstI L] M = some (.int (L.length : Int)) := fun L M => by
      have := len_lst (μ := M) (v := lstI L) (xs := L.map .int) rfl
      rw [List.length_map] at this
      exact this
    have u : (meetV rs x a b).und μ.length = true := rfl
    unfold meetV at u ⊢
    simp [at_hd]
    refine wpr_to (i1 _ _ _ _ rfl rfl) ?_
    simp [s1, g1, bl]
    refine wpr_to (i2 _ _ _ _ rfl rfl) ?_
    simp [s2, g2, bl, u]
end
section
variable {rs : List Rch}
theorem acrI_at {x : Int} {k : Nat} (h : k < (roadsOf rs).length) (hx : x ∈ pth rs k) : (k : Int) ∈ acrI rs x := List.mem_map.mpr ⟨k, List.mem_filter.mpr ⟨List.mem_range.mpr h, decide_eq_true hx⟩, rfl⟩
theorem idx_run : ∀ (m : Nat) (a s : Nat), s < m -> ((List.range' a m).map fun k : Nat => (k : Int)).idxOf ((a + s : Nat) : Int) = s
  | 0, _, _, h => by omega
  | m + 1, a, 0, _ => by simp [List.range'_succ]
  | m + 1, a, s + 1, h => by
    have ih := idx_run m (a + 1) s (by omega)
    rw [List.range'_succ, List.map_cons, List.idxOf_cons]
    have : ((a : Int) == ((a + (s + 1) : Nat) : Int)) = false := by simp; omega
    rw [this]
    have e : a + (s + 1) = a + 1 + s := by omega
    rw [e, ih]
    rfl
theorem idx_lt (hf : Falls rs) (h1 : 1 <= rs.length) {x : Int} {i j : Nat} (hij : i < j) (hj : j < (roadsOf rs).length) (xi : x ∈ pth rs i) (xj : x ∈ pth rs j) : (acrI rs x).idxOf (i : Int) < (acrI rs x).idxOf (j : Int) := by
  obtain ⟨a, m, e⟩ := acr_run hf h1 x
  have e2 : acr rs x = List.range' a m := by
    rw [e, List.range'_eq_map_range]
  have mi : i ∈ acr rs x := List.mem_filter.mpr ⟨List.mem_range.mpr (by omega), decide_eq_true xi⟩
  have mj : j ∈ acr rs x := List.mem_filter.mpr ⟨List.mem_range.mpr hj, decide_eq_true xj⟩
  rw [e2, List.mem_range'_1] at mi mj
  unfold acrI
  rw [e2]
  obtain ⟨s, rfl⟩ : ∃ s, i = a + s := ⟨i - a, by omega⟩
  obtain ⟨u, rfl⟩ : ∃ u, j = a + u := ⟨j - a, by omega⟩
  rw [idx_run m a s (by omega), idx_run m a u (by omega)]
  omega
end
section
variable {μ : Mem} {rs : List Rch}
theorem ix_ints {L : List Int} {k : Int} (hk : k ∈ L) (hz : L.length <= 1000) {eo ee : ME} {Γ : En} {M : Mem} (h1 : eo Γ M = .ok (.lst (L.map .int)) M) (h2 : ee Γ M = .ok (.int k) M) : eIdxL eo ee Γ M = .ok (.int (L.idxOf k : Nat)) M := by
  have hi : intsOf (L.map Vl.int) = some L := by
    have := mapO_map (f := getI) (g := Vl.int) (h := fun i => i) (xs := L) (fun _ _ => rfl)
    unfold intsOf
    rw [this]
    simp
  have cz : (L.map Vl.int).length <= cap := by rw [List.length_map]; exact cap_le (by omega)
  have il : idxL (L.map .int) (.int k) = some (.int (L.idxOf k : Nat)) := by
    show (intsOf (L.map Vl.int)).bind _ = _
    rw [hi]
    show (if k ∈ L then some (Vl.int (L.idxOf k : Nat)) else none) = _
    rw [if_pos hk]
  unfold eIdxL
  rw [h1, Rs.bind_ok]
  simp only [lstOf]
  rw [h2, Rs.bind_ok]
  simp only [Option.bind_some]
  rw [if_pos cz, il]
  rfl
theorem atI_last {a : List Int} {y : Int} {r : List Int} {L : List Int} (e : L = a ++ y :: r) {k : Int} (hk : k = (a.length : Int)) : atI (L.map Vl.int) k = some (.int y) := by
  subst hk e
  rw [atI_map, atI_in (by omega) (by simp; omega)]
  simp
theorem ne_same {L : List Int} {M : Mem} : gNe (.lst (L.map .int)) (.lst (L.map .int)) M = some (.bl false) := by
  have p : pyV depthP M (.lst (L.map .int)) = some (.list (L.map fun k => .int k)) := py_lst (n := 8) (f := Vl.int) (g := PyData.int) rfl (fun _ _ => rfl)
  refine (eq_same p p ?_).2
  rw [PyData.canLay0]
  exact canLay_map fun _ _ => by simp [PyData.canLay0]
theorem l_sides_ok (v : Vy rs) (h8 : rs.length <= 8) {i j : Nat} (hij : i < j) (hj : j < (roadsOf rs).length) {a b : List Int} {x : Int} {t : List Int} (f : Fork (pth rs i) (pth rs j) a b x t) :
    WpR (F_l_sides [.lst (rs.map reachV), .lst ((roadsOf rs).map lstI), .int (i : Int), .int (j : Int), .int x] μ) (fun y M => y = .bl true /\ M = μ) noX := by
  have hi : i < (roadsOf rs).length := by omega
  have rl : (roadsOf rs).length <= 6 := by rw [roads_len]; exact v.hd
  obtain ⟨qA, zA⟩ := roads_in v.falls (pth_mem hi)
  obtain ⟨qB, zB⟩ := roads_in v.falls (pth_mem hj)
  obtain ⟨a', b', y, z, ea, eb, yz⟩ := fork_lt f (pth_le hij hj)
  have i1 := fun Γ M e1 e2 h1 h2 => ix_list f (by omega) (eo := e1) (ee := e2) (Γ := Γ) (M := M) h1 h2
  have i2 := fun Γ M e1 e2 h1 h2 => ix_list f.swap (by omega) (eo := e1) (ee := e2) (Γ := Γ) (M := M) h1 h2
  have pi := at_nat (rs := rs) (f := lstI) hi
  have pj := at_nat (rs := rs) (f := lstI) hj
  have s1 : ∀ M, slL (lstI (pth rs i)) (some (a.length : Int)) none M = some (.lst ((x :: t).map .int)) := fun M => by rw [<- fork_suf f]; rfl
  have s2 : ∀ M, slL (lstI (pth rs j)) (some (b.length : Int)) none M = some (.lst ((x :: t).map .int)) := fun M => by rw [<- fork_suf f.swap]; rfl
  have s3 : ∀ M, slL (lstI (pth rs i)) none (some (a.length : Int)) M = some (.lst (a.map .int)) := fun M => by rw [<- fork_cut f]; rfl
  have la : (a.length : Int) - 1 = (a'.length : Int) := by rw [ea]; simp
  have lb : (b.length : Int) - 1 = (b'.length : Int) := by rw [eb]; simp
  have l1 : atI ((pth rs i).map Vl.int) ((a.length : Int) - 1) = some (.int y) := atI_last (a := a') (r := x :: t) (by rw [f.eA, ea]; simp) la
  have l2 : atI ((pth rs j).map Vl.int) ((b.length : Int) - 1) = some (.int z) := atI_last (a := b') (r := x :: t) (by rw [f.eB, eb]; simp) lb
  have nyz : ¬ z <= y := by omega
  obtain ⟨L, hL⟩ : ∃ L, L = x :: t := ⟨_, rfl⟩
  rw [<- hL] at s1 s2
  have onL : ∀ w ∈ L, w ∈ pth rs i /\ w ∈ pth rs j := fun w hw => ⟨by rw [f.eA, <- hL]; exact List.mem_append_right _ hw, by rw [f.eB, <- hL]; exact List.mem_append_right _ hw⟩
  have lL : L.length <= 8 := by have := congrArg List.length f.eA; rw [<- hL] at this; simp at this; omega
  have laz : a.length <= 8 := by have := congrArg List.length f.eA; simp at this; omega
  have q1 : ∀ M, seqOf M (lstI (pth rs i)) = some ((pth rs i).map .int) := fun _ => rfl
  have q2 : ∀ M, seqOf M (lstI (pth rs j)) = some ((pth rs j).map .int) := fun _ => rfl
  have ne := fun M => ne_same (L := L) (M := M)
  have ca : a.length <= cap := cap_le (by omega)
  have fe : a.filter (fun w => decide (w ∈ pth rs j)) = [] := List.filter_eq_nil_iff.mpr fun w hw => by simpa using f.nA w hw
  unfold F_l_sides m_l_sides
  simp
  refine wpr_to (i1 _ _ _ _ (by simp [pi, eOp]) rfl) ?_
  simp
  refine wpr_to (i2 _ _ _ _ (by simp [pj, eOp]) rfl) ?_
  simp [pi, pj, s1, s2, s3, q1, q2, l1, l2, nyz, ne, ca]
  refine wp_filt (fun w => decide (w ∈ pth rs j)) (fun w => .int w) trivial (fun w hw => ⟨?_, fun _ => by simp⟩) ?_
  . unfold T1_l_sides
    simp [pj, in_lst]
  rw [fe]
  simp [pi, s1]
  refine wp_forA (fun M => M = μ) rfl (fun _ _ => trivial) (fun z hz M h => ?_) (fun M h => ?_)
  . obtain ⟨w, hw, rfl⟩ := List.mem_map.mp hz
    obtain ⟨w1, w2⟩ := onL w hw
    subst h
    have ac := fun M => across_ok (μ := M) v h8 (x := w)
    have m1 := acrI_at hi w1
    have m2 := acrI_at hj w2
    have lt := idx_lt v.falls v.n1 hij hj w1 w2
    have al := acrI_len (rs := rs) (x := w)
    have in1 : ∀ M, gIn true (.int (i : Int)) (.lst (acrV rs w)) M = some (.bl false) := fun M => by
      have := in_ints (μ := M) (i := (i : Int)) (ns := acrI rs w) (v := .lst (acrV rs w)) rfl (neg := true)
      rw [this]
      simp [m1]
    have in2 : ∀ M, gIn true (.int (j : Int)) (.lst (acrV rs w)) M = some (.bl false) := fun M => by
      have := in_ints (μ := M) (i := (j : Int)) (ns := acrI rs w) (v := .lst (acrV rs w)) rfl (neg := true)
      rw [this]
      simp [m2]
    have nle : ¬ ((acrI rs w).idxOf (j : Int) <= (acrI rs w).idxOf (i : Int)) := by omega
    unfold B2_l_sides
    simp [ac, in1, in2]
    refine wpr_to (ix_ints m1 (by omega) rfl rfl) ?_
    simp
    refine wpr_to (ix_ints m2 (by omega) rfl rfl) ?_
    simp [nle]
  . subst h
    simp
end
theorem meeting_no (v : Vy rs) (h8 : rs.length <= 8) {i j : Int} (h : ¬ (0 <= i /\ i < (roadsOf rs).length) \/ (0 <= i /\ i < (roadsOf rs).length) /\ ¬ (0 <= j /\ j < (roadsOf rs).length)) {μ : Mem} : F_meeting [.lst (rs.map reachV), .int i, .int j] μ = .ex "NoLane" none μ := by
  have r := fun l M => road_of_ok (μ := M) v h8 (l := l)
  rcases h with h | ⟨h1, h2⟩
  . have r1 := fun M => r i M
    simp only [if_neg h] at r1
    simp [F_meeting, m_meeting, r1]
  . have r1 := fun M => r i M
    have r2 := fun M => r j M
    simp only [if_neg h2] at r2
    simp only [if_pos h1] at r1
    simp [F_meeting, m_meeting, r1, r2]
theorem law_true (ns : List Int) (hl : ns.length <= 63) : ∃ μ', F_law [.scr ns] [] = .ok (.bl true) μ' := by
  refine law_wp ?_
  unfold m_law
  simp
  refine box_wp fun s => ?_
  unfold R1_law
  simp
  refine reaches_wp box_bx fun rs μ1 t1 vy h8 => ?_
  have n1 := vy.n1
  have rl : (roadsOf rs).length <= 6 := by rw [roads_len]; exact vy.hd
  have cl : (roadsOf rs).length <= cap := cap_le (by omega)
  have lr := l_roads_ok (μ := μ1) (v := .lst (rs.map reachV)) rfl vy.falls n1 (by omega)
  have pa := fun k (hk : k < (roadsOf rs).length) => at_nat (rs := rs) (f := lstI) hk
  have ll : ∀ M, bLen [.lst ((roadsOf rs).map lstI)] M = some (.int ((roadsOf rs).length : Int)) := fun M => by
    have := len_lst (μ := M) (v := .lst ((roadsOf rs).map lstI)) (xs := (roadsOf rs).map lstI) rfl
    rw [List.length_map] at this
    exact this
  unfold R2_law
  simp [lr]
  unfold R3_law
  simp [ll, rng_n (show (roadsOf rs).length <= 1000 by omega)]
  refine wp_forN0 (fun _ M => M = μ1) rfl (fun j M hj hM => ?_) (fun M hM => ?_)
  . subst hM
    unfold B2_law
    simp [rng_n (show j <= 1000 by omega)]
    refine wp_forN0 (fun _ M' => M' = M) rfl (fun i M' hij hM => ?_) (fun M' hM => ?_)
    . subst hM
      have hi : i < (roadsOf rs).length := by omega
      obtain ⟨a, b, x, t, f⟩ := fork vy (pth_mem hi) (pth_mem hj) (pth_ne n1 hi hj (by omega))
      have me := fun M => l_meets_ok (μ := M) vy h8 hi hj f
      have m1 := fun M => meeting_ok (μ := M) vy h8 hi hj f
      have m2 := fun M => meeting_ok (μ := M) vy h8 hj hi f.swap
      have sd := fun M => l_sides_ok (μ := M) vy h8 hij hj f
      have p1 := pa i hi
      have p2 := pa j hj
      have al : ∀ (a b c : Int) M, F_l_alike 5 [.tup [.int a, .int b, .int c], .tup [.int a, .int b, .int c]] M = .ok (.bl true) M := fun a b c M => alike_ok 5 (alk_tup (.cons alk_int (.cons alk_int (.cons alk_int .nil))) (by simp))
      unfold meetV at me m1 m2
      unfold B1_law
      simp [p1, p2, me, m1, m2, al]
      refine (sd _).use fun y M hy => ?_
      obtain ⟨rfl, rfl⟩ := hy
      simp
    . subst hM
      simp
  . subst hM
    unfold R4_law
    simp
    unfold R5_law
    simp [ll]
    refine take_wp t1.to (by decide) (by decide) fun k μ2 t2 k0 k1 => ?_
    have e1 := fun M => meeting_no vy h8 (i := -1) (j := 0) (μ := M) (.inl (by omega))
    have e2 := fun M => meeting_no vy h8 (i := 0) (j := (roadsOf rs).length) (μ := M) (.inr ⟨⟨by omega, by
      rw [roads_len]
      have := heads_pos vy
      omega⟩, by omega⟩)
    have e3 := fun M => meeting_no vy h8 (i := ((roadsOf rs).length : Int) + k) (j := -1) (μ := M) (.inl (by omega))
    simp
    rw [w_forS]
    refine ⟨trivial, ?_⟩
    unfold B3_law
    simp [e1]
    rw [w_forS]
    refine ⟨trivial, ?_⟩
    simp [e2]
    rw [w_forS]
    refine ⟨trivial, ?_⟩
    simp [e3]
    rw [w_for0]
    refine ⟨trivial, ?_⟩
    unfold R6_law
    simp
end Q
end
section
set_option Elab.async false
set_option linter.all false
set_option maxRecDepth 100000
set_option maxHeartbeats 0
namespace Q
open PySem PySem.Spec PyProof.Rows L2 L3
open Fm (Vl MO Mem En Rs ME MF MA MT MG MS MI Out So Gd Ky)
theorem facts {P : Program} {w : World} {K : PySem.W.Frag} {h : Heap} {mg : Str -> Option Value} {f : Addr} (X : K.In h) (G : h.Ns mainGlobals mg) (hfa : mg ("law" : Str) = some (.ref f)) (c : He.SaysD fa fn K) :
    ∃ fd : FuncData, (∀ (s : Shared) (v : Value), BindsTo s fd ⟨[v], []⟩ [("_law_script", v)]) /\ ∀ base : Heap, K.In base -> base.Ns mainGlobals mg -> FnOk P w K mg base L2.CX0 8 f fd ["_law_script"] (fun vs H Q _ => spV K mg 1 F_law vs H Q fun _ _ _ => False) := by
  have T : Tx K mg := ⟨He.free_ok X G (c.fact 20 (f := .free "all") rfl), He.free_ok X G (c.fact 21 (f := .free "bool") rfl), He.free_ok X G (c.fact 22 (f := .free "int") rfl), He.free_ok X G (c.fact 23 (f := .free "isinstance") rfl), He.free_ok X G (c.fact 24 (f := .free "len") rfl), He.free_ok X G (c.fact 25 (f := .free "list") rfl), He.free_ok X G (c.fact 26 (f := .free "max") rfl), He.free_ok X G (c.fact 27 (f := .free "min") rfl), He.free_ok X G (c.fact 28 (f := .free "range") rfl), He.free_ok X G (c.fact 29 (f := .free "sorted") rfl), He.free_ok X G (c.fact 30 (f := .free "str") rfl), He.free_ok X G (c.fact 31 (f := .free "tuple") rfl), He.free_ok X G (c.fact 32 (f := .free "zip") rfl), (let q := He.exc_ok (c.fact 33 (f := .exc "NoLane") rfl); ⟨He.glo_ok X G (c.fact 36 (f := .glo "NoLane") rfl), q.1, q.2.1, q.2.2.1, q.2.2.2⟩), (He.exm_ok (c.fact 34 (f := .exm "NoLane" "NoLane" true) rfl)).trans (by decide +kernel), He.glo_ok X G (c.fact 35 (f := .glo "NoLane") rfl)⟩
  obtain ⟨fd_0, F_0⟩ := c.def_ 0 (d := dd_road_down) rfl
  have g_0 := He.glo_ok X G (c.fact 0 (f := .glo "road_down") rfl)
  obtain ⟨fd_1, F_1⟩ := c.def_ 1 (d := dd_from_below) rfl
  have g_1 := He.glo_ok X G (c.fact 1 (f := .glo "from_below") rfl)
  obtain ⟨fd_2, F_2⟩ := c.def_ 2 (d := dd_ground_of) rfl
  have g_2 := He.glo_ok X G (c.fact 2 (f := .glo "ground_of") rfl)
  obtain ⟨fd_3, F_3⟩ := c.def_ 3 (d := dd_l_box) rfl
  have g_3 := He.glo_ok X G (c.fact 3 (f := .glo "_law_box") rfl)
  obtain ⟨fd_4, F_4⟩ := c.def_ 4 (d := dd_l_mixed) rfl
  have g_4 := He.glo_ok X G (c.fact 4 (f := .glo "_law_mixed") rfl)
  obtain ⟨fd_5, F_5⟩ := c.def_ 5 (d := dd_l_whole) rfl
  have g_5 := He.glo_ok X G (c.fact 5 (f := .glo "_law_whole") rfl)
  obtain ⟨fd_6, F_6⟩ := c.def_ 6 (d := dd_l_roads) rfl
  have g_6 := He.glo_ok X G (c.fact 6 (f := .glo "_law_roads") rfl)
  obtain ⟨fd_7, F_7⟩ := c.def_ 7 (d := dd_l_ground) rfl
  have g_7 := He.glo_ok X G (c.fact 7 (f := .glo "_law_ground") rfl)
  obtain ⟨fd_8, F_8⟩ := c.def_ 8 (d := dd_begins) rfl
  have g_8 := He.glo_ok X G (c.fact 8 (f := .glo "begins") rfl)
  obtain ⟨fd_9, F_9⟩ := c.def_ 9 (d := dd_l_take) rfl
  have g_9 := He.glo_ok X G (c.fact 9 (f := .glo "_law_take") rfl)
  obtain ⟨fd_10, F_10⟩ := c.def_ 10 (d := dd_l_meets) rfl
  have g_10 := He.glo_ok X G (c.fact 10 (f := .glo "_law_meets") rfl)
  obtain ⟨fd_11, F_11⟩ := c.def_ 11 (d := dd_l_ground_drawn) rfl
  have g_11 := He.glo_ok X G (c.fact 11 (f := .glo "_law_ground_drawn") rfl)
  obtain ⟨fd_12, F_12⟩ := c.def_ 12 (d := dd_roads) rfl
  have g_12 := He.glo_ok X G (c.fact 12 (f := .glo "roads") rfl)
  obtain ⟨fd_13, F_13⟩ := c.def_ 13 (d := dd_l_reaches) rfl
  have g_13 := He.glo_ok X G (c.fact 13 (f := .glo "_law_reaches") rfl)
  obtain ⟨fd_14, F_14⟩ := c.def_ 14 (d := dd_road_of) rfl
  have g_14 := He.glo_ok X G (c.fact 14 (f := .glo "road_of") rfl)
  obtain ⟨fd_15, F_15⟩ := c.def_ 15 (d := dd_across) rfl
  have g_15 := He.glo_ok X G (c.fact 15 (f := .glo "across") rfl)
  obtain ⟨fd_16, F_16⟩ := c.def_ 16 (d := dd_meeting) rfl
  have g_16 := He.glo_ok X G (c.fact 16 (f := .glo "meeting") rfl)
  obtain ⟨fd_17, F_17⟩ := c.def_ 17 (d := dd_l_sides) rfl
  have g_17 := He.glo_ok X G (c.fact 17 (f := .glo "_law_sides") rfl)
  obtain ⟨fd_18, F_18⟩ := c.def_ 18 (d := dd_l_alike) rfl
  have g_18 := He.glo_ok X G (c.fact 18 (f := .glo "_law_alike") rfl)
  obtain ⟨fd_19, F_19⟩ := c.def_ 19 (d := dd_law) rfl
  have g_19 := He.glo_ok X G (c.fact 19 (f := .glo "law") rfl)
  have e := hfa.symm.trans g_19
  cases e
  have b := FunD.bindsA (ps := ["_law_script"]) F_19 fun _ _ _ _ _ _ us hl => match us, hl with | [_], _ => rfl
  refine ⟨fd_19, fun s v => b s [v] rfl, fun base _ _ => ?_⟩
  have f_road_down : Fd P w K mg base "road_down" 1 (spV K mg 2 F_road_down) := fd_road_down T  F_0 g_0
  have f_from_below : Fd P w K mg base "from_below" 1 (spV K mg 1 F_from_below) := fd_from_below T  F_1 g_1
  have f_ground_of : Fd P w K mg base "ground_of" 1 (spV K mg 2 F_ground_of) := fd_ground_of T  F_2 g_2
  have f_l_box : Fd P w K mg base "_law_box" 1 (spF K mg 1 F_l_box) := fd_l_box T  F_3 g_3
  have f_l_mixed : Fd P w K mg base "_law_mixed" 1 (spV K mg 2 F_l_mixed) := fd_l_mixed T  F_4 g_4
  have f_l_whole : Fd P w K mg base "_law_whole" 1 (spV K mg 1 F_l_whole) := fd_l_whole T  F_5 g_5
  have f_l_roads : Fd P w K mg base "_law_roads" 1 (spV K mg 1 F_l_roads) := fd_l_roads T  F_6 g_6
  have f_l_ground : Fd P w K mg base "_law_ground" 1 (spV K mg 2 F_l_ground) := fd_l_ground T  F_7 g_7
  have f_begins : Fd P w K mg base "begins" 2 (spV K mg 3 F_begins) := fd_begins T f_ground_of F_8 g_8
  have f_l_take : Fd P w K mg base "_law_take" 2 (spV K mg 2 F_l_take) := fd_l_take T f_l_mixed F_9 g_9
  have f_l_meets : Fd P w K mg base "_law_meets" 2 (spV K mg 3 F_l_meets) := fd_l_meets T f_l_ground F_10 g_10
  have f_l_ground_drawn : Fd P w K mg base "_law_ground_drawn" 3 (spV K mg 3 F_l_ground_drawn) := fd_l_ground_drawn T f_l_take F_11 g_11
  have f_roads : Fd P w K mg base "roads" 4 (spV K mg 1 F_roads) := fd_roads T f_from_below f_road_down F_12 g_12
  have f_l_reaches : Fd P w K mg base "_law_reaches" 4 (spV K mg 1 F_l_reaches) := fd_l_reaches T f_l_ground_drawn f_l_take F_13 g_13
  have f_road_of : Fd P w K mg base "road_of" 5 (spV K mg 2 F_road_of) := fd_road_of T f_roads F_14 g_14
  have f_across : Fd P w K mg base "across" 5 (spV K mg 2 F_across) := fd_across T f_roads F_15 g_15
  have f_meeting : Fd P w K mg base "meeting" 6 (spV K mg 3 F_meeting) := fd_meeting T f_begins f_road_of F_16 g_16
  have f_l_sides : Fd P w K mg base "_law_sides" 6 (spV K mg 5 F_l_sides) := fd_l_sides T f_across F_17 g_17
  have f_l_alike : Fd P w K mg base "_law_alike" 7 (spV K mg 2 (F_l_alike 5)) := fd_l_alike T f_l_whole F_18 g_18 5
  exact fn_cx0 (okV F_19 sc_law (d_law T f_l_alike f_l_box f_l_meets f_l_reaches f_l_roads f_l_sides f_l_take f_meeting))
end Q
open PySem PySem.W PySem.Calls PyProof.Rows
theorem PySem.Challenge.cw_firnfall_k06_whole_lanes_keep_their_side_holds : PySem.Challenge.rw_firnfall_k06_whole_lanes_keep_their_side.Holds := by
  w_on; o_law
  refine HandSHeadRun.head_any (r := OpenLaw.row PySem.Challenge.rw_firnfall_k06_whole_lanes_keep_their_side) (q := view (OpenLaw.row PySem.Challenge.rw_firnfall_k06_whole_lanes_keep_their_side).prog [24]) (H := Q.hk) (ob := Q.ob) (M := 8000) (loose := Q.loose) (d := HandSHeadRun.topDef (OpenLaw.row PySem.Challenge.rw_firnfall_k06_whole_lanes_keep_their_side).prog 24) (kwd := []) Q.ob_eq
    (by kernel_rfl) (fun s => by kernel_rfl) Q.run (by kernel_rfl) (by kernel_rfl) (by kernel_rfl) (by rfl) (by first | assumption | decide +kernel) (by decide +kernel) ⟨rfl, rfl, rfl, rfl, rfl, by decide +kernel⟩ ?hw ?hc
  case hw => w_witness2
  case hc =>
    refine L2.walk_ofE (l := PySem.Challenge.rw_firnfall_k06_whole_lanes_keep_their_side) (n := 63) (k := 8) (x := "_law_script") (CX := L2.CX0) rfl (by decide) (by kernel_rfl) ⟨rfl, by decide, by decide⟩ ?F (fun _ _ _ _ z => z)
    intro w mg fa h Y G hmg0
    obtain ⟨K, KX, c, cx⟩ := Y
    have hmg : mg ("law" : PySem.Str) = some (.ref fa) := by
      have e : (HandSHeadRun.topDef (OpenLaw.row PySem.Challenge.rw_firnfall_k06_whole_lanes_keep_their_side).prog 24).name = ("law" : PySem.Str) := by kernel_rfl
      rw [<- e]
      exact hmg0
    obtain ⟨fd, hb, hF⟩ := Q.facts (P := (PySem.Challenge.rw_firnfall_k06_whole_lanes_keep_their_side).prog) (w := w) KX G hmg c
    exact ⟨K, fd, fun vs H Q _ => L3.spV K mg 1 _root_.Q.F_law vs H Q fun _ _ _ => False, KX, hb, fun H a ns hl _ hS => L3.law_start (Q.law_true ns hl) hS, hF⟩
end
