import PyProof.Rows.All
import Wide.All
import OpenK.AllK
import Wide.FinOn
import HandS.ForMost
import HandS.Exc
import HandS.TryOnly
import HandS.ExcOwn
import HandS.WordsExc
import HandS.CallSlots
import HandS.Walk
import HandS.Zip
import HandS.Defaults
import HandS.More
import HandS.TupAny
import HandS.IsInst
import HandS.Wide
import HandS.TupMul
import HandS.Deep
import HandS.TupLe
import KE.GoesMore
import PyProof.Draws
import PyProof.EnumMake
import HandS.TupLen
import HandS.Text
import HandS.Dict
import HandS.Set
import HandS.SetFor
import HandS.Strs
import PyProof.Rows.SortShellK
import PyProof.Rows.SortStr
import PyProof.Rows.SetFrom
import PyProof.WalksMore
import HandS.Style
import HandS.ExcInit
import HandS.ExcIs
import HandS.ExcField
import KE.SortData
import HandS.HeadWalk
import HandS.HeadHook4
import HandS.HeadEnd
import KE.LtData
import KE.KEqDict
import HandS.Head0
import HandS.Head1
import HandS.Head2
import KE.KStateDown
import PySem.Challenge.RW_matepoint_k51_houses_that_are_none
section
section
set_option Elab.async false
set_option linter.all false
set_option maxRecDepth 100000
set_option maxHeartbeats 4000000
namespace L2.MP
open PySem PySem.Spec PyProof.Rows
inductive D where
  | non | bl (b : Bool) | int (i : Int) | str (s : Str)
  | tup (l : List D) | lst (l : List D) | rl (l : List D) | rt (l : List D)
  | dk (ks : List Key) (vs : List D) | dt (ks : List (List Key)) (vs : List D)
  | ref (n : Nat) | own (i : Nat)
  deriving Inhabited
inductive Cell where
  | lst (l : List D) | dk (ks : List Key) (vs : List D) | dt (ks : List (List Key)) (vs : List D)
  | ins (c : Nat) (fs : List (Str × D))
  deriving Inhabited
structure Exn where
  cls : Nat
  fs : List (Str × D)
inductive Slot where
  | no | val (d : D) | own (c : Cell) | exn (x : Exn)
  deriving Inhabited
abbrev Sto := List Cell
abbrev Envr := List Slot
end L2.MP
end
section
set_option Elab.async false
set_option linter.all false
set_option maxRecDepth 100000
set_option maxHeartbeats 4000000
namespace L2.MP
open PySem PySem.Spec PyProof.Rows
inductive Out (α : Type) where
  | ok (a : α) (env : Envr) (S : Sto) | exc (x : Exn) (env : Envr) (S : Sto) | bad
def M (α : Type) : Type := Envr → Sto → Out α
def M.ret {α : Type} (a : α) : M α := fun env S => .ok a env S
def M.bind {α β : Type} (m : M α) (f : α → M β) : M β := fun env S => match m env S with
  | .ok a env S => f a env S
  | .exc x env S => .exc x env S
  | .bad => .bad
def M.fail {α : Type} : M α := fun _ _ => .bad
def M.opt {α : Type} : Option α → M α
  | some a => M.ret a
  | none => M.fail
inductive Flo where
  | nx | rt (d : D) | bk | ct
def frozen : Cell → Option D
  | .lst l => some (.lst l)
  | .dk ks vs => some (.dk ks vs)
  | .dt ks vs => some (.dt ks vs)
  | .ins _ _ => none
def dVar (i : Nat) : M D := fun env S => match env[i]? with
  | some (.val d) => .ok d env S
  | some (.own c) => (match frozen c with
    | some d => .ok d (env.set i (.val d)) S
    | none => .bad)
  | _ => .bad
def dPeek (i : Nat) : M D := fun env S => match env[i]? with
  | some (.val d) => .ok d env S
  | some (.own _) => .ok (.own i) env S
  | _ => .bad
section
theorem set_set_same {α : Type} (l : List α) (i : Nat) (x y : α) : (l.set i x).set i y = l.set i y := by
  apply List.ext_getElem?
  intro j
  by_cases h : i = j
  · subst h
    by_cases hl : i < l.length
    · rw [List.getElem?_set_self (by simpa using hl), List.getElem?_set_self hl]
    · rw [List.getElem?_eq_none (by simpa using hl), List.getElem?_eq_none (by simpa using hl)]
  · rw [List.getElem?_set_ne h, List.getElem?_set_ne h, List.getElem?_set_ne h]
def dNil : M (List D) := M.ret []
def dCons (a : M D) (r : M (List D)) : M (List D) := M.bind a fun d => M.bind r fun ds => M.ret (d :: ds)
def dArgs : List (M D) → M (List D)
  | [] => dNil
  | a :: r => dCons a (dArgs r)
def dTup (a : M (List D)) : M D := M.bind a fun ds => if ds.length ≤ sizeLine then M.ret (.tup ds) else M.fail
def dLst (a : M (List D)) : M Cell := M.bind a fun ds => if ds.length ≤ sizeLine then M.ret (.lst ds) else M.fail
def dFz (a : M Cell) : M D := M.bind a fun c => M.opt (frozen c)
end
end L2.MP
end
section
set_option Elab.async false
set_option linter.all false
set_option maxRecDepth 100000
set_option maxHeartbeats 4000000
namespace L2.MP
open PySem PySem.Spec PyProof.Rows
def cellD : Cell → Option D
  | .lst l => some (.lst l)
  | .dk ks vs => some (.dk ks vs)
  | .dt ks vs => some (.dt ks vs)
  | .ins _ _ => none
def view (env : Envr) (S : Sto) : D → D
  | .ref n => match S[n]? with
    | some c => (cellD c).getD (.ref n)
    | none => .ref n
  | .own i => match env[i]? with
    | some (.own c) => (cellD c).getD (.own i)
    | _ => .own i
  | d => d
def getS : M (Envr × Sto) := fun env S => .ok (env, S) env S
def dOp2 (f : D → D → Option D) (a b : M D) : M D := M.bind a fun x => M.bind b fun y => M.bind getS fun z => M.opt (f (view z.1 z.2 x) (view z.1 z.2 y))
def dOp1 (f : D → Option D) (a : M D) : M D := M.bind a fun x => M.bind getS fun z => M.opt (f (view z.1 z.2 x))
section
def iiD (C : Int → Int → Bool) (g : Int → Int → D) : D → D → Option D
  | .int i, .int j => if C i j then some (g i j) else none
  | _, _ => none
def addD : D → D → Option D
  | .int i, .int j => some (.int (i + j))
  | .str a, .str b => if a.length + b.length ≤ sizeLine then some (.str (a ++ b)) else none
  | .lst a, .lst b => if a.length + b.length ≤ sizeLine then some (.lst (a ++ b)) else none
  | .tup a, .tup b => if a.length + b.length ≤ sizeLine then some (.tup (a ++ b)) else none
  | _, _ => none
def subD : D → D → Option D := iiD (fun _ _ => true) fun i j => .int (i - j)
def divB (i j : Int) : Bool := decide (0 < j) && decide (j.natAbs.log2 < 9000)
def fdivD : D → D → Option D := iiD divB fun i j => .int (i / j)
def modD : D → D → Option D := iiD (fun _ j => decide (0 < j)) fun i j => .int (i % j)
def powB (i j : Int) : Bool := decide (0 ≤ j) && (decide (j ≤ 1000000) && decide (i.natAbs < 2 ^ 64))
def powD : D → D → Option D := iiD powB fun i j => .int (i ^ j.toNat)
def mulB (i j : Int) : Bool := decide (i.natAbs.log2 + j.natAbs.log2 < 1000000) || (decide (j.natAbs.log2 < 63) || decide (i.natAbs.log2 < 63))
def mulD : D → D → Option D
  | .int i, .int j => if mulB i j then some (.int (i * j)) else none
  | .tup l, .int j => if -(2 ^ 63) ≤ j ∧ j ≤ 1000 ∧ l.length ≤ 1000 then some (.tup (List.replicate j.toNat l).flatten) else none
  | .lst l, .int j => if -(2 ^ 63) ≤ j ∧ j < 2 ^ 63 ∧ l.length * j.toNat ≤ sizeLine then some (.lst (List.replicate j.toNat l).flatten) else none
  | .str z, .int j => if j = 1 then some (.str z) else if j = 0 then some (.str "") else none
  | _, _ => none
def negD : D → Option D
  | .int i => some (.int (-i))
  | _ => none
def leD : D → D → Option D := iiD (fun _ _ => true) fun i j => .bl (decide (i ≤ j))
def gtD : D → D → Option D := iiD (fun _ _ => true) fun i j => .bl (decide (j < i))
def geD : D → D → Option D := iiD (fun _ _ => true) fun i j => .bl (decide (j ≤ i))
mutual
def eqD : D → D → Bool
  | .non, .non => true
  | .bl a, .bl b => a == b
  | .bl a, .int j => (if a then 1 else 0) == j
  | .int i, .bl b => i == (if b then 1 else 0)
  | .int i, .int j => i == j
  | .str x, .str y => x == y
  | .lst xs, .lst ys => eqDs xs ys
  | .lst xs, .rl ys => eqDs xs ys
  | .rl xs, .lst ys => eqDs xs ys
  | .rl xs, .rl ys => eqDs xs ys
  | .tup xs, .tup ys => eqDs xs ys
  | .tup xs, .rt ys => eqDs xs ys
  | .rt xs, .tup ys => eqDs xs ys
  | .rt xs, .rt ys => eqDs xs ys
  | _, _ => false
def eqDs : List D → List D → Bool
  | [], [] => true
  | x :: xs, y :: ys => eqD x y && eqDs xs ys
  | _, _ => false
end
mutual
def okD : Nat → D → Bool
  | _, .non => true
  | _, .bl _ => true
  | _, .int _ => true
  | _, .str x => PyData.strOk x
  | n + 1, .lst xs => okDs n xs
  | n + 1, .rl xs => okDs n xs
  | n + 1, .tup xs => okDs n xs
  | n + 1, .rt xs => okDs n xs
  | _, _ => false
def okDs : Nat → List D → Bool
  | _, [] => true
  | n, x :: xs => okD n x && okDs n xs
end
mutual
def toPy : D → PyData
  | .non => .none
  | .bl b => .bool b
  | .int i => .int i
  | .str s => .str s
  | .lst xs => .list (toPys xs)
  | .rl xs => .list (toPys xs)
  | .tup xs => .tuple (toPys xs)
  | .rt xs => .tuple (toPys xs)
  | _ => .none
def toPys : List D → List PyData
  | [] => []
  | x :: xs => toPy x :: toPys xs
end
def ltD : D → D → Option D
  | .int i, .int j => some (.bl (decide (i < j)))
  | .str a, .str b => some (.bl (decide (a.cps.toList < b.cps.toList)))
  | .lst a, .lst b => if okDs 60 a && (okDs 60 b && PySem.W.alike (toPy (.lst a)) (toPy (.lst b))) then some (.bl (PySem.W.dataLt (toPy (.lst a)) (toPy (.lst b)))) else none
  | .tup a, .tup b => if okDs 60 a && (okDs 60 b && PySem.W.alike (toPy (.tup a)) (toPy (.tup b))) then some (.bl (PySem.W.dataLt (toPy (.tup a)) (toPy (.tup b)))) else none
  | _, _ => none
def cmpEq (neg : Bool) (x y : D) : Option D := match x, y with
  | .str a, .str b => some (.bl (neg != decide (a = b)))
  | .str a, .non => some (.bl neg)
  | .str a, .int _ => some (.bl neg)
  | .str a, .bl _ => some (.bl neg)
  | .non, .str b => some (.bl neg)
  | .int _, .str b => some (.bl neg)
  | .bl _, .str b => some (.bl neg)
  | .lst xs, .lst [] => some (.bl (neg != xs.isEmpty))
  | .tup xs, .tup [] => some (.bl (neg != xs.isEmpty))
  | .dk ks _, .dk [] [] => some (.bl (neg != ks.isEmpty))
  | x, y => if (okD 64 x && okD 100000 y) || (okD 100000 x && okD 64 y) then some (.bl (neg != eqD x y)) else none
end
end L2.MP
end
section
set_option Elab.async false
set_option linter.all false
set_option maxRecDepth 100000
set_option maxHeartbeats 4000000
namespace L2.MP
open PySem PySem.Spec PyProof.Rows
def flatD : D → Bool
  | .non => true
  | .bl _ => true
  | .int _ => true
  | .str _ => true
  | _ => false
def memD (x : D) (ys : List D) : Bool := ys.any fun y => eqD y x
def keyOf : D → Option Key
  | .int i => some (.inl i)
  | .str s => some (.inr s)
  | _ => none
def keysOf : List D → Option (List Key)
  | [] => some []
  | d :: ds => match keyOf d, keysOf ds with
    | some k, some ks => some (k :: ks)
    | _, _ => none
def lookK {κ : Type} [DecidableEq κ] (k : κ) : List κ → List D → Option D
  | a :: as, d :: ds => if a = k then some d else lookK k as ds
  | _, _ => none
def inD (x y : D) : Option Bool := match x, y with
  | .str a, .str b => (match a.cps.toList with
    | [c] => some (decide (c ∈ b.cps.toList))
    | _ => none)
  | x, .tup ys => if flatD x && ys.all flatD then some (memD x ys) else none
  | x, .rt ys => if flatD x && ys.all flatD then some (memD x ys) else none
  | x, .lst ys => if flatD x && ys.all flatD then some (memD x ys) else if okD 64 x && okD 64 (.lst ys) then some (memD x ys) else none
  | x, .rl ys => if flatD x && ys.all flatD then some (memD x ys) else none
  | x, .dk ks vs => (keyOf x).map fun k => (lookK k ks vs).isSome
  | .tup xs, .dt ks vs => (keysOf xs).map fun k => (lookK k ks vs).isSome
  | _, _ => none
end L2.MP
end
section
set_option Elab.async false
set_option linter.all false
set_option maxRecDepth 100000
set_option maxHeartbeats 4000000
namespace L2.MP
open PySem PySem.Spec PyProof.Rows
section
def isD (neg : Bool) : D → D → Option D
  | .bl a, .bl b => some (.bl (neg != decide (a = b)))
  | x, .non => (match x with
    | .non => some (.bl (neg != true))
    | .own _ => none
    | _ => some (.bl (neg != false)))
  | _, _ => none
def ixD : D → D → Option D
  | .lst l, .int i => atI l i
  | .rl l, .int i => atI l i
  | .tup l, .int i => atI l i
  | .rt l, .int i => atI l i
  | .str z, .int i => if z.length ≤ sizeLine then (atI z.cps.toList i).map fun c => .str ⟨#[c]⟩ else none
  | .dk ks vs, d => (keyOf d).bind fun q => lookK q ks vs
  | .dt ks vs, .tup ds => (keysOf ds).bind fun q => lookK q ks vs
  | _, _ => none
def cutD {α : Type} (l : List α) (lo hi : Option Int) : List α := (l.drop (HT.sIx l.length 0 lo)).take (HT.sIx l.length l.length hi - HT.sIx l.length 0 lo)
def slD (x : D) (lo hi : Option Int) : Option D := match x with
  | .lst l => some (.lst (cutD l lo hi))
  | .rl l => some (.lst (cutD l lo hi))
  | .tup l => some (.tup (cutD l lo hi))
  | .str z => if z.length ≤ sizeLine then some (.str (cutS z lo hi)) else none
  | _ => none
def dPart : Option (M D) → M (Option Int)
  | none => M.ret none
  | some m => M.bind m fun d => match d with
    | .int i => M.ret (some i)
    | _ => M.fail
def dSl (a : M D) (lo hi : Option (M D)) : M D := M.bind a fun x => M.bind (dPart lo) fun l => M.bind (dPart hi) fun h => M.bind getS fun z => M.opt (slD (view z.1 z.2 x) l h)
def slF (x : D) (lo hi : Option Int) : Option Cell := match x with
  | .lst l => some (.lst (cutD l lo hi))
  | .rl l => some (.lst (cutD l lo hi))
  | _ => none
def dSlF (a : M D) (lo hi : Option (M D)) : M Cell := M.bind a fun x => M.bind (dPart lo) fun l => M.bind (dPart hi) fun h => M.bind getS fun z => M.opt (slF (view z.1 z.2 x) l h)
def dChain (f g : D → D → Option D) (a b c : M D) : M D := M.bind a fun x => M.bind b fun y => M.bind getS fun z => M.bind (M.opt (f (view z.1 z.2 x) (view z.1 z.2 y))) fun t => match t with
  | .bl true => M.bind c fun u => M.bind getS fun z => M.opt (g (view z.1 z.2 y) (view z.1 z.2 u))
  | .bl false => M.ret (.bl false)
  | _ => M.fail
def dBl (a : M D) : M Bool := M.bind a fun d => match d with
  | .bl b => M.ret b
  | _ => M.fail
def dAnd (a b : M D) : M D := M.bind (dBl a) fun t => if t = true then b else M.ret (.bl false)
def dOr (a b : M D) : M D := M.bind (dBl a) fun t => if t = true then M.ret (.bl true) else b
def dNot (a : M D) : M D := M.bind (dBl a) fun t => M.ret (.bl (!t))
def dIf {α : Type} (c : M Bool) (a b : M α) : M α := M.bind c fun t => if t = true then a else b
def truD : D → Option Bool
  | .non => some false
  | .bl b => some b
  | .int i => some (i != 0)
  | .str z => if z.length ≤ sizeLine then some ((z.length : Int) != 0) else none
  | .lst l => some !l.isEmpty
  | .rl l => some !l.isEmpty
  | .tup l => some !l.isEmpty
  | .rt l => some !l.isEmpty
  | .dk ks _ => some !ks.isEmpty
  | _ => none
def dTru (a : M D) : M Bool := M.bind a fun x => M.bind getS fun z => M.opt (truD (view z.1 z.2 x))
def dNotT (a : M Bool) : M Bool := M.bind a fun t => M.ret !t
def dAndT (a b : M Bool) : M Bool := M.bind a fun t => if t = true then b else M.ret false
def dOrT (a b : M Bool) : M Bool := M.bind a fun t => if t = true then M.ret true else b
end
end L2.MP
end
section
set_option Elab.async false
set_option linter.all false
set_option maxRecDepth 100000
set_option maxHeartbeats 4000000
namespace L2.MP
open PySem PySem.Spec PyProof.Rows
def getInts : List D → Option (List Int)
  | [] => some []
  | .int i :: r => (getInts r).map (i :: ·)
  | _ => none
def getBools : List D → Option (List Bool)
  | [] => some []
  | .bl i :: r => (getBools r).map (i :: ·)
  | _ => none
def getStrs : List D → Option (List Str)
  | [] => some []
  | .str i :: r => (getStrs r).map (i :: ·)
  | _ => none
section
theorem bools_map (ns : List Bool) : getBools (ns.map D.bl) = some ns := by
  induction ns with
  | nil => rfl
  | cons a r ih => simp [getBools, ih]
theorem strs_map (ns : List Str) : getStrs (ns.map D.str) = some ns := by
  induction ns with
  | nil => rfl
  | cons a r ih => simp [getStrs, ih]
end
def lstOf : D → Option (List D)
  | .lst l => some l
  | .rl l => some l
  | _ => none
def tupOf : D → Option (List D)
  | .tup l => some l
  | .rt l => some l
  | _ => none
section
def dOpF1 (f : D → Option Cell) (a : M D) : M Cell := M.bind a fun x => M.bind getS fun z => M.opt (f (view z.1 z.2 x))
def dOpF2 (f : D → D → Option Cell) (a b : M D) : M Cell := M.bind a fun x => M.bind b fun y => M.bind getS fun z => M.opt (f (view z.1 z.2 x) (view z.1 z.2 y))
def catF : D → D → Option Cell
  | .lst a, .lst b => if a.length + b.length ≤ sizeLine then some (.lst (a ++ b)) else none
  | _, _ => none
def lenD : D → Option D
  | .str z => if z.length ≤ sizeLine then some (.int z.length) else none
  | .lst l => some (.int l.length)
  | .rl l => some (.int l.length)
  | .tup l => some (.int l.length)
  | .rt l => some (.int l.length)
  | .dt ks _ => some (.int ks.length)
  | _ => none
def intD : D → Option D
  | .int i => some (.int i)
  | .bl b => some (.int (if b then 1 else 0))
  | .str a => if a.length ≤ 640 then (PySem.intText? a).map D.int else none
  | _ => none
def strD : D → Option D
  | .int i => if i.natAbs.log2 < 1920 then some (.str (toString i)) else none
  | _ => none
def allD (d : D) : Option D := (lstOf d).bind fun l => (getBools l).map fun bs => .bl (bs.all id)
def anyD (d : D) : Option D := (lstOf d).bind fun l => (getBools l).map fun bs => .bl (bs.any id)
def sumD (d : D) : Option D := (lstOf d).bind fun l => (getInts l).map fun bs => .int bs.sum
def minI : List Int → Int
  | [] => 0
  | [a] => a
  | a :: r => min a (minI r)
def maxI : List Int → Int
  | [] => 0
  | [a] => a
  | a :: r => max a (maxI r)
def minD (d : D) : Option D := (lstOf d).bind fun l => (getInts l).bind fun ns => if 0 < ns.length then some (.int (minI ns)) else none
def maxD (d : D) : Option D := (lstOf d).bind fun l => (getInts l).bind fun ns => if 0 < ns.length then some (.int (maxI ns)) else none
def min2D : D → D → Option D
  | .int i, .int j => some (.int (if j < i then j else i))
  | _, _ => none
def max2D : D → D → Option D
  | .int i, .int j => some (.int (if j > i then j else i))
  | _, _ => none
def tupleD : D → Option D
  | .lst l => some (.tup l)
  | .rl l => some (.tup l)
  | .tup l => some (.tup l)
  | .rt l => some (.rt l)
  | _ => none
def listF : D → Option Cell
  | .lst l => some (.lst l)
  | .rl l => some (.lst l)
  | .tup l => some (.lst l)
  | .rt l => some (.lst l)
  | _ => none
def typeD : D → Option String
  | .non => some "NoneType"
  | .bl _ => some "bool"
  | .int _ => some "int"
  | .str _ => some "str"
  | .tup _ => some "tuple"
  | .rt _ => some "tuple"
  | .lst _ => some "list"
  | .rl _ => some "list"
  | .dk _ _ => some "dict"
  | .dt _ _ => some "dict"
  | _ => none
def isiD (T : String) (d : D) : Option D := (typeD d).map fun t => .bl (t == T || (t == "bool" && T == "int"))
def isiTD (Ts : List String) (d : D) : Option D := (typeD d).map fun t => .bl (Ts.any fun T => t == T || (t == "bool" && T == "int"))
def sortI (ns : List Int) : List Int := ns.mergeSort fun a b => decide (a ≤ b)
def leS (a b : Str) : Bool := !ltCps b.cps.toList a.cps.toList
theorem leS_iff {a b : Str} : leS a b = true ↔ a.cps.toList ≤ b.cps.toList := by
  unfold leS
  rw [ltCps_eq, Bool.not_eq_true', decide_eq_false_iff_not]
  exact Iff.rfl
def sortS (xs : List Str) : List Str := xs.mergeSort leS
theorem str_eq {a b : Str} (h : a.cps.toList = b.cps.toList) : a = b := by
  obtain ⟨⟨a⟩⟩ := a
  obtain ⟨⟨b⟩⟩ := b
  cases h; rfl
theorem sortS_pw (xs : List Str) : (sortS xs).Pairwise fun a b => a.cps.toList ≤ b.cps.toList := by
  have := List.pairwise_mergeSort (le := leS) (fun a b c h1 h2 => leS_iff.mpr (List.le_trans (leS_iff.mp h1) (leS_iff.mp h2))) (fun a b => by
    rw [Bool.or_eq_true, leS_iff, leS_iff]; exact List.le_total _ _) xs
  exact this.imp leS_iff.mp
theorem sortS_perm (xs : List Str) : (sortS xs).Perm xs := List.mergeSort_perm _ _
def sortedB (d : D) : Option Cell := (lstOf d).bind fun l => if l.length < 64 then (match getInts l with
  | some ns => some (.lst ((sortI ns).map D.int))
  | none => (getStrs l).map fun xs => .lst ((sortS xs).map D.str)) else none
end
end L2.MP
end
section
set_option Elab.async false
set_option linter.all false
set_option maxRecDepth 100000
set_option maxHeartbeats 4000000
namespace L2.MP
open PySem PySem.Spec PyProof.Rows
inductive FOut where
  | ok (d : D) (S : Sto) | exc (x : Exn) (S : Sto) | bad
abbrev Fn := List D → Sto → FOut
def FOut.out (r : FOut) (env : Envr) : Out D := match r with
  | .ok d S => .ok d env S
  | .exc x S => .exc x env S
  | .bad => .bad
section
def lookF {α : Type} (f : Str) : List (Str × α) → Option α
  | [] => none
  | (g, x) :: r => if g = f then some x else lookF f r
def insOf (c : Nat) (S : Sto) : D → Option (Nat × List (Str × D))
  | .ref n => (match S[n]? with
    | some (.ins c' fs) => if c' = c then some (n, fs) else none
    | _ => none)
  | _ => none
def dMake (c n : Nat) (f : Fn) (args : M (List D)) : M D := M.bind args fun ds => if (D.non :: ds).length = n then (fun env S => match f (.ref S.length :: ds) (S ++ [.ins c []]) with
  | .ok .non S' => .ok (.ref S.length) env S'
  | .ok _ _ => .bad
  | .exc x S' => .exc x env S'
  | .bad => .bad) else M.fail
def dFld (cs : List Nat) (f : Str) (o : M D) : M D := M.bind o fun x => fun env S => match x with
  | .ref n => (match S[n]? with
    | some (.ins c fs) => if c ∈ cs then (match lookF f fs with
      | some d => .ok d env S
      | none => .bad) else .bad
    | _ => .bad)
  | _ => .bad
def putG {α : Type} (f : Str) (v : α) : List (Str × α) → List (Str × α)
  | [] => [(f, v)]
  | (g, x) :: r => if g = f then (g, v) :: r else (g, x) :: putG f v r
def putS (cs : List Nat) (f : Str) (v : D) (x : D) (S : Sto) : Option Sto := match x with
  | .ref n => (match S[n]? with
    | some (.ins c fs) => if c ∈ cs ∧ fs.length < 1000 then some (S.set n (.ins c (putG f v fs))) else none
    | _ => none)
  | _ => none
def setSt (S : Sto) : M Unit := fun env _ => .ok () env S
def dSetFld (cs : List Nat) (f : Str) (o v : M D) : M Flo := M.bind v fun d => M.bind o fun x => M.bind getS fun z => M.bind (M.opt (putS cs f d x z.2)) fun S' => M.bind (setSt S') fun _ => M.ret .nx
def dSetFldF (cs : List Nat) (f : Str) (o : M D) (v : M Cell) : M Flo := M.bind v fun c => M.bind o fun x => M.bind getS fun z => M.bind (M.opt (putS cs f (.ref z.2.length) x (z.2 ++ [c]))) fun S' => M.bind (setSt S') fun _ => M.ret .nx
end
end L2.MP
end
section
set_option Elab.async false
set_option linter.all false
set_option maxRecDepth 100000
set_option maxHeartbeats 4000000
namespace L2.MP
open PySem PySem.Spec PyProof.Rows RZ
mutual
def sameD : D → D → Bool
  | .non, .non => true
  | .bl a, .bl b => a == b
  | .int a, .int b => a == b
  | .str a, .str b => a == b
  | .tup a, .tup b => sameDs a b
  | .lst a, .lst b => sameDs a b
  | .rl a, .rl b => sameDs a b
  | .rt a, .rt b => sameDs a b
  | .ref a, .ref b => a == b
  | _, _ => false
def sameDs : List D → List D → Bool
  | [], [] => true
  | a :: r, b :: s => sameD a b && sameDs r s
  | _, _ => false
end
def enumFrom : Nat → List D → List D
  | _, [] => []
  | n, d :: r => .tup [.int n, d] :: enumFrom (n + 1) r
def gOk : Option Nat → List D → Sto → Bool
  | none, _, _ => true
  | some n, l, S => match S[n / 2]? with
    | some (.lst m) => if n % 2 = 0 then sameDs m l else sameDs (enumFrom 0 m) l
    | _ => false
abbrev Tgt := D → Envr → Option Envr
def gNm (i : Nat) : Tgt := fun d env => some (env.set i (.val d))
def gTs : List Tgt → List D → Envr → Option Envr
  | [], [], env => some env
  | g :: gs, d :: ds, env => (g d env).bind fun env => gTs gs ds env
  | _, _, _ => none
def gTp (gs : List Tgt) : Tgt := fun d env => match tupOf d with
  | some ds => gTs gs ds env
  | none => none
abbrev Src := List D × Option Nat
section
def signs (z : Str) : List D := z.cps.toList.map fun c => .str ⟨#[c]⟩
def itemsD : D → Option (List D)
  | .lst l => some l
  | .rl l => some l
  | .tup l => some l
  | .rt l => some l
  | .str z => some (signs z)
  | _ => none
def srcOf (d : D) (S : Sto) : Option Src := match d with
  | .ref n => (match S[n]? with
    | some (.lst l) => some (l, some (2 * n))
    | _ => none)
  | d => (itemsD d).map fun l => (l, none)
def dWalk (a : M D) : M Src := M.bind a fun d => M.bind getS fun z => M.opt (srcOf d z.2)
def upto (lo hi : Int) : List D := (List.range (hi - lo).toNat).map fun (i : Nat) => .int (lo + i)
def rgB (i : Int) : Bool := decide (-(2 ^ 62) ≤ i) && decide (i < 2 ^ 62)
def dRng1 (a : M D) : M Src := M.bind a fun d => match d with
  | .int j => if rgB j then M.ret (upto 0 j, none) else M.fail
  | _ => M.fail
def dRng2 (a b : M D) : M Src := M.bind a fun c => M.bind b fun d => match c, d with
  | .int i, .int j => if rgB i && rgB j then M.ret (upto i j, none) else M.fail
  | _, _ => M.fail
def enumSrc (d : D) : Option (List D) := match lstOf d with
  | some l => some l
  | none => tupOf d
def enumOf (d : D) (S : Sto) : Option Src := match d with
  | .ref n => (match S[n]? with
    | some (.lst l) => some (enumFrom 0 l, some (2 * n + 1))
    | _ => none)
  | d => (enumSrc d).map fun l => (enumFrom 0 l, none)
def dEnum (a : M D) : M Src := M.bind a fun x => M.bind getS fun z => M.opt (enumOf x z.2)
def zipD : List D → List D → List D
  | a :: r, b :: s => .tup [a, b] :: zipD r s
  | _, _ => []
theorem zipD_len : ∀ (l m : List D), (zipD l m).length = min l.length m.length
  | [], _ => by simp [zipD]
  | _ :: _, [] => by simp [zipD]
  | a :: r, b :: s => by simp [zipD, zipD_len r s]
def seqOf2 (a b : D) : Option (List D) := match lstOf a, lstOf b with
  | some l, some m => some (zipD l m)
  | _, _ => match tupOf a, tupOf b with
    | some l, some m => some (zipD l m)
    | _, _ => none
def dZip (a b : M D) : M Src := M.bind a fun x => M.bind b fun y => M.opt ((seqOf2 x y).map fun l => (l, none))
end
end L2.MP
end
section
set_option Elab.async false
set_option linter.all false
set_option maxRecDepth 100000
set_option maxHeartbeats 4000000
namespace L2.MP
open PySem PySem.Spec PyProof.Rows
def loopL (src : Src) (tg : Tgt) (body : M Flo) : List D → M Flo
  | [] => fun env S => if gOk src.2 src.1 S = true then .ok .nx env S else .bad
  | d :: r => fun env S => if gOk src.2 src.1 S = true then (match tg d env with
    | some env1 => (match body env1 S with
      | .ok .nx env2 S2 => loopL src tg body r env2 S2
      | .ok .ct env2 S2 => loopL src tg body r env2 S2
      | .ok .bk env2 S2 => .ok .nx env2 S2
      | .ok (.rt v) env2 S2 => .ok (.rt v) env2 S2
      | .exc x env2 S2 => .exc x env2 S2
      | .bad => .bad)
    | none => .bad) else .bad
def dFor (it : M Src) (tg : Tgt) (body : M Flo) : M Flo := M.bind it fun src => loopL src tg body src.1
section
def dWhile (c : M Bool) (b : M Flo) : Nat → M Flo
  | 0 => M.fail
  | n + 1 => M.bind c fun t => if t = true then (fun env S => match b env S with
    | .ok .nx env2 S2 => dWhile c b n env2 S2
    | .ok .ct env2 S2 => dWhile c b n env2 S2
    | .ok .bk env2 S2 => .ok .nx env2 S2
    | .ok (.rt v) env2 S2 => .ok (.rt v) env2 S2
    | .exc x env2 S2 => .exc x env2 S2
    | .bad => .bad) else M.ret .nx
def wipeE (env : Envr) : List Nat → Envr
  | [] => env
  | v :: vs => (wipeE env vs).set v .no
def noX {α : Type} (m : M α) : M α := fun env S => match m env S with
  | .ok a env S => .ok a env S
  | _ => .bad
def compL (src : Src) (tg : Tgt) (tt : M Bool) (te : M D) (vs : List Nat) : List D → List D → M (List D)
  | [], acc => fun env S => if gOk src.2 src.1 S = true then .ok acc env S else .bad
  | d :: r, acc => fun env S => if gOk src.2 src.1 S = true then (match tg d env with
    | some env1 => (match tt env1 S with
      | .ok true env2 S2 => (match te env2 S2 with
        | .ok x env3 S3 => compL src tg tt te vs r (acc ++ [x]) (wipeE env3 vs) S3
        | _ => .bad)
      | .ok false env2 S2 => compL src tg tt te vs r acc (wipeE env2 vs) S2
      | _ => .bad)
    | none => .bad) else .bad
def dComp (it : M Src) (tg : Tgt) (tt : M Bool) (te : M D) (vs : List Nat) : M Cell := M.bind it fun src => if src.1.length ≤ sizeLine then (fun env S => match compL src tg tt te vs src.1 [] (wipeE env vs) S with
  | .ok acc env S => .ok (.lst acc) env S
  | _ => .bad) else M.fail
end
end L2.MP
end
section
set_option Elab.async false
set_option linter.all false
set_option maxRecDepth 100000
set_option maxHeartbeats 4000000
namespace L2.MP
open PySem PySem.Spec PyProof.Rows
def setSl (i : Nat) (s : Slot) : M Unit := fun env S => .ok () (env.set i s) S
section
def dSet (i : Nat) (a : M D) : M Flo := M.bind a fun d => M.bind (setSl i (.val d)) fun _ => M.ret .nx
def dSetOwn (i : Nat) (a : M Cell) : M Flo := M.bind a fun c => M.bind (setSl i (.own c)) fun _ => M.ret .nx
def alloc (c : Cell) : M D := fun env S => .ok (.ref S.length) env (S ++ [c])
def dSetHp (i : Nat) (a : M Cell) : M Flo := M.bind a fun c => M.bind (alloc c) fun d => M.bind (setSl i (.val d)) fun _ => M.ret .nx
def setTg (g : Tgt) (d : D) : M Unit := fun env S => match g d env with
  | some env => .ok () env S
  | none => .bad
def dAsg (g : Tgt) (a : M D) : M Flo := M.bind a fun d => M.bind (setTg g d) fun _ => M.ret .nx
def dSeq (s t : M Flo) : M Flo := M.bind s fun f => match f with
  | .nx => t
  | f => M.ret f
def dExpr (a : M D) : M Flo := M.bind a fun _ => M.ret .nx
def dRet (a : M D) : M Flo := M.bind a fun d => M.ret (.rt d)
def dRetHp (a : M Cell) : M Flo := M.bind a fun c => M.bind (alloc c) fun d => M.ret (.rt d)
def cellOf (env : Envr) (S : Sto) : D → Option Cell
  | .ref n => S[n]?
  | .own i => match env[i]? with
    | some (.own c) => some c
    | _ => none
  | _ => none
def setCell (x : D) (c : Cell) : M Unit := fun env S => match x with
  | .ref n => .ok () env (S.set n c)
  | .own i => .ok () (env.set i (.own c)) S
  | _ => .bad
def isLst : Cell → Bool
  | .lst _ => true
  | _ => false
def dMut (f : Cell → List D → Option (Cell × D)) (o : M D) (args : M (List D)) : M D := M.bind o fun x => M.bind getS fun z => match (cellOf z.1 z.2 x).map isLst with
  | some true => M.bind args fun ds => M.bind getS fun z => M.bind (M.opt ((cellOf z.1 z.2 x).bind fun c => f c ds)) fun p => M.bind (setCell x p.1) fun _ => M.ret p.2
  | _ => M.fail
def appF : Cell → List D → Option (Cell × D)
  | .lst l, [d] => if l.length < sizeLine then some (.lst (l ++ [d]), .non) else none
  | _, _ => none
def popF : Cell → List D → Option (Cell × D)
  | .lst l, [] => (l[l.length - 1]?).map fun d => (.lst l.dropLast, d)
  | _, _ => none
def popAtF : Cell → List D → Option (Cell × D)
  | .lst l, [.int i] => if -(2 ^ 63) ≤ i ∧ i < 2 ^ 63 then (seqIndex? i l.length).bind fun j => (l[j]?).map fun d => (.lst (l.eraseIdx j), d) else none
  | _, _ => none
def extF : Cell → List D → Option (Cell × D)
  | .lst l, [.lst m] => if l.length + m.length ≤ sizeLine then some (.lst (l ++ m), .non) else none
  | _, _ => none
def clrF : Cell → List D → Option (Cell × D)
  | .lst l, [] => some (.lst [], .non)
  | _, _ => none
def revF : Cell → List D → Option (Cell × D)
  | .lst l, [] => some (.lst l.reverse, .non)
  | _, _ => none
def putD {κ : Type} [DecidableEq κ] (q : κ) (d : D) : List κ → List D → List κ × List D
  | [], [] => ([q], [d])
  | a :: as, x :: xs => if a = q then (a :: as, d :: xs) else let r := putD q d as xs; (a :: r.1, x :: r.2)
  | as, xs => (as, xs)
def setIxF (c : Cell) (i d : D) : Option Cell := match c, i with
  | .lst l, .int j => (ixN l.length j).map fun n => .lst (l.set n d)
  | .dk ks vs, i => if ks.Nodup ∧ ks.length < sizeLine then (keyOf i).map fun q => let r := putD q d ks vs; .dk r.1 r.2 else none
  | .dt ks vs, .tup l => if ks.Nodup ∧ ks.length < sizeLine then (keysOf l).map fun q => let r := putD q d ks vs; .dt r.1 r.2 else none
  | _, _ => none
def dSetIx (v o i : M D) : M Flo := M.bind v fun d => M.bind o fun x => M.bind i fun j => M.bind getS fun z => M.bind (M.opt ((cellOf z.1 z.2 x).bind fun c => setIxF c (view z.1 z.2 j) d)) fun c => M.bind (setCell x c) fun _ => M.ret .nx
end
end L2.MP
end
section
set_option Elab.async false
set_option linter.all false
set_option maxRecDepth 100000
set_option maxHeartbeats 4000000
namespace L2.MP
open PySem PySem.Spec PyProof.Rows
def dSm0 (f : Str → Option D) (o : M D) : M D := M.bind o fun x => match x with
  | .str s => M.opt (f s)
  | _ => M.fail
def dSm1 (f : Str → D → Option D) (o a : M D) : M D := M.bind o fun x => match x with
  | .str s => M.bind a fun y => M.bind getS fun z => M.opt (f s (view z.1 z.2 y))
  | _ => M.fail
section
def upperD (s : Str) : Option D := if s.length ≤ 5592405 then some (.str (Txt.upper s)) else none
def lowerD (s : Str) : Option D := if s.length ≤ 5592405 then some (.str (Txt.lower s)) else none
def isdigitD (s : Str) : Option D := some (.bl (Txt.isdigit s))
def stripD (s : Str) : Option D := if s.length ≤ sizeLine then some (.str (Txt.strip s)) else none
def joinD (s : Str) (y : D) : Option D := (lstOf y).bind fun l => (getStrs l).bind fun ys => if (ys.map (·.length)).sum + ys.length * s.length ≤ 16777216 then some (.str (Txt.join s ys)) else none
def splitD (s : Str) (y : D) : Option D := match y with
  | .str b => if (b.length == 0) = false ∧ s.length + 2 ≤ sizeLine then some (.lst ((Txt.split s b).map .str)) else none
  | _ => none
def partD (s : Str) (y : D) : Option D := match y with
  | .str b => if (b.length == 0) = false ∧ s.length ≤ sizeLine then some (.tup [.str (Txt.partition s b).1, .str (Txt.partition s b).2.1, .str (Txt.partition s b).2.2]) else none
  | _ => none
def countD (s : Str) (y : D) : Option D := match y with
  | .str b => some (.int (Txt.count s b))
  | _ => none
def findD (s : Str) (y : D) : Option D := match y with
  | .str b => some (.int (Txt.find s b))
  | _ => none
def startsD (s : Str) (y : D) : Option D := match y with
  | .str b => some (.bl (Txt.startswith s b))
  | _ => none
def endsD (s : Str) (y : D) : Option D := match y with
  | .str b => some (.bl (Txt.endswith s b))
  | _ => none
def dPairs : List (M D × M D) → M (List (D × D))
  | [] => M.ret []
  | (a, b) :: r => M.bind a fun x => M.bind b fun y => M.bind (dPairs r) fun l => M.ret ((x, y) :: l)
def keyPairs : List (D × D) → Option (List (Key × D))
  | [] => some []
  | (a, b) :: r => match keyOf a, keyPairs r with
    | some q, some l => some ((q, b) :: l)
    | _, _ => none
def mergeD : List Key → List D → List (Key × D) → List Key × List D
  | ks, vs, [] => (ks, vs)
  | ks, vs, (q, d) :: r => mergeD (putD q d ks vs).1 (putD q d ks vs).2 r
def dDisp (ps : List (M D × M D)) : M Cell := M.bind (dPairs ps) fun l => match keyPairs l with
  | some l => if l.length ≤ 15 then M.ret (.dk (mergeD [] [] l).1 (mergeD [] [] l).2) else M.fail
  | none => M.fail
def pairsD : List D → Option (List (Key × D))
  | [] => some []
  | .tup [a, b] :: r => (match keyOf a, pairsD r with
    | some q, some l => some ((q, b) :: l)
    | _, _ => none)
  | _ :: _ => none
def dictF (d : D) : Option Cell := (lstOf d).bind fun l => (pairsD l).map fun l => .dk (mergeD [] [] l).1 (mergeD [] [] l).2
end
end L2.MP
end
section
set_option Elab.async false
set_option linter.all false
set_option maxRecDepth 100000
set_option maxHeartbeats 4000000
namespace L2.MP
open PySem PySem.Spec PyProof.Rows
def onto {K : Type} [DecidableEq K] (xs : List K) (L : List K) : List K := xs.foldl (fun L k => if k ∈ L then L else k :: L) L
theorem onto_mem {K : Type} [DecidableEq K] {k : K} : ∀ {xs L : List K}, k ∈ onto xs L ↔ k ∈ xs ∨ k ∈ L
  | [], L => by simp [onto]
  | x :: xs, L => by
    have e : onto (x :: xs) L = onto xs (if x ∈ L then L else x :: L) := rfl
    rw [e, onto_mem]
    by_cases h : x ∈ L
    · rw [if_pos h, List.mem_cons]
      constructor
      · rintro (z | z)
        · exact .inl (.inr z)
        · exact .inr z
      · rintro ((rfl | z) | z)
        · exact .inr h
        · exact .inl z
        · exact .inr z
    · rw [if_neg h, List.mem_cons, List.mem_cons]
      constructor
      · rintro (z | z | z)
        · exact .inl (.inr z)
        · exact .inl (.inl z)
        · exact .inr z
      · rintro ((z | z) | z)
        · exact .inr (.inl z)
        · exact .inl z
        · exact .inr (.inr z)
theorem onto_len {K : Type} [DecidableEq K] : ∀ {xs L : List K}, (onto xs L).length ≤ xs.length + L.length
  | [], L => by simp [onto]
  | x :: xs, L => by
    have e : onto (x :: xs) L = onto xs (if x ∈ L then L else x :: L) := rfl
    have := onto_len (xs := xs) (L := if x ∈ L then L else x :: L)
    rw [e]
    refine Nat.le_trans this ?_
    by_cases h : x ∈ L
    · rw [if_pos h, List.length_cons]; omega
    · rw [if_neg h, List.length_cons, List.length_cons]; omega
end L2.MP
end
section
set_option Elab.async false
set_option linter.all false
set_option maxRecDepth 100000
set_option maxHeartbeats 4000000
namespace L2.MP
open PySem PySem.Spec PyProof.Rows
def seqD : D → Option (List D)
  | .lst l => some l
  | .rl l => some l
  | .tup l => some l
  | .rt l => some l
  | _ => none
def setF {α : Type} (fs : List Str → α) (fi : List Int → α) (d : D) : Option α := (seqD d).bind fun l => if l.length < 64 then (match getStrs l with
  | some xs => some (fs xs)
  | none => (getInts l).map fi) else none
def ssetF : D → Option Cell := setF (fun xs => .lst ((sortS (onto xs [])).map .str)) (fun xs => .lst ((sortI (onto xs [])).map .int))
def lsetD : D → Option D := setF (fun xs => .int (onto xs []).length) (fun xs => .int (onto xs []).length)
end L2.MP
end
section
set_option Elab.async false
set_option linter.all false
set_option maxRecDepth 100000
set_option maxHeartbeats 4000000
namespace L2.MP
open PySem PySem.Spec PyProof.Rows
section
def revD : D → Option D
  | .lst l => some (.lst l.reverse)
  | .rl l => some (.lst l.reverse)
  | .tup l => some (.tup l.reverse)
  | .rt l => some (.tup l.reverse)
  | _ => none
def dHp (a : M Cell) : M D := M.bind a alloc
def insF : Cell → List D → Option (Cell × D)
  | .lst l, [.int i, d] => if l.length < sizeLine ∧ 0 ≤ i ∧ i < 2 ^ 63 then some (.lst (l.take i.toNat ++ [d] ++ l.drop i.toNat), .non) else none
  | _, _ => none
end
end L2.MP
namespace L2.MP
open PySem PySem.Spec PyProof.Rows
section
def dLm1 (f : List D → D → Option D) (o a : M D) : M D := M.bind o fun x => M.bind getS fun z => match lstOf (view z.1 z.2 x) with
  | some _ => M.bind a fun y => M.bind getS fun z => M.opt ((lstOf (view z.1 z.2 x)).bind fun l => f l (view z.1 z.2 y))
  | none => M.fail
def posD (y : D) : List D → Option Nat
  | [] => none
  | x :: r => if eqD x y then some 0 else (posD y r).map (· + 1)
def idxF (l : List D) (y : D) : Option D := if flatD y && l.all flatD then (posD y l).map fun j => .int (j : Nat) else none
end
end L2.MP
end
section
set_option Elab.async false
set_option linter.all false
set_option maxRecDepth 100000
set_option maxHeartbeats 4000000
namespace L2.MP
open PySem PySem.Spec PyProof.Rows
section
def dRaise0 (c : Nat) : M Flo := fun env S => .exc ⟨c, []⟩ env S
def dRaise1 (c : Nat) (f : Str) (m : M D) : M Flo := M.bind m fun d => fun env S => .exc ⟨c, [(f, d)]⟩ env S
end
end L2.MP
end
section
set_option Elab.async false
set_option linter.all false
set_option maxRecDepth 100000
set_option maxHeartbeats 4000000
namespace L2.MP
open PySem PySem.Spec PyProof.Rows
abbrev Xt := List (Nat × List Nat)
def subX (t : Xt) (x : Nat) : Option Nat → Bool
  | none => true
  | some c => ((t.lookup x).getD []).contains c
def knX (t : Xt) : Option Nat → Bool
  | none => true
  | some c => (t.lookup c).isSome
def dIsX (t : Xt) (i : Nat) (cs : List (Option Nat)) : M D := fun env S => match env[i]? with
  | some (.exn x) => if (t.lookup x.cls).isSome && cs.all (knX t) then .ok (.bl (cs.any (subX t x.cls))) env S else .bad
  | _ => .bad
def dXf (t : Xt) (fl : List Str) (i : Nat) (f : Str) : M D := fun env S => match env[i]? with
  | some (.exn x) => if (t.lookup x.cls).isSome && fl.contains f then (match lookF f x.fs with
    | some d => .ok d env S
    | none => .bad) else .bad
  | _ => .bad
end L2.MP
end
section
set_option Elab.async false
set_option linter.all false
set_option maxRecDepth 100000
set_option maxHeartbeats 4000000
namespace L2.MP
open PySem PySem.Spec PyProof.Rows
def dTryN (t : Xt) (c : Nat) (b s : M Flo) : M Flo := fun env S => match b env S with
  | .exc x env1 S1 => if (t.lookup x.cls).isSome && (t.lookup c).isSome then (if subX t x.cls (some c) then noX s env1 S1 else .exc x env1 S1) else .bad
  | o => o
def dTryE (t : Xt) (c i : Nat) (b s : M Flo) : M Flo := fun env S => match b env S with
  | .exc x env1 S1 => if (t.lookup x.cls).isSome && (t.lookup c).isSome then (if subX t x.cls (some c) then (match s (env1.set i (.exn x)) S1 with
      | .ok f env2 S2 => .ok f (env2.set i .no) S2
      | _ => .bad) else .exc x env1 S1) else .bad
  | o => o
end L2.MP
end
section
set_option Elab.async false
set_option linter.all false
set_option maxRecDepth 100000
set_option maxHeartbeats 4000000
namespace L2.MP
open PySem PySem.Spec PyProof.Rows
def allAlikeB (ds : List PyData) : Bool := ds.all fun a => ds.all fun b => PySem.W.alike a b
def isTupP : PyData → Bool
  | .tuple (_ :: _) => true
  | _ => false
def isOthP : PyData → Bool
  | .none => false
  | .tuple _ => false
  | _ => true
def sortableB (ds : List PyData) : Bool := ds.all isTupP || ds.all isOthP
def leP (a b : PyData) : Bool := !PySem.W.dataLt b a
section
def sortD (l : List D) : List D := l.mergeSort fun a b => leP (toPy a) (toPy b)
def sortedDF (d : D) : Option Cell := (lstOf d).bind fun l => if okDs 60 l && (allAlikeB (l.map toPy) && sortableB (l.map toPy)) then some (.lst (sortD l)) else none
def sortedF (d : D) : Option Cell := (sortedB d).orElse fun _ => sortedDF d
end
end L2.MP
end
section
set_option Elab.async false
set_option linter.all false
set_option maxRecDepth 100000
set_option maxHeartbeats 4000000
namespace L2.MP
open PySem PySem.Spec PyProof.Rows
inductive Blt where
  | len | int | str | all | any | sum | min | max | tuple | list | sorted | isinstance | bool | dict | range | enumerate | zip | set | verr
  deriving DecidableEq
def Blt.name : Blt → Str
  | .len => "len" | .int => "int" | .str => "str" | .all => "all" | .any => "any" | .sum => "sum" | .min => "min" | .max => "max" | .tuple => "tuple" | .list => "list" | .sorted => "sorted"
  | .isinstance => "isinstance" | .bool => "bool" | .dict => "dict" | .range => "range" | .enumerate => "enumerate" | .zip => "zip" | .set => "set" | .verr => "ValueError"
inductive Gd where
  | blt (b : Blt) | con (j : Nat) | fn (i : Nat) | cls (c i : Nat) | xcl (c : Nat) | tab (j : Nat)
  deriving DecidableEq
inductive Nd where
  | loc (i : Nat) | frv (i : Nat) | slo (i : Nat) | glo (g : Gd) | bgl (g : Gd)
  deriving DecidableEq
abbrev Tab := List (Nat × Str × Nd)
inductive Mn where
  | own (l : List (Nat × Nat))    -- classes, their defs
  | append | pop | extend | clear | reverse | insert | index
  | upper | lower | split | join | partition | isdigit | count | find | startswith | endswith | strip
def Mn.name : Mn → Str
  | .own _ => "" | .append => "append" | .pop => "pop" | .extend => "extend" | .clear => "clear" | .reverse => "reverse" | .insert => "insert" | .index => "index"
  | .upper => "upper" | .lower => "lower" | .split => "split" | .join => "join" | .partition => "partition" | .isdigit => "isdigit" | .count => "count" | .find => "find"
  | .startswith => "startswith" | .endswith => "endswith" | .strip => "strip"
structure Gm where
  ar : List Nat
  con : List D
  fld : List (Nat × Str × List Nat)
  mth : List (Nat × Str × Mn)
  fuel : Nat
  xcs : Xt
  xfl : List Str
  xin : List (Nat × Str)
  tb : List (List (Str × D))
structure Ct where
  N : List Str
  sc : Scope
  blk : Option Scope
  tab : Tab
  own : List Nat
  hp : List Nat
  retHp : Bool
  dtt : Bool
  ahp : Bool
  hot : Bool
section
def inF (neg : Bool) : D → D → Option D := fun x y => (inD x y).map fun b => .bl (neg != b)
def insAny (S : Sto) : D → Option (Nat × List (Str × D))
  | .ref n => (match S[n]? with
    | some (.ins c' fs) => some (c', fs)
    | _ => none)
  | _ => none
def lkc : List (Nat × Nat) → Nat → Option Nat
  | [], _ => none
  | (c, i) :: r, x => if c == x then some i else lkc r x
def dMeths (G : Gm) (φ : Nat → Fn) (l : List (Nat × Nat)) (m : Str) (o : M D) (args : M (List D)) : M D := M.bind o fun x => fun env S => match insAny S x with
  | some (c, fs) => (match lkc l c with
    | some i => if lookF m fs = none then (M.bind args fun ds => if (x :: ds).length = G.ar.getD i 0 then (fun env S => (φ i (x :: ds) S).out env) else M.fail) env S else .bad
    | none => .bad)
  | none => .bad
end
end L2.MP
end
section
set_option Elab.async false
set_option linter.all false
set_option maxRecDepth 100000
set_option maxHeartbeats 4000000
namespace L2.MP
open PySem PySem.Spec PyProof.Rows
structure DefM where
  C : Ct
  body : List Stmt
  ps : List Str
def runD (dm : DefM) (m : M Flo) : Fn := fun ds S => if ds.length = dm.ps.length then (match m (ds.map Slot.val ++ List.replicate (dm.C.N.length - ds.length) Slot.no) S with
  | .ok .nx _ S' => .ok .non S'
  | .ok (.rt d) _ S' => .ok d S'
  | .ok _ _ _ => .bad
  | .exc x _ S' => .exc x S'
  | .bad => .bad) else .bad
end L2.MP
end
section
set_option Elab.async false
set_option linter.all false
set_option maxRecDepth 100000
set_option maxHeartbeats 4000000
namespace L2.MP
open PySem PySem.Spec PyProof.Rows
def dFn (φ : Nat → Fn) (i n : Nat) (args : M (List D)) : M D := M.bind args fun ds => if ds.length = n then (fun env S => (φ i ds S).out env) else M.fail
def ge (h : Nat) (x : Str) (g : Gd) : Nat × Str × Gd := (h, x, g)
def te (h : Nat) (x : Str) (n : Nd) : Nat × Str × Nd := (h, x, n)
end L2.MP
end
section
namespace L2.MP
open PySem PySem.Spec PyProof.Rows
def lkS : List (Str × D) → Str → Option D
  | [], _ => none
  | (y, d) :: r, x => if y = x then some d else lkS r x
def tabInD (t : List (Str × D)) : D → Option D
  | .str z => some (.bl (lkS t z).isSome)
  | _ => none
def tabIxD (t : List (Str × D)) : D → Option D
  | .str z => lkS t z
  | _ => none
def augAt (j : D) : Cell → Option Int
  | .lst l => match j with
    | .int i => match atI l i with
      | some (.int n) => some n
      | _ => none
    | _ => none
  | _ => none
def augSet (j : D) (v : Int) : Cell → Option Cell
  | .lst l => match j with
    | .int i => (ixN l.length i).map fun n => .lst (l.set n (.int v))
    | _ => none
  | _ => none
def intOf : D → Option Int
  | .int i => some i
  | _ => none
def dAugIx (f : Int → Int → Int) (o i v : M D) : M Flo := M.bind o fun x => M.bind i fun j => M.bind getS fun z => M.bind (M.opt ((cellOf z.1 z.2 x).bind (augAt j))) fun n => M.bind v fun d => M.bind (M.opt (intOf d)) fun m => M.bind getS fun z => M.bind (M.opt ((cellOf z.1 z.2 x).bind (augSet j (f n m)))) fun c => M.bind (setCell x c) fun _ => M.ret .nx
end L2.MP
end
end
section
set_option Elab.async false
set_option linter.all false
set_option maxRecDepth 100000
set_option maxHeartbeats 4000000
namespace L2.MP
open PySem PySem.Spec PyProof.Rows
structure Wd where
  F : Hp
  R : Nat → Option Addr
structure Wd.Le (w w' : Wd) : Prop where
  f : ∀ a o, w.F a = some o → w'.F a = some o
  r : ∀ n a, w.R n = some a → w'.R n = some a
theorem Wd.Le.refl (w : Wd) : Wd.Le w w := ⟨fun _ _ h => h, fun _ _ h => h⟩
theorem Wd.Le.trans {a b c : Wd} (h : Wd.Le a b) (g : Wd.Le b c) : Wd.Le a c := ⟨fun x o e => g.f x o (h.f x o e), fun n x e => g.r n x (h.r n x e)⟩
structure Kz where
  K : PySem.W.Frag
  cl : Nat → Addr
structure Ky extends Kz where
  xn : Option (Nat × Addr × Value × Option Addr)
instance : Coe Ky Kz := ⟨Ky.toKz⟩
mutual
def Rep (k : Kz) (w : Wd) : D → V → Prop
  | .non, v => v = .non
  | .bl b, v => v = .bl b
  | .int i, v => v = .int i
  | .str s, v => v = .str s
  | .tup ds, v => ∃ a vs, v = .ref a ∧ w.F a = some (.tup vs) ∧ Reps k w ds vs
  | .rt ds, v => ∃ a vs, v = .ref a ∧ SqT k.K w.F a vs ∧ Reps k w ds vs
  | .lst ds, v => ∃ a vs, v = .ref a ∧ w.F a = some (.lst vs) ∧ Reps k w ds vs
  | .rl ds, v => ∃ a vs, v = .ref a ∧ SqL k.K w.F a vs ∧ Reps k w ds vs
  | .dk ks ds, v => ∃ a kvs, v = .ref a ∧ w.F a = some (.dK kvs) ∧ kvs.map (·.1) = ks ∧ Reps k w ds (kvs.map (·.2))
  | .dt ks ds, v => ∃ a kvs, v = .ref a ∧ w.F a = some (.dT kvs) ∧ kvs.map (·.1) = ks ∧ Reps k w ds (kvs.map (·.2))
  | .ref n, v => ∃ a, v = .ref a ∧ w.R n = some a
  | .own _, _ => False
def Reps (k : Kz) (w : Wd) : List D → List V → Prop
  | [], vs => vs = []
  | d :: ds, vs => ∃ v r, vs = v :: r ∧ Rep k w d v ∧ Reps k w ds r
end
theorem sqT_mono {K : PySem.W.Frag} {F F' : Hp} {a : Addr} {vs : List V} (h : ∀ a o, F a = some o → F' a = some o) (q : SqT K F a vs) : SqT K F' a vs := by
  rcases q with (q | ⟨o, q⟩) | q
  · exact .inl (.inl (h _ _ q))
  · exact .inl (.inr ⟨o, h _ _ q⟩)
  · exact .inr q
theorem sqL_mono {K : PySem.W.Frag} {F F' : Hp} {a : Addr} {vs : List V} (h : ∀ a o, F a = some o → F' a = some o) (q : SqL K F a vs) : SqL K F' a vs := by
  rcases q with (q | ⟨o, q⟩) | q
  · exact .inl (.inl (h _ _ q))
  · exact .inl (.inr ⟨o, h _ _ q⟩)
  · exact .inr q
section
variable {k : Kz} {w w' : Wd}
mutual
theorem Rep.mono (le : Wd.Le w w') : ∀ (d : D) {v : V}, Rep k w d v → Rep k w' d v
  | .non, v, h => h
  | .bl b, v, h => h
  | .int i, v, h => h
  | .str s, v, h => h
  | .tup ds, v, h => let ⟨a, vs, e, q, r⟩ := h; ⟨a, vs, e, le.f _ _ q, Reps.mono le ds r⟩
  | .rt ds, v, h => let ⟨a, vs, e, q, r⟩ := h; ⟨a, vs, e, sqT_mono le.f q, Reps.mono le ds r⟩
  | .lst ds, v, h => let ⟨a, vs, e, q, r⟩ := h; ⟨a, vs, e, le.f _ _ q, Reps.mono le ds r⟩
  | .rl ds, v, h => let ⟨a, vs, e, q, r⟩ := h; ⟨a, vs, e, sqL_mono le.f q, Reps.mono le ds r⟩
  | .dk ks ds, v, h => let ⟨a, vs, e, q, x, r⟩ := h; ⟨a, vs, e, le.f _ _ q, x, Reps.mono le ds r⟩
  | .dt ks ds, v, h => let ⟨a, vs, e, q, x, r⟩ := h; ⟨a, vs, e, le.f _ _ q, x, Reps.mono le ds r⟩
  | .ref n, v, h => let ⟨a, e, q⟩ := h; ⟨a, e, le.r _ _ q⟩
  | .own _, _, h => h
theorem Reps.mono (le : Wd.Le w w') : ∀ (ds : List D) {vs : List V}, Reps k w ds vs → Reps k w' ds vs
  | [], _, h => h
  | d :: ds, _, h => let ⟨v, r, e, q, x⟩ := h; ⟨v, r, e, Rep.mono le d q, Reps.mono le ds x⟩
end
theorem Reps.length : ∀ {ds : List D} {vs : List V}, Reps k w ds vs → vs.length = ds.length
  | [], _, h => by rw [show _ = _ from h]; rfl
  | d :: ds, _, h => by obtain ⟨v, r, rfl, q, x⟩ := h; simp [Reps.length x]
theorem Reps.get : ∀ {ds : List D} {vs : List V} {i : Nat} {v : V}, Reps k w ds vs → vs[i]? = some v → ∃ d, ds[i]? = some d ∧ Rep k w d v
  | [], _, _, _, h, e => by rw [show _ = _ from h] at e; simp at e
  | d :: ds, _, 0, v, h, e => by obtain ⟨v', r, rfl, q, x⟩ := h; simp at e; subst e; exact ⟨d, rfl, q⟩
  | d :: ds, _, i + 1, v, h, e => by obtain ⟨v', r, rfl, q, x⟩ := h; simp at e; obtain ⟨d', e', q'⟩ := Reps.get x e; exact ⟨d', by simpa using e', q'⟩
theorem Reps.getD : ∀ {ds : List D} {vs : List V} {i : Nat} {d : D}, Reps k w ds vs → ds[i]? = some d → ∃ v, vs[i]? = some v ∧ Rep k w d v
  | [], _, _, _, h, e => by simp at e
  | d :: ds, _, 0, _, h, e => by obtain ⟨v', r, rfl, q, x⟩ := h; simp at e; subst e; exact ⟨v', rfl, q⟩
  | d :: ds, _, i + 1, _, h, e => by obtain ⟨v', r, rfl, q, x⟩ := h; simp at e; obtain ⟨d', e', q'⟩ := Reps.getD x e; exact ⟨d', by simpa using e', q'⟩
theorem Reps.append : ∀ {ds es : List D} {vs us : List V}, Reps k w ds vs → Reps k w es us → Reps k w (ds ++ es) (vs ++ us)
  | [], _, _, _, h, g => by rw [show _ = _ from h]; exact g
  | d :: ds, _, _, _, h, g => by obtain ⟨v', r, rfl, q, x⟩ := h; exact ⟨v', _, rfl, q, Reps.append x g⟩
theorem Reps.one {d : D} {v : V} (h : Rep k w d v) : Reps k w [d] [v] := ⟨v, [], rfl, h, rfl⟩
theorem Reps.drop : ∀ {ds : List D} {vs : List V} (n : Nat), Reps k w ds vs → Reps k w (ds.drop n) (vs.drop n)
  | _, _, 0, h => by simpa using h
  | [], _, n + 1, h => by rw [show _ = _ from h]; rfl
  | d :: ds, _, n + 1, h => by obtain ⟨v', r, rfl, q, x⟩ := h; simpa using Reps.drop n x
theorem Reps.take : ∀ {ds : List D} {vs : List V} (n : Nat), Reps k w ds vs → Reps k w (ds.take n) (vs.take n)
  | _, _, 0, h => by simp [Reps]
  | [], _, n + 1, h => by rw [show _ = _ from h]; rfl
  | d :: ds, _, n + 1, h => by obtain ⟨v', r, rfl, q, x⟩ := h; exact ⟨v', _, rfl, q, Reps.take n x⟩
theorem Reps.set {d : D} {v : V} (g : Rep k w d v) : ∀ {ds : List D} {vs : List V} (n : Nat), Reps k w ds vs → Reps k w (ds.set n d) (vs.set n v)
  | [], _, n, h => by rw [show _ = _ from h]; rfl
  | e :: ds, _, 0, h => by obtain ⟨v', r, rfl, q, x⟩ := h; exact ⟨v, r, rfl, g, x⟩
  | e :: ds, _, n + 1, h => by obtain ⟨v', r, rfl, q, x⟩ := h; exact ⟨v', _, rfl, q, Reps.set g n x⟩
theorem Reps.reverse : ∀ {ds : List D} {vs : List V}, Reps k w ds vs → Reps k w ds.reverse vs.reverse
  | [], _, h => by rw [show _ = _ from h]; rfl
  | d :: ds, _, h => by
    obtain ⟨v', r, rfl, q, x⟩ := h
    rw [List.reverse_cons, List.reverse_cons]
    exact (Reps.reverse x).append (Reps.one q)
theorem Reps.eraseIdx : ∀ {ds : List D} {vs : List V} (n : Nat), Reps k w ds vs → Reps k w (ds.eraseIdx n) (vs.eraseIdx n)
  | [], _, n, h => by rw [show _ = _ from h]; rfl
  | e :: ds, _, 0, h => by obtain ⟨v', r, rfl, q, x⟩ := h; exact x
  | e :: ds, _, n + 1, h => by obtain ⟨v', r, rfl, q, x⟩ := h; exact ⟨v', _, rfl, q, Reps.eraseIdx n x⟩
theorem Reps.dropLast {ds : List D} {vs : List V} (h : Reps k w ds vs) : Reps k w ds.dropLast vs.dropLast := by
  rw [List.dropLast_eq_take, List.dropLast_eq_take, h.length]
  exact h.take _
end
def RepC (k : Kz) (w : Wd) : Cell → HO → Prop
  | .lst ds, o => ∃ vs, o = .lst vs ∧ Reps k w ds vs
  | .dk ks ds, o => ∃ kvs, o = .dK kvs ∧ kvs.map (·.1) = ks ∧ Reps k w ds (kvs.map (·.2))
  | .dt ks ds, o => ∃ kvs, o = .dT kvs ∧ kvs.map (·.1) = ks ∧ Reps k w ds (kvs.map (·.2))
  | .ins c fd, o => ∃ dx fs, o = .ins (k.cl c) dx fs ∧ fs.map (·.1) = fd.map (·.1) ∧ Reps k w (fd.map (·.2)) (fs.map (·.2))
theorem RepC.mono {k : Kz} {w w' : Wd} (le : Wd.Le w w') : ∀ {c : Cell} {o : HO}, RepC k w c o → RepC k w' c o
  | .lst ds, _, h => let ⟨vs, e, r⟩ := h; ⟨vs, e, r.mono le⟩
  | .dk ks ds, _, h => let ⟨vs, e, x, r⟩ := h; ⟨vs, e, x, r.mono le⟩
  | .dt ks ds, _, h => let ⟨vs, e, x, r⟩ := h; ⟨vs, e, x, r.mono le⟩
  | .ins c fd, _, h => let ⟨dx, fs, e, x, r⟩ := h; ⟨dx, fs, e, x, r.mono le⟩
structure RS (k : Kz) (P : Hp) (w : Wd) (S : Sto) (H : Hp) : Prop where
  frz : ∀ a o, w.F a = some o → H a = some o
  live : ∀ n c, S[n]? = some c → ∃ a o, w.R n = some a ∧ H a = some o ∧ w.F a = none ∧ RepC k w c o
  bound : ∀ n a, w.R n = some a → n < S.length
  inj : ∀ n m a, w.R n = some a → w.R m = some a → n = m
  prot : ∀ a o, P a = some o → H a = some o ∧ w.F a = none ∧ ∀ n, w.R n ≠ some a
structure Loose (P : Hp) (w : Wd) (env : Envr) (σ : St) (a : Addr) : Prop where
  f : w.F a = none
  r : ∀ n, w.R n ≠ some a
  p : P a = none
  o : ∀ (i : Nat) c, env[i]? = some (.own c) → σ[i]? ≠ some (some (.ref a))
def RepX (k : Kz) (w : Wd) (x : Exn) (cls : Value) (dx : Option Addr) : Prop :=
  cls = .ref (k.cl x.cls) ∧ ((x.fs = [] ∧ dx = none) ∨ (x.fs ≠ [] ∧ ∃ d fs, dx = some d ∧ w.F d = some (.xd fs) ∧ fs.map (·.1) = x.fs.map (·.1) ∧ Reps k w (x.fs.map (·.2)) (fs.map (·.2))))
theorem RepX.mono {k : Kz} {w w' : Wd} (le : Wd.Le w w') {x : Exn} {cls : Value} {dx : Option Addr} (h : RepX k w x cls dx) : RepX k w' x cls dx :=
  ⟨h.1, h.2.imp id fun ⟨n, d, fs, e, q, z, r⟩ => ⟨n, d, fs, e, le.f _ _ q, z, r.mono le⟩⟩
structure RB (k : Ky) (P : Hp) (w : Wd) (env : Envr) (S : Sto) (σ : St) (H : Hp) : Prop where
  rs : RS k P w S H
  len : σ.length = env.length
  val : ∀ (i : Nat) d, env[i]? = some (.val d) → ∃ v, σ[i]? = some (some v) ∧ Rep k w d v
  own : ∀ (i : Nat) c, env[i]? = some (.own c) → ∃ a o, σ[i]? = some (some (.ref a)) ∧ H a = some o ∧ RepC k w c o ∧ w.F a = none ∧ (∀ n, w.R n ≠ some a) ∧ P a = none
  sep : ∀ (i j : Nat) c c' a, env[i]? = some (.own c) → env[j]? = some (.own c') → σ[i]? = some (some (.ref a)) → σ[j]? = some (some (.ref a)) → i = j
  exn : ∀ (i : Nat) x, env[i]? = some (.exn x) → ∃ a cls dx, k.xn = some (i, a, cls, dx) ∧ σ[i]? = some (some (.ref a)) ∧ RepX k w x cls dx
section
variable {k : Ky} {P : Hp} {w w' : Wd} {env : Envr} {S : Sto} {σ : St} {H : Hp} {a p : Addr} {o : HO}
theorem RS.lt (h : RS k P w S H) {n : Nat} {a : Addr} (e : w.R n = some a) : ∃ c o, S[n]? = some c ∧ H a = some o ∧ w.F a = none ∧ RepC k w c o := by
  have hn := h.bound n a e
  obtain ⟨a', o, e1, e2, e3, e4⟩ := h.live n S[n] (by simp [hn])
  rw [e] at e1; cases e1
  exact ⟨_, o, by simp [hn], e2, e3, e4⟩
theorem RS.freshR (h : RS k P w S H) (n : H p = none) : ∀ m, w.R m ≠ some p := fun m e => by
  obtain ⟨c, o, _, e2, _⟩ := h.lt e
  rw [n] at e2; cases e2
theorem RS.freshF (h : RS k P w S H) (n : H p = none) : w.F p = none := by
  cases e : w.F p with
  | none => rfl
  | some o => have := h.frz p o e; rw [n] at this; cases this
theorem RS.freshP (h : RS k P w S H) (n : H p = none) : P p = none := by
  cases e : P p with
  | none => rfl
  | some o => have := (h.prot p o e).1; rw [n] at this; cases this
theorem RB.fresh (h : RB k P w env S σ H) (n : H p = none) : Loose P w env σ p :=
  ⟨h.rs.freshF n, h.rs.freshR n, h.rs.freshP n, fun i c e1 e2 => by
    obtain ⟨a, o, e3, e4, _⟩ := h.own i c e1
    rw [e2] at e3; cases e3
    rw [n] at e4; cases e4⟩
def Wd.fz (w : Wd) (p : Addr) (o : HO) : Wd := ⟨upd w.F p o, w.R⟩
theorem Wd.fz_le (n : w.F p = none) : Wd.Le w (w.fz p o) := ⟨fun a u e => by
  show upd w.F p o a = some u
  rw [upd_ne (ne_of_none e n)]; exact e, fun _ _ e => e⟩
theorem Wd.fz_at : (w.fz p o).F p = some o := upd_same
theorem RS.freeze (h : RS k P w S H) (e : H p = some o) (f : w.F p = none) (r : ∀ n, w.R n ≠ some p) (q : P p = none) : RS k P (w.fz p o) S H where
  frz := fun a u e' => by
    by_cases ha : a = p
    · subst ha; rw [Wd.fz_at] at e'; cases e'; exact e
    · rw [show (w.fz p o).F a = w.F a from upd_ne ha] at e'; exact h.frz a u e'
  live := fun n c e' => by
    obtain ⟨a, u, e1, e2, e3, e4⟩ := h.live n c e'
    have ha : a ≠ p := fun z => r n (z ▸ e1)
    exact ⟨a, u, e1, e2, (upd_ne ha).trans e3, e4.mono (Wd.fz_le f)⟩
  bound := h.bound
  inj := h.inj
  prot := fun a u e' => by
    obtain ⟨e1, e2, e3⟩ := h.prot a u e'
    have ha : a ≠ p := fun z => by rw [z, q] at e'; cases e'
    exact ⟨e1, (upd_ne ha).trans e2, e3⟩
theorem RB.freeze (h : RB k P w env S σ H) (e : H p = some o) (L : Loose P w env σ p) : RB k P (w.fz p o) env S σ H where
  rs := h.rs.freeze e L.f L.r L.p
  len := h.len
  val := fun i d e' => let ⟨v, e1, r⟩ := h.val i d e'; ⟨v, e1, r.mono (Wd.fz_le L.f)⟩
  own := fun i c e' => by
    obtain ⟨a, u, e1, e2, e3, e4, e5, e6⟩ := h.own i c e'
    have ha : a ≠ p := fun z => L.o i c e' (z ▸ e1)
    exact ⟨a, u, e1, e2, e3.mono (Wd.fz_le L.f), (upd_ne ha).trans e4, e5, e6⟩
  sep := h.sep
  exn := fun i x e' => let ⟨a, cls, dx, e1, e2, r⟩ := h.exn i x e'; ⟨a, cls, dx, e1, e2, r.mono (Wd.fz_le L.f)⟩
theorem RS.at (h : RS k P w S H) {H' : Hp} (ke : ∀ a o, H a = some o → H' a = some o) : RS k P w S H' where
  frz := fun a u e => ke a u (h.frz a u e)
  live := fun n c e => let ⟨a, u, e1, e2, e3, e4⟩ := h.live n c e; ⟨a, u, e1, ke _ _ e2, e3, e4⟩
  bound := h.bound
  inj := h.inj
  prot := fun a u e => let ⟨e1, e2, e3⟩ := h.prot a u e; ⟨ke _ _ e1, e2, e3⟩
theorem RB.at (h : RB k P w env S σ H) {H' : Hp} (ke : ∀ a o, H a = some o → H' a = some o) : RB k P w env S σ H' :=
  ⟨h.rs.at ke, h.len, h.val, fun i c e => let ⟨a, u, e1, e2, e3⟩ := h.own i c e; ⟨a, u, e1, ke _ _ e2, e3⟩, h.sep, h.exn⟩
theorem keep_new (n : H p = none) : ∀ a u, H a = some u → upd H p o a = some u := fun a u e => (upd_ne (ne_of_none e n)).trans e
theorem RB.grow (h : RB k P w env S σ H) (n : H p = none) : RB k P (w.fz p o) env S σ (upd H p o) :=
  (h.at (keep_new n)).freeze upd_same (h.fresh n)
theorem RB.le_grow (h : RB k P w env S σ H) (n : H p = none) : Wd.Le w (w.fz p o) := Wd.fz_le (h.rs.freshF n)
theorem get_set {α : Type} {l : List α} {i j : Nat} {x y : α} (e : (l.set i x)[j]? = some y) : (j = i ∧ y = x ∧ i < l.length) ∨ (j ≠ i ∧ l[j]? = some y) := by
  by_cases h : j = i
  · subst h
    by_cases hl : j < l.length
    · rw [List.getElem?_set_self hl] at e
      exact .inl ⟨rfl, (Option.some.inj e).symm, hl⟩
    · rw [List.getElem?_eq_none (by simpa using hl)] at e; cases e
  · rw [List.getElem?_set_ne (Ne.symm h)] at e
    exact .inr ⟨h, e⟩
theorem RB.setVal (h : RB k P w env S σ H) {i : Nat} {d : D} {v : V} (r : Rep k w d v) : RB k P w (env.set i (.val d)) S (σ.set i (some v)) H where
  rs := h.rs
  len := by simpa using h.len
  val := fun j d' e => by
    rcases get_set e with ⟨rfl, e2, hl⟩ | ⟨hj, e⟩
    · cases e2; exact ⟨v, List.getElem?_set_self (by rw [h.len]; exact hl), r⟩
    · obtain ⟨v', e1, r'⟩ := h.val j d' e
      exact ⟨v', by rw [List.getElem?_set_ne (Ne.symm hj)]; exact e1, r'⟩
  own := fun j c e => by
    rcases get_set e with ⟨rfl, e2, hl⟩ | ⟨hj, e⟩
    · cases e2
    · obtain ⟨a, o, e1, e2⟩ := h.own j c e
      exact ⟨a, o, by rw [List.getElem?_set_ne (Ne.symm hj)]; exact e1, e2⟩
  sep := fun i' j c c' a e1 e2 e3 e4 => by
    rcases get_set e1 with ⟨rfl, z, hl⟩ | ⟨hi, e1⟩
    · cases z
    · rcases get_set e2 with ⟨rfl, z, hl⟩ | ⟨hj, e2⟩
      · cases z
      · rw [List.getElem?_set_ne (Ne.symm hi)] at e3
        rw [List.getElem?_set_ne (Ne.symm hj)] at e4
        exact h.sep i' j c c' a e1 e2 e3 e4
  exn := fun j x e => by
    rcases get_set e with ⟨rfl, e2, hl⟩ | ⟨hj, e⟩
    · cases e2
    · obtain ⟨a, cls, dx, e1, e2, r⟩ := h.exn j x e
      exact ⟨a, cls, dx, e1, by rw [List.getElem?_set_ne (Ne.symm hj)]; exact e2, r⟩
theorem RB.setOwn (h : RB k P w env S σ H) {i : Nat} {c : Cell} (e : H a = some o) (r : RepC k w c o) (L : Loose P w env σ a) : RB k P w (env.set i (.own c)) S (σ.set i (some (.ref a))) H where
  rs := h.rs
  len := by simpa using h.len
  val := fun j d' e => by
    rcases get_set e with ⟨rfl, e2, hl⟩ | ⟨hj, e⟩
    · cases e2
    · obtain ⟨v', e1, r'⟩ := h.val j d' e
      exact ⟨v', by rw [List.getElem?_set_ne (Ne.symm hj)]; exact e1, r'⟩
  own := fun j c' e' => by
    rcases get_set e' with ⟨rfl, e2, hl⟩ | ⟨hj, e'⟩
    · cases e2; exact ⟨a, o, List.getElem?_set_self (by rw [h.len]; exact hl), e, r, L.f, L.r, L.p⟩
    · obtain ⟨a', o', e1, e2⟩ := h.own j c' e'
      exact ⟨a', o', by rw [List.getElem?_set_ne (Ne.symm hj)]; exact e1, e2⟩
  sep := fun i' j c1 c2 b e1 e2 e3 e4 => by
    rcases get_set e1 with ⟨rfl, z, hl⟩ | ⟨hi, e1⟩
    · rcases get_set e2 with ⟨rfl, z, hl⟩ | ⟨hj, e2⟩
      · rfl
      · rw [List.getElem?_set_self (by rw [h.len]; exact hl)] at e3
        cases e3
        rw [List.getElem?_set_ne (Ne.symm hj)] at e4
        exact absurd e4 (L.o j c2 e2)
    · rename_i e1'
      rw [List.getElem?_set_ne (Ne.symm hi)] at e3
      rcases get_set e2 with ⟨rfl, z, hl⟩ | ⟨hj, e2⟩
      · rw [List.getElem?_set_self (by rw [h.len]; exact hl)] at e4
        cases e4
        exact absurd e3 (L.o i' c1 (by first | exact e1' | assumption))
      · rw [List.getElem?_set_ne (Ne.symm hj)] at e4
        exact h.sep i' j c1 c2 b e1 e2 e3 e4
  exn := fun j x e => by
    rcases get_set e with ⟨rfl, e2, hl⟩ | ⟨hj, e⟩
    · cases e2
    · obtain ⟨a, cls, dx, e1, e2, r⟩ := h.exn j x e
      exact ⟨a, cls, dx, e1, by rw [List.getElem?_set_ne (Ne.symm hj)]; exact e2, r⟩
theorem RB.setNo (h : RB k P w env S σ H) (i : Nat) : RB k P w (env.set i .no) S σ H where
  rs := h.rs
  len := by simpa using h.len
  val := fun j d' e => by
    rcases get_set e with ⟨rfl, e2, hl⟩ | ⟨hj, e⟩
    · cases e2
    · exact h.val j d' e
  own := fun j c e => by
    rcases get_set e with ⟨rfl, e2, hl⟩ | ⟨hj, e⟩
    · cases e2
    · exact h.own j c e
  sep := fun i' j c c' a e1 e2 e3 e4 => by
    rcases get_set e1 with ⟨rfl, z, hl⟩ | ⟨hi, e1⟩
    · cases z
    · rcases get_set e2 with ⟨rfl, z, hl⟩ | ⟨hj, e2⟩
      · cases z
      · exact h.sep i' j c c' a e1 e2 e3 e4
  exn := fun j x e => by
    rcases get_set e with ⟨rfl, e2, hl⟩ | ⟨hj, e⟩
    · cases e2
    · exact h.exn j x e
theorem RB.less (h : RB k P w env S σ H) {σ' : St} (hl : σ'.length = σ.length) (hs : ∀ (i : Nat) v, σ[i]? = some (some v) → (env[i]? ≠ some .no) → σ'[i]? = some (some v)) : RB k P w env S σ' H where
  rs := h.rs
  len := hl.trans h.len
  val := fun i d e => let ⟨v, e1, r⟩ := h.val i d e; ⟨v, hs i v e1 (by rw [e]; intro z; cases z), r⟩
  own := fun i c e => let ⟨a, o, e1, r⟩ := h.own i c e; ⟨a, o, hs i _ e1 (by rw [e]; intro z; cases z), r⟩
  sep := fun i j c c' a e1 e2 e3 e4 => by
    obtain ⟨a1, o1, x1, _⟩ := h.own i c e1
    obtain ⟨a2, o2, x2, _⟩ := h.own j c' e2
    have y1 := hs i _ x1 (by rw [e1]; intro z; cases z)
    have y2 := hs j _ x2 (by rw [e2]; intro z; cases z)
    rw [y1] at e3; cases e3
    rw [y2] at e4; cases e4
    exact h.sep i j c c' a e1 e2 x1 x2
  exn := fun i x e => let ⟨a, cls, dx, e1, e2, r⟩ := h.exn i x e; ⟨a, cls, dx, e1, hs i _ e2 (by rw [e]; intro z; cases z), r⟩
theorem RB.freezeOwn (h : RB k P w env S σ H) {i : Nat} {c : Cell} (e1 : env[i]? = some (.own c)) (e2 : σ[i]? = some (some (.ref a))) (e3 : H a = some o) : RB k P (w.fz a o) (env.set i .no) S σ H ∧ w.F a = none ∧ Wd.Le w (w.fz a o) := by
  obtain ⟨b, u, x1, x2, x3, x4, x5, x6⟩ := h.own i c e1
  rw [e2] at x1; cases x1
  refine ⟨(h.setNo i).freeze e3 ⟨x4, x5, x6, fun j c' y1 y2 => ?_⟩, x4, Wd.fz_le x4⟩
  rcases get_set y1 with ⟨rfl, z, _⟩ | ⟨hj, y1⟩
  · cases z
  · exact hj (h.sep j i c' c a y1 e1 y2 e2)
theorem RB.updOwn (h : RB k P w env S σ H) {i : Nat} {c c' : Cell} {o' : HO} (e1 : env[i]? = some (.own c)) (e2 : σ[i]? = some (some (.ref a))) (r : RepC k w c' o') : RB k P w (env.set i (.own c')) S σ (upd H a o') := by
  obtain ⟨b, u, x1, x2, x3, x4, x5, x6⟩ := h.own i c e1
  rw [e2] at x1; cases x1
  have hi : i < env.length := (List.getElem?_eq_some_iff.mp e1).1
  refine ⟨⟨fun b v e => ?_, fun n c1 e => ?_, h.rs.bound, h.rs.inj, fun b v e => ?_⟩, by simpa using h.len, fun j d e => ?_, fun j c1 e => ?_, fun i1 j1 c1 c2 b y1 y2 y3 y4 => ?_, fun j x e => ?_⟩
  · exact (upd_ne (ne_of_none e x4)).trans (h.rs.frz b v e)
  · obtain ⟨b, v, z1, z2, z3, z4⟩ := h.rs.live n c1 e
    exact ⟨b, v, z1, (upd_ne (fun q => x5 n (by rw [← q]; exact z1))).trans z2, z3, z4⟩
  · obtain ⟨z1, z2, z3⟩ := h.rs.prot b v e
    exact ⟨(upd_ne (ne_of_none e x6)).trans z1, z2, z3⟩
  · rcases get_set e with ⟨rfl, z, _⟩ | ⟨hj, e⟩
    · cases z
    · exact h.val j d e
  · rcases get_set e with ⟨rfl, z, _⟩ | ⟨hj, e⟩
    · cases z; exact ⟨a, o', e2, upd_same, r, x4, x5, x6⟩
    · obtain ⟨b, v, z1, z2, z3⟩ := h.own j c1 e
      refine ⟨b, v, z1, (upd_ne ?_).trans z2, z3⟩
      rintro rfl
      exact hj (h.sep j i c1 c b e e1 z1 e2)
  · have look : ∀ {j : Nat} {c1 : Cell}, (env.set i (.own c'))[j]? = some (.own c1) → ∃ c2, env[j]? = some (.own c2) := fun {j c1} e => by
      rcases get_set e with ⟨rfl, z, _⟩ | ⟨hj, e⟩
      · exact ⟨c, e1⟩
      · exact ⟨c1, e⟩
    obtain ⟨d1, q1⟩ := look y1
    obtain ⟨d2, q2⟩ := look y2
    exact h.sep i1 j1 d1 d2 b q1 q2 y3 y4
  · rcases get_set e with ⟨rfl, z, _⟩ | ⟨hj, e⟩
    · cases z
    · exact h.exn j x e
theorem RS.updS (h : RS k P w S H) {n : Nat} {c : Cell} (e : w.R n = some a) (r : RepC k w c o) : RS k P w (S.set n c) (upd H a o) where
  frz := fun b v e' => by
    obtain ⟨_, _, _, _, z, _⟩ := h.lt e
    exact (upd_ne (ne_of_none e' z)).trans (h.frz b v e')
  live := fun m c1 e' => by
    rcases get_set e' with ⟨rfl, z, _⟩ | ⟨hm, e'⟩
    · obtain ⟨_, _, _, _, q, _⟩ := h.lt e
      cases z; exact ⟨a, o, e, upd_same, q, r⟩
    · obtain ⟨b, v, z1, z2, z3, z4⟩ := h.live m c1 e'
      exact ⟨b, v, z1, (upd_ne fun q => hm (h.inj m n a (by rw [← q]; exact z1) e)).trans z2, z3, z4⟩
  bound := fun m b e' => by simpa using h.bound m b e'
  inj := h.inj
  prot := fun b v e' => by
    obtain ⟨z1, z2, z3⟩ := h.prot b v e'
    exact ⟨(upd_ne fun q => z3 n (by rw [q]; exact e)).trans z1, z2, z3⟩
theorem RB.updS (h : RB k P w env S σ H) {n : Nat} {c : Cell} (e : w.R n = some a) (r : RepC k w c o) : RB k P w env (S.set n c) σ (upd H a o) :=
  ⟨h.rs.updS e r, h.len, h.val, fun i c1 e1 => by
    obtain ⟨b, v, z1, z2, z3, z4, z5, z6⟩ := h.own i c1 e1
    exact ⟨b, v, z1, (upd_ne fun q => z5 n (by rw [q]; exact e)).trans z2, z3, z4, z5, z6⟩, h.sep, h.exn⟩
def Wd.al (w : Wd) (n : Nat) (a : Addr) : Wd := ⟨w.F, fun m => if m = n then some a else w.R m⟩
theorem RS.al_le (h : RS k P w S H) : Wd.Le w (w.al S.length a) := ⟨fun _ _ e => e, fun n b e => by
  have := h.bound n b e
  show (if n = S.length then some a else w.R n) = some b
  rw [if_neg (by omega)]; exact e⟩
theorem Wd.al_at {n : Nat} : (w.al n a).R n = some a := if_pos rfl
theorem Wd.al_of {n m : Nat} {b : Addr} (e : (w.al n a).R m = some b) : (m = n ∧ b = a) ∨ (m ≠ n ∧ w.R m = some b) := by
  by_cases hm : m = n
  · subst hm; rw [Wd.al_at] at e; exact .inl ⟨rfl, (Option.some.inj e).symm⟩
  · exact .inr ⟨hm, (if_neg hm).symm.trans e⟩
theorem RS.alloc (h : RS k P w S H) {c : Cell} (e : H a = some o) (r : RepC k w c o) (f : w.F a = none) (nr : ∀ n, w.R n ≠ some a) (np : P a = none) : RS k P (w.al S.length a) (S ++ [c]) H where
  frz := h.frz
  live := fun n c1 e' => by
    by_cases hn : n < S.length
    · rw [List.getElem?_append_left hn] at e'
      obtain ⟨b, v, z1, z2, z3, z4⟩ := h.live n c1 e'
      exact ⟨b, v, h.al_le.r n b z1, z2, z3, z4.mono h.al_le⟩
    · rw [List.getElem?_append_right (by omega)] at e'
      have hn' : n = S.length := by
        have := (List.getElem?_eq_some_iff.mp e').1
        simp at this; omega
      subst hn'
      simp at e'; subst e'
      exact ⟨a, o, Wd.al_at, e, f, r.mono h.al_le⟩
  bound := fun n b e' => by
    rcases Wd.al_of e' with ⟨rfl, _⟩ | ⟨_, e'⟩
    · simp
    · have := h.bound n b e'
      simp; omega
  inj := fun n m b e1 e2 => by
    rcases Wd.al_of e1 with ⟨x1, y1⟩ | ⟨h1, e1⟩
    · rcases Wd.al_of e2 with ⟨x2, _⟩ | ⟨_, e2⟩
      · exact x1.trans x2.symm
      · exact absurd (by rw [← y1]; exact e2) (nr m)
    · rcases Wd.al_of e2 with ⟨x2, y2⟩ | ⟨_, e2⟩
      · exact absurd (by rw [← y2]; exact e1) (nr n)
      · exact h.inj n m b e1 e2
  prot := fun b v e' => by
    obtain ⟨z1, z2, z3⟩ := h.prot b v e'
    refine ⟨z1, z2, fun n q => ?_⟩
    rcases Wd.al_of q with ⟨_, rfl⟩ | ⟨_, q⟩
    · rw [np] at e'; cases e'
    · exact z3 n q
theorem RB.alloc (h : RB k P w env S σ H) {c : Cell} (e : H a = some o) (r : RepC k w c o) (L : Loose P w env σ a) : RB k P (w.al S.length a) env (S ++ [c]) σ H :=
  ⟨h.rs.alloc e r L.f L.r L.p, h.len, fun i d e1 => let ⟨v, z, q⟩ := h.val i d e1; ⟨v, z, q.mono h.rs.al_le⟩, fun i c1 e1 => by
    obtain ⟨b, v, z1, z2, z3, z4, z5, z6⟩ := h.own i c1 e1
    refine ⟨b, v, z1, z2, z3.mono h.rs.al_le, z4, fun n q => ?_, z6⟩
    rcases Wd.al_of q with ⟨_, rfl⟩ | ⟨_, q⟩
    · exact L.o i c1 e1 z1
    · exact z5 n q, h.sep, fun i x e1 => let ⟨a, cls, dx, y1, y2, r⟩ := h.exn i x e1; ⟨a, cls, dx, y1, y2, r.mono h.rs.al_le⟩⟩
theorem RB.protect (h : RB k P w env S σ H) (e : H a = some o) (L : Loose P w env σ a) : RB k (upd P a o) w env S σ H :=
  ⟨⟨h.rs.frz, h.rs.live, h.rs.bound, h.rs.inj, fun b v q => by
    by_cases hb : b = a
    · subst hb; rw [upd_same] at q; cases q; exact ⟨e, L.f, L.r⟩
    · rw [upd_ne hb] at q; exact h.rs.prot b v q⟩, h.len, h.val, fun i c e1 => by
    obtain ⟨b, v, z1, z2, z3, z4, z5, z6⟩ := h.own i c e1
    exact ⟨b, v, z1, z2, z3, z4, z5, (upd_ne fun q => L.o i c e1 (by rw [← q]; exact z1)).trans z6⟩, h.sep, h.exn⟩
theorem RB.unprotect (h : RB k (upd P a o) w env S σ H) (n : P a = none) : RB k P w env S σ H ∧ H a = some o ∧ Loose P w env σ a := by
  obtain ⟨x1, x2, x3⟩ := h.rs.prot a o upd_same
  refine ⟨⟨⟨h.rs.frz, h.rs.live, h.rs.bound, h.rs.inj, fun b v q => h.rs.prot b v ((upd_ne (ne_of_none q n)).trans q)⟩, h.len, h.val, fun i c e1 => ?_, h.sep, h.exn⟩, x1, ⟨x2, x3, n, fun i c e1 e2 => ?_⟩⟩
  · obtain ⟨b, v, z1, z2, z3, z4, z5, z6⟩ := h.own i c e1
    refine ⟨b, v, z1, z2, z3, z4, z5, ?_⟩
    by_cases hb : b = a
    · subst hb; exact n
    · rw [upd_ne hb] at z6; exact z6
  · obtain ⟨b, v, z1, z2, z3, z4, z5, z6⟩ := h.own i c e1
    rw [e2] at z1; cases z1
    rw [upd_same] at z6; cases z6
open Classical in
noncomputable def callP (P : Hp) (env : Envr) (σ : St) (H : Hp) : Hp := fun a => if ∃ (i : Nat) (c : Cell), env[i]? = some (.own c) ∧ σ[i]? = some (some (.ref a)) then H a else P a
theorem RB.toCall (h : RB k P w env S σ H) : RS k (callP P env σ H) w S H :=
  ⟨h.rs.frz, h.rs.live, h.rs.bound, h.rs.inj, fun a o e => by
    unfold callP at e
    split at e
    · rename_i q
      obtain ⟨i, c, e1, e2⟩ := q
      obtain ⟨b, v, z1, z2, z3, z4, z5, z6⟩ := h.own i c e1
      rw [e2] at z1; cases z1
      exact ⟨e, z4, z5⟩
    · exact h.rs.prot a o e⟩
theorem RB.ofCall (h : RB k P w env S σ H) {S' : Sto} {H' : Hp} (g : RS k (callP P env σ H) w' S' H') (le : Wd.Le w w') : RB k P w' env S' σ H' := by
  have own : ∀ (i : Nat) c, env[i]? = some (.own c) → ∃ a o, σ[i]? = some (some (.ref a)) ∧ H' a = some o ∧ RepC k w' c o ∧ w'.F a = none ∧ (∀ n, w'.R n ≠ some a) ∧ P a = none := fun i c e1 => by
    obtain ⟨b, v, z1, z2, z3, z4, z5, z6⟩ := h.own i c e1
    have q : callP P env σ H b = some v := (if_pos ⟨i, c, e1, z1⟩).trans z2
    obtain ⟨y1, y2, y3⟩ := g.prot b v q
    exact ⟨b, v, z1, y1, z3.mono le, y2, y3, z6⟩
  refine ⟨⟨g.frz, g.live, g.bound, g.inj, fun a o e => ?_⟩, h.len, fun i d e => let ⟨v, z, q⟩ := h.val i d e; ⟨v, z, q.mono le⟩, own, h.sep, fun i x e => let ⟨a, cls, dx, y1, y2, r⟩ := h.exn i x e; ⟨a, cls, dx, y1, y2, r.mono le⟩⟩
  have q : callP P env σ H a = some o := by
    unfold callP
    split
    · exact (h.rs.prot a o e).1
    · exact e
  exact g.prot a o q
end
end L2.MP
end
section
set_option Elab.async false
set_option linter.all false
set_option maxRecDepth 100000
set_option maxHeartbeats 4000000
namespace L2.MP
open PySem PySem.Spec PyProof.Rows
instance : Monad M where
  pure := M.ret
  bind := M.bind
def Aft (k : Ky) (W : WX) (P : Hp) (w : Wd) {α : Type} (o : Out α) (R : α → Wd → Envr → Sto → Prop) : Prop :=
  match o with
  | .ok a env S => ∀ w', Wd.Le w w' → R a w' env S
  | .exc x env S => ∀ w' σ H cls dx, Wd.Le w w' → RB k P w' env S σ H → RepX k w' x cls dx → W cls dx σ H
  | .bad => False
section
variable {k : Ky} {W : WX} {P : Hp} {w w' : Wd} {α β : Type} {o : Out α} {R R' : α → Wd → Envr → Sto → Prop} {env : Envr} {S : Sto}
theorem Aft.up (h : Aft k W P w o R) (le : Wd.Le w w') : Aft k W P w' o R := by
  cases o with
  | ok a env S => exact fun w1 l1 => h w1 (le.trans l1)
  | exc x env S => exact fun w1 σ H cls dx l1 => h w1 σ H cls dx (le.trans l1)
  | bad => exact h
theorem Aft.imp (h : Aft k W P w o R) (hr : ∀ a w1 env S, Wd.Le w w1 → R a w1 env S → R' a w1 env S) : Aft k W P w o R' := by
  cases o with
  | ok a env S => exact fun w1 l1 => hr _ _ _ _ l1 (h w1 l1)
  | exc x env S => exact h
  | bad => exact h
theorem Aft.bind {m : M α} {f : α → M β} {R : β → Wd → Envr → Sto → Prop} (h : Aft k W P w (M.bind m f env S) R) : Aft k W P w (m env S) (fun a w1 env1 S1 => Aft k W P w1 (f a env1 S1) R) := by
  unfold M.bind at h
  cases e : m env S with
  | ok a env S => rw [e] at h; exact fun w1 l1 => h.up l1
  | exc x env S => rw [e] at h; exact h
  | bad => rw [e] at h; exact h
theorem Aft.ok {a : α} (h : Aft k W P w (.ok a env S) R) : R a w env S := h w (Wd.Le.refl w)
theorem Aft.ret {a : α} (h : Aft k W P w (M.ret a env S) R) : R a w env S := h w (Wd.Le.refl w)
theorem Aft.opt {a : Option α} (h : Aft k W P w (M.opt a env S) R) : ∃ b, a = some b ∧ Aft k W P w (M.ret b env S) R := by
  cases a with
  | none => exact h.elim
  | some b => exact ⟨b, rfl, h⟩
end
def RepO (k : Ky) (w : Wd) (σ : L2.St) : D → V → Prop
  | .own i, v => σ[i]? = some (some v)
  | d, v => Rep k w d v
theorem RepO.of {k : Ky} {w : Wd} {σ : L2.St} {d : D} {v : V} (h : Rep k w d v) : RepO k w σ d v := by
  cases d with
  | own i => exact False.elim h
  | _ => exact h
theorem RepO.up {k : Ky} {w w' : Wd} {σ : L2.St} {d : D} {v : V} (le : Wd.Le w w') (h : RepO k w σ d v) : RepO k w' σ d v := by
  cases d with
  | own i => exact h
  | _ => exact Rep.mono le _ h
def rE (k : Ky) (P : Hp) (σ : L2.St) (Q : VK) : D → Wd → Envr → Sto → Prop := fun d w env S => ∀ v H, RB k P w env S σ H → Rep k w d v → Q v H
def rO (k : Ky) (P : Hp) (σ : L2.St) (Q : VK) : D → Wd → Envr → Sto → Prop := fun d w env S => ∀ v H, RB k P w env S σ H → RepO k w σ d v → Q v H
def rF (k : Ky) (P : Hp) (σ : L2.St) (Q : VK) : Cell → Wd → Envr → Sto → Prop := fun c w env S => ∀ a o H, RB k P w env S σ H → H a = some o → RepC k w c o → Loose P w env σ a → Q (.ref a) H
def rT (k : Ky) (P : Hp) (σ : L2.St) (Q : Bool → Hp → Prop) : Bool → Wd → Envr → Sto → Prop := fun b w env S => ∀ H, RB k P w env S σ H → Q b H
def rA (k : Ky) (P : Hp) (σ : L2.St) (Q : List V → Hp → Prop) : List D → Wd → Envr → Sto → Prop := fun ds w env S => ∀ vs H, RB k P w env S σ H → Reps k w ds vs → Q vs H
def rS (k : Ky) (P : Hp) (Dn : Ends) : Flo → Wd → Envr → Sto → Prop
  | .nx, w, env, S => ∀ σ H, RB k P w env S σ H → Dn.nx σ H
  | .rt d, w, env, S => ∀ v σ H, RB k P w env S σ H → Rep k w d v → Dn.rt v H
  | .bk, w, env, S => ∀ σ H, RB k P w env S σ H → Dn.bk σ H
  | .ct, w, env, S => ∀ σ H, RB k P w env S σ H → Dn.ct σ H
def tE (k : Ky) (W : WX) (m : M D) : TE := fun σ H Q => ∃ P w env S, RB k P w env S σ H ∧ Aft k W P w (m env S) (rE k P σ Q)
def tO (k : Ky) (W : WX) (m : M D) : TE := fun σ H Q => ∃ P w env S, RB k P w env S σ H ∧ Aft k W P w (m env S) (rO k P σ Q)
def tF (k : Ky) (W : WX) (m : M Cell) : TE := fun σ H Q => ∃ P w env S, RB k P w env S σ H ∧ Aft k W P w (m env S) (rF k P σ Q)
def tTt (k : Ky) (W : WX) (m : M Bool) : TT := fun σ H Q => ∃ P w env S, RB k P w env S σ H ∧ Aft k W P w (m env S) (rT k P σ Q)
def tAs (k : Ky) (W : WX) (m : M (List D)) : TA := fun σ H Q => ∃ P w env S, RB k P w env S σ H ∧ Aft k W P w (m env S) (rA k P σ Q)
def tS (k : Ky) (W : WX) (m : M Flo) : TS := fun Dn σ H => ∃ P w env S, RB k P w env S σ H ∧ Aft k W P w (m env S) (rS k P Dn)
theorem PE.sub {X : Cx} {e : Expr} {t t' : TE} (h : PE X e t) (hs : ∀ σ H Q, t' σ H Q → t σ H Q) : PE X e t' := ⟨fun pins s σ H Q I q => h.run pins s σ H Q I (hs σ H Q q)⟩
theorem PT.sub {X : Cx} {e : Expr} {t t' : TT} (h : PT X e t) (hs : ∀ σ H Q, t' σ H Q → t σ H Q) : PT X e t' := ⟨fun pins s σ H Q I q => h.run pins s σ H Q I (hs σ H Q q)⟩
theorem PW.sub {X : Cx} {e : Expr} {t t' : TT} (h : PW X e t) (hs : ∀ σ H Q, t' σ H Q → t σ H Q) : PW X e t' := ⟨fun wh pins s σ H Q I q => h.run wh pins s σ H Q I (hs σ H Q q)⟩
theorem PA.sub {X : Cx} {es : List Expr} {t t' : TA} (h : PA X es t) (hs : ∀ σ H Q, t' σ H Q → t σ H Q) : PA X es t' := ⟨fun pos pins s σ H Q I q => h.run pos pins s σ H Q I (hs σ H Q q)⟩
theorem PS.sub {X : Cx} {e : Stmt} {t t' : TS} (h : PS X e t) (hs : ∀ Dn σ H, t' Dn σ H → t Dn σ H) : PS X e t' := ⟨fun pins s σ H Q I q => h.run pins s σ H Q I (hs Q σ H q)⟩
theorem PSs.sub {X : Cx} {e : List Stmt} {t t' : TS} (h : PSs X e t) (hs : ∀ Dn σ H, t' Dn σ H → t Dn σ H) : PSs X e t' := ⟨fun pins s σ H Q I q => h.run pins s σ H Q I (hs Q σ H q)⟩
section
variable {k : Ky} {W : WX} {P : Hp} {w w' : Wd} {env : Envr} {S : Sto} {σ : L2.St} {H : Hp} {Q : VK}
theorem tE_mk {m : M D} (I : RB k P w env S σ H) (h : Aft k W P w (m env S) (rE k P σ Q)) : tE k W m σ H Q := ⟨P, w, env, S, I, h⟩
theorem tO_mk {m : M D} (I : RB k P w env S σ H) (h : Aft k W P w (m env S) (rO k P σ Q)) : tO k W m σ H Q := ⟨P, w, env, S, I, h⟩
theorem tA_mk {m : M (List D)} {Q : List V → Hp → Prop} (I : RB k P w env S σ H) (h : Aft k W P w (m env S) (rA k P σ Q)) : tAs k W m σ H Q := ⟨P, w, env, S, I, h⟩
theorem thenE {β : Type} {m : M D} {f : D → M β} {R : β → Wd → Envr → Sto → Prop} (I : RB k P w env S σ H) (h : Aft k W P w (M.bind m f env S) R)
    (nx : ∀ d w1 env1 S1 v H1, Wd.Le w w1 → RB k P w1 env1 S1 σ H1 → Rep k w1 d v → Aft k W P w1 (f d env1 S1) R → Q v H1) : tE k W m σ H Q :=
  tE_mk I (h.bind.imp fun d w1 env1 S1 l1 q v H1 I1 r1 => nx d w1 env1 S1 v H1 l1 I1 r1 q)
theorem thenO {β : Type} {m : M D} {f : D → M β} {R : β → Wd → Envr → Sto → Prop} (I : RB k P w env S σ H) (h : Aft k W P w (M.bind m f env S) R)
    (nx : ∀ d w1 env1 S1 v H1, Wd.Le w w1 → RB k P w1 env1 S1 σ H1 → RepO k w1 σ d v → Aft k W P w1 (f d env1 S1) R → Q v H1) : tO k W m σ H Q :=
  tO_mk I (h.bind.imp fun d w1 env1 S1 l1 q v H1 I1 r1 => nx d w1 env1 S1 v H1 l1 I1 r1 q)
theorem thenA {β : Type} {m : M (List D)} {f : List D → M β} {R : β → Wd → Envr → Sto → Prop} {Q : List V → Hp → Prop} (I : RB k P w env S σ H) (h : Aft k W P w (M.bind m f env S) R)
    (nx : ∀ ds w1 env1 S1 vs H1, Wd.Le w w1 → RB k P w1 env1 S1 σ H1 → Reps k w1 ds vs → Aft k W P w1 (f ds env1 S1) R → Q vs H1) : tAs k W m σ H Q :=
  tA_mk I (h.bind.imp fun d w1 env1 S1 l1 q v H1 I1 r1 => nx d w1 env1 S1 v H1 l1 I1 r1 q)
theorem thenT {β : Type} {m : M Bool} {f : Bool → M β} {R : β → Wd → Envr → Sto → Prop} {Q : Bool → Hp → Prop} (I : RB k P w env S σ H) (h : Aft k W P w (M.bind m f env S) R)
    (nx : ∀ d w1 env1 S1 H1, Wd.Le w w1 → RB k P w1 env1 S1 σ H1 → Aft k W P w1 (f d env1 S1) R → Q d H1) : tTt k W m σ H Q :=
  ⟨P, w, env, S, I, h.bind.imp fun d w1 env1 S1 l1 q H1 I1 => nx d w1 env1 S1 H1 l1 I1 q⟩
theorem tE_tO {m : M D} (h : tO k W m σ H Q) : tE k W m σ H Q := by
  obtain ⟨P, w, env, S, I, h⟩ := h
  exact ⟨P, w, env, S, I, h.imp fun d w1 env1 S1 l1 q v H1 I1 r1 => q v H1 I1 (.of r1)⟩
end
abbrev DE (X : Cx) (k : Ky) (W : WX) (e : Expr) (m : M D) : Prop := PE X e (tE k W m)
abbrev DO (X : Cx) (k : Ky) (W : WX) (e : Expr) (m : M D) : Prop := PE X e (tO k W m)
abbrev DF (X : Cx) (k : Ky) (W : WX) (e : Expr) (m : M Cell) : Prop := PE X e (tF k W m)
abbrev DT (X : Cx) (k : Ky) (W : WX) (e : Expr) (m : M Bool) : Prop := PT X e (tTt k W m)
abbrev DA (X : Cx) (k : Ky) (W : WX) (es : List Expr) (m : M (List D)) : Prop := PA X es (tAs k W m)
abbrev DS (X : Cx) (k : Ky) (W : WX) (s : Stmt) (m : M Flo) : Prop := PS X s (tS k W m)
abbrev DSs (X : Cx) (k : Ky) (W : WX) (s : List Stmt) (m : M Flo) : Prop := PSs X s (tS k W m)
theorem frozen_rep {k : Ky} {w : Wd} {c : Cell} {d : D} {a : Addr} {o : HO} (e : frozen c = some d) (r : RepC k w c o) (f : w.F a = some o) : Rep k w d (.ref a) := by
  cases c with
  | lst l => cases e; obtain ⟨vs, rfl, r⟩ := r; exact ⟨a, vs, rfl, f, r⟩
  | dk ks vs => cases e; obtain ⟨kvs, rfl, x, r⟩ := r; exact ⟨a, kvs, rfl, f, x, r⟩
  | dt ks vs => cases e; obtain ⟨kvs, rfl, x, r⟩ := r; exact ⟨a, kvs, rfl, f, x, r⟩
  | ins c fs => cases e
section
variable {X : Cx} {k : Ky} {W : WX} {pos : Pos}
theorem set_self {α : Type} {l : List α} {i : Nat} {x : α} (e : l[i]? = some x) : l.set i x = l := by
  apply List.ext_getElem?
  intro j
  by_cases h : i = j
  · subst h; rw [List.getElem?_set_self (List.getElem?_eq_some_iff.mp e).1, e]
  · rw [List.getElem?_set_ne h]
theorem de_var {i : Nat} {x : Str} (hN : X.N[i]? = some x) (hv : Vis X.env.scope x) (hd : (x == ("__debug__" : Str)) = false) (hcd : (x == ("__classdict__" : Str)) = false) : DE X k W (.Name x pos) (dVar i) := by
  refine PE.sub (pe_var hN hv hd hcd) fun σ H Q h => ?_
  obtain ⟨P, w, env, S, I, h⟩ := h
  unfold dVar at h
  cases e : env[i]? with
  | none => rw [e] at h; exact h.elim
  | some sl =>
    rw [e] at h
    cases sl with
    | no => exact h.elim
    | exn x => exact h.elim
    | val d =>
      obtain ⟨v, e1, r⟩ := I.val i d e
      exact ⟨v, e1, h.ok v H I r⟩
    | own c =>
      obtain ⟨a, o, e1, e2, e3, e4, e5, e6⟩ := I.own i c e
      dsimp only at h
      cases ef : frozen c with
      | none => rw [ef] at h; exact h.elim
      | some d =>
        rw [ef] at h
        obtain ⟨J, f, le⟩ := I.freezeOwn e e1 e2
        have r : Rep k (w.fz a o) d (.ref a) := frozen_rep ef (e3.mono le) Wd.fz_at
        have J2 := J.setVal (i := i) r
        rw [set_self e1, set_set_same] at J2
        exact ⟨_, e1, (h.up le).ok _ H J2 r⟩
theorem do_var {i : Nat} {x : Str} (hN : X.N[i]? = some x) (hv : Vis X.env.scope x) (hd : (x == ("__debug__" : Str)) = false) (hcd : (x == ("__classdict__" : Str)) = false) : DO X k W (.Name x pos) (dPeek i) := by
  refine PE.sub (pe_var hN hv hd hcd) fun σ H Q h => ?_
  obtain ⟨P, w, env, S, I, h⟩ := h
  unfold dPeek at h
  cases e : env[i]? with
  | none => rw [e] at h; exact h.elim
  | some sl =>
    rw [e] at h
    cases sl with
    | no => exact h.elim
    | exn x => exact h.elim
    | val d =>
      obtain ⟨v, e1, r⟩ := I.val i d e
      exact ⟨v, e1, h.ok v H I (.of r)⟩
    | own c =>
      obtain ⟨a, o, e1, _⟩ := I.own i c e
      exact ⟨_, e1, h.ok _ H I e1⟩
theorem do_of {e : Expr} {m : M D} (h : DE X k W e m) : DO X k W e m := PE.sub h fun _ _ _ q => tE_tO q
theorem de_int {i j} : DE X k W (.Constant (.int i) j pos) (M.ret (.int i)) := PE.sub pe_int fun σ H Q ⟨P, w, env, S, I, h⟩ => h.ret _ H I rfl
theorem de_bl {i j} : DE X k W (.Constant (.bool i) j pos) (M.ret (.bl i)) := PE.sub pe_bl fun σ H Q ⟨P, w, env, S, I, h⟩ => h.ret _ H I rfl
theorem de_non {j} : DE X k W (.Constant .none j pos) (M.ret .non) := PE.sub pe_non fun σ H Q ⟨P, w, env, S, I, h⟩ => h.ret _ H I rfl
theorem de_str {i j} : DE X k W (.Constant (.str i) j pos) (M.ret (.str i)) := PE.sub pe_str fun σ H Q ⟨P, w, env, S, I, h⟩ => h.ret _ H I rfl
theorem da_nil : DA X k W [] dNil := PA.sub pa_nil fun σ H Q ⟨P, w, env, S, I, h⟩ => h.ret [] H I rfl
theorem da_cons {e : Expr} {es : List Expr} {a : M D} {r : M (List D)} (ha : DE X k W e a) (hr : DA X k W es r) (hs : starEach (e :: es) X.env = (false, eval e X.env) :: starEach es X.env) : DA X k W (e :: es) (dCons a r) :=
  PA.sub (pa_cons ha hr hs) fun σ H Q ⟨P, w, env, S, I, h⟩ => thenE I h fun d w1 env1 S1 v H1 l1 I1 r1 h1 =>
    thenA I1 h1 fun ds w2 env2 S2 vs H2 l2 I2 r2 h2 => h2.ret (v :: vs) H2 I2 ⟨v, vs, rfl, Rep.mono l2 d r1, r2⟩
theorem if_ok {α : Type} {c : Prop} [Decidable c] {m : M α} {P : Hp} {w : Wd} {env : Envr} {S : Sto} {R : α → Wd → Envr → Sto → Prop} (h : Aft k W P w ((if c then m else M.fail : M α) env S) R) : c ∧ Aft k W P w (m env S) R := by
  by_cases hc : c
  · rw [if_pos hc] at h; exact ⟨hc, h⟩
  · rw [if_neg hc] at h; exact h.elim
theorem de_tup {es : List Expr} {x1} {a : M (List D)} (ha : DA X k W es a) : DE X k W (.Tuple es x1 pos) (dTup a) :=
  PE.sub (pe_tup ha) fun σ H Q ⟨P, w, env, S, I, h⟩ => thenA I h fun ds w1 env1 S1 vs H1 l1 I1 r1 h1 => by
    obtain ⟨hz, h1⟩ := if_ok h1
    refine ⟨by rw [r1.length]; exact hz, fun p hp => ?_⟩
    have le := I1.le_grow (o := .tup vs) hp
    exact (h1.up le).ret _ _ (I1.grow hp) ⟨p, vs, rfl, Wd.fz_at, r1.mono le⟩
theorem RB.new {k : Ky} {P : Hp} {w : Wd} {env : Envr} {S : Sto} {σ : L2.St} {H : Hp} {p : Addr} {o : HO} (I : RB k P w env S σ H) (n : H p = none) : RB k P w env S σ (upd H p o) ∧ Loose P w env σ p := ⟨I.at (keep_new n), I.fresh n⟩
theorem df_lst {es : List Expr} {a : M (List D)} (ha : DA X k W es a) : DF X k W (.List es pos) (dLst a) :=
  PE.sub (pe_lst ha) fun σ H Q ⟨P, w, env, S, I, h⟩ => thenA I h fun ds w1 env1 S1 vs H1 l1 I1 r1 h1 => by
    obtain ⟨hz, h1⟩ := if_ok h1
    refine ⟨by rw [r1.length]; exact hz, fun p hp => ?_⟩
    obtain ⟨I2, L⟩ := I1.new (o := .lst vs) hp
    exact h1.ret p _ _ I2 upd_same ⟨vs, rfl, r1⟩ L
theorem de_fz {e : Expr} {a : M Cell} (h : DF X k W e a) : DE X k W e (dFz a) :=
  PE.sub h fun σ H Q ⟨P, w, env, S, I, h⟩ => ⟨P, w, env, S, I, h.bind.imp fun c w1 env1 S1 l1 q p o H1 I1 e1 r1 L => by
    obtain ⟨d, e, q⟩ := q.opt
    have le : Wd.Le w1 (w1.fz p o) := Wd.fz_le L.f
    exact (q.up le).ret _ _ (I1.freeze e1 L) (frozen_rep e (r1.mono le) Wd.fz_at)⟩
end
end L2.MP
end
section
set_option Elab.async false
set_option linter.all false
set_option maxRecDepth 100000
set_option maxHeartbeats 4000000
namespace L2.MP
open PySem PySem.Spec PyProof.Rows
theorem tup_once (l : Addr) (items : Array Value) (n : Nat) (dd : Option Addr) (sl : Array (Option Value)) (x : Int) (u : Tok) (c0 : (decide (x < -(2 ^ 63)) || decide (x ≥ 2 ^ 63)) = false) (c1 : (items.isEmpty || x == 1) = true) :
    Meets (Builtin.«tuple.__mul__» ⟨[.ref l, .int x u], []⟩) (fun _ R s => s.heap.get? l = some { cls := .type "tuple", dict := dd, data := .seq items n, slots := sl } ∧ R (.ok (.ret (Value.ref l))) s) :=
  .of_wp fun prog w A R s h => by
    obtain ⟨hp, g, d, tk, os⟩ := s
    obtain ⟨hl, h⟩ := h
    have f1 := AutoSeq1.idx_int
    have tc1 : (Value.type "tuple" == Value.type "tuple") = true := by decide
    wp_walk using wpAny_loadPart' hl
    repeat (first
      | (refine wpAny_ite_false (decide_eq_false (by rw [c0]; exact Bool.false_ne_true)) ?_; wp_walk using wpAny_loadPart' hl)
      | (refine wpAny_ite_true (decide_eq_true c1) ?_; wp_walk using wpAny_loadPart' hl))
    exact ⟨_, rfl, h⟩
theorem tup_none (l : Addr) (items : Array Value) (n : Nat) (dd : Option Addr) (sl : Array (Option Value)) (x : Int) (u : Tok) (c0 : (decide (x < -(2 ^ 63)) || decide (x ≥ 2 ^ 63)) = false) (c1 : (items.isEmpty || x == 1) = false) (c2 : (decide (x ≤ 0) || items.isEmpty) = true) :
    Meets (Builtin.«tuple.__mul__» ⟨[.ref l, .int x u], []⟩) (fun _ R s => s.heap.get? l = some { cls := .type "tuple", dict := dd, data := .seq items n, slots := sl } ∧
      R (.ok (.ret (Value.ref s.heap.objs.size))) { s with heap := s.heap.push { cls := Value.type "tuple", data := Data.seq #[] }, toks := s.toks }) :=
  .of_wp fun prog w A R s h => by
    obtain ⟨hp, g, d, tk, os⟩ := s
    obtain ⟨hl, h⟩ := h
    have f1 := AutoSeq1.idx_int
    wp_walk using wpAny_loadPart' hl
    repeat (first
      | (refine wpAny_ite_false (decide_eq_false (by rw [c0]; exact Bool.false_ne_true)) ?_; wp_walk using wpAny_loadPart' hl)
      | (refine wpAny_ite_false (decide_eq_false (by rw [c1]; exact Bool.false_ne_true)) ?_; wp_walk using wpAny_loadPart' hl)
      | (refine wpAny_ite_true (decide_eq_true c2) ?_; wp_walk using wpAny_loadPart' hl))
    exact ⟨_, rfl, h⟩
def rRep1 (K : PySem.W.Frag) : R2 := fun x y H Q => ∃ l k xs, x = .ref l ∧ y = .int k ∧ SqT K H l xs ∧ -(2 ^ 63) ≤ k ∧ k < 2 ^ 63 ∧ (((xs = [] ∨ k = 1) ∧ Q (.ref l) H) ∨ (xs ≠ [] ∧ k ≤ 0 ∧ ∀ p, H p = none → Q (.ref p) (upd H p (.tup []))))
section
variable {X : Cx}
theorem op_rep1 : OpR X (binaryOp .Mult) (rRep1 X.K) := by
  intro pins s σ H x y v u Q I rx ry h
  obtain ⟨l, k, xs, rfl, rfl, hT, h1, h2, q⟩ := h
  cases rx
  obtain ⟨t, rfl⟩ := ry
  obtain ⟨its, r, ⟨⟨cls, dd, data, sl⟩, ho, hc, n, hd⟩, hs⟩ := I.tuple hT
  simp only at hc hd
  subst hc hd
  have hle : its.length = xs.length := r.length.symm
  have he : its.toArray.isEmpty = xs.isEmpty := by
    cases its <;> cases xs <;> first | rfl | (simp at hle)
  have c0 : (decide (k < -(2 ^ 63)) || decide (k ≥ 2 ^ 63)) = false := by
    rw [decide_eq_false (by omega), decide_eq_false (by omega)] <;> rfl
  rcases q with ⟨hc, q⟩ | ⟨hne, hk0, q⟩
  · have c1 : (its.toArray.isEmpty || k == 1) = true := by
      rw [he]
      rcases hc with rfl | rfl
      · rfl
      · simp
    exact wpAny_binaryOp_repeat_ref (T := "tuple") (U := "int") (by decide) ⟨_, ho, rfl⟩ (fun s' => typeIs_int s' k t) noFill_tuple_mul F.fills_int_mul F.slot_int_rmul repeat_tuple F.slot_int_index.lookup
      (call_meets F.slot_int_rmul (typeIs_int s k t) F.entry_int_rmul (F.args_int_rmul_2 _ _) (int_rmul_tuple k t l its.toArray n dd sl)
        ⟨ho, rfl, ⟨_, ho, rfl⟩, call_meets F.slot_tuple_mul ⟨_, ho, rfl⟩ F.entry_tuple_mul (F.args_tuple_mul_2 _ _) (tup_once l its.toArray n dd sl k t c0 c1) ⟨ho, .ref l, H, I, rfl, q⟩⟩)
  · have c1 : (its.toArray.isEmpty || k == 1) = false := by
      rw [he]
      have : xs.isEmpty = false := by cases xs <;> first | rfl | exact absurd rfl hne
      rw [this, Bool.false_or]
      exact beq_eq_false_iff_ne.mpr (by omega)
    have c2 : (decide (k ≤ 0) || its.toArray.isEmpty) = true := by rw [decide_eq_true hk0]; rfl
    exact wpAny_binaryOp_repeat_ref (T := "tuple") (U := "int") (by decide) ⟨_, ho, rfl⟩ (fun s' => typeIs_int s' k t) noFill_tuple_mul F.fills_int_mul F.slot_int_rmul repeat_tuple F.slot_int_index.lookup
      (call_meets F.slot_int_rmul (typeIs_int s k t) F.entry_int_rmul (F.args_int_rmul_2 _ _) (int_rmul_tuple k t l its.toArray n dd sl)
        ⟨ho, rfl, ⟨_, ho, rfl⟩, call_meets F.slot_tuple_mul ⟨_, ho, rfl⟩ F.entry_tuple_mul (F.args_tuple_mul_2 _ _) (tup_none l its.toArray n dd sl k t c0 c1 c2) ⟨ho, .ref s.heap.objs.size, _, I.laid (t' := s.toks) (o := .tup []) (fun b ob q => Heap.get?_push_of_some _ q) (Nat.le_refl _) ⟨Nat.zero_le _, [], .nil, IsTup.new _ _⟩, rfl, q _ (I.hok.fresh (Nat.le_refl _))⟩⟩)
end
end L2.MP
end
section
set_option Elab.async false
set_option linter.all false
set_option maxRecDepth 100000
set_option maxHeartbeats 4000000
namespace L2.MP
open PySem PySem.Spec PyProof.Rows
def RepH (k : Ky) (w : Wd) (H : Hp) : D → V → Prop
  | .lst ds, v => ∃ a vs, v = .ref a ∧ H a = some (.lst vs) ∧ Reps k w ds vs
  | .dk ks ds, v => ∃ a kvs, v = .ref a ∧ H a = some (.dK kvs) ∧ kvs.map (·.1) = ks ∧ Reps k w ds (kvs.map (·.2))
  | .dt ks ds, v => ∃ a kvs, v = .ref a ∧ H a = some (.dT kvs) ∧ kvs.map (·.1) = ks ∧ Reps k w ds (kvs.map (·.2))
  | .own _, _ => True
  | d, v => Rep k w d v
section
variable {k : Ky} {P : Hp} {w : Wd} {env : Envr} {S : Sto} {σ : L2.St} {H : Hp} {d : D} {v : V}
theorem RepH.cell {c : Cell} {a : Addr} {o : HO} {d : D} (e : cellD c = some d) (r : RepC k w c o) (h : H a = some o) : RepH k w H d (.ref a) := by
  cases c with
  | lst l => cases e; obtain ⟨vs, rfl, r⟩ := r; exact ⟨a, vs, rfl, h, r⟩
  | dk ks vs => cases e; obtain ⟨kvs, rfl, x, r⟩ := r; exact ⟨a, kvs, rfl, h, x, r⟩
  | dt ks vs => cases e; obtain ⟨kvs, rfl, x, r⟩ := r; exact ⟨a, kvs, rfl, h, x, r⟩
  | ins c fs => cases e
theorem RB.view (I : RB k P w env S σ H) (r : RepO k w σ d v) : RepH k w H (view env S d) v := by
  cases d with
  | non => exact r
  | bl b => exact r
  | int i => exact r
  | str s => exact r
  | tup ds => exact r
  | rt ds => exact r
  | lst ds => obtain ⟨a, vs, e, q, x⟩ := r; exact ⟨a, vs, e, I.rs.frz _ _ q, x⟩
  | rl ds => exact r
  | dk ks ds => obtain ⟨a, vs, e, q, x⟩ := r; exact ⟨a, vs, e, I.rs.frz _ _ q, x⟩
  | dt ks ds => obtain ⟨a, vs, e, q, x⟩ := r; exact ⟨a, vs, e, I.rs.frz _ _ q, x⟩
  | ref n =>
    obtain ⟨a, rfl, q⟩ := r
    obtain ⟨c, o, e1, e2, e3, e4⟩ := I.rs.lt q
    have ev : MP.view env S (.ref n) = (cellD c).getD (.ref n) := by
      show (match S[n]? with
        | some c => (cellD c).getD (D.ref n)
        | none => D.ref n) = _
      rw [e1]
    rw [ev]
    cases ec : cellD c with
    | none => exact ⟨a, rfl, q⟩
    | some d => exact RepH.cell ec e4 e2
  | own i =>
    show RepH k w H (match env[i]? with
      | some (.own c) => (cellD c).getD (.own i)
      | _ => .own i) v
    split
    · rename_i c e
      obtain ⟨a, o, e1, e2, e3, _⟩ := I.own i c e
      have r : σ[i]? = some (some v) := r
      rw [e1] at r; cases r
      cases ec : cellD c with
      | none => trivial
      | some d => exact RepH.cell ec e3 e2
    · trivial
end
def Op2 (X : Cx) (r : R2) (f : D → D → Option D) : Prop :=
  ∀ (k : Ky) (P : Hp) (w : Wd) (env : Envr) (S : Sto) (σ : L2.St) (H : Hp) (x y : V) (dx dy d : D) (Q : VK), k.K = X.K → RB k P w env S σ H → RepH k w H dx x → RepH k w H dy y → f dx dy = some d →
    (∀ w' v H', Wd.Le w w' → RB k P w' env S σ H' → Rep k w' d v → Q v H') → r x y H Q
def Op1 (X : Cx) (r : V → Hp → VK → Prop) (f : D → Option D) : Prop :=
  ∀ (k : Ky) (P : Hp) (w : Wd) (env : Envr) (S : Sto) (σ : L2.St) (H : Hp) (x : V) (dx d : D) (Q : VK), k.K = X.K → RB k P w env S σ H → RepH k w H dx x → f dx = some d →
    (∀ w' v H', Wd.Le w w' → RB k P w' env S σ H' → Rep k w' d v → Q v H') → r x H Q
theorem Aft.getS {α : Type} {k : Ky} {W : WX} {P : Hp} {w : Wd} {env : Envr} {S : Sto} {R : α → Wd → Envr → Sto → Prop} {f : Envr × Sto → M α} (h : Aft k W P w (M.bind getS f env S) R) : Aft k W P w (f (env, S) env S) R := h
section
variable {X : Cx} {k : Ky} {W : WX} {a b c : Expr} {ma mb mc : M D} {pos : Pos}
theorem two {r : R2} {f : D → D → Option D} (hk : k.K = X.K) (hf : Op2 X r f) {σ : L2.St} {H : Hp} {Q : VK} (h : tE k W (dOp2 f ma mb) σ H Q) : tOp r (tO k W ma) (tO k W mb) σ H Q := by
  obtain ⟨P, w, env, S, I, h⟩ := h
  refine thenO I h fun dx w1 env1 S1 x H1 l1 I1 r1 h1 => thenO I1 h1 fun dy w2 env2 S2 y H2 l2 I2 r2 h2 => ?_
  obtain ⟨d, e, h3⟩ := h2.getS.opt
  exact hf k P w2 env2 S2 σ H2 x y _ _ d Q hk I2 (I2.view (r1.up l2)) (I2.view r2) e fun w' v H' le J q => (h3.up le).ret v H' J q
theorem de_op {op : Operator} {r : R2} {f : D → D → Option D} (hk : k.K = X.K) (ho : OpR X (binaryOp op) r) (hf : Op2 X r f) (ha : DO X k W a ma) (hb : DO X k W b mb) : DE X k W (.BinOp a op b pos) (dOp2 f ma mb) :=
  PE.sub (pe_op ho ha hb) fun σ H Q h => two hk hf h
theorem de_cmp {op : CmpOp} {r : R2} {f : D → D → Option D} (hk : k.K = X.K) (ho : OpR X (compareOp op) r) (hf : Op2 X r f) (ha : DO X k W a ma) (hb : DO X k W b mb) (hm : behindInMarks op b = false) : DE X k W (.Compare a [op] [b] pos) (dOp2 f ma mb) :=
  PE.sub (pe_cmpR ho ha hb hm) fun σ H Q h => two hk hf h
theorem de_ix {r : R2} {f : D → D → Option D} (hk : k.K = X.K) (ho : IxR X r) (hf : Op2 X r f) (ha : DO X k W a ma) (hb : DO X k W b mb) (hs : PlainIx b) : DE X k W (.Subscript a b pos) (dOp2 f ma mb) :=
  PE.sub (pe_ix ho ha hb hs) fun σ H Q h => two hk hf h
theorem de_un {op : UnaryOp} {r : V → Hp → VK → Prop} {f : D → Option D} (hk : k.K = X.K) (ho : UnR X (unaryOp op) r) (hf : Op1 X r f) (ha : DO X k W a ma) : DE X k W (.UnaryOp op a pos) (dOp1 f ma) :=
  PE.sub (pe_un ho ha) fun σ H Q ⟨P, w, env, S, I, h⟩ => thenO I h fun dx w1 env1 S1 x H1 l1 I1 r1 h1 => by
    obtain ⟨d, e, h3⟩ := h1.getS.opt
    exact hf k P w1 env1 S1 σ H1 x _ d Q hk I1 (I1.view r1) e fun w' v H' le J q => (h3.up le).ret v H' J q
theorem Op2.or {r r' : R2} {f g : D → D → Option D} (hf : Op2 X r f) (hg : Op2 X r' g) : Op2 X (fun x y H Q => r x y H Q ∨ r' x y H Q) (fun x y => (f x y).orElse fun _ => g x y) := by
  intro k P w env S σ H x y dx dy d Q hk I rx ry e q
  cases ef : f dx dy with
  | some z =>
    have e' : z = d := by simpa [ef] using e
    subst e'
    exact .inl (hf k P w env S σ H x y dx dy z Q hk I rx ry ef q)
  | none =>
    have e' : g dx dy = some d := by simpa [ef] using e
    exact .inr (hg k P w env S σ H x y dx dy d Q hk I rx ry e' q)
theorem op2_ii {C : Int → Int → Prop} {c : Int → Int → Bool} {g : Int → Int → V} {gd : Int → Int → D} (hc : ∀ i j, c i j = true → C i j) (hg : ∀ k w i j, Rep k w (gd i j) (g i j)) : Op2 X (rI C g) (iiD c gd) := by
  intro k P w env S σ H x y dx dy d Q hk I rx ry e q
  cases dx <;> cases dy <;> simp only [iiD] at e <;> try contradiction
  rename_i i j
  split at e
  · rename_i hcc
    cases e
    have rx : x = .int i := rx
    have ry : y = .int j := ry
    exact ⟨i, j, rx, ry, hc i j hcc, q w _ H (Wd.Le.refl w) I (hg k w i j)⟩
  · cases e
theorem op2_ii0 {g : Int → Int → V} {gd : Int → Int → D} (hg : ∀ k w i j, Rep k w (gd i j) (g i j)) : Op2 X (rI0 g) (iiD (fun _ _ => true) gd) := by
  intro k P w env S σ H x y dx dy d Q hk I rx ry e q
  cases dx <;> cases dy <;> simp only [iiD] at e <;> try contradiction
  rename_i i j
  simp only [if_true] at e
  cases e
  exact ⟨i, j, rx, ry, q w _ H (Wd.Le.refl w) I (hg k w i j)⟩
abbrev rAddA (X : Cx) : R2 := fun x y H Q => rI0 (fun i j => .int (i + j)) x y H Q ∨ ((∃ i j, x = .str i ∧ y = .str j ∧ i.length + j.length ≤ sizeLine ∧ Q (.str (i ++ j)) H) ∨ (rCat x y H Q ∨ rCatA X.K x y H Q))
theorem or_add : OpR X (binaryOp .Add) (rAddA X) := op_add.or (op_add_str.or (op_cat.or op_catA))
theorem reps_nil {k : Ky} {w : Wd} {ds : List D} (r : Reps k w ds []) : ds = [] := by
  cases ds with
  | nil => rfl
  | cons d ds => obtain ⟨_, _, e, _⟩ := r; cases e
theorem op2_add : Op2 X (rAddA X) addD := by
  intro k P w env S σ H x y dx dy d Q hk I rx ry e q
  cases dx <;> cases dy <;> simp only [addD] at e <;> try contradiction
  · cases e
    exact .inl ⟨_, _, rx, ry, q w _ H (Wd.Le.refl w) I rfl⟩
  · split at e
    · cases e
      exact .inr (.inl ⟨_, _, rx, ry, by assumption, q w _ H (Wd.Le.refl w) I rfl⟩)
    · cases e
  · split at e
    · cases e
      have rx' : Rep k w (.tup _) x := rx
      have ry' : Rep k w (.tup _) y := ry
      obtain ⟨p, xs, rfl, hp, r1⟩ := rx
      obtain ⟨p2, ys, rfl, hp2, r2⟩ := ry
      refine .inr (.inr (.inr ⟨p, p2, xs, ys, rfl, rfl, SqT.of (I.rs.frz _ _ hp), SqT.of (I.rs.frz _ _ hp2), by rw [r1.length, r2.length]; assumption, fun e => ?_, fun e1 e2 => ?_, fun e1 e2 t ht => ?_⟩))
      · subst e
        have ea := reps_nil r1
        subst ea
        exact q w _ H (Wd.Le.refl w) I ry'
      · subst e2
        have ea := reps_nil r2
        subst ea
        exact q w _ H (Wd.Le.refl w) I (by rw [List.append_nil]; exact rx')
      · have le := I.le_grow (o := .tup (xs ++ ys)) ht
        exact q _ _ _ le (I.grow ht) ⟨t, _, rfl, Wd.fz_at, (r1.append r2).mono le⟩
    · cases e
  · split at e
    · cases e
      obtain ⟨p, xs, rfl, hp, r1⟩ := rx
      obtain ⟨p2, ys, rfl, hp2, r2⟩ := ry
      refine .inr (.inr (.inl ⟨p, p2, xs, ys, rfl, rfl, hp, hp2, by rw [r1.length, r2.length]; assumption, fun t ht => ?_⟩))
      have le := I.le_grow (o := .lst (xs ++ ys)) ht
      exact q _ _ _ le (I.grow ht) ⟨t, _, rfl, Wd.fz_at, (r1.append r2).mono le⟩
    · cases e
theorem op2_sub : Op2 X (rI0 fun i j => .int (i - j)) subD := op2_ii0 fun _ _ _ _ => rfl
theorem op2_fdiv : Op2 X (rI CDivW fun i j => .int (i / j)) fdivD := op2_ii (fun i j h => by
  unfold divB at h
  rw [Bool.and_eq_true] at h
  exact ⟨of_decide_eq_true h.1, of_decide_eq_true h.2⟩) fun _ _ _ _ => rfl
theorem op2_mod : Op2 X (rI (fun _ j => 0 < j) fun i j => .int (i % j)) modD := op2_ii (fun i j h => of_decide_eq_true h) fun _ _ _ _ => rfl
theorem op2_pow : Op2 X (rI CPow fun i j => .int (i ^ j.toNat)) powD := op2_ii (fun i j h => by
  unfold powB at h
  rw [Bool.and_eq_true, Bool.and_eq_true] at h
  exact ⟨of_decide_eq_true h.1, of_decide_eq_true h.2.1, of_decide_eq_true h.2.2⟩) fun _ _ _ _ => rfl
def CMulX (i j : Int) : Prop := i.natAbs.log2 + j.natAbs.log2 < 1000000 ∨ j.natAbs.log2 < 63 ∨ i.natAbs.log2 < 63
theorem CMulX.ok {i j : Int} (h : CMulX i j) : IntMulOk i j := by
  have b : ∀ x : Int, x.natAbs.log2 < 63 → Builtin.Int.intBits x ≤ 64 := fun x hx => by
    unfold Builtin.Int.intBits
    split <;> omega
  rcases h with h | h | h
  · exact CMulW.ok h
  · exact IntMulOk.of_right (b _ h)
  · exact IntMulOk.of_left (b _ h)
theorem op_mulX : OpR X (binaryOp .Mult) (rI CMulX fun i j => .int (i * j)) := opI fun _ _ _ _ _ _ _ hc q => mul_int q hc.ok
def rStrM : R2 := fun x y H Q => ∃ z j, x = .str z ∧ y = .int j ∧ ((j = 1 ∧ Q (.str z) H) ∨ (j = 0 ∧ Q (.str "") H))
theorem op_strM : OpR X (binaryOp .Mult) rStrM := by
  intro pins s σ H x y v u Q I rx ry h
  obtain ⟨z, j, rfl, rfl, h⟩ := h
  obtain ⟨t, rfl⟩ := rx
  obtain ⟨t', rfl⟩ := ry
  rcases h with ⟨rfl, q⟩ | ⟨rfl, q⟩
  · exact PySem.P.mul_str (by decide) (fun _ h => by simp at h) (fun _ h => by simp at h) (by rw [if_neg (by decide), if_pos (by simp)]; exact ⟨.str z, H, I, ⟨t, rfl⟩, q⟩)
  · exact PySem.P.mul_str_none (by decide) (by decide) ⟨.str "", H, I.tok _, ⟨_, rfl⟩, q⟩
abbrev rMulA (X : Cx) : R2 := fun x y H Q => rI CMulX (fun i j => .int (i * j)) x y H Q ∨ (rRepT X.K x y H Q ∨ (rRep1 X.K x y H Q ∨ (rRep x y H Q ∨ rStrM x y H Q)))
theorem or_mul : OpR X (binaryOp .Mult) (rMulA X) := op_mulX.or (op_repT.or (op_rep1.or (op_rep.or op_strM)))
theorem Reps.rep {k : Ky} {w : Wd} {ds : List D} {vs : List V} (r : Reps k w ds vs) : ∀ n : Nat, Reps k w (List.replicate n ds).flatten (List.replicate n vs).flatten
  | 0 => rfl
  | n + 1 => by
    rw [List.replicate_succ, List.replicate_succ, List.flatten_cons, List.flatten_cons]
    exact r.append (Reps.rep r n)
theorem op2_mul : Op2 X (rMulA X) mulD := by
  intro k P w env S σ H x y dx dy d Q hk I rx ry e q
  cases dx <;> cases dy <;> simp only [mulD] at e <;> try contradiction
  · split at e
    · rename_i h
      cases e
      have h : (decide (_ < 1000000) || (decide (_ < 63) || decide (_ < 63))) = true := h
      rw [Bool.or_eq_true, Bool.or_eq_true, decide_eq_true_eq, decide_eq_true_eq, decide_eq_true_eq] at h
      exact .inl ⟨_, _, rx, ry, h, q w _ H (Wd.Le.refl w) I rfl⟩
    · cases e
  · rename_i z j
    split at e
    · rename_i h
      cases e
      exact .inr (.inr (.inr (.inr ⟨z, j, rx, ry, .inl ⟨h, q w _ H (Wd.Le.refl w) I rfl⟩⟩)))
    · split at e
      · rename_i h
        cases e
        exact .inr (.inr (.inr (.inr ⟨z, j, rx, ry, .inr ⟨h, q w _ H (Wd.Le.refl w) I rfl⟩⟩)))
      · cases e
  · split at e
    · rename_i h
      cases e
      obtain ⟨h2, h3, h4⟩ := h
      rename_i l j
      obtain ⟨p, xs, rfl, hp, r1⟩ := rx
      have nil : xs = [] → l = [] := fun e => by subst e; exact reps_nil r1
      by_cases hx : xs = []
      · have e : (List.replicate j.toNat l).flatten = l := by rw [nil hx]; simp
        rw [e] at q
        exact .inr (.inr (.inl ⟨p, _, xs, rfl, ry, SqT.of (I.rs.frz _ _ hp), h2, by omega, .inl ⟨.inl hx, q w _ H (Wd.Le.refl w) I ⟨p, xs, rfl, hp, r1⟩⟩⟩))
      by_cases h5 : 2 ≤ j
      · refine .inr (.inl ⟨p, _, xs, rfl, ry, SqT.of (I.rs.frz _ _ hp), hx, h5, h3, by rw [r1.length]; exact h4, fun t ht => ?_⟩)
        exact q _ _ _ (I.le_grow ht) (I.grow ht) ⟨t, _, rfl, Wd.fz_at, (Reps.rep r1 _).mono (I.le_grow ht)⟩
      by_cases h6 : j = 1
      · subst h6
        have e : (List.replicate (1 : Int).toNat l).flatten = l := by simp
        rw [e] at q
        exact .inr (.inr (.inl ⟨p, _, xs, rfl, ry, SqT.of (I.rs.frz _ _ hp), h2, by omega, .inl ⟨.inr rfl, q w _ H (Wd.Le.refl w) I ⟨p, xs, rfl, hp, r1⟩⟩⟩))
      · have e : (List.replicate j.toNat l).flatten = [] := by rw [show j.toNat = 0 by omega]; rfl
        rw [e] at q
        exact .inr (.inr (.inl ⟨p, _, xs, rfl, ry, SqT.of (I.rs.frz _ _ hp), h2, by omega, .inr ⟨hx, by omega, fun t ht => q _ _ _ (I.le_grow ht) (I.grow ht) ⟨t, _, rfl, Wd.fz_at, rfl⟩⟩⟩))
    · cases e
  · split at e
    · rename_i h
      cases e
      obtain ⟨h1, h2, h3⟩ := h
      obtain ⟨p, xs, rfl, hp, r1⟩ := rx
      refine .inr (.inr (.inr (.inl ⟨p, _, xs, rfl, ry, hp, h1, h2, by rw [r1.length]; exact h3, fun t ht => ?_⟩)))
      exact q _ _ _ (I.le_grow ht) (I.grow ht) ⟨t, _, rfl, Wd.fz_at, (Reps.rep r1 _).mono (I.le_grow ht)⟩
    · cases e
theorem op1_neg : Op1 X (rU fun i => .int (-i)) negD := by
  intro k P w env S σ H x dx d Q hk I rx e q
  cases dx <;> simp only [negD] at e <;> try contradiction
  cases e
  exact ⟨_, rx, q w _ H (Wd.Le.refl w) I rfl⟩
theorem op2_le : Op2 X (rI0 fun i j => .bl (decide (i ≤ j))) leD := op2_ii0 fun _ _ _ _ => rfl
theorem op2_gt : Op2 X (rI0 fun i j => .bl (decide (j < i))) gtD := op2_ii0 fun _ _ _ _ => rfl
theorem op2_ge : Op2 X (rI0 fun i j => .bl (decide (j ≤ i))) geD := op2_ii0 fun _ _ _ _ => rfl
mutual
theorem toPy_ok : ∀ (n : Nat) (d : D), okD n d = true → (toPy d).canLay0 = true ∧ (toPy d).depth ≤ n
  | n, .non, _ => ⟨rfl, Nat.zero_le _⟩
  | n, .bl _, _ => ⟨rfl, Nat.zero_le _⟩
  | n, .int _, _ => ⟨rfl, Nat.zero_le _⟩
  | n, .str x, h => by
    have h : PyData.strOk x = true := by cases n <;> exact h
    exact ⟨h, Nat.zero_le _⟩
  | 0, .lst _, h => by cases h
  | 0, .rl _, h => by cases h
  | 0, .tup _, h => by cases h
  | 0, .rt _, h => by cases h
  | n + 1, .lst xs, h => let ⟨a, b⟩ := toPys_ok n xs h; ⟨a, Nat.succ_le_succ b⟩
  | n + 1, .rl xs, h => let ⟨a, b⟩ := toPys_ok n xs h; ⟨a, Nat.succ_le_succ b⟩
  | n + 1, .tup xs, h => let ⟨a, b⟩ := toPys_ok n xs h; ⟨a, Nat.succ_le_succ b⟩
  | n + 1, .rt xs, h => let ⟨a, b⟩ := toPys_ok n xs h; ⟨a, Nat.succ_le_succ b⟩
  | n, .dk _ _, h => by cases n <;> cases h
  | n, .dt _ _, h => by cases n <;> cases h
  | n, .ref _, h => by cases n <;> cases h
  | n, .own _, h => by cases n <;> cases h
theorem toPys_ok : ∀ (n : Nat) (ds : List D), okDs n ds = true → PyData.canLayAll0 (toPys ds) = true ∧ PyData.depthAll (toPys ds) ≤ n
  | n, [], _ => ⟨rfl, Nat.zero_le _⟩
  | n, x :: xs, h => by
    have h : (okD n x && okDs n xs) = true := by cases n <;> exact h
    rw [Bool.and_eq_true] at h
    obtain ⟨a, b⟩ := toPy_ok n x h.1
    obtain ⟨a2, b2⟩ := toPys_ok n xs h.2
    exact ⟨by show (_ && _) = true; rw [a, a2]; rfl, Nat.max_le.mpr ⟨b, b2⟩⟩
end
mutual
theorem eqv_eq : ∀ (n m : Nat) (a b : D), okD n a = true → okD m b = true → PyData.eqv (toPy a) (toPy b) = eqD a b
  | n, m, a, b, ha, hb => by
    cases a with
    | non => cases b <;> first | rfl | (cases m <;> cases hb)
    | bl x => cases b <;> first | rfl | (cases m <;> cases hb)
    | int x => cases b <;> first | rfl | (cases m <;> cases hb)
    | str x => cases b <;> first | rfl | (cases m <;> cases hb)
    | tup xs =>
      cases n with
      | zero => cases ha
      | succ n =>
        cases b with
        | tup ys => cases m with
          | zero => cases hb
          | succ m => exact eqvs_eq n m xs ys ha hb
        | rt ys => cases m with
          | zero => cases hb
          | succ m => exact eqvs_eq n m xs ys ha hb
        | _ => first | rfl | (cases m <;> cases hb)
    | rt xs =>
      cases n with
      | zero => cases ha
      | succ n =>
        cases b with
        | tup ys => cases m with
          | zero => cases hb
          | succ m => exact eqvs_eq n m xs ys ha hb
        | rt ys => cases m with
          | zero => cases hb
          | succ m => exact eqvs_eq n m xs ys ha hb
        | _ => first | rfl | (cases m <;> cases hb)
    | lst xs =>
      cases n with
      | zero => cases ha
      | succ n =>
        cases b with
        | lst ys => cases m with
          | zero => cases hb
          | succ m => exact eqvs_eq n m xs ys ha hb
        | rl ys => cases m with
          | zero => cases hb
          | succ m => exact eqvs_eq n m xs ys ha hb
        | _ => first | rfl | (cases m <;> cases hb)
    | rl xs =>
      cases n with
      | zero => cases ha
      | succ n =>
        cases b with
        | lst ys => cases m with
          | zero => cases hb
          | succ m => exact eqvs_eq n m xs ys ha hb
        | rl ys => cases m with
          | zero => cases hb
          | succ m => exact eqvs_eq n m xs ys ha hb
        | _ => first | rfl | (cases m <;> cases hb)
    | _ => cases n <;> cases ha
theorem eqvs_eq : ∀ (n m : Nat) (a b : List D), okDs n a = true → okDs m b = true → PyData.eqvAll (toPys a) (toPys b) = eqDs a b
  | n, m, [], [], _, _ => rfl
  | n, m, [], y :: ys, _, _ => rfl
  | n, m, x :: xs, [], _, _ => rfl
  | n, m, x :: xs, y :: ys, ha, hb => by
    have ha : (okD n x && okDs n xs) = true := by cases n <;> exact ha
    have hb : (okD m y && okDs m ys) = true := by cases m <;> exact hb
    rw [Bool.and_eq_true] at ha hb
    show (PyData.eqv _ _ && PyData.eqvAll _ _) = (eqD x y && eqDs xs ys)
    rw [eqv_eq n m x y ha.1 hb.1, eqvs_eq n m xs ys ha.2 hb.2]
end
mutual
theorem dp_rep {k : Ky} {w : Wd} : ∀ (n : Nat) (d : D) {v : V}, okD n d = true → Rep k w d v → Dp k.K w.F v (toPy d)
  | n, .non, v, _, r => by rw [show v = _ from r]; exact .non
  | n, .bl b, v, _, r => by rw [show v = _ from r]; exact .bl b
  | n, .int i, v, _, r => by rw [show v = _ from r]; exact .int i
  | n, .str x, v, _, r => by rw [show v = _ from r]; exact .str x
  | 0, .lst _, v, h, r => by cases h
  | 0, .rl _, v, h, r => by cases h
  | 0, .tup _, v, h, r => by cases h
  | 0, .rt _, v, h, r => by cases h
  | n + 1, .lst xs, v, h, r => by obtain ⟨a, vs, rfl, f, q⟩ := r; exact .lst (SqL.of f) (dp_reps n xs h q)
  | n + 1, .rl xs, v, h, r => by obtain ⟨a, vs, rfl, f, q⟩ := r; exact .lst f (dp_reps n xs h q)
  | n + 1, .tup xs, v, h, r => by obtain ⟨a, vs, rfl, f, q⟩ := r; exact .tup (SqT.of f) (dp_reps n xs h q)
  | n + 1, .rt xs, v, h, r => by obtain ⟨a, vs, rfl, f, q⟩ := r; exact .tup f (dp_reps n xs h q)
  | n, .dk _ _, v, h, r => by cases n <;> cases h
  | n, .dt _ _, v, h, r => by cases n <;> cases h
  | n, .ref _, v, h, r => by cases n <;> cases h
  | n, .own _, v, h, r => by cases n <;> cases h
theorem dp_reps {k : Ky} {w : Wd} : ∀ (n : Nat) (ds : List D) {vs : List V}, okDs n ds = true → Reps k w ds vs → DpAll k.K w.F vs (toPys ds)
  | n, [], vs, _, r => by rw [show vs = _ from r]; exact .nil
  | n, x :: xs, vs, h, r => by
    have h : (okD n x && okDs n xs) = true := by cases n <;> exact h
    rw [Bool.and_eq_true] at h
    obtain ⟨v, t, rfl, r1, r2⟩ := r
    exact .cons (dp_rep n x h.1 r1) (dp_reps n xs h.2 r2)
end
mutual
theorem dp_mono {K : PySem.W.Frag} {F H : Hp} (h : ∀ a o, F a = some o → H a = some o) : ∀ {v : V} (d : PyData), Dp K F v d → Dp K H v d
  | _, _, .non => .non
  | _, _, .bl b => .bl b
  | _, _, .int b => .int b
  | _, _, .str b => .str b
  | _, _, .lst q a => .lst (sqL_mono h q) (dps_mono h _ a)
  | _, _, .tup q a => .tup (sqT_mono h q) (dps_mono h _ a)
theorem dps_mono {K : PySem.W.Frag} {F H : Hp} (h : ∀ a o, F a = some o → H a = some o) : ∀ {v : List V} (d : List PyData), DpAll K F v d → DpAll K H v d
  | _, _, .nil => .nil
  | _, _, .cons a b => .cons (dp_mono h _ a) (dps_mono h _ b)
end
theorem dp_repH {k : Ky} {P : Hp} {w : Wd} {env : Envr} {S : Sto} {σ : L2.St} {H : Hp} {d : D} {v : V} (I : RB k P w env S σ H) (h : okD 64 d = true) (r : RepH k w H d v) : Dp k.K H v (toPy d) := by
  cases d with
  | lst xs => obtain ⟨a, vs, rfl, f, q⟩ := r; exact .lst (SqL.of f) (dps_mono I.rs.frz _ (dp_reps 63 xs h q))
  | own i => cases h
  | dk _ _ => cases h
  | dt _ _ => cases h
  | _ => exact dp_mono I.rs.frz _ (dp_rep 64 _ h r)
def rEqW (neg : Bool) (K : PySem.W.Frag) : R2 := fun x y H Q => ∃ d e, Dp K H x d ∧ Dp K H y e ∧ d.canLay0 = true ∧ e.canLay0 = true ∧ min d.depth e.depth ≤ 64 ∧ Q (.bl (neg != PyData.eqv d e)) H
theorem op_eqW (hu : X.A.units + 64 < cLine) : OpR X (compareOp .Eq) (rEqW false X.K) := by
  intro pins s σ H x y v u Q I rx ry h
  obtain ⟨d, e, hd, he, sd, se, sm, q⟩ := h
  obtain ⟨as, r1⟩ := Dp.reads I d x v hd rx
  obtain ⟨bs, r2⟩ := Dp.reads I e y u he ry
  exact SeqAt.compareEq_reads r1 r2 sd se (by omega) ⟨.bl _, H, I, rfl, by simpa using q⟩
theorem op_neW (hu : X.A.units + 64 < cLine) : OpR X (compareOp .NotEq) (rEqW true X.K) := by
  intro pins s σ H x y v u Q I rx ry h
  obtain ⟨d, e, hd, he, sd, se, sm, q⟩ := h
  obtain ⟨as, r1⟩ := Dp.reads I d x v hd rx
  obtain ⟨bs, r2⟩ := Dp.reads I e y u he ry
  exact SeqAt.compareNe_reads r1 r2 sd se (by omega) ⟨.bl _, H, I, rfl, by simpa using q⟩
def rEqN (neg : Bool) (K : PySem.W.Frag) : R2 := fun x y H Q => ∃ a b xs, x = .ref a ∧ y = .ref b ∧ ((SqL K H a xs ∧ SqL K H b []) ∨ (SqT K H a xs ∧ SqT K H b [])) ∧ Q (.bl (neg != xs.isEmpty)) H
theorem vals_emp {xs : List V} {us : List Value} (r : Vals xs us) : xs.isEmpty = (us.toArray.size == 0) := by
  cases r <;> rfl
theorem op_eqN (hu : X.A.units < cLine) : OpR X (compareOp .Eq) (rEqN false X.K) := by
  intro pins s σ H x y v u Q I rx ry h
  obtain ⟨a, b, xs, rfl, rfl, h, q⟩ := h
  cases rx; cases ry
  rcases h with ⟨h1, h2⟩ | ⟨h1, h2⟩
  · obtain ⟨its, r1, p1, _⟩ := I.list h1
    obtain ⟨its2, r2, p2, _⟩ := I.list h2
    cases r2
    rw [vals_emp r1] at q
    by_cases hz : its.toArray.size = 0
    · have e : (false != (its.toArray.size == 0)) = true := by rw [hz]; rfl
      rw [e] at q
      refine SeqAt.eq_listAt (e := fun _ => true) p1.isList p2.isList hz hu (fun j j1 j2 => absurd j2 (by simp)) ?_
      rw [hz]
      exact ⟨.bl true, H, I, rfl, q⟩
    · have e : (false != (its.toArray.size == 0)) = false := by simp at hz ⊢; simpa using hz
      rw [e] at q
      exact SeqAt.eq_list_lengthsAt p1.isList p2.isList (by simp at hz ⊢; simpa using hz) hu ⟨.bl false, H, I, rfl, q⟩
  · obtain ⟨its, r1, p1, _⟩ := I.tuple h1
    obtain ⟨its2, r2, p2, _⟩ := I.tuple h2
    cases r2
    rw [vals_emp r1] at q
    refine SeqAt.eq_tupleAt (e := fun _ => true) (show s.heap.IsTuple a its.toArray from p1) (show s.heap.IsTuple b (#[] : Array Value) from p2) hu (fun j j1 j2 => absurd j2 (by simp)) ?_
    refine ⟨.bl _, H, I, rfl, ?_⟩
    have e : ((List.range (min its.toArray.size (#[] : Array Value).size)).all (fun _ => true) && its.toArray.size == (#[] : Array Value).size) = (false != (its.toArray.size == 0)) := by simp
    rw [e]
    exact q
theorem op_neN (hu : X.A.units < cLine) : OpR X (compareOp .NotEq) (rEqN true X.K) := by
  intro pins s σ H x y v u Q I rx ry h
  obtain ⟨a, b, xs, rfl, rfl, h, q⟩ := h
  cases rx; cases ry
  rcases h with ⟨h1, h2⟩ | ⟨h1, h2⟩
  · obtain ⟨its, r1, p1, _⟩ := I.list h1
    obtain ⟨its2, r2, p2, _⟩ := I.list h2
    cases r2
    rw [vals_emp r1] at q
    by_cases hz : its.toArray.size = 0
    · have e : (true != (its.toArray.size == 0)) = false := by rw [hz]; rfl
      rw [e] at q
      refine SeqAt.RcNeAt.lists (e := fun _ => true) p1.isList p2.isList hz hu (fun j j1 j2 => absurd j2 (by simp)) _ _ _ _ ?_
      rw [hz]
      exact ⟨.bl false, H, I, rfl, q⟩
    · have e : (true != (its.toArray.size == 0)) = true := by simp at hz ⊢; simpa using hz
      rw [e] at q
      exact SeqAt.RcNeAt.lists_lengths p1.isList p2.isList (by simp at hz ⊢; simpa using hz) hu _ _ _ _ ⟨.bl true, H, I, rfl, q⟩
  · obtain ⟨its, r1, p1, _⟩ := I.tuple h1
    obtain ⟨its2, r2, p2, _⟩ := I.tuple h2
    cases r2
    rw [vals_emp r1] at q
    refine SeqAt.RcNeAt.tuples (e := fun _ => true) (show s.heap.IsTuple a its.toArray from p1) (show s.heap.IsTuple b (#[] : Array Value) from p2) hu (fun j j1 j2 => absurd j2 (by simp)) _ _ _ _ ?_
    refine ⟨.bl _, H, I, rfl, ?_⟩
    have e : (!((List.range (min its.toArray.size (#[] : Array Value).size)).all (fun _ => true) && its.toArray.size == (#[] : Array Value).size)) = (true != (its.toArray.size == 0)) := by simp
    rw [e]
    exact q
def rEqM (neg : Bool) : R2 := fun x y H Q => ∃ a b kvs, x = .ref a ∧ y = .ref b ∧ H a = some (.dK kvs) ∧ H b = some (.dK []) ∧ Q (.bl (neg != kvs.isEmpty)) H
theorem op_eqM (hu : X.A.units < cLine) : OpR X (compareOp .Eq) (rEqM false) := by
  intro pins s σ H x y v u Q I rx ry h
  obtain ⟨a, b, kvs, rfl, rfl, h1, h2, q⟩ := h
  cases rx; cases ry
  obtain ⟨_, m1, vs, r1, d1⟩ := dk_of I.hok h1
  obtain ⟨_, m2, us, r2, d2⟩ := dk_of I.hok h2
  cases r2
  have e : (vs.length == ([] : List (Key × Value)).length && true) = (false != kvs.isEmpty) := by
    rw [← r1.length]; cases kvs <;> simp
  refine PySem.W.keq_eq (r := true) m1 m2 d1 d2 hu (fun e => ?_) ?_
  · cases vs with
    | nil => exact .nil
    | cons _ _ => simp at e
  · rw [e]
    exact ⟨.bl _, H, I, rfl, q⟩
theorem op_neM (hu : X.A.units < cLine) : OpR X (compareOp .NotEq) (rEqM true) := by
  intro pins s σ H x y v u Q I rx ry h
  obtain ⟨a, b, kvs, rfl, rfl, h1, h2, q⟩ := h
  cases rx; cases ry
  obtain ⟨_, m1, vs, r1, d1⟩ := dk_of I.hok h1
  obtain ⟨_, m2, us, r2, d2⟩ := dk_of I.hok h2
  cases r2
  have e : (!(vs.length == ([] : List (Key × Value)).length && true)) = (true != kvs.isEmpty) := by
    rw [← r1.length]; cases kvs <;> simp
  refine PySem.W.keq_ne (r := true) m1 m2 d1 d2 hu (fun e => ?_) ?_
  · cases vs with
    | nil => exact .nil
    | cons _ _ => simp at e
  · rw [e]
    exact ⟨.bl _, H, I, rfl, q⟩
abbrev rEqA (X : Cx) : R2 := fun x y H Q => rEq x y H Q ∨ (rEqW false X.K x y H Q ∨ (rEqN false X.K x y H Q ∨ rEqM false x y H Q))
abbrev rNeA (X : Cx) : R2 := fun x y H Q => rNe x y H Q ∨ (rEqW true X.K x y H Q ∨ (rEqN true X.K x y H Q ∨ rEqM true x y H Q))
theorem dp_repB {k : Ky} {P : Hp} {w : Wd} {env : Envr} {S : Sto} {σ : L2.St} {H : Hp} {d : D} {v : V} (n : Nat) (I : RB k P w env S σ H) (h : okD n d = true) (r : RepH k w H d v) : Dp k.K H v (toPy d) := by
  cases d with
  | lst xs =>
    obtain ⟨a, vs, rfl, f, q⟩ := r
    cases n with
    | zero => cases h
    | succ n => exact .lst (SqL.of f) (dps_mono I.rs.frz _ (dp_reps n xs h q))
  | own i => cases n <;> cases h
  | dk _ _ => cases n <;> cases h
  | dt _ _ => cases n <;> cases h
  | _ => exact dp_mono I.rs.frz _ (dp_rep n _ h r)
theorem reps_emp {k : Ky} {w : Wd} {ds : List D} {vs : List V} (r : Reps k w ds vs) : vs.isEmpty = ds.isEmpty := by
  cases ds with
  | nil => rw [show vs = [] from r]; rfl
  | cons d ds => obtain ⟨_, _, rfl, _⟩ := r; rfl
theorem op2_eqD (neg : Bool) : Op2 X (fun x y H Q => (scal x y = true ∧ Q (.bl (neg != decide (x = y))) H) ∨ (rEqW neg X.K x y H Q ∨ (rEqN neg X.K x y H Q ∨ rEqM neg x y H Q))) (cmpEq neg) := by
  intro k P w env S σ H x y dx dy d Q hk I rx ry e q
  have two : ∀ n m, min n m ≤ 64 → okD n dx = true → okD m dy = true → D.bl (neg != eqD dx dy) = d → rEqW neg X.K x y H Q := by
    intro n m hnm c1 c2 e
    subst e
    obtain ⟨a1, a2⟩ := toPy_ok n dx c1
    obtain ⟨b1, b2⟩ := toPy_ok m dy c2
    refine ⟨toPy dx, toPy dy, hk ▸ dp_repB n I c1 rx, hk ▸ dp_repB m I c2 ry, a1, b1, by omega, ?_⟩
    rw [eqv_eq n m dx dy c1 c2]
    exact q w _ H (Wd.Le.refl w) I rfl
  have deep : (if (okD 64 dx && okD 100000 dy) || (okD 100000 dx && okD 64 dy) then some (D.bl (neg != eqD dx dy)) else none) = some d → rEqW neg X.K x y H Q := by
    intro e
    by_cases c : ((okD 64 dx && okD 100000 dy) || (okD 100000 dx && okD 64 dy)) = true
    · rw [if_pos c] at e
      rw [Bool.or_eq_true, Bool.and_eq_true, Bool.and_eq_true] at c
      rcases c with ⟨c1, c2⟩ | ⟨c1, c2⟩
      · exact two 64 100000 (by decide) c1 c2 (Option.some.inj e)
      · exact two 100000 64 (by decide) c1 c2 (Option.some.inj e)
    · rw [if_neg c] at e; cases e
  unfold cmpEq at e
  split at e
  · cases e
    have rx : x = _ := rx
    have ry : y = _ := ry
    subst rx ry
    refine .inl ⟨rfl, ?_⟩
    rw [show decide (V.str _ = V.str _) = decide (_ = _) from decide_eq_decide.mpr ⟨fun h => V.str.inj h, fun h => by rw [h]⟩]
    exact q w _ H (Wd.Le.refl w) I rfl
  all_goals first
    | exact .inr (.inl (deep e))
    | (cases e
       obtain ⟨a1, vs1, rfl, f1, r1⟩ := rx
       obtain ⟨a2, vs2, rfl, f2, r2⟩ := ry
       cases (show vs2 = [] from r2)
       refine .inr (.inr (.inl ⟨a1, a2, vs1, rfl, rfl, .inl ⟨SqL.of f1, SqL.of f2⟩, ?_⟩))
       rw [reps_emp r1]
       exact q w _ H (Wd.Le.refl w) I rfl)
    | (cases e
       obtain ⟨a1, vs1, rfl, f1, r1⟩ := rx
       obtain ⟨a2, vs2, rfl, f2, r2⟩ := ry
       cases (show vs2 = [] from r2)
       refine .inr (.inr (.inl ⟨a1, a2, vs1, rfl, rfl, .inr ⟨SqT.of (I.rs.frz _ _ f1), SqT.of (I.rs.frz _ _ f2)⟩, ?_⟩))
       rw [reps_emp r1]
       exact q w _ H (Wd.Le.refl w) I rfl)
    | (cases e
       obtain ⟨a1, k1, rfl, f1, e1, r1⟩ := rx
       obtain ⟨a2, k2, rfl, f2, e2, r2⟩ := ry
       cases (List.map_eq_nil_iff.mp e2)
       refine .inr (.inr (.inr ⟨a1, a2, k1, rfl, rfl, f1, f2, ?_⟩))
       rw [show k1.isEmpty = (k1.map (·.1)).isEmpty by cases k1 <;> rfl, e1]
       exact q w _ H (Wd.Le.refl w) I rfl)
    | (cases e
       have rx : x = _ := rx
       have ry : y = _ := ry
       subst rx ry
       refine .inl ⟨rfl, ?_⟩
       rw [decide_eq_false (by intro z; cases z)]
       exact q w _ H (Wd.Le.refl w) I (by show _ = V.bl _; cases neg <;> rfl))
theorem or_eq (hu : X.A.units + 64 < cLine) : OpR X (compareOp .Eq) (rEqA X) := op_eq.or ((op_eqW hu).or ((op_eqN (by omega)).or (op_eqM (by omega))))
theorem or_ne (hu : X.A.units + 64 < cLine) : OpR X (compareOp .NotEq) (rNeA X) := op_ne.or ((op_neW hu).or ((op_neN (by omega)).or (op_neM (by omega))))
theorem op2_eq : Op2 X (rEqA X) (cmpEq false) := by
  intro k P w env S σ H x y dx dy d Q hk I rx ry e q
  rcases op2_eqD false k P w env S σ H x y dx dy d Q hk I rx ry e q with ⟨h1, h2⟩ | h
  · exact .inl ⟨h1, by simpa using h2⟩
  · exact .inr h
theorem op2_ne : Op2 X (rNeA X) (cmpEq true) := by
  intro k P w env S σ H x y dx dy d Q hk I rx ry e q
  rcases op2_eqD true k P w env S σ H x y dx dy d Q hk I rx ry e q with ⟨h1, h2⟩ | h
  · exact .inl ⟨h1, by simpa using h2⟩
  · exact .inr h
def rLtD (K : PySem.W.Frag) : R2 := fun x y H Q => ∃ d e, Dp K H x d ∧ Dp K H y e ∧ PySem.W.alike d e = true ∧ d ≠ .none ∧ min d.depth e.depth ≤ 64 ∧ Q (.bl (PySem.W.dataLt d e)) H
theorem op_ltD (hu : X.A.units + 64 < cLine) : OpR X (compareOp .Lt) (rLtD X.K) := by
  intro pins s σ H x y v u Q I rx ry h
  obtain ⟨d, e, hd, he, al, ne, sm, q⟩ := h
  obtain ⟨as, r1⟩ := Dp.reads I d x v hd rx
  obtain ⟨bs, r2⟩ := Dp.reads I e y u he ry
  exact PySem.W.rcLt_alike d e X.A s v u as bs r1 r2 al ne (by omega) X.prog X.w X.xe _ ⟨.bl _, H, I, rfl, q⟩
abbrev rLtA (X : Cx) : R2 := fun x y H Q => (rI0 (fun i j => .bl (decide (i < j))) x y H Q ∨ (∃ i j, x = .str i ∧ y = .str j ∧ Q (.bl (decide (i.cps.toList < j.cps.toList))) H)) ∨ rLtD X.K x y H Q
theorem op2_lt : Op2 X (rLtA X) ltD := by
  intro k P w env S σ H x y dx dy d Q hk I rx ry e q
  unfold ltD at e
  split at e
  · cases e; exact .inl (.inl ⟨_, _, rx, ry, q w _ H (Wd.Le.refl w) I rfl⟩)
  · cases e; exact .inl (.inr ⟨_, _, rx, ry, q w _ H (Wd.Le.refl w) I rfl⟩)
  · rename_i a b
    split at e
    · rename_i hc
      rw [Bool.and_eq_true, Bool.and_eq_true] at hc
      obtain ⟨h1, h2, h3⟩ := hc
      cases e
      have g1 : okD 61 (.lst a) = true := by rw [okD]; exact h1
      have g2 : okD 61 (.lst b) = true := by rw [okD]; exact h2
      exact .inr ⟨_, _, hk ▸ dp_repB 61 I g1 rx, hk ▸ dp_repB 61 I g2 ry, h3, (fun z => by simp [toPy] at z), Nat.le_trans (Nat.min_le_left _ _) (Nat.le_trans (toPy_ok 61 _ g1).2 (by decide)), q w _ H (Wd.Le.refl w) I rfl⟩
    · cases e
  · rename_i a b
    split at e
    · rename_i hc
      rw [Bool.and_eq_true, Bool.and_eq_true] at hc
      obtain ⟨h1, h2, h3⟩ := hc
      cases e
      have g1 : okD 61 (.tup a) = true := by rw [okD]; exact h1
      have g2 : okD 61 (.tup b) = true := by rw [okD]; exact h2
      exact .inr ⟨_, _, hk ▸ dp_repB 61 I g1 rx, hk ▸ dp_repB 61 I g2 ry, h3, (fun z => by simp [toPy] at z), Nat.le_trans (Nat.min_le_left _ _) (Nat.le_trans (toPy_ok 61 _ g1).2 (by decide)), q w _ H (Wd.Le.refl w) I rfl⟩
    · cases e
  · cases e
theorem or_lt (hu : X.A.units + 64 < cLine) : OpR X (compareOp .Lt) (rLtA X) := (op_lt.or op_lt_str).or (op_ltD hu)
end
end L2.MP
end
section
set_option Elab.async false
set_option linter.all false
set_option maxRecDepth 100000
set_option maxHeartbeats 4000000
namespace L2.MP
open PySem PySem.Spec PyProof.Rows
theorem seqL_of {k : Ky} {P : Hp} {w : Wd} {env : Envr} {S : Sto} {σ : L2.St} {H : Hp} {d : D} {v : V} {l : List D} (I : RB k P w env S σ H) (r : RepH k w H d v) (e : d = .lst l ∨ d = .rl l) : ∃ a vs, v = .ref a ∧ SqL k.K H a vs ∧ Reps k w l vs := by
  rcases e with rfl | rfl
  · obtain ⟨a, vs, rfl, h, q⟩ := r; exact ⟨a, vs, rfl, SqL.of h, q⟩
  · obtain ⟨a, vs, rfl, h, q⟩ := r; exact ⟨a, vs, rfl, sqL_mono I.rs.frz h, q⟩
theorem seqT_of {k : Ky} {P : Hp} {w : Wd} {env : Envr} {S : Sto} {σ : L2.St} {H : Hp} {d : D} {v : V} {l : List D} (I : RB k P w env S σ H) (r : RepH k w H d v) (e : d = .tup l ∨ d = .rt l) : ∃ a vs, v = .ref a ∧ SqT k.K H a vs ∧ Reps k w l vs := by
  rcases e with rfl | rfl
  · obtain ⟨a, vs, rfl, h, q⟩ := r; exact ⟨a, vs, rfl, SqT.of (I.rs.frz _ _ h), q⟩
  · obtain ⟨a, vs, rfl, h, q⟩ := r; exact ⟨a, vs, rfl, sqT_mono I.rs.frz h, q⟩
theorem flat_rep {k : Ky} {w : Wd} {d : D} {v : V} (h : flatD d = true) (r : Rep k w d v) : flatV v = true := by
  cases d <;> first | (rw [show v = _ from r]; rfl) | cases h
theorem flats_rep {k : Ky} {w : Wd} : ∀ {ds : List D} {vs : List V}, ds.all flatD = true → Reps k w ds vs → vs.all flatV = true
  | [], _, _, r => by rw [show _ = _ from r]; rfl
  | d :: ds, _, h, r => by
    obtain ⟨v, t, rfl, r1, r2⟩ := r
    rw [List.all_cons, Bool.and_eq_true] at h ⊢
    exact ⟨flat_rep h.1 r1, flats_rep h.2 r2⟩
theorem eqV_rep {k : Ky} {w : Wd} {d e : D} {v u : V} (h : flatD d = true) (g : flatD e = true) (r : Rep k w d v) (q : Rep k w e u) : eqV v u = eqD d e := by
  cases d with
  | non => cases e <;> first | (rw [show v = _ from r, show u = _ from q]; rfl) | cases g
  | bl b => cases e <;> first | (rw [show v = _ from r, show u = _ from q]; rfl) | cases g
  | int b => cases e <;> first | (rw [show v = _ from r, show u = _ from q]; rfl) | cases g
  | str b => cases e <;> first | (rw [show v = _ from r, show u = _ from q]; rfl) | cases g
  | _ => cases h
theorem inV_rep {k : Ky} {w : Wd} {d : D} {v : V} (h : flatD d = true) (r : Rep k w d v) : ∀ {ds : List D} {vs : List V}, ds.all flatD = true → Reps k w ds vs → inV v vs = memD d ds
  | [], _, _, q => by rw [show _ = _ from q]; rfl
  | e :: ds, _, g, q => by
    obtain ⟨u, t, rfl, r1, r2⟩ := q
    rw [List.all_cons, Bool.and_eq_true] at g
    have ih := inV_rep h r g.2 r2
    unfold inV memD at *
    rw [List.any_cons, List.any_cons, ih, eqV_rep g.1 h r1 r]
theorem flat_repH {k : Ky} {w : Wd} {H : Hp} {d : D} {v : V} (h : flatD d = true) (r : RepH k w H d v) : Rep k w d v := by
  cases d <;> first | exact r | cases h
theorem keyOf_rep {k : Ky} {w : Wd} {d : D} {v : V} {q : Key} (e : keyOf d = some q) (r : Rep k w d v) : v = kV q := by
  cases d <;> simp only [keyOf] at e <;> first | (cases e; exact r) | cases e
theorem keysOf_rep {k : Ky} {w : Wd} : ∀ {ds : List D} {vs : List V} {q : List Key}, keysOf ds = some q → Reps k w ds vs → vs = q.map kV
  | [], _, _, e, r => by rw [show _ = _ from r]; cases e; rfl
  | d :: ds, _, _, e, r => by
    obtain ⟨v, t, rfl, r1, r2⟩ := r
    unfold keysOf at e
    split at e
    · rename_i a as h1 h2
      cases e
      rw [keyOf_rep h1 r1, keysOf_rep h2 r2]; rfl
    · cases e
theorem valV_cons {κ : Type} [DecidableEq κ] {a q : κ} {v : V} {kvs : List (κ × V)} : valV ((a, v) :: kvs) q = if a = q then some v else valV kvs q := by
  unfold valV
  rw [List.find?_cons]
  by_cases h : a = q
  · simp [h]
  · simp [h]
theorem look_rep {κ : Type} [DecidableEq κ] {k : Ky} {w : Wd} {q : κ} : ∀ {kvs : List (κ × V)} {ds : List D}, Reps k w ds (kvs.map (·.2)) → (∀ d, lookK q (kvs.map (·.1)) ds = some d → ∃ v, valV kvs q = some v ∧ Rep k w d v) ∧ (lookK q (kvs.map (·.1)) ds = none → valV kvs q = none)
  | [], ds, r => by
    refine ⟨fun d e => ?_, fun _ => rfl⟩
    cases ds <;> cases e
  | (a, v) :: kvs, [], r => by
    have r : (((a, v) :: kvs).map (·.2)) = ([] : List V) := r
    cases r
  | (a, v) :: kvs, d :: ds, r => by
    obtain ⟨v', t, e, r1, r2⟩ := r
    rw [List.map_cons] at e
    obtain ⟨e1, e2⟩ := List.cons.inj e
    have e1 : v = v' := e1
    subst e1
    rw [← e2] at r2
    obtain ⟨i1, i2⟩ := look_rep (q := q) r2
    rw [List.map_cons, valV_cons]
    show (∀ d', (if a = q then some d else lookK q (kvs.map (·.1)) ds) = some d' → _) ∧ ((if a = q then some d else lookK q (kvs.map (·.1)) ds) = none → _)
    by_cases h : a = q
    · rw [if_pos h, if_pos h]
      exact ⟨fun d' e => by cases e; exact ⟨v, rfl, r1⟩, fun e => by cases e⟩
    · rw [if_neg h, if_neg h]
      exact ⟨i1, i2⟩
section
variable {X : Cx} {k : Ky} {W : WX} {a b c : Expr} {ma mb mc : M D} {pos : Pos}
abbrev rInA (X : Cx) (neg : Bool) : R2 := fun x y H Q => (∃ (c : Nat) (z : Str), x = .str ⟨#[c]⟩ ∧ y = .str z ∧ Q (.bl (neg != decide (c ∈ z.cps.toList))) H) ∨
  ((∃ p xs, y = .ref p ∧ (SqL X.K H p xs ∨ SqT X.K H p xs) ∧ flatV x = true ∧ xs.all flatV = true ∧ Q (.bl (neg != inV x xs)) H) ∨
  ((∃ d ds, Dp X.K H x d ∧ Dp X.K H y (.list ds) ∧ SeqAt.shaped d = true ∧ SeqAt.shaped (.list ds) = true ∧ Q (.bl (neg != ds.any fun z => PyData.eqv z d)) H) ∨
  ∃ a o, y = .ref a ∧ DGet H a x o ∧ Q (.bl (neg != o.isSome)) H))
theorem bxt (b : Bool) : (true != b) = !b := by cases b <;> rfl
theorem bxf (b : Bool) : (false != b) = b := by cases b <;> rfl
theorem or_in (hu : X.A.units + 65 < cLine) : OpR X (compareOp .In) (rInA X false) := by
  intro pins s σ H x y v u Q I rx ry h
  rcases h with ⟨c, z, e1, e2, q⟩ | ⟨p, xs, e1, h1, h2, h3, q⟩ | ⟨d, ds, h1, h2, h3, h4, q⟩ | ⟨a, o, rfl, h1, q⟩
  · exact op_in_sign pins s σ H x y v u Q I rx ry ⟨c, z, e1, e2, by rw [bxf] at q; exact q⟩
  · exact op_in_seq pins s σ H x y v u Q I rx ry ⟨p, xs, e1, h1, h2, h3, by rw [bxf] at q; simpa using q⟩
  · exact op_inD hu pins s σ H x y v u Q I rx ry ⟨d, ds, h1, h2, h3, h4, by rw [bxf] at q; exact q⟩
  · cases ry
    exact d_in (by omega) I h1 rx fun s' I' => ⟨.bl o.isSome, H, I', rfl, by rw [bxf] at q; exact q⟩
theorem or_notIn (hu : X.A.units + 65 < cLine) : OpR X (compareOp .NotIn) (rInA X true) := by
  intro pins s σ H x y v u Q I rx ry h
  rcases h with ⟨c, z, e1, e2, q⟩ | ⟨p, xs, e1, h1, h2, h3, q⟩ | ⟨d, ds, h1, h2, h3, h4, q⟩ | ⟨a, o, rfl, h1, q⟩
  · exact op_notIn_sign pins s σ H x y v u Q I rx ry ⟨c, z, e1, e2, by rw [bxt] at q; exact q⟩
  · exact op_notIn_seq pins s σ H x y v u Q I rx ry ⟨p, xs, e1, h1, h2, h3, by rw [bxt] at q; simpa using q⟩
  · exact op_notInD hu pins s σ H x y v u Q I rx ry ⟨d, ds, h1, h2, h3, h4, by rw [bxt] at q; exact q⟩
  · cases ry
    exact d_notIn (by omega) I h1 rx fun s' I' => ⟨.bl (!o.isSome), H, I', rfl, by rw [bxt] at q; exact q⟩
theorem any_eqv {x : D} (hx : okD 64 x = true) : ∀ (n : Nat) (ys : List D), okDs n ys = true → ((toPys ys).any fun z => PyData.eqv z (toPy x)) = memD x ys
  | n, [], _ => rfl
  | n, y :: ys, h => by
    have h : (okD n y && okDs n ys) = true := by cases n <;> exact h
    rw [Bool.and_eq_true] at h
    unfold memD
    show (PyData.eqv (toPy y) (toPy x) || _) = (eqD y x || _)
    rw [eqv_eq n 64 y x h.1 hx]
    congr 1
    exact any_eqv hx n ys h.2
theorem op2_in (neg : Bool) : Op2 X (rInA X neg) (fun x y => (inD x y).map fun b => .bl (neg != b)) := by
  intro k P w env S σ H x y dx dy d Q hk I rx ry e q
  obtain ⟨b, eb, rfl⟩ := Option.map_eq_some_iff.mp e
  have fin := q w (.bl (neg != b)) H (Wd.Le.refl w) I rfl
  have flat : ∀ {ys : List D}, (flatD dx && ys.all flatD) = true → b = memD dx ys → (∃ a vs, y = .ref a ∧ (SqL X.K H a vs ∨ SqT X.K H a vs) ∧ Reps k w ys vs) → rInA X neg x y H Q := fun {ys} c eb ⟨a, vs, e1, h1, r⟩ => by
    rw [Bool.and_eq_true] at c
    refine .inr (.inl ⟨a, vs, e1, h1, flat_rep c.1 (flat_repH c.1 rx), flats_rep c.2 r, ?_⟩)
    rw [inV_rep c.1 (flat_repH c.1 rx) c.2 r, ← eb]
    exact fin
  have dict : ∀ {q1 : Key} {ks : List Key} {vs : List D}, keyOf dx = some q1 → (lookK q1 ks vs).isSome = b → RepH k w H (.dk ks vs) y → rInA X neg x y H Q := fun {q1 ks vs} e1 e2 ry => by
    obtain ⟨a, kvs, rfl, h1, rfl, r⟩ := ry
    have ex : x = kV q1 := keyOf_rep e1 (by cases dx <;> first | exact rx | cases e1)
    subst ex
    obtain ⟨l1, l2⟩ := look_rep (q := q1) r
    refine .inr (.inr (.inr ⟨a, valV kvs q1, rfl, DGet.k h1, ?_⟩))
    have : (valV kvs q1).isSome = b := by
      rw [← e2]
      cases el : lookK q1 (kvs.map (·.1)) vs with
      | none => simp [l2 el]
      | some d => obtain ⟨v, e, _⟩ := l1 d el; simp [e]
    rw [this]
    exact fin
  unfold inD at eb
  split at eb
  · split at eb
    · rename_i z1 z2 _ c hc
      cases eb
      have ea : z1 = ⟨#[c]⟩ := by
        obtain ⟨cps⟩ := z1
        have : cps = #[c] := Array.toList_inj.mp hc
        rw [this]
      subst ea
      exact .inl ⟨c, z2, rx, ry, fin⟩
    · cases eb
  · split at eb
    · rename_i c
      obtain ⟨a, vs, e1, h1, r⟩ := seqT_of I ry (.inl rfl)
      exact flat c (Option.some.inj eb).symm ⟨a, vs, e1, .inr (hk ▸ h1), r⟩
    · cases eb
  · split at eb
    · rename_i c
      obtain ⟨a, vs, e1, h1, r⟩ := seqT_of I ry (.inr rfl)
      exact flat c (Option.some.inj eb).symm ⟨a, vs, e1, .inr (hk ▸ h1), r⟩
    · cases eb
  · rename_i ys
    split at eb
    · rename_i c
      obtain ⟨a, vs, e1, h1, r⟩ := seqL_of I ry (.inl rfl)
      exact flat c (Option.some.inj eb).symm ⟨a, vs, e1, .inl (hk ▸ h1), r⟩
    · split at eb
      · rename_i c
        cases eb
        rw [Bool.and_eq_true] at c
        obtain ⟨c1, c2⟩ := c
        obtain ⟨a1, a2⟩ := toPy_ok 64 dx c1
        obtain ⟨b1, b2⟩ := toPy_ok 64 (.lst ys) c2
        refine .inr (.inr (.inl ⟨toPy dx, toPys ys, hk ▸ dp_repH I c1 rx, hk ▸ dp_repH (d := .lst ys) I c2 ry, ?_, ?_, ?_⟩))
        · unfold SeqAt.shaped; rw [a1, decide_eq_true a2]; rfl
        · unfold SeqAt.shaped; exact (by rw [show (PyData.list (toPys ys)) = toPy (.lst ys) from rfl, b1, decide_eq_true b2]; rfl)
        · rw [any_eqv c1 63 ys c2]
          exact fin
      · cases eb
  · split at eb
    · rename_i c
      obtain ⟨a, vs, e1, h1, r⟩ := seqL_of I ry (.inr rfl)
      exact flat c (Option.some.inj eb).symm ⟨a, vs, e1, .inl (hk ▸ h1), r⟩
    · cases eb
  · obtain ⟨q1, e1, e2⟩ := Option.map_eq_some_iff.mp eb
    exact dict e1 e2 ry
  · obtain ⟨q1, e1, e2⟩ := Option.map_eq_some_iff.mp eb
    obtain ⟨a, kvs, rfl, h1, rfl, r⟩ := ry
    obtain ⟨p, us, rfl, h2, r2⟩ := rx
    have ex := keysOf_rep e1 r2
    subst ex
    obtain ⟨l1, l2⟩ := look_rep (q := q1) r
    refine .inr (.inr (.inr ⟨a, valV kvs q1, rfl, DGet.t h1 (I.rs.frz _ _ h2), ?_⟩))
    have : (valV kvs q1).isSome = b := by
      rw [← e2]
      cases el : lookK q1 (kvs.map (·.1)) _ with
      | none => simp [l2 el]
      | some d => obtain ⟨v, e, _⟩ := l1 d el; simp [e]
    rw [this]
    exact fin
  · cases eb
end
end L2.MP
end
section
set_option Elab.async false
set_option linter.all false
set_option maxRecDepth 100000
set_option maxHeartbeats 4000000
namespace L2.MP
open PySem PySem.Spec PyProof.Rows
section
variable {X : Cx} {k : Ky} {W : WX} {a b c : Expr} {ma mb mc : M D} {pos : Pos}
abbrev rIsA (neg : Bool) : R2 := fun x y H Q => (y = .non ∧ Q (.bl (neg != decide (x = .non))) H) ∨ (∃ a b, x = .bl a ∧ y = .bl b ∧ Q (.bl (neg != decide (a = b))) H)
theorem or_is : OpR X (compareOp .Is) (rIsA false) := by
  intro pins s σ H x y v u Q I rx ry h
  rcases h with ⟨e, q⟩ | ⟨a, b, e1, e2, q⟩
  · exact op_isN pins s σ H x y v u Q I rx ry ⟨e, by rw [bxf] at q; exact q⟩
  · exact op_is_bl pins s σ H x y v u Q I rx ry ⟨a, b, e1, e2, by rw [bxf] at q; exact q⟩
theorem or_isnot : OpR X (compareOp .IsNot) (rIsA true) := by
  intro pins s σ H x y v u Q I rx ry h
  rcases h with ⟨e, q⟩ | ⟨a, b, e1, e2, q⟩
  · exact op_notN pins s σ H x y v u Q I rx ry ⟨e, by rw [bxt] at q; exact q⟩
  · exact op_isnot_bl pins s σ H x y v u Q I rx ry ⟨a, b, e1, e2, by rw [bxt] at q; exact q⟩
theorem repH_ne_non {k : Ky} {w : Wd} {H : Hp} {d : D} {v : V} (r : RepH k w H d v) (h : d ≠ .non) (h2 : ∀ i, d ≠ .own i) : v ≠ .non := by
  intro e
  subst e
  cases d with
  | non => exact h rfl
  | own i => exact h2 i rfl
  | bl b => cases (show V.non = _ from r)
  | int b => cases (show V.non = _ from r)
  | str b => cases (show V.non = _ from r)
  | ref n => obtain ⟨a, e, _⟩ := r; cases e
  | _ => obtain ⟨a, vs, e, _⟩ := r; cases e
theorem op2_is (neg : Bool) : Op2 X (rIsA neg) (isD neg) := by
  intro k P w env S σ H x y dx dy d Q hk I rx ry e q
  unfold isD at e
  split at e
  · cases e
    exact .inr ⟨_, _, rx, ry, q w _ H (Wd.Le.refl w) I rfl⟩
  · have ry : y = .non := ry
    refine .inl ⟨ry, ?_⟩
    split at e
    · cases e
      have rx : x = .non := rx
      subst rx
      exact q w _ H (Wd.Le.refl w) I rfl
    · cases e
    · cases e
      rename_i h1 h2
      have := repH_ne_non rx (by intro z; exact h1 z) (fun i z => h2 i z)
      rw [decide_eq_false this]
      exact q w _ H (Wd.Le.refl w) I rfl
  · cases e
theorem atI_rep {k : Ky} {w : Wd} {ds : List D} {vs : List V} {i : Int} {d : D} (r : Reps k w ds vs) (e : atI ds i = some d) : ∃ v, atI vs i = some v ∧ Rep k w d v := by
  unfold atI at *
  obtain ⟨j, e1, e2⟩ := Option.bind_eq_some_iff.mp e
  obtain ⟨v, e3, r2⟩ := r.getD e2
  exact ⟨v, by rw [r.length, e1]; exact e3, r2⟩
def rIxDict : R2 := fun x y H Q => ∃ a v, x = .ref a ∧ DGet H a y (some v) ∧ Q v H
theorem ix_dict (hu : X.A.units + 1 < cLine) : IxR X rIxDict := by
  intro value slice pins s σ H x y v u Q I rx ry h hs
  obtain ⟨a, z, rfl, g, q⟩ := h
  cases rx
  exact tail_any (ops := [.ref a, u]) (dict_typeIs I g) PySem.F.slot_dict_getitem.lookup (d_getItem hu I g ry fun w' s' I' rw' => ⟨z, H, I', rw', q⟩) hs
abbrev rIxA (X : Cx) : R2 := fun x y H Q => rIx X.K x y H Q ∨ rIxDict x y H Q
theorem or_ix (hu : X.A.units + 1 < cLine) : IxR X (rIxA X) := ix_seq.or (ix_dict hu)
theorem op2_ix : Op2 X (rIxA X) ixD := by
  intro k P w env S σ H x y dx dy d Q hk I rx ry e q
  have stay : ∀ {v : V}, Rep k w d v → Q v H := fun r => q w _ H (Wd.Le.refl w) I r
  unfold ixD at e
  split at e
  · obtain ⟨a, vs, rfl, h, r⟩ := seqL_of I rx (.inl rfl)
    obtain ⟨v, e1, r1⟩ := atI_rep r e
    exact .inl (.inl ⟨a, vs, _, v, rfl, ry, hk ▸ h, e1, stay r1⟩)
  · obtain ⟨a, vs, rfl, h, r⟩ := seqL_of I rx (.inr rfl)
    obtain ⟨v, e1, r1⟩ := atI_rep r e
    exact .inl (.inl ⟨a, vs, _, v, rfl, ry, hk ▸ h, e1, stay r1⟩)
  · obtain ⟨a, vs, rfl, h, r⟩ := seqT_of I rx (.inl rfl)
    obtain ⟨v, e1, r1⟩ := atI_rep r e
    exact .inl (.inr (.inl ⟨a, vs, _, v, rfl, ry, hk ▸ h, e1, stay r1⟩))
  · obtain ⟨a, vs, rfl, h, r⟩ := seqT_of I rx (.inr rfl)
    obtain ⟨v, e1, r1⟩ := atI_rep r e
    exact .inl (.inr (.inl ⟨a, vs, _, v, rfl, ry, hk ▸ h, e1, stay r1⟩))
  · split at e
    · rename_i hz
      obtain ⟨c, e1, rfl⟩ := Option.map_eq_some_iff.mp e
      exact .inl (.inr (.inr ⟨_, _, c, rx, ry, hz, e1, stay rfl⟩))
    · cases e
  · obtain ⟨q1, e1, e2⟩ := Option.bind_eq_some_iff.mp e
    obtain ⟨a, kvs, rfl, h1, rfl, r⟩ := rx
    have ex : y = kV q1 := keyOf_rep e1 (by cases dy <;> first | exact ry | cases e1)
    subst ex
    obtain ⟨v, e3, r3⟩ := (look_rep (q := q1) r).1 d e2
    exact .inr ⟨a, v, rfl, e3 ▸ DGet.k h1, stay r3⟩
  · obtain ⟨q1, e1, e2⟩ := Option.bind_eq_some_iff.mp e
    obtain ⟨a, kvs, rfl, h1, rfl, r⟩ := rx
    obtain ⟨p, us, rfl, h2, r2⟩ := ry
    have ex := keysOf_rep e1 r2
    subst ex
    obtain ⟨v, e3, r3⟩ := (look_rep (q := q1) r).1 d e2
    exact .inr ⟨a, v, rfl, e3 ▸ DGet.t h1 (I.rs.frz _ _ h2), stay r3⟩
  · cases e
abbrev rSlAll (X : Cx) : V → Option Int → Option Int → Hp → VK → Prop := fun x lo hi H Q => rSlL X.K x lo hi H Q ∨ (rSlA X.K x lo hi H Q ∨ rSlS x lo hi H Q)
theorem or_sl : SlR X (rSlAll X) := sl_list.or (sl_tupA.or sl_str)
theorem cut_rep {k : Ky} {w : Wd} {ds : List D} {vs : List V} (r : Reps k w ds vs) (lo hi : Option Int) : Reps k w (cutD ds lo hi) (cutV vs lo hi) := by
  unfold cutD cutV
  rw [r.length]
  exact (r.drop _).take _
theorem sl_ok {k : Ky} {P : Hp} {w : Wd} {env : Envr} {S : Sto} {σ : L2.St} {H : Hp} {x : V} {dx d : D} {lo hi : Option Int} {Q : VK} (hk : k.K = X.K) (I : RB k P w env S σ H) (rx : RepH k w H dx x) (e : slD dx lo hi = some d)
    (q : ∀ w' v H', Wd.Le w w' → RB k P w' env S σ H' → Rep k w' d v → Q v H') : rSlAll X x lo hi H Q := by
  have lists : ∀ {l : List D}, (∃ a vs, x = .ref a ∧ SqL k.K H a vs ∧ Reps k w l vs) → d = .lst (cutD l lo hi) → rSlAll X x lo hi H Q := fun {l} ⟨a, vs, e1, h, r⟩ ed => by
    subst ed
    refine .inl ⟨a, vs, e1, hk ▸ h, fun p hp => ?_⟩
    have le := I.le_grow (o := .lst (cutV vs lo hi)) hp
    exact q _ _ _ le (I.grow hp) ⟨p, _, rfl, Wd.fz_at, (cut_rep r lo hi).mono le⟩
  unfold slD at e
  split at e
  · exact lists (seqL_of I rx (.inl rfl)) (Option.some.inj e).symm
  · exact lists (seqL_of I rx (.inr rfl)) (Option.some.inj e).symm
  · rename_i l
    cases e
    have rx' : Rep k w (.tup l) x := rx
    obtain ⟨a, vs, rfl, h, r⟩ := rx
    refine .inr (.inl ⟨a, vs, rfl, SqT.of (I.rs.frz _ _ h), fun ⟨e1, e2⟩ => ?_, fun _ p hp => ?_⟩)
    · have : cutD l lo hi = l := by
        unfold cutD
        rw [← r.length, e1, e2, r.length]
        simp
      rw [this] at q
      exact q w _ H (Wd.Le.refl w) I rx'
    · have le := I.le_grow (o := .tup (cutV vs lo hi)) hp
      exact q _ _ _ le (I.grow hp) ⟨p, _, rfl, Wd.fz_at, (cut_rep r lo hi).mono le⟩
  · split at e
    · rename_i hz
      cases e
      exact .inr (.inr ⟨_, rx, hz, q w _ H (Wd.Le.refl w) I rfl⟩)
    · cases e
  · cases e
def rP (k : Ky) (P : Hp) (σ : L2.St) (Q : Option Int → Hp → Prop) : Option Int → Wd → Envr → Sto → Prop := fun i w env S => ∀ H, RB k P w env S σ H → Q i H
def tPt (k : Ky) (W : WX) (m : M (Option Int)) : TO := fun σ H Q => ∃ P w env S, RB k P w env S σ H ∧ Aft k W P w (m env S) (rP k P σ Q)
theorem po_sub {e : Option Expr} {t t' : TO} (h : PO X e t) (hs : ∀ σ H Q, t' σ H Q → t σ H Q) : PO X e t' := ⟨fun pins s σ H Q I q => h.run pins s σ H Q I (hs σ H Q q)⟩
theorem dp_none : PO X none (tPt k W (dPart none)) := po_sub po_none fun σ H Q ⟨P, w, env, S, I, h⟩ => h.ret H I
theorem dp_some (ha : DE X k W a ma) : PO X (some a) (tPt k W (dPart (some ma))) := po_sub (po_some ha) fun σ H Q ⟨P, w, env, S, I, h⟩ => thenE I h fun d w1 env1 S1 v H1 l1 I1 r1 h1 => by
  cases d <;> first | exact h1.elim | skip
  exact ⟨_, r1, h1.ret H1 I1⟩
theorem thenP {β : Type} {P : Hp} {w : Wd} {env : Envr} {S : Sto} {σ : L2.St} {H : Hp} {m : M (Option Int)} {f : Option Int → M β} {R : β → Wd → Envr → Sto → Prop} {Q : Option Int → Hp → Prop} (I : RB k P w env S σ H) (h : Aft k W P w (M.bind m f env S) R)
    (nx : ∀ i w1 env1 S1 H1, Wd.Le w w1 → RB k P w1 env1 S1 σ H1 → Aft k W P w1 (f i env1 S1) R → Q i H1) : tPt k W m σ H Q :=
  ⟨P, w, env, S, I, h.bind.imp fun d w1 env1 S1 l1 q H1 I1 => nx d w1 env1 S1 H1 l1 I1 q⟩
theorem de_sl {lo hi : Option Expr} {ml mh : Option (M D)} {p2 : Pos} (hk : k.K = X.K) (ha : DO X k W a ma) (hl : PO X lo (tPt k W (dPart ml))) (hh : PO X hi (tPt k W (dPart mh))) : DE X k W (.Subscript a (.Slice lo hi none p2) pos) (dSl ma ml mh) :=
  PE.sub (pe_slice or_sl ha hl hh) fun σ H Q ⟨P, w, env, S, I, h⟩ => thenO I h fun dx w1 env1 S1 x H1 l1 I1 r1 h1 => thenP I1 h1 fun l w2 env2 S2 H2 l2 I2 h2 => thenP I2 h2 fun u w3 env3 S3 H3 l3 I3 h3 => by
    obtain ⟨d, e, h4⟩ := h3.getS.opt
    exact sl_ok hk I3 (I3.view ((r1.up l2).up l3)) e fun w' v H' le J q => (h4.up le).ret v H' J q
theorem df_sl {lo hi : Option Expr} {ml mh : Option (M D)} {p2 : Pos} (hk : k.K = X.K) (ha : DO X k W a ma) (hl : PO X lo (tPt k W (dPart ml))) (hh : PO X hi (tPt k W (dPart mh))) : DF X k W (.Subscript a (.Slice lo hi none p2) pos) (dSlF ma ml mh) :=
  PE.sub (pe_slice sl_list ha hl hh) fun σ H Q ⟨P, w, env, S, I, h⟩ => thenO I h fun dx w1 env1 S1 x H1 l1 I1 r1 h1 => thenP I1 h1 fun l w2 env2 S2 H2 l2 I2 h2 => thenP I2 h2 fun u w3 env3 S3 H3 l3 I3 h3 => by
    obtain ⟨d, e, h4⟩ := h3.getS.opt
    have rx := I3.view ((r1.up l2).up l3)
    have : ∃ ds, (view env3 S3 dx = .lst ds ∨ view env3 S3 dx = .rl ds) ∧ d = .lst (cutD ds l u) := by
      unfold slF at e
      split at e
      · rename_i z; cases e; exact ⟨_, .inl (by assumption), rfl⟩
      · rename_i z; cases e; exact ⟨_, .inr (by assumption), rfl⟩
      · cases e
    obtain ⟨ds, e1, rfl⟩ := this
    obtain ⟨p, vs, rfl, hs, r⟩ := seqL_of I3 rx e1
    refine ⟨p, vs, rfl, hk ▸ hs, fun t ht => ?_⟩
    obtain ⟨J, L⟩ := I3.new (o := .lst (cutV vs l u)) ht
    exact h4.ret t _ _ J upd_same ⟨_, rfl, cut_rep r l u⟩ L
theorem chain_ok {r r' : R2} {f g : D → D → Option D} (hk : k.K = X.K) (hf : Op2 X r f) (hg : Op2 X r' g) {σ : L2.St} {H : Hp} {Q : VK} (h : tE k W (dChain f g ma mb mc) σ H Q) : tChain r r' (tO k W ma) (tO k W mb) (tO k W mc) σ H Q := by
  obtain ⟨P, w, env, S, I, h⟩ := h
  refine thenO I h fun dx w1 env1 S1 x H1 l1 I1 r1 h1 => thenO I1 h1 fun dy w2 env2 S2 y H2 l2 I2 r2 h2 => ?_
  obtain ⟨d, e, h3⟩ := h2.getS.bind.opt
  refine hf k P w2 env2 S2 σ H2 x y _ _ d _ hk I2 (I2.view (r1.up l2)) (I2.view r2) e fun w' v H' le J q => ?_
  have h4 := (h3.up le).ret
  cases d with
  | bl t =>
    have q : v = .bl t := q
    refine ⟨t, q, ?_⟩
    cases t with
    | false => exact iteF (h4.ret _ H' J rfl)
    | true =>
      refine iteT (thenO J h4 fun du w5 env5 S5 u H5 l5 I5 r5 h5 => ?_)
      obtain ⟨d2, e2, h6⟩ := h5.getS.opt
      exact hg k P w5 env5 S5 σ H5 y u _ _ d2 Q hk I5 (I5.view ((r2.up le).up l5)) (I5.view r5) e2 fun w' v H' le J q => (h6.up le).ret v H' J q
  | _ => exact h4.elim
theorem de_chain {op op' : CmpOp} {r r' : R2} {f g : D → D → Option D} (hk : k.K = X.K) (ho : OpR X (compareOp op) r) (ho' : OpR X (compareOp op') r') (hf : Op2 X r f) (hg : Op2 X r' g) (ha : DO X k W a ma) (hb : DO X k W b mb) (hc : DO X k W c mc) (hm : lastMarks [op, op'] [b, c] = false) :
    DE X k W (.Compare a [op, op'] [b, c] pos) (dChain f g ma mb mc) := PE.sub (pe_chain ho ho' ha hb hc hm) fun σ H Q h => chain_ok hk hf hg h
theorem thenBl {β : Type} {P : Hp} {w : Wd} {env : Envr} {S : Sto} {σ : L2.St} {H : Hp} {f : Bool → M β} {R : β → Wd → Envr → Sto → Prop} {Q : VK} (I : RB k P w env S σ H) (h : Aft k W P w (M.bind (dBl ma) f env S) R)
    (nx : ∀ t w1 env1 S1 H1, Wd.Le w w1 → RB k P w1 env1 S1 σ H1 → Aft k W P w1 (f t env1 S1) R → Q (.bl t) H1) : tE k W ma σ H Q :=
  tE_mk I (h.bind.bind.imp fun d w1 env1 S1 l1 q v H1 I1 r1 => by
    cases d <;> first | exact q.elim | skip
    rw [show v = _ from r1]
    exact nx _ w1 env1 S1 H1 l1 I1 q.ret)
variable {rest : List Expr}
theorem de_one {op} (h : DE X k W a ma) : DE X k W (.BoolOp op [a] pos) ma := pe_one h
theorem de_and (ha : DE X k W a ma) (hb : DE X k W (.BoolOp .And (b :: rest) pos) mb) : DE X k W (.BoolOp .And (a :: b :: rest) pos) (dAnd ma mb) :=
  PE.sub (pe_and ha hb) fun σ H Q ⟨P, w, env, S, I, h⟩ => thenBl I h fun t w1 env1 S1 H1 l1 I1 h1 => by
    refine ⟨t, rfl, ?_⟩
    cases t with
    | true => exact iteT ⟨P, w1, env1, S1, I1, h1⟩
    | false => exact iteF (h1.ret _ H1 I1 rfl)
theorem de_or (ha : DE X k W a ma) (hb : DE X k W (.BoolOp .Or (b :: rest) pos) mb) : DE X k W (.BoolOp .Or (a :: b :: rest) pos) (dOr ma mb) :=
  PE.sub (pe_or ha hb) fun σ H Q ⟨P, w, env, S, I, h⟩ => thenBl I h fun t w1 env1 S1 H1 l1 I1 h1 => by
    refine ⟨t, rfl, ?_⟩
    cases t with
    | true => exact iteT (h1.ret _ H1 I1 rfl)
    | false => exact iteF ⟨P, w1, env1, S1, I1, h1⟩
theorem de_not (ha : DE X k W a ma) : DE X k W (.UnaryOp .Not a pos) (dNot ma) :=
  PE.sub (pe_not ha) fun σ H Q ⟨P, w, env, S, I, h⟩ => thenBl I h fun t w1 env1 S1 H1 l1 I1 h1 => ⟨t, rfl, h1.ret _ H1 I1 rfl⟩
theorem de_if {mt : M Bool} (hc : DT X k W c mt) (ha : DE X k W a ma) (hb : DE X k W b mb) : DE X k W (.IfExp c a b pos) (dIf mt ma mb) :=
  PE.sub (pe_ifExp hc ha hb) fun σ H Q ⟨P, w, env, S, I, h⟩ => thenT I h fun t w1 env1 S1 H1 l1 I1 h1 => by
    cases t with
    | true => exact iteT ⟨P, w1, env1, S1, I1, h1⟩
    | false => exact iteF ⟨P, w1, env1, S1, I1, h1⟩
theorem tru_rep {P : Hp} {w : Wd} {env : Envr} {S : Sto} {σ : L2.St} {H : Hp} {d : D} {v : V} {t : Bool} (hk : k.K = X.K) (I : RB k P w env S σ H) (r : RepH k w H d v) (e : truD d = some t) : TruV X.K v H t := by
  have em : ∀ {l : List D} {vs : List V}, Reps k w l vs → (!l.isEmpty) = !vs.isEmpty := fun {l vs} r => by
    cases l with
    | nil =>
      have e : vs = [] := r
      subst e
      rfl
    | cons d l => obtain ⟨v, t, rfl, _⟩ := r; rfl
  unfold truD at e
  split at e
  · cases e; rw [show v = _ from r]; exact rfl
  · cases e; rw [show v = _ from r]; exact rfl
  · cases e; rw [show v = _ from r]; exact rfl
  · split at e
    · cases e; rw [show v = _ from r]; exact ⟨by assumption, rfl⟩
    · cases e
  · cases e
    obtain ⟨a, vs, rfl, h, q⟩ := seqL_of I r (.inl rfl)
    exact .inl ⟨vs, hk ▸ h, em q⟩
  · cases e
    obtain ⟨a, vs, rfl, h, q⟩ := seqL_of I r (.inr rfl)
    exact .inl ⟨vs, hk ▸ h, em q⟩
  · cases e
    obtain ⟨a, vs, rfl, h, q⟩ := seqT_of I r (.inl rfl)
    exact .inr (.inl ⟨vs, hk ▸ h, em q⟩)
  · cases e
    obtain ⟨a, vs, rfl, h, q⟩ := seqT_of I r (.inr rfl)
    exact .inr (.inl ⟨vs, hk ▸ h, em q⟩)
  · cases e
    obtain ⟨a, kvs, rfl, h, rfl, q⟩ := r
    refine .inr (.inr ⟨kvs, h, ?_⟩)
    cases kvs <;> rfl
  · cases e
theorem dt_tru (hk : k.K = X.K) (ha : DO X k W a ma) (he : ∀ whole, isTrue a X.env whole = (do let v ← whole; standAt a.pos; holding [v] (truthy v))) : DT X k W a (dTru ma) :=
  PT.sub (pt_truth ha he) fun σ H Q ⟨P, w, env, S, I, h⟩ => thenO I h fun dx w1 env1 S1 x H1 l1 I1 r1 h1 => by
    obtain ⟨t, e, h2⟩ := h1.getS.opt
    exact ⟨t, tru_rep hk I1 (I1.view r1) e, h2.ret H1 I1⟩
theorem dt_cmp {op : CmpOp} {r : R2} {f : D → D → Option D} (hk : k.K = X.K) (ho : OpR X (compareOp op) r) (hf : Op2 X r f) (ha : DO X k W a ma) (hb : DO X k W b mb) (hm : behindInMarks op b = false) : DT X k W (.Compare a [op] [b] pos) (dBl (dOp2 f ma mb)) :=
  PT.sub (pt_cmpR ho ha hb hm) fun σ H Q ⟨P, w, env, S, I, h⟩ => two hk hf (thenBl (R := rT k P σ Q) I (f := M.ret) (by
    have : M.bind (dBl (dOp2 f ma mb)) M.ret = dBl (dOp2 f ma mb) := by
      funext e s
      unfold M.bind
      cases dBl (dOp2 f ma mb) e s <;> rfl
    rw [this]; exact h) fun t w1 env1 S1 H1 l1 I1 h1 => ⟨t, rfl, h1.ret H1 I1⟩)
theorem dt_chain {op op' : CmpOp} {r r' : R2} {f g : D → D → Option D} (hk : k.K = X.K) (ho : OpR X (compareOp op) r) (ho' : OpR X (compareOp op') r') (hf : Op2 X r f) (hg : Op2 X r' g) (ha : DO X k W a ma) (hb : DO X k W b mb) (hc : DO X k W c mc) (hm : lastMarks [op, op'] [b, c] = false) :
    DT X k W (.Compare a [op, op'] [b, c] pos) (dBl (dChain f g ma mb mc)) :=
  PT.sub (pt_chain ho ho' ha hb hc hm) fun σ H Q ⟨P, w, env, S, I, h⟩ => chain_ok hk hf hg (thenBl (R := rT k P σ Q) I (f := M.ret) (by
    have : M.bind (dBl (dChain f g ma mb mc)) M.ret = dBl (dChain f g ma mb mc) := by
      funext e s
      unfold M.bind
      cases dBl (dChain f g ma mb mc) e s <;> rfl
    rw [this]; exact h) fun t w1 env1 S1 H1 l1 I1 h1 => ⟨t, rfl, h1.ret H1 I1⟩)
variable {ta tb : M Bool}
abbrev DW (X : Cx) (k : Ky) (W : WX) (e : Expr) (m : M Bool) : Prop := PW X e (tTt k W m)
theorem dt_not (h : DT X k W a ta) : DT X k W (.UnaryOp .Not a pos) (dNotT ta) :=
  PT.sub (pt_not h) fun σ H Q ⟨P, w, env, S, I, h⟩ => thenT I h fun t w1 env1 S1 H1 l1 I1 h1 => h1.ret H1 I1
theorem dw_and1 (h : DT X k W a ta) : DW X k W (.BoolOp .And [a] pos) ta := pw_and1 h
theorem dw_or1 (h : DT X k W a ta) : DW X k W (.BoolOp .Or [a] pos) ta := pw_or1 h
theorem dw_and (ha : DT X k W a ta) (hb : DW X k W (.BoolOp .And (b :: rest) pos) tb) : DW X k W (.BoolOp .And (a :: b :: rest) pos) (dAndT ta tb) :=
  PW.sub (pw_and ha hb) fun σ H Q ⟨P, w, env, S, I, h⟩ => thenT I h fun t w1 env1 S1 H1 l1 I1 h1 => by
    cases t with
    | true => exact iteT ⟨P, w1, env1, S1, I1, h1⟩
    | false => exact iteF (h1.ret H1 I1)
theorem dw_or (ha : DT X k W a ta) (hb : DW X k W (.BoolOp .Or (b :: rest) pos) tb) : DW X k W (.BoolOp .Or (a :: b :: rest) pos) (dOrT ta tb) :=
  PW.sub (pw_or ha hb) fun σ H Q ⟨P, w, env, S, I, h⟩ => thenT I h fun t w1 env1 S1 H1 l1 I1 h1 => by
    cases t with
    | true => exact iteT (h1.ret H1 I1)
    | false => exact iteF ⟨P, w1, env1, S1, I1, h1⟩
end
end L2.MP
end
section
set_option Elab.async false
set_option linter.all false
set_option maxRecDepth 100000
set_option maxHeartbeats 4000000
namespace L2.MP
open PySem PySem.Spec PyProof.Rows
section
variable {k : Ky} {w : Wd}
theorem ints_rep : ∀ {ds : List D} {vs : List V} {ns : List Int}, getInts ds = some ns → Reps k w ds vs → vs = ns.map V.int
  | [], _, _, e, r => by cases e; rw [show _ = _ from r]; rfl
  | d :: ds, _, _, e, r => by
    obtain ⟨v, t, rfl, r1, r2⟩ := r
    cases d <;> simp only [getInts] at e <;> try contradiction
    obtain ⟨q, e1, rfl⟩ := Option.map_eq_some_iff.mp e
    rw [show v = _ from r1, ints_rep e1 r2]; rfl
theorem bools_rep : ∀ {ds : List D} {vs : List V} {ns : List Bool}, getBools ds = some ns → Reps k w ds vs → vs = ns.map V.bl
  | [], _, _, e, r => by cases e; rw [show _ = _ from r]; rfl
  | d :: ds, _, _, e, r => by
    obtain ⟨v, t, rfl, r1, r2⟩ := r
    cases d <;> simp only [getBools] at e <;> try contradiction
    obtain ⟨q, e1, rfl⟩ := Option.map_eq_some_iff.mp e
    rw [show v = _ from r1, bools_rep e1 r2]; rfl
theorem strs_rep : ∀ {ds : List D} {vs : List V} {ns : List Str}, getStrs ds = some ns → Reps k w ds vs → vs = ns.map V.str
  | [], _, _, e, r => by cases e; rw [show _ = _ from r]; rfl
  | d :: ds, _, _, e, r => by
    obtain ⟨v, t, rfl, r1, r2⟩ := r
    cases d <;> simp only [getStrs] at e <;> try contradiction
    obtain ⟨q, e1, rfl⟩ := Option.map_eq_some_iff.mp e
    rw [show v = _ from r1, strs_rep e1 r2]; rfl
theorem reps_ints (ns : List Int) : Reps k w (ns.map D.int) (ns.map V.int) := by
  induction ns with
  | nil => rfl
  | cons a r ih => exact ⟨_, _, rfl, rfl, ih⟩
theorem reps_strs (ns : List Str) : Reps k w (ns.map D.str) (ns.map V.str) := by
  induction ns with
  | nil => rfl
  | cons a r ih => exact ⟨_, _, rfl, rfl, ih⟩
end
theorem lstOf_ok {d : D} {l : List D} (e : lstOf d = some l) : d = .lst l ∨ d = .rl l := by
  unfold lstOf at e
  split at e
  · cases e; exact .inl rfl
  · cases e; exact .inr rfl
  · cases e
theorem tupOf_ok {d : D} {l : List D} (e : tupOf d = some l) : d = .tup l ∨ d = .rt l := by
  unfold tupOf at e
  split at e
  · cases e; exact .inl rfl
  · cases e; exact .inr rfl
  · cases e
section
variable {X : Cx} {k : Ky} {W : WX} {a b c e : Expr} {ma mb mc : M D} {pos : Pos}
def OpF1 (X : Cx) (r : V → Hp → VK → Prop) (f : D → Option Cell) : Prop :=
  ∀ (k : Ky) (P : Hp) (w : Wd) (env : Envr) (S : Sto) (σ : L2.St) (H : Hp) (x : V) (dx : D) (c : Cell) (Q : VK), k.K = X.K → RB k P w env S σ H → RepH k w H dx x → f dx = some c →
    (∀ a o, H a = none → RepC k w c o → Q (.ref a) (upd H a o)) → r x H Q
def OpF2 (X : Cx) (r : R2) (f : D → D → Option Cell) : Prop :=
  ∀ (k : Ky) (P : Hp) (w : Wd) (env : Envr) (S : Sto) (σ : L2.St) (H : Hp) (x y : V) (dx dy : D) (c : Cell) (Q : VK), k.K = X.K → RB k P w env S σ H → RepH k w H dx x → RepH k w H dy y → f dx dy = some c →
    (∀ a o, H a = none → RepC k w c o → Q (.ref a) (upd H a o)) → r x y H Q
theorem df_op {op : Operator} {r : R2} {f : D → D → Option Cell} (hk : k.K = X.K) (ho : OpR X (binaryOp op) r) (hf : OpF2 X r f) (ha : DO X k W a ma) (hb : DO X k W b mb) : DF X k W (.BinOp a op b pos) (dOpF2 f ma mb) :=
  PE.sub (pe_op ho ha hb) fun σ H Q ⟨P, w, env, S, I, h⟩ => thenO I h fun dx w1 env1 S1 x H1 l1 I1 r1 h1 => thenO I1 h1 fun dy w2 env2 S2 y H2 l2 I2 r2 h2 => by
    obtain ⟨c, e, h3⟩ := h2.getS.opt
    exact hf k P w2 env2 S2 σ H2 x y _ _ c Q hk I2 (I2.view (r1.up l2)) (I2.view r2) e fun a o n q => by
      obtain ⟨J, L⟩ := I2.new (o := o) n
      exact h3.ret a o _ J upd_same q L
theorem opf_cat : OpF2 X (rAddA X) catF := by
  intro k P w env S σ H x y dx dy c Q hk I rx ry e q
  unfold catF at e
  split at e
  · split at e
    · cases e
      obtain ⟨p, xs, rfl, hp, r1⟩ := rx
      obtain ⟨p2, ys, rfl, hp2, r2⟩ := ry
      exact .inr (.inr (.inl ⟨p, p2, xs, ys, rfl, rfl, hp, hp2, by rw [r1.length, r2.length]; assumption, fun t ht => q t _ ht ⟨_, rfl, r1.append r2⟩⟩))
    · cases e
  · cases e
theorem star1 (e : Expr) (h : ∀ x p, e ≠ .Starred x p) (es : List Expr) (env : Env) : starEach (e :: es) env = (false, eval e env) :: starEach es env := by
  cases e <;> first | rfl | exact absurd rfl (h _ _)
theorem star_false : ∀ (es : List Expr), (∀ e ∈ es, ∀ x p, e ≠ .Starred x p) → ∀ (pos : Pos) (env : Env), (backTo pos (starEach es env)).any (·.1) = false
  | [], _, pos, env => rfl
  | e :: es, h, pos, env => by
    rw [star1 e (h e List.mem_cons_self) es env]
    have ih := star_false es (fun x hx => h x (List.mem_cons_of_mem _ hx)) pos env
    unfold backTo at *
    simpa using ih
inductive Cal where
  | f (id : String) | t (n : String)
def Cal.v : Cal → Value
  | .f id => .builtin id
  | .t n => .type n
theorem pe_blt {x : Str} {c : Cal} {r : List V → Hp → VK → Prop} {es : List Expr} {t : TA} {p : Pos} (hc : CallR X c.v r) (hg : Gl X x) (hm : X.mg x = none) (hv : bootBuiltins x = some c.v) (ha : PA X (e :: es) t) (hn : x ≠ "__name__") (hdb : (x == ("__debug__" : Str)) = false)
    (hs : ∀ q ∈ e :: es, ∀ x p, q ≠ .Starred x p) : PE X (.Call (.Name x p) (e :: es) [] pos) (tCB r t) := by
  cases c with
  | f id => exact pe_callB hc hg hm hv ha hn hdb (star1 e (hs e List.mem_cons_self) es _) (star_false es (fun q hq => hs q (List.mem_cons_of_mem _ hq)) _ _)
  | t n => exact pe_callTy hc hg hm hv ha hn hdb (star1 e (hs e List.mem_cons_self) es _) (star_false es (fun q hq => hs q (List.mem_cons_of_mem _ hq)) _ _)
theorem pa_one {t : TE} (h : PE X a t) (hs : ∀ x p, a ≠ .Starred x p) : PA X [a] (tCons t tNil) := pa_cons h pa_nil (star1 a hs [] _)
theorem de_call1 {x : Str} {c : Cal} {r : List V → Hp → VK → Prop} {f : D → Option D} {p : Pos} (hk : k.K = X.K) (hc : CallR X c.v r) (hf : Op1 X (fun x => r [x]) f) (hg : Gl X x) (hm : X.mg x = none) (hv : bootBuiltins x = some c.v) (hn : x ≠ "__name__") (hdb : (x == ("__debug__" : Str)) = false)
    (ha : DO X k W a ma) (hs : ∀ x p, a ≠ .Starred x p) : DE X k W (.Call (.Name x p) [a] [] pos) (dOp1 f ma) :=
  PE.sub (pe_blt hc hg hm hv (pa_one ha hs) hn hdb fun q hq => by simp at hq; subst hq; exact hs) fun σ H Q ⟨P, w, env, S, I, h⟩ => thenO I h fun dx w1 env1 S1 x H1 l1 I1 r1 h1 => by
    obtain ⟨d, e, h3⟩ := h1.getS.opt
    exact hf k P w1 env1 S1 σ H1 x _ d Q hk I1 (I1.view r1) e fun w' v H' le J q => (h3.up le).ret v H' J q
theorem df_call1 {x : Str} {c : Cal} {r : List V → Hp → VK → Prop} {f : D → Option Cell} {p : Pos} (hk : k.K = X.K) (hc : CallR X c.v r) (hf : OpF1 X (fun x => r [x]) f) (hg : Gl X x) (hm : X.mg x = none) (hv : bootBuiltins x = some c.v) (hn : x ≠ "__name__") (hdb : (x == ("__debug__" : Str)) = false)
    (ha : DO X k W a ma) (hs : ∀ x p, a ≠ .Starred x p) : DF X k W (.Call (.Name x p) [a] [] pos) (dOpF1 f ma) :=
  PE.sub (pe_blt hc hg hm hv (pa_one ha hs) hn hdb fun q hq => by simp at hq; subst hq; exact hs) fun σ H Q ⟨P, w, env, S, I, h⟩ => thenO I h fun dx w1 env1 S1 x H1 l1 I1 r1 h1 => by
    obtain ⟨d, e, h3⟩ := h1.getS.opt
    exact hf k P w1 env1 S1 σ H1 x _ d Q hk I1 (I1.view r1) e fun a o n q => by
      obtain ⟨J, L⟩ := I1.new (o := o) n
      exact h3.ret a o _ J upd_same q L
theorem de_call2 {x : Str} {c : Cal} {r : List V → Hp → VK → Prop} {f : D → D → Option D} {p : Pos} (hk : k.K = X.K) (hc : CallR X c.v r) (hf : Op2 X (fun x y => r [x, y]) f) (hg : Gl X x) (hm : X.mg x = none) (hv : bootBuiltins x = some c.v) (hn : x ≠ "__name__") (hdb : (x == ("__debug__" : Str)) = false)
    (ha : DO X k W a ma) (hb : DO X k W b mb) (hs : ∀ x p, a ≠ .Starred x p) (hs2 : ∀ x p, b ≠ .Starred x p) : DE X k W (.Call (.Name x p) [a, b] [] pos) (dOp2 f ma mb) :=
  PE.sub (pe_blt hc hg hm hv (pa_cons ha (pa_one hb hs2) (star1 a hs _ _)) hn hdb fun q hq => by simp at hq; rcases hq with rfl | rfl <;> assumption) fun σ H Q h => two (r := fun x y => r [x, y]) hk hf h
abbrev rLenA (X : Cx) : List V → Hp → VK → Prop := fun xs H Q => (∃ x n, xs = [x] ∧ LenV X.K x H n ∧ Q (.int n) H) ∨ rLenT xs H Q
theorem cr_len : CallR X (Cal.f "len").v (rLenA X) := call_len.or call_len_dT
theorem op1_len : Op1 X (fun x => rLenA X [x]) lenD := by
  intro k P w env S σ H x dx d Q hk I rx e q
  have stay : ∀ {v : V}, Rep k w d v → Q v H := fun r => q w _ H (Wd.Le.refl w) I r
  unfold lenD at e
  split at e
  · split at e
    · cases e; rw [show x = _ from rx]; exact .inl ⟨_, _, rfl, ⟨by assumption, rfl⟩, stay rfl⟩
    · cases e
  · cases e
    obtain ⟨a, vs, rfl, h, r⟩ := seqL_of I rx (.inl rfl)
    exact .inl ⟨_, _, rfl, .inl ⟨vs, hk ▸ h, rfl⟩, stay (by rw [r.length]; rfl)⟩
  · cases e
    obtain ⟨a, vs, rfl, h, r⟩ := seqL_of I rx (.inr rfl)
    exact .inl ⟨_, _, rfl, .inl ⟨vs, hk ▸ h, rfl⟩, stay (by rw [r.length]; rfl)⟩
  · cases e
    obtain ⟨a, vs, rfl, h, r⟩ := seqT_of I rx (.inl rfl)
    exact .inl ⟨_, _, rfl, .inr ⟨vs, hk ▸ h, rfl⟩, stay (by rw [r.length]; rfl)⟩
  · cases e
    obtain ⟨a, vs, rfl, h, r⟩ := seqT_of I rx (.inr rfl)
    exact .inl ⟨_, _, rfl, .inr ⟨vs, hk ▸ h, rfl⟩, stay (by rw [r.length]; rfl)⟩
  · cases e
    obtain ⟨a, kvs, rfl, h, rfl, r⟩ := rx
    exact .inr ⟨a, kvs, rfl, h, stay (by rw [List.length_map]; rfl)⟩
  · cases e
abbrev rIntA : List V → Hp → VK → Prop := fun xs H Q => ((∃ i, xs = [.int i] ∧ Q (.int i) H) ∨ ∃ k, xs = [.bl k] ∧ Q (.int (if k then 1 else 0)) H) ∨ ∃ a n, xs = [.str a] ∧ PySem.intText? a = some n ∧ a.length ≤ 640 ∧ Q (.int n) H
theorem cr_int : CallR X (Cal.t "int").v rIntA := call_int1.or call_int_str
theorem op1_int : Op1 X (fun x => rIntA [x]) intD := by
  intro k P w env S σ H x dx d Q hk I rx e q
  have stay : ∀ {v : V}, Rep k w d v → Q v H := fun r => q w _ H (Wd.Le.refl w) I r
  unfold intD at e
  split at e
  · cases e; rw [show x = _ from rx]; exact .inl (.inl ⟨_, rfl, stay rfl⟩)
  · cases e; rw [show x = _ from rx]; exact .inl (.inr ⟨_, rfl, stay rfl⟩)
  · split at e
    · obtain ⟨n, e1, rfl⟩ := Option.map_eq_some_iff.mp e
      rw [show x = _ from rx]; exact .inr ⟨_, n, rfl, e1, by assumption, stay rfl⟩
    · cases e
  · cases e
abbrev rStrA : List V → Hp → VK → Prop := fun xs H Q => ∃ i, xs = [.int i] ∧ i.natAbs.log2 < 1920 ∧ Q (.str (toString i)) H
theorem cr_str : CallR X (Cal.t "str").v rStrA := call_str_int
theorem op1_str : Op1 X (fun x => rStrA [x]) strD := by
  intro k P w env S σ H x dx d Q hk I rx e q
  unfold strD at e
  split at e
  · split at e
    · cases e; rw [show x = _ from rx]; exact ⟨_, rfl, by assumption, q w _ H (Wd.Le.refl w) I rfl⟩
    · cases e
  · cases e
theorem op1_all : Op1 X (fun x => rAll X.K [x]) allD := by
  intro k P w env S σ H x dx d Q hk I rx e q
  obtain ⟨l, e1, e⟩ := Option.bind_eq_some_iff.mp e
  obtain ⟨bs, e2, rfl⟩ := Option.map_eq_some_iff.mp e
  obtain ⟨a, vs, rfl, h, r⟩ := seqL_of I rx (lstOf_ok e1)
  exact ⟨a, bs, rfl, bools_rep e2 r ▸ hk ▸ h, q w _ H (Wd.Le.refl w) I rfl⟩
theorem op1_any : Op1 X (fun x => rAny X.K [x]) anyD := by
  intro k P w env S σ H x dx d Q hk I rx e q
  obtain ⟨l, e1, e⟩ := Option.bind_eq_some_iff.mp e
  obtain ⟨bs, e2, rfl⟩ := Option.map_eq_some_iff.mp e
  obtain ⟨a, vs, rfl, h, r⟩ := seqL_of I rx (lstOf_ok e1)
  exact ⟨a, bs, rfl, bools_rep e2 r ▸ hk ▸ h, q w _ H (Wd.Le.refl w) I rfl⟩
theorem op1_sum : Op1 X (fun x => rSum X.K [x]) sumD := by
  intro k P w env S σ H x dx d Q hk I rx e q
  obtain ⟨l, e1, e⟩ := Option.bind_eq_some_iff.mp e
  obtain ⟨bs, e2, rfl⟩ := Option.map_eq_some_iff.mp e
  obtain ⟨a, vs, rfl, h, r⟩ := seqL_of I rx (lstOf_ok e1)
  exact ⟨a, bs, rfl, ints_rep e2 r ▸ hk ▸ h, q w _ H (Wd.Le.refl w) I rfl⟩
theorem minI_uniq : ∀ {l : List Int} {m : Int}, m ∈ l → (∀ y, y ∈ l → m ≤ y) → m = minI l
  | [], _, h, _ => by cases h
  | [a], m, h, _ => (List.mem_singleton.mp h)
  | a :: b :: r, m, h, g => by
    show m = min a (minI (b :: r))
    have hb : minI (b :: r) ∈ b :: r := by
      have key : ∀ (l : List Int) (x : Int), minI (x :: l) ∈ x :: l := by
        intro l
        induction l with
        | nil => intro x; simp [minI]
        | cons y l ih =>
          intro x
          show min x (minI (y :: l)) ∈ _
          by_cases hx : x ≤ minI (y :: l)
          · rw [Int.min_eq_left hx]; exact List.mem_cons_self
          · rw [Int.min_eq_right (by omega)]; exact List.mem_cons_of_mem _ (ih y)
      exact key r b
    have h1 := g a List.mem_cons_self
    have h2 := g _ (List.mem_cons_of_mem _ hb)
    rcases List.mem_cons.mp h with rfl | h
    · omega
    · have := minI_uniq h fun y hy => g y (List.mem_cons_of_mem _ hy)
      omega
theorem maxI_uniq : ∀ {l : List Int} {m : Int}, m ∈ l → (∀ y, y ∈ l → y ≤ m) → m = maxI l
  | [], _, h, _ => by cases h
  | [a], m, h, _ => (List.mem_singleton.mp h)
  | a :: b :: r, m, h, g => by
    show m = max a (maxI (b :: r))
    have hb : maxI (b :: r) ∈ b :: r := by
      have key : ∀ (l : List Int) (x : Int), maxI (x :: l) ∈ x :: l := by
        intro l
        induction l with
        | nil => intro x; simp [maxI]
        | cons y l ih =>
          intro x
          show max x (maxI (y :: l)) ∈ _
          by_cases hx : maxI (y :: l) ≤ x
          · rw [Int.max_eq_left hx]; exact List.mem_cons_self
          · rw [Int.max_eq_right (by omega)]; exact List.mem_cons_of_mem _ (ih y)
      exact key r b
    have h1 := g a List.mem_cons_self
    have h2 := g _ (List.mem_cons_of_mem _ hb)
    rcases List.mem_cons.mp h with rfl | h
    · omega
    · have := maxI_uniq h fun y hy => g y (List.mem_cons_of_mem _ hy)
      omega
theorem op1_min : Op1 X (fun x => rMin X.K [x]) minD := by
  intro k P w env S σ H x dx d Q hk I rx e q
  obtain ⟨l, e1, e⟩ := Option.bind_eq_some_iff.mp e
  obtain ⟨bs, e2, e⟩ := Option.bind_eq_some_iff.mp e
  split at e
  · cases e
    obtain ⟨a, vs, rfl, h, r⟩ := seqL_of I rx (lstOf_ok e1)
    exact ⟨a, bs, rfl, ints_rep e2 r ▸ hk ▸ h, by assumption, fun m h1 h2 => q w _ H (Wd.Le.refl w) I (by rw [minI_uniq h1 h2]; rfl)⟩
  · cases e
theorem op1_max : Op1 X (fun x => rMax X.K [x]) maxD := by
  intro k P w env S σ H x dx d Q hk I rx e q
  obtain ⟨l, e1, e⟩ := Option.bind_eq_some_iff.mp e
  obtain ⟨bs, e2, e⟩ := Option.bind_eq_some_iff.mp e
  split at e
  · cases e
    obtain ⟨a, vs, rfl, h, r⟩ := seqL_of I rx (lstOf_ok e1)
    exact ⟨a, bs, rfl, ints_rep e2 r ▸ hk ▸ h, by assumption, fun m h1 h2 => q w _ H (Wd.Le.refl w) I (by rw [maxI_uniq h1 h2]; rfl)⟩
  · cases e
theorem op2_min2 : Op2 X (fun x y => (fun (xs : List V) (H : Hp) (Q : VK) => ∃ i j, xs = [.int i, .int j] ∧ Q (.int (if j < i then j else i)) H) [x, y]) min2D := by
  intro k P w env S σ H x y dx dy d Q hk I rx ry e q
  unfold min2D at e
  split at e
  · cases e
    rw [show x = _ from rx, show y = _ from ry]
    exact ⟨_, _, rfl, q w _ H (Wd.Le.refl w) I rfl⟩
  · cases e
theorem op2_max2 : Op2 X (fun x y => (fun (xs : List V) (H : Hp) (Q : VK) => ∃ i j, xs = [.int i, .int j] ∧ Q (.int (if j > i then j else i)) H) [x, y]) max2D := by
  intro k P w env S σ H x y dx dy d Q hk I rx ry e q
  unfold max2D at e
  split at e
  · cases e
    rw [show x = _ from rx, show y = _ from ry]
    exact ⟨_, _, rfl, q w _ H (Wd.Le.refl w) I rfl⟩
  · cases e
abbrev rTupA (X : Cx) : List V → Hp → VK → Prop := fun xs H Q => ∃ p ys, xs = [.ref p] ∧ ((SqL X.K H p ys ∧ ∀ l, H l = none → Q (.ref l) (upd H l (.tup ys))) ∨ (SqT X.K H p ys ∧ Q (.ref p) H))
theorem cr_tuple : CallR X (Cal.t "tuple").v (rTupA X) := call_tuple_of
theorem op1_tuple : Op1 X (fun x => rTupA X [x]) tupleD := by
  intro k P w env S σ H x dx d Q hk I rx e q
  have lists : ∀ {l : List D}, (∃ a vs, x = .ref a ∧ SqL k.K H a vs ∧ Reps k w l vs) → d = .tup l → rTupA X [x] H Q := fun {l} ⟨a, vs, e1, h, r⟩ ed => by
    subst ed e1
    refine ⟨a, vs, rfl, .inl ⟨hk ▸ h, fun p hp => ?_⟩⟩
    have le := I.le_grow (o := .tup vs) hp
    exact q _ _ _ le (I.grow hp) ⟨p, _, rfl, Wd.fz_at, r.mono le⟩
  unfold tupleD at e
  split at e
  · exact lists (seqL_of I rx (.inl rfl)) (Option.some.inj e).symm
  · exact lists (seqL_of I rx (.inr rfl)) (Option.some.inj e).symm
  · cases e
    obtain ⟨a, vs, e1, h, r⟩ := seqT_of I rx (.inl rfl)
    exact ⟨a, vs, by rw [e1], .inr ⟨hk ▸ h, e1 ▸ q w _ H (Wd.Le.refl w) I rx⟩⟩
  · cases e
    obtain ⟨a, vs, e1, h, r⟩ := seqT_of I rx (.inr rfl)
    exact ⟨a, vs, by rw [e1], .inr ⟨hk ▸ h, e1 ▸ q w _ H (Wd.Le.refl w) I rx⟩⟩
  · cases e
abbrev rListA (X : Cx) : List V → Hp → VK → Prop := fun xs H Q => ∃ p ys, xs = [.ref p] ∧ (SqL X.K H p ys ∨ SqT X.K H p ys) ∧ ∀ l, H l = none → Q (.ref l) (upd H l (.lst ys))
theorem cr_list : CallR X (Cal.t "list").v (rListA X) := call_list_of
theorem opf_list : OpF1 X (fun x => rListA X [x]) listF := by
  intro k P w env S σ H x dx c Q hk I rx e q
  unfold listF at e
  split at e
  · cases e
    obtain ⟨a, vs, rfl, h, r⟩ := seqL_of I rx (.inl rfl)
    exact ⟨a, vs, rfl, .inl (hk ▸ h), fun p hp => q p _ hp ⟨vs, rfl, r⟩⟩
  · cases e
    obtain ⟨a, vs, rfl, h, r⟩ := seqL_of I rx (.inr rfl)
    exact ⟨a, vs, rfl, .inl (hk ▸ h), fun p hp => q p _ hp ⟨vs, rfl, r⟩⟩
  · cases e
    obtain ⟨a, vs, rfl, h, r⟩ := seqT_of I rx (.inl rfl)
    exact ⟨a, vs, rfl, .inr (hk ▸ h), fun p hp => q p _ hp ⟨vs, rfl, r⟩⟩
  · cases e
    obtain ⟨a, vs, rfl, h, r⟩ := seqT_of I rx (.inr rfl)
    exact ⟨a, vs, rfl, .inr (hk ▸ h), fun p hp => q p _ hp ⟨vs, rfl, r⟩⟩
  · cases e
theorem ty_list {K : PySem.W.Frag} {H : Hp} {a : Addr} {vs : List V} (h : SqL K H a vs) : TyX K H (.ref a) (.type "list") := by
  rcases h with (h | ⟨o, h⟩) | ⟨o, its, n, h1, h2, h3, h4, _⟩
  · exact .base (.lst h)
  · exact .base (.frz h)
  · exact .kList h1 h2
theorem ty_tup {K : PySem.W.Frag} {H : Hp} {a : Addr} {vs : List V} (h : SqT K H a vs) : TyX K H (.ref a) (.type "tuple") := by
  rcases h with (h | ⟨o, h⟩) | ⟨o, its, n, h1, h2, h3, _⟩
  · exact .base (.tup h)
  · exact .fTuple h
  · exact .kTuple h1 h2
theorem type_rep {P : Hp} {w : Wd} {env : Envr} {S : Sto} {σ : L2.St} {H : Hp} {d : D} {v : V} {t : String} (I : RB k P w env S σ H) (r : RepH k w H d v) (e : typeD d = some t) : TyX k.K H v (.type t) := by
  unfold typeD at e
  split at e
  · cases e; rw [show v = _ from r]; exact .base .non
  · cases e; rw [show v = _ from r]; exact .base (.bl _)
  · cases e; rw [show v = _ from r]; exact .base (.int _)
  · cases e; rw [show v = _ from r]; exact .base (.str _)
  · cases e; obtain ⟨a, vs, rfl, h, _⟩ := seqT_of I r (.inl rfl); exact ty_tup h
  · cases e; obtain ⟨a, vs, rfl, h, _⟩ := seqT_of I r (.inr rfl); exact ty_tup h
  · cases e; obtain ⟨a, vs, rfl, h, _⟩ := seqL_of I r (.inl rfl); exact ty_list h
  · cases e; obtain ⟨a, vs, rfl, h, _⟩ := seqL_of I r (.inr rfl); exact ty_list h
  · cases e; obtain ⟨a, vs, rfl, h, _⟩ := r; exact .base (.dK h)
  · cases e; obtain ⟨a, vs, rfl, h, _⟩ := r; exact .base (.dT h)
  · cases e
theorem kit_all {t T : String} (ht : t ∈ ["NoneType", "bool", "int", "str", "tuple", "list", "dict"]) (hT : T ∈ ["bool", "int", "str", "tuple", "list", "dict"]) : kitB t T = some (t == T || (t == "bool" && T == "int")) := by
  have h : (["NoneType", "bool", "int", "str", "tuple", "list", "dict"].all fun t => ["bool", "int", "str", "tuple", "list", "dict"].all fun T => decide (kitB t T = some (t == T || (t == "bool" && T == "int")))) = true := by decide +kernel
  exact of_decide_eq_true (List.all_eq_true.mp (List.all_eq_true.mp h t ht) T hT)
theorem typeD_mem {d : D} {t : String} (e : typeD d = some t) : t ∈ ["NoneType", "bool", "int", "str", "tuple", "list", "dict"] := by
  cases d <;> simp only [typeD] at e <;> first | (cases e; decide) | cases e
theorem de_isi {T : Str} {Tn : String} {x : Str} {p p2 : Pos} (hk : k.K = X.K) (hx : x = "isinstance") (hT : Tn ∈ ["bool", "int", "str", "tuple", "list", "dict"]) (hg : Gl X x) (hm : X.mg x = none) (hg2 : Gl X T) (hm2 : X.mg T = none) (hv2 : bootBuiltins T = some (.type Tn)) (hn2 : T ≠ "__name__") (hdb2 : (T == ("__debug__" : Str)) = false)
    (ha : DO X k W a ma) (hs : ∀ x p, a ≠ .Starred x p) : DE X k W (.Call (.Name x p) [a, .Name T p2] [] pos) (dOp1 (isiD Tn) ma) := by
  subst hx
  refine PE.sub (pe_blt (c := .f "isinstance") call_isi hg hm (by decide +kernel) (pa_cons ha (pa_one (pe_bltn hg2 hm2 hv2 (v := .ty Tn) rfl hn2 hdb2) (fun _ _ z => by cases z)) (star1 a hs _ _)) (by decide +kernel) (by decide +kernel) fun q hq => by simp at hq; rcases hq with rfl | rfl; exact hs; intro x p z; cases z) fun σ H Q ⟨P, w, env, S, I, h⟩ => thenO I h fun dx w1 env1 S1 x H1 l1 I1 r1 h1 => ?_
  obtain ⟨d, e, h3⟩ := h1.getS.opt
  obtain ⟨t, e1, rfl⟩ := Option.map_eq_some_iff.mp e
  exact ⟨x, .ty Tn, .type t, .type Tn, _, rfl, .ty Tn, hk ▸ type_rep I1 (I1.view r1) e1, kit_ty (kit_all (typeD_mem e1) hT), h3.ret _ H1 I1 rfl⟩
def TyOk (X : Cx) : List Expr → List String → Prop
  | [], [] => True
  | e :: es, T :: Ts => (∃ (t : Str) (p : Pos), e = .Name t p ∧ T ∈ ["bool", "int", "str", "tuple", "list", "dict"] ∧ Gl X t ∧ X.mg t = none ∧ bootBuiltins t = some (.type T) ∧ t ≠ "__name__" ∧ (t == ("__debug__" : Str)) = false) ∧ TyOk X es Ts
  | _, _ => False
theorem pa_types : ∀ {es : List Expr} {Ts : List String}, TyOk X es Ts → PA X es (fun σ H Q => Q (Ts.map V.ty) H)
  | [], [], _ => pa_nil
  | e :: es, T :: Ts, ⟨⟨t, p, he, _, g, m, b, n, d⟩, h⟩ => by
    subst he
    exact pa_cons (pe_bltn g m b (v := .ty T) rfl n d) (pa_types h) (star1 _ (fun _ _ z => by cases z) _ _)
  | [], _ :: _, h => h.elim
  | _ :: _, [], h => h.elim
theorem ty_len : ∀ {es : List Expr} {Ts : List String}, TyOk X es Ts → ∀ T ∈ Ts, T ∈ ["bool", "int", "str", "tuple", "list", "dict"]
  | [], [], _, _, h => nomatch h
  | e :: es, T :: Ts, ⟨⟨_, _, _, z, _⟩, h⟩, U, hU => by
    rcases List.mem_cons.mp hU with rfl | hU
    · exact z
    · exact ty_len h U hU
  | [], _ :: _, h, _, _ => h.elim
  | _ :: _, [], h, _, _ => h.elim
theorem ty_paired : ∀ Ts : List String, Paired ClsV (Ts.map V.ty) (Ts.map Value.type)
  | [] => .nil
  | T :: Ts => .cons (.ty T) (ty_paired Ts)
theorem kit_any {K : PySem.W.Frag} {t : String} (ht : t ∈ ["NoneType", "bool", "int", "str", "tuple", "list", "dict"]) : ∀ {Ts : List String}, (∀ T ∈ Ts, T ∈ ["bool", "int", "str", "tuple", "list", "dict"]) → PySem.W.kitAny K (.type t) (Ts.map Value.type) = some (Ts.any fun T => t == T || (t == "bool" && T == "int"))
  | [], _ => rfl
  | T :: Ts, h => by
    refine kitAny_cons (kit_ty (kit_all ht (h T List.mem_cons_self))) (fun hb => ?_) (fun hb => ?_)
    · rw [List.any_cons, hb, Bool.false_or]
      exact kit_any ht fun U hU => h U (List.mem_cons_of_mem _ hU)
    · rw [List.any_cons, hb]; rfl
theorem de_isiT {Ts : List String} {es : List Expr} {kk : Nat} {x : Str} {p p2 : Pos} (hk : k.K = X.K) (hx : x = "isinstance") (hT : TyOk X es Ts) (hz : Ts.length ≤ sizeLine) (hg : Gl X x) (hm : X.mg x = none)
    (ha : DO X k W a ma) (hs : ∀ x p, a ≠ .Starred x p) : DE X k W (.Call (.Name x p) [a, .Tuple es kk p2] [] pos) (dOp1 (isiTD Ts) ma) := by
  subst hx
  refine PE.sub (pe_blt (c := .f "isinstance") call_isiT hg hm (by decide +kernel) (pa_cons ha (pa_one (pe_tup (pa_types hT)) (fun _ _ z => by cases z)) (star1 a hs _ _)) (by decide +kernel) (by decide +kernel) fun q hq => by simp at hq; rcases hq with rfl | rfl; exact hs; intro x p z; cases z) fun σ H Q ⟨P, w, env, S, I, h⟩ => thenO I h fun dx w1 env1 S1 x H1 l1 I1 r1 h1 => ?_
  obtain ⟨d, e, h3⟩ := h1.getS.opt
  obtain ⟨t, e1, rfl⟩ := Option.map_eq_some_iff.mp e
  refine ⟨by rw [List.length_map]; exact hz, fun q hq => ?_⟩
  have J := I1.at (keep_new (o := .tup (Ts.map V.ty)) hq)
  exact ⟨x, q, Ts.map V.ty, .type t, Ts.map Value.type, _, rfl, upd_same, ty_paired Ts, hk ▸ type_rep J (J.view r1) e1, kit_any (typeD_mem e1) (ty_len hT), h3.ret _ _ J rfl⟩
theorem sortI_uniq {ns ms : List Int} (p : ms.Perm ns) (s : ms.Pairwise (· ≤ ·)) : ms = sortI ns := by
  refine List.Perm.eq_of_pairwise (le := (· ≤ ·)) (fun a b _ _ h1 h2 => Int.le_antisymm h1 h2) s ?_ (p.trans (List.mergeSort_perm _ _).symm)
  have := List.pairwise_mergeSort (le := fun a b : Int => decide (a ≤ b)) (fun a b c h1 h2 => by simp at *; omega) (fun a b => by simp; omega) ns
  exact this.imp fun h => by simpa using h
theorem rising_pw : ∀ (l : List Str) (p : Str), risingS p l = true → (p :: l).Pairwise fun a b => a.cps.toList ≤ b.cps.toList
  | [], p, _ => by simp
  | x :: r, p, h => by
    have h : (!ltCps x.cps.toList p.cps.toList && risingS x r) = true := h
    rw [Bool.and_eq_true] at h
    have ih := rising_pw r x h.2
    have h1 : p.cps.toList ≤ x.cps.toList := leS_iff.mp h.1
    refine List.pairwise_cons.mpr ⟨fun y hy => ?_, ih⟩
    rcases List.mem_cons.mp hy with rfl | hy
    · exact h1
    · exact List.le_trans h1 ((List.pairwise_cons.mp ih).1 y hy)
theorem sortS_uniq {ys xs : List Str} (p : ys.Perm xs) (s : sortedS ys = true) : ys = sortS xs := by
  have pw : ys.Pairwise fun a b => a.cps.toList ≤ b.cps.toList := by
    cases ys with
    | nil => exact List.Pairwise.nil
    | cons y ys => exact rising_pw ys y s
  exact List.Perm.eq_of_pairwise (le := fun a b : Str => a.cps.toList ≤ b.cps.toList) (fun a b _ _ h1 h2 => str_eq (List.le_antisymm h1 h2)) pw (sortS_pw xs) (p.trans (sortS_perm xs).symm)
theorem opf_sorted : OpF1 X (fun x H Q => rSorted X.K [x] H Q ∨ rSortedS X.K [x] H Q) sortedB := by
  intro k P w env S σ H x dx c Q hk I rx e q
  obtain ⟨l, e1, e⟩ := Option.bind_eq_some_iff.mp e
  split at e
  · rename_i hl
    obtain ⟨a, vs, rfl, h, r⟩ := seqL_of I rx (lstOf_ok e1)
    have hv := r.length
    split at e
    · rename_i ns e2
      cases e
      have ev := ints_rep e2 r
      refine .inl ⟨a, ns, rfl, ev ▸ hk ▸ h, by rw [ev, List.length_map] at hv; omega, fun ms p h1 h2 h3 => ?_⟩
      rw [sortI_uniq h1 h2]
      exact q p _ h3 ⟨_, rfl, reps_ints _⟩
    · obtain ⟨xs, e2, rfl⟩ := Option.map_eq_some_iff.mp e
      have ev := strs_rep e2 r
      refine .inr ⟨a, xs, rfl, ev ▸ hk ▸ h, by rw [ev, List.length_map] at hv; omega, fun ms p h1 h2 h3 => ?_⟩
      rw [sortS_uniq h1 h2]
      exact q p _ h3 ⟨_, rfl, reps_strs _⟩
  · cases e
end
end L2.MP
end
section
set_option Elab.async false
set_option linter.all false
set_option maxRecDepth 100000
set_option maxHeartbeats 4000000
namespace L2.MP
open PySem PySem.Spec PyProof.Rows
def spOf (k : Ky) (n : Nat) (f : Fn) : Sp := fun vs H Q E => ∃ P w S ds, RS k P w S H ∧ Reps k w ds vs ∧ ds.length = n ∧ match f ds S with
  | .ok d S' => ∀ w' v H', Wd.Le w w' → RS k P w' S' H' → Rep k w' d v → Q v H'
  | .exc x S' => ∀ w' H' cls dx, Wd.Le w w' → RS k P w' S' H' → RepX k w' x cls dx → E cls dx H'
  | .bad => False
theorem spOf.len {k : Ky} {n : Nat} {f : Fn} {vs : List V} {H : Hp} {Q : VK} {E : XK} (h : spOf k n f vs H Q E) : vs.length = n := by
  obtain ⟨P, w, S, ds, _, r, e, _⟩ := h
  rw [r.length, e]
theorem spOf.imp {k : Ky} {n : Nat} {f g : Fn} (h : ∀ ds S, ds.length = n → g ds S ≠ .bad → f ds S = g ds S) {vs : List V} {H : Hp} {Q : VK} {E : XK} (p : spOf k n g vs H Q E) : spOf k n f vs H Q E := by
  obtain ⟨P, w, S, ds, i, r, e, q⟩ := p
  have nb : g ds S ≠ .bad := fun z => by rw [z] at q; exact q
  exact ⟨P, w, S, ds, i, r, e, by rw [h ds S e nb]; exact q⟩
section
variable {X : Cx} {k : Ky} {W : WX} {a b c e o : Expr} {ma mb mc : M D} {pos : Pos} {es : List Expr} {mas : M (List D)}
theorem call_sp {P : Hp} {w : Wd} {env : Envr} {S : Sto} {σ : L2.St} {H : Hp} {f : Fn} {n : Nat} {ds : List D} {vs : List V} {Q : VK} (I : RB k P w env S σ H) (r : Reps k w ds vs) (hn : ds.length = n) (h : Aft k W P w ((f ds S).out env) (rE k P σ Q)) : spOf k n f vs H Q (WE W σ) := by
  refine ⟨callP P env σ H, w, S, ds, I.toCall, r, hn, ?_⟩
  cases ef : f ds S with
  | ok d S' =>
    rw [ef] at h
    exact fun w' v H' le g q => h w' le v H' (I.ofCall g le) q
  | exc x S' =>
    rw [ef] at h
    exact fun w' H' cls dx le g q => h w' σ H' cls dx le (I.ofCall g le) q
  | bad => rw [ef] at h; exact h
theorem aft_len {α : Type} {P : Hp} {w : Wd} {env : Envr} {S : Sto} {R : α → Wd → Envr → Sto → Prop} {c : Prop} [Decidable c] {m : M α} (h : Aft k W P w ((if c then m else M.fail : M α) env S) R) : c ∧ Aft k W P w (m env S) R := if_ok h
theorem de_call {x : Str} {f : Addr} {fd : FuncData} {ps : List Str} {fn : Fn} {p : Pos} {lv n : Nat} (F : FnOk X.prog X.w X.K X.mg X.base (L2.CX X.prog X.w) lv f fd ps (spOf k n fn)) (hr : Room lv X.A) (hg : Gl X x) (hm : X.mg x = some (.ref f)) (hk : PySem.W.keepIn X.K (.ref f) = true) (hb : Binds X.K fd ps [])
    (tk : Takes X W) (ha : DA X k W (e :: es) mas) (hdb : (x == ("__debug__" : Str)) = false) (hs : ∀ q ∈ e :: es, ∀ x p, q ≠ .Starred x p) :
    DE X k W (.Call (.Name x p) (e :: es) [] pos) (M.bind mas fun ds => if ds.length = n then (fun env S => (fn ds S).out env) else M.fail) :=
  PE.sub (pe_callSD F hr hg hm hk hb .nil (fun σ => passAt tk σ) ha hdb (star1 e (hs e List.mem_cons_self) es _) (star_false es (fun q hq => hs q (List.mem_cons_of_mem _ hq)) _ _)) fun σ H Q ⟨P, w, env, S, I, h⟩ =>
    thenA I h fun ds w1 env1 S1 vs H1 l1 I1 r1 h1 => by
      obtain ⟨hn, h1⟩ := if_ok h1
      rw [List.append_nil]
      exact call_sp I1 r1 hn h1
theorem lookF_eq {α : Type} (f : Str) : ∀ fs : List (Str × α), fs.lookup f = lookF f fs
  | [] => rfl
  | (g, x) :: r => by
    rw [List.lookup_cons]
    show _ = if g = f then some x else lookF f r
    by_cases h : g = f
    · subst h; simp
    · have : (f == g) = false := by simpa using fun e : f = g => h e.symm
      rw [this, if_neg h]
      exact lookF_eq f r
theorem lookF_rep {w : Wd} {f : Str} : ∀ {fd : List (Str × D)} {fs : List (Str × V)}, fs.map (·.1) = fd.map (·.1) → Reps k w (fd.map (·.2)) (fs.map (·.2)) → (lookF f fd = none → lookF f fs = none) ∧ ∀ d, lookF f fd = some d → ∃ v, lookF f fs = some v ∧ Rep k w d v
  | [], [], _, _ => ⟨fun _ => rfl, fun d e => by cases e⟩
  | [], _ :: _, e, _ => by simp at e
  | _ :: _, [], e, _ => by simp at e
  | (g, d) :: fd, (g', v) :: fs, e, r => by
    simp only [List.map_cons, List.cons.injEq] at e
    obtain ⟨v', t, e2, r1, r2⟩ := r
    simp only [List.map_cons, List.cons.injEq] at e2
    obtain ⟨rfl, rfl⟩ := e2
    obtain ⟨rfl, e⟩ := e
    obtain ⟨i1, i2⟩ := lookF_rep (f := f) e r2
    unfold lookF
    by_cases h : g' = f
    · rw [if_pos h, if_pos h]
      exact ⟨fun z => (by cases z), fun d' z => (by cases z; exact ⟨v, rfl, r1⟩)⟩
    · rw [if_neg h, if_neg h]
      exact ⟨i1, i2⟩
theorem insOf_ok {P : Hp} {w : Wd} {S : Sto} {H : Hp} {c n : Nat} {d : D} {v : V} {fs : List (Str × D)} (I : RS k P w S H) (r : Rep k w d v) (e : insOf c S d = some (n, fs)) :
    d = .ref n ∧ S[n]? = some (.ins c fs) ∧ ∃ a dx fv, v = .ref a ∧ w.R n = some a ∧ H a = some (.ins (k.cl c) dx fv) ∧ fv.map (·.1) = fs.map (·.1) ∧ Reps k w (fs.map (·.2)) (fv.map (·.2)) := by
  cases d <;> simp only [insOf] at e <;> try contradiction
  rename_i m
  split at e
  · rename_i c' gs he
    split at e
    · rename_i hc
      subst hc
      cases e
      obtain ⟨a, rfl, ra⟩ := r
      obtain ⟨cc, o, e1, e2, e3, e4⟩ := I.lt ra
      rw [he] at e1; cases e1
      obtain ⟨dx, fv, rfl, h1, h2⟩ := e4
      exact ⟨rfl, he, a, dx, fv, rfl, ra, e2, h1, h2⟩
    · cases e
  · cases e
theorem run_fnD {C : CXT} {lv : Nat} {f : Addr} {fd : FuncData} {ps : List Str} {sp : Sp} {E : St → XK} {pins : List (Addr × Obj)} {σ : L2.St} {H : Hp} {s : Shared} {Q : VK} {us : List Value} {vs : List V} (F : FnOk X.prog X.w X.K X.mg X.base C lv f fd ps sp) (hr : Room lv X.A) (hb : Binds X.K fd ps [])
    (hx : PassesAt C X σ (E σ)) (I : Inv X pins σ H s) (r : Vals vs us) (h : sp vs H Q (E σ)) : wpAny (model X.prog X.w) X.A (call (.ref f) us) (EP X pins σ Q) X.xe s := run_fnS F hr hb hx I r h
theorem make_sp {P : Hp} {w : Wd} {env : Envr} {S : Sto} {σ : L2.St} {H : Hp} {fn : Fn} {cn n : Nat} {ds : List D} {vs : List V} {Q : VK} (I : RB k P w env S σ H) (r : Reps k w ds vs) (hn : (D.non :: ds).length = n)
    (h : Aft k W P w (match fn (.ref S.length :: ds) (S ++ [.ins cn []]) with
      | .ok .non S' => .ok (.ref S.length) env S'
      | .ok _ _ => .bad
      | .exc x S' => .exc x env S'
      | .bad => .bad) (rE k P σ Q)) {x dx : Addr} (hx : H x = none) (hd : H dx = none) (ne : dx ≠ x) :
    spOf k n fn (.ref x :: vs) (upd (upd H dx (.own x)) x (.ins (k.cl cn) dx [])) (fun v H2 => v = .non ∧ Q (.ref x) H2) (WE W σ) := by
  have I1 : RB k P w env S σ (upd H dx (.own x)) := I.at (keep_new hd)
  have hx1 : (upd H dx (.own x)) x = none := (upd_ne (Ne.symm ne)).trans hx
  obtain ⟨I2, L⟩ := I1.new (o := .ins (k.cl cn) dx []) hx1
  have I3 := I2.alloc (c := .ins cn []) upd_same ⟨dx, [], rfl, rfl, rfl⟩ L
  have le := I2.rs.al_le (a := x)
  refine ⟨callP P env σ _, w.al S.length x, _, .ref S.length :: ds, I3.toCall, ⟨_, _, rfl, ⟨x, rfl, Wd.al_at⟩, r.mono le⟩, by simpa using hn, ?_⟩
  cases ef : fn (.ref S.length :: ds) (S ++ [.ins cn []]) with
  | ok d S' =>
    rw [ef] at h
    cases d <;> first | exact h.elim | skip
    exact fun w' v H' le2 g q => ⟨q, h w' (le.trans le2) _ H' (I3.ofCall g le2) ⟨x, rfl, le2.r _ _ Wd.al_at⟩⟩
  | exc x S' =>
    rw [ef] at h
    exact fun w' H' cls dx le2 g q => h w' σ H' cls dx (le.trans le2) (I3.ofCall g le2) q
  | bad => rw [ef] at h; exact h
theorem run_makeD {C : CXT} {lv : Nat} {f Ca : Addr} {fd : FuncData} {ps : List Str} {sp : Sp} {E : St → XK} {pins : List (Addr × Obj)} {σ : L2.St} {H : Hp} {s : Shared} {Q : VK} {us : List Value} {vs : List V} (Mk' : Mk X.K Ca f) (F : FnOk X.prog X.w X.K X.mg X.base C lv f fd ps sp) (hr : Room (lv + 1) X.A) (hb : Binds X.K fd ps [])
    (hx : PassesAt C X σ (E σ)) (I : Inv X pins σ H s) (r : Vals vs us)
    (h : ∀ x dx, H x = none → H dx = none → dx ≠ x → sp (.ref x :: vs) (upd (upd H dx (.own x)) x (.ins Ca dx [])) (fun v H2 => v = .non ∧ Q (.ref x) H2) (E σ)) :
    wpAny (model X.prog X.w) X.A (call (.ref Ca) us) (EP X pins σ Q) X.xe s := by
  have q0 := h (s.heap.objs.size + 1) s.heap.objs.size (I.hok.fresh (Nat.le_succ _)) (I.hok.fresh (Nat.le_refl _)) (Nat.ne_of_lt (Nat.lt_succ_self _))
  have J := Inv.made (C := Ca) I
  have rr : Vals (V.ref (s.heap.objs.size + 1) :: vs) (Value.ref (s.heap.objs.size + 1) :: us) := .cons rfl r
  have ln : (Value.ref (s.heap.objs.size + 1) :: us).length = ps.length := rr.length.symm.trans (F.len _ _ _ _ q0)
  have bb := hb _ (Value.ref (s.heap.objs.size + 1) :: us) J.kIn (by rw [List.append_nil]; exact ln)
  rw [List.append_nil] at bb
  refine wpAny_call (make_map (f := f) I.kIn Mk'.makes Mk'.init (beq_iff_eq.mp Mk'.fn) (codeAny_mono (F.run _ X.stack _ _ _ _ _ _ (E σ) (hr.make Ca us []) (J.env0.make Ca us []) bb rr q0) fun res s' hq => ?_))
  cases res with
  | error er => exact hx pins _ _ er s' J hq
  | ok fl =>
    cases fl with
    | ret u =>
      obtain ⟨v, H', J2, rv, ev, q3⟩ := J.after hq
      subst ev
      exact ⟨rv, V.ref (s.heap.objs.size + 1), H', J2, rfl, q3⟩
    | next => exact hq.elim
    | brk => exact hq.elim
    | cont => exact hq.elim
theorem de_make {x : Str} {f : Addr} {fd : FuncData} {ps : List Str} {fn : Fn} {p : Pos} {lv n cn : Nat} (Mk' : Mk X.K (k.cl cn) f) (F : FnOk X.prog X.w X.K X.mg X.base (L2.CX X.prog X.w) lv f fd ps (spOf k n fn)) (hr : Room (lv + 1) X.A) (hg : Gl X x) (hm : X.mg x = some (.ref (k.cl cn))) (hb : Binds X.K fd ps [])
    (tk : Takes X W) (ha : DA X k W (e :: es) mas) (hdb : (x == ("__debug__" : Str)) = false) (hs : ∀ q ∈ e :: es, ∀ x p, q ≠ .Starred x p) :
    DE X k W (.Call (.Name x p) (e :: es) [] pos) (dMake cn n fn mas) := by
  refine ⟨fun pins s σ H Q I h => ?_⟩
  obtain ⟨P, w, env, S, J, h⟩ := h
  refine wpAny_Call_Name_kw (ld_glob I hg hm ?_ hdb)
  refine PySem.W.callWith_K (first := []) (h₀ := X.base) I.ok.mod.kin Mk'.kp (thn (ha.run pos pins s σ H (fun vs H1 => ∀ x dx, H1 x = none → H1 dx = none → dx ≠ x → spOf k n fn (.ref x :: vs) (upd (upd H1 dx (.own x)) x (.ins (k.cl cn) dx [])) (fun v H2 => v = .non ∧ Q (.ref x) H2) (WE W σ)) I
    (thenA J h fun ds w1 env1 S1 vs H1 l1 I1 r1 h1 x dx hx hd ne => by
      obtain ⟨hn, h1⟩ := if_ok h1
      exact make_sp I1 r1 hn h1 hx hd ne)) fun us s1 ⟨vs, H1, I1, r, q⟩ => ⟨I1.kIn, ?_⟩) (star1 e (hs e List.mem_cons_self) es _) (star_false es (fun q hq => hs q (List.mem_cons_of_mem _ hq)) _ _)
  exact run_makeD Mk' F hr hb (passAt tk σ) I1 r q
theorem de_make0 {x : Str} {f : Addr} {fd : FuncData} {ps : List Str} {fn : Fn} {p : Pos} {lv n cn : Nat} (Mk' : Mk X.K (k.cl cn) f) (F : FnOk X.prog X.w X.K X.mg X.base (L2.CX X.prog X.w) lv f fd ps (spOf k n fn)) (hr : Room (lv + 1) X.A) (hg : Gl X x) (hm : X.mg x = some (.ref (k.cl cn))) (hb : Binds X.K fd ps [])
    (tk : Takes X W) (hdb : (x == ("__debug__" : Str)) = false) :
    DE X k W (.Call (.Name x p) [] [] pos) (dMake cn n fn dNil) := by
  refine ⟨fun pins s σ H Q I h => ?_⟩
  obtain ⟨P, w, env, S, J, h⟩ := h
  refine wpAny_Call_Name_kw (ld_glob I hg hm ?_ hdb)
  have h1 : Aft k W P w ((if (D.non :: []).length = n then (fun env S => match fn (.ref S.length :: []) (S ++ [.ins cn []]) with
    | .ok .non S' => .ok (.ref S.length) env S'
    | .ok _ _ => .bad
    | .exc x S' => .exc x env S'
    | .bad => .bad) else M.fail : M D) env S) (rE k P σ Q) := h
  obtain ⟨hn, h1⟩ := if_ok h1
  exact PySem.W.callWith_K0 (first := []) I.kIn Mk'.kp (run_makeD (us := []) Mk' F hr hb (passAt tk σ) I .nil fun x dx hx hd ne => make_sp (ds := []) J rfl hn h1 hx hd ne)
theorem de_fld {f : Str} {cs : List Nat} (hc : ∀ c ∈ cs, Cls X.K (k.cl c) ∧ NoAttr X.K (k.cl c) f) (ho : DE X k W o ma) (hb : attributeBase o f X.env (eval o X.env) = eval o X.env) : DE X k W (.Attribute o f pos) (dFld cs f ma) :=
  PE.sub (pe_fld ho hb) fun σ H Q ⟨P, w, env, S, I, h⟩ => thenE I h fun d w1 env1 S1 v H1 l1 I1 r1 h1 => by
    cases d <;> first | exact h1.elim | skip
    rename_i n
    dsimp only at h1
    obtain ⟨a, rfl, ra⟩ := r1
    obtain ⟨c, o, e1, e2, e3, e4⟩ := I1.rs.lt ra
    rw [e1] at h1
    cases c with
    | ins c fs =>
      dsimp only at h1
      obtain ⟨dx, fv, rfl, q1, q2⟩ := e4
      by_cases hm : c ∈ cs
      · rw [if_pos hm] at h1
        cases el : lookF f fs with
        | none => rw [el] at h1; exact h1.elim
        | some d =>
          rw [el] at h1
          obtain ⟨v, e5, r5⟩ := (lookF_rep q1 q2).2 d el
          exact ⟨a, _, dx, fv, v, rfl, e2, (hc c hm).1, (hc c hm).2, (lookF_eq f fv).trans e5, h1.ok v H1 I1 r5⟩
      · rw [if_neg hm] at h1; exact h1.elim
    | _ => exact h1.elim
theorem putG_V (f : Str) (v : V) : ∀ fs : List (Str × V), putF f v fs = putG f v fs
  | [] => rfl
  | (g, x) :: r => by
    show (if g = f then (g, v) :: r else (g, x) :: putF f v r) = if g = f then (g, v) :: r else (g, x) :: putG f v r
    rw [putG_V f v r]
theorem putG_rep {w : Wd} {f : Str} {d : D} {v : V} (g : Rep k w d v) : ∀ {fd : List (Str × D)} {fs : List (Str × V)}, fs.map (·.1) = fd.map (·.1) → Reps k w (fd.map (·.2)) (fs.map (·.2)) →
    (putG f v fs).map (·.1) = (putG f d fd).map (·.1) ∧ Reps k w ((putG f d fd).map (·.2)) ((putG f v fs).map (·.2))
  | [], [], _, _ => ⟨rfl, Reps.one g⟩
  | [], _ :: _, e, _ => by simp at e
  | _ :: _, [], e, _ => by simp at e
  | (a, x) :: fd, (b, y) :: fs, e, r => by
    simp only [List.map_cons, List.cons.injEq] at e
    obtain ⟨v', t, e2, r1, r2⟩ := r
    simp only [List.map_cons, List.cons.injEq] at e2
    obtain ⟨rfl, rfl⟩ := e2
    obtain ⟨rfl, e⟩ := e
    obtain ⟨i1, i2⟩ := putG_rep g e r2
    unfold putG
    by_cases h : b = f
    · rw [if_pos h, if_pos h]
      exact ⟨by simp [e], ⟨_, _, rfl, g, r2⟩⟩
    · rw [if_neg h, if_neg h]
      exact ⟨by simp [i1], ⟨_, _, rfl, r1, i2⟩⟩
theorem putS_ok {P : Hp} {w : Wd} {env : Envr} {S S' : Sto} {σ : L2.St} {H : Hp} {cs : List Nat} {f : Str} {d x : D} {v y : V} (hc : ∀ c ∈ cs, Cls X.K (k.cl c) ∧ NoAttr X.K (k.cl c) f) (I : RB k P w env S σ H) (r : Rep k w x v) (g : Rep k w d y) (e : putS cs f d x S = some S') :
    ∃ a C dx fs, v = .ref a ∧ H a = some (.ins C dx fs) ∧ Cls X.K C ∧ NoAttr X.K C f ∧ fs.length < 1000 ∧ RB k P w env S' σ (upd H a (.ins C dx (putF f y fs))) := by
  cases x <;> simp only [putS] at e <;> try contradiction
  rename_i n
  split at e
  · rename_i c fs he
    split at e
    · rename_i hcc
      cases e
      obtain ⟨a, rfl, ra⟩ := r
      obtain ⟨cc, o, e1, e2, e3, e4⟩ := I.rs.lt ra
      rw [he] at e1; cases e1
      obtain ⟨dx, fv, rfl, q1, q2⟩ := e4
      obtain ⟨p1, p2⟩ := putG_rep (f := f) g q1 q2
      refine ⟨a, _, dx, fv, rfl, e2, (hc c hcc.1).1, (hc c hcc.1).2, ?_, ?_⟩
      · have := congrArg List.length q1
        simp at this
        omega
      · rw [putG_V]
        exact I.updS ra ⟨dx, _, rfl, p1, p2⟩
    · cases e
  · cases e
theorem ds_fld {f : Str} {cs : List Nat} {p2 : Pos} (hc : ∀ c ∈ cs, Cls X.K (k.cl c) ∧ NoAttr X.K (k.cl c) f) (ho : DE X k W o ma) (hv : DE X k W e mb) (hs : swapsWith e (some (.Attribute o f p2)) pos.line X.env = pure false) : DS X k W (.Assign [.Attribute o f p2] e pos) (dSetFld cs f ma mb) :=
  PS.sub (ps_fld ho hv hs) fun Dn σ H ⟨P, w, env, S, I, h⟩ => thenE I h fun d w1 env1 S1 y H1 l1 I1 r1 h1 => thenE I1 h1 fun x w2 env2 S2 v H2 l2 I2 r2 h2 => by
    obtain ⟨S', e, h3⟩ := h2.getS.bind.opt
    obtain ⟨a, C, dx, fs, q1, q2, q3, q4, q5, q6⟩ := putS_ok hc I2 r2 (Rep.mono l2 d r1) e
    have h4 : Aft k W P w2 (M.ret Flo.nx env2 S') (rS k P Dn) := h3.ret
    exact ⟨a, C, dx, fs, q1, q2, q3, q4, q5, h4.ret σ _ q6⟩
theorem Aft.prot {α : Type} {P : Hp} {w : Wd} {o : Out α} {R : α → Wd → Envr → Sto → Prop} {p : Addr} {u : HO} (h : Aft k W P w o R) (n : P p = none) : Aft k W (upd P p u) w o R := by
  cases o with
  | ok a env S => exact h
  | exc x env S => exact fun w' σ H cls dx le I r => h w' σ H cls dx le (I.unprotect n).1 r
  | bad => exact h
theorem ds_fldF {f : Str} {cs : List Nat} {p2 : Pos} {mf : M Cell} (hc : ∀ c ∈ cs, Cls X.K (k.cl c) ∧ NoAttr X.K (k.cl c) f) (ho : DE X k W o ma) (hv : DF X k W e mf) (hs : swapsWith e (some (.Attribute o f p2)) pos.line X.env = pure false) : DS X k W (.Assign [.Attribute o f p2] e pos) (dSetFldF cs f ma mf) :=
  PS.sub (ps_fld ho hv hs) fun Dn σ H ⟨P, w, env, S, I, h⟩ => ⟨P, w, env, S, I, h.bind.imp fun c w1 env1 S1 l1 q p o H1 I1 e1 r1 L => by
    have I1' := I1.protect e1 L
    refine ⟨upd P p o, w1, env1, S1, I1', ((q.bind (m := ma)).prot L.p).imp fun x w2 env2 S2 l2 h2 v H2 I2 r2 => ?_⟩
    obtain ⟨I2, e2, L2⟩ := I2.unprotect L.p
    obtain ⟨S', e, h3⟩ := h2.getS.bind.opt
    have le := I2.rs.al_le (a := p)
    have I3 := I2.alloc e2 (r1.mono l2) L2
    obtain ⟨a, C, dx, fs, q1, q2, q3, q4, q5, q6⟩ := putS_ok (d := .ref S2.length) (y := .ref p) hc I3 (Rep.mono le x r2) ⟨p, rfl, Wd.al_at⟩ e
    have h4 : Aft k W P w2 (M.ret Flo.nx env2 S') (rS k P Dn) := h3.ret
    exact ⟨a, C, dx, fs, q1, q2, q3, q4, q5, (h4.up le).ret σ _ q6⟩⟩
end
end L2.MP
end
section
set_option Elab.async false
set_option linter.all false
set_option maxRecDepth 100000
set_option maxHeartbeats 4000000
namespace L2.MP
open PySem PySem.Spec PyProof.Rows
open AutoSeq1 (wpAny_loadPart')
theorem new_enumT (l : Addr) (items : Array Value) (n : Nat) (dct : Option Addr) (sl : Array (Option Value)) :
    Meets (Builtin.«enumerate.__new__» ⟨[.type "enumerate", .ref l], []⟩) (fun _ R s => s.heap.get? l = some { cls := .type "tuple", dict := dct, data := .seq items n, slots := sl } ∧
      R (.ok (.ret (.ref (s.heap.push { cls := .type "tuple_iterator", data := .fields #[.ref l, .int 0 0] }).objs.size)))
        { s with heap := (s.heap.push { cls := .type "tuple_iterator", data := .fields #[.ref l, .int 0 0] }).push { cls := .type "enumerate", data := .fields #[.none, .bool false, .ref s.heap.objs.size, rawInt 0, .none, .none] } }) :=
  .of_wp fun prog w A R s h => by
    obtain ⟨hp, g, d, tk, os⟩ := s
    obtain ⟨hl, h⟩ := h
    have sub1 := sub_enumerate
    have tp : Heap.IsTuple (Shared.heap ⟨hp, g, d, tk, os⟩) l items := ⟨_, hl, rfl, n, rfl⟩
    wp_walk using wpAny_loadPart' hl
    refine wpAny_stack_any fun st => wpAny_pure ?_
    split
    · rename_i c _ _ _ _ _
      cases (c == Value.type "enumerate") <;> (wp_walk using wpAny_loadPart' hl, wpAny_pyIter_tuple tp; exact ⟨_, rfl, h⟩)
    · wp_walk using wpAny_loadPart' hl, wpAny_pyIter_tuple tp
      exact ⟨_, rfl, h⟩
section
variable {prog : Program} {w : World} {A : Around} {E : Value → Shared → Prop} {s : Shared}
theorem call_enumT {l : Addr} {items : Array Value} {Q : Value → Shared → Prop} (tp : s.heap.IsTuple l items)
    (h : ∀ h', IsEnum h' (s.heap.objs.size + 1) s.heap.objs.size 0 .none → h'.IsTupleIter s.heap.objs.size l 0 → (∀ b o, s.heap.get? b = some o → h'.get? b = some o) → Q (.ref (s.heap.objs.size + 1)) { s with heap := h' }) :
    wpAny (model prog w) A (call (.type "enumerate") [.ref l]) Q E s := by
  obtain ⟨⟨c, dct, dt, sl⟩, hl, hc, n, hd⟩ := tp
  replace hc : c = .type "tuple" := hc
  replace hd : dt = .seq items n := hd
  subst hc hd
  refine callType_new F.called_enumerate (by decide) (F.typeCall_enumerate_1 _) (F.newCall_enumerate_1 _) (fun obj => F.args_object_init_2 obj _) F.entry_enumerate_new (new_enumT l items n dct sl) ⟨hl, ?_⟩
  let o1 : Obj := { cls := .type "tuple_iterator", data := .fields #[.ref l, .int 0 0] }
  have z1 : (s.heap.push o1).objs.size = s.heap.objs.size + 1 := Heap.size_push ..
  show _ ∧ _
  rw [z1]
  have ie : IsEnum ((s.heap.push o1).push { cls := .type "enumerate", data := .fields #[.none, .bool false, .ref s.heap.objs.size, rawInt 0, .none, .none] }) (s.heap.objs.size + 1) s.heap.objs.size 0 .none := by
    have q := Heap.get?_push_size (s.heap.push o1) (o := { cls := .type "enumerate", data := .fields #[.none, .bool false, .ref s.heap.objs.size, rawInt 0, .none, .none] }) rfl
    rw [z1] at q; exact q
  exact ⟨⟨_, ie, rfl⟩, h _ ie ⟨_, Heap.get?_push_of_some _ (Heap.get?_push_size _ rfl), rfl, rfl⟩ fun b o x => Heap.get?_push_of_some _ (Heap.get?_push_of_some _ x)⟩
end
def IteT (K : PySem.W.Frag) (a : Addr) : It :=
  ⟨fun i H => ∃ (xs : List V) (x : V), SqT K H a xs ∧ xs[i]? = some x, fun i H v H' => ∃ T x, v = .ref T ∧ H T = none ∧ H' = upd H T (.tup [.int (i : Nat), x]) ∧ ∀ xs, SqT K H a xs → xs[i]? = some x, fun i H => ∃ xs : List V, SqT K H a xs ∧ xs.length = i⟩
theorem turn_enumT {P : Program} {w : World} {K : PySem.W.Frag} {elts : List Expr} {kk : Nat} {tpos : Pos} (a e it : Addr) :
    Turn P w K (.Tuple elts kk tpos) (IteT K a) [e, it] e (fun i h => (∃ old, IsEnum h e it ((i : Nat) : Int) old) ∧ h.IsTupleIter it a i ∧ e ≠ it ∧ a ≠ it ∧ e ≠ a) where
  mem := by simp
  obj := fun i h st b hb => by
    obtain ⟨⟨old, he⟩, ⟨o, ho, hc, hd⟩, _⟩ := st
    have e' : b = e ∨ b = it := by simpa using hb
    rcases e' with rfl | rfl
    · exact ⟨_, he, fun v q => nomatch q⟩
    · exact ⟨o, ho, fun v q => by rw [hd] at q; cases q⟩
  keep := fun i h h' st k => let ⟨⟨old, he⟩, hi, hne⟩ := st; ⟨⟨old, k e (by simp) _ he⟩, hi.at fun o q => k it (by simp) o q, hne⟩
  item := by
    intro X hP hw hK hc i pins s σ H E I hf st hg
    subst hP hw hK
    obtain ⟨⟨old, he⟩, hit, hne, hai, hea⟩ := st
    obtain ⟨xs, x, hq, hx⟩ := hg
    obtain ⟨its, rv, p, hz⟩ := I.tuple hq
    obtain ⟨u, hu, ru⟩ := rv.get hx
    have hel : e < s.heap.objs.size := Heap.lt_size he
    have hil : it < s.heap.objs.size := by obtain ⟨_, q, _⟩ := hit; exact Heap.lt_size q
    have hlt : i < its.toArray.size := by
      have := (List.getElem?_eq_some_iff.mp hu).1
      rw [List.size_toArray]; exact this
    have hd : (X.A.in1).handled = none := I.ok.hd hc
    refine wpAny_pyNext_enum_itemD (Draws.tuple hd it a hai its.toArray) he ⟨hit, p⟩ hlt hne (by simp [hne, hea]) fun y h' tk hy ho st' hT hsz hk => ?_
    have ey : y = u := by
      have hu' : its.toArray[i]? = some u := by simpa using hu
      rw [hu'] at hy; exact (Option.some.inj hy).symm
    subst ey
    refine ⟨_, rfl, wpAny_letOwnedTupleGo_enum (s := { s with heap := h', toks := tk + 1 }) ho fun h'' he' sb => ?_⟩
    have hT2 : h''.get? s.heap.objs.size = some { cls := .type "tuple", data := .seq #[.int i tk, y] } := (sb.2 _ (Nat.ne_of_gt hel)).trans hT
    have new : ObjOk X.prog X.w (upd H s.heap.objs.size (.tup [.int (i : Nat), x])) h'' s.heap.objs.size (.tup [.int (i : Nat), x]) :=
      ⟨by show 2 ≤ sizeLine; decide, [.int i tk, y], .cons ⟨_, rfl⟩ (.cons ru .nil), ⟨_, hT2, rfl, _, rfl⟩⟩
    have I1 : Inv X pins σ (upd H s.heap.objs.size (.tup [.int (i : Nat), x])) { s with heap := h'', toks := tk + 1 } :=
      I.turnedNew (ch := [e, it]) (fun b ob hb q => (sb.2 b (fun z => hb (by simp [z]))).trans (hk b ob (fun z => hb (by simp [z])) (fun z => hb (by simp [z])) q)) hf (Nat.le_refl _) new
    refine ⟨.ref s.heap.objs.size, _, I1, rfl, ⟨_, x, rfl, I.hok.fresh (Nat.le_refl _), rfl, fun ys hy => by rw [I.tuple_inj hy hq]; exact hx⟩, ⟨⟨y, ?_⟩, st'.1.at fun o q => (sb.2 it (Ne.symm hne)).trans q, hne, hai, hea⟩, fun b hb => ?_⟩
    · have e1 : ((i + 1 : Nat) : Int) = (i : Int) + 1 := by omega
      rw [e1]; exact he'
    · have hb' : b < s.heap.objs.size := by
        have e' : b = e ∨ b = it := by simpa using hb
        rcases e' with rfl | rfl
        · exact hel
        · exact hil
      rw [upd_ne (Nat.ne_of_lt hb')]
      exact (hf b hb).1
  done := by
    intro X hP hw hK hc i pins s σ H E I hf st hg
    subst hP hw hK
    obtain ⟨⟨old, he⟩, hit, hne, hai, hea⟩ := st
    obtain ⟨xs, hq, hx⟩ := hg
    obtain ⟨its, rv, p, hz⟩ := I.tuple hq
    obtain ⟨f0, f1, f2, f3, f4, f5⟩ := hf it (by simp)
    have hl := rv.length
    have hd : (X.A.in1).handled = none := I.ok.hd hc
    have en : i = its.toArray.size := by rw [List.size_toArray]; omega
    subst en
    exact wpAny_pyNext_enum_endD (Draws.tuple hd it a hai its.toArray) he ⟨hit, p⟩ fun h' eb => ⟨rfl, I.turned (t' := s.toks) (fun b o hb q => eb b o hb q) f0 f1 f3 f4 f5⟩
  self := fun A i s Q E st h => let ⟨⟨_, he⟩, _⟩ := st; wpAny_pyIter_enum he h
def iEnumA (K : PySem.W.Frag) (ta : TA) : TI := fun σ H R => ta σ H fun vs H1 => ∃ a xs, vs = [.ref a] ∧ ((SqL K H1 a xs ∧ R (Ite K a) H1) ∨ (SqT K H1 a xs ∧ R (IteT K a) H1))
theorem pi_enumA {X : Cx} {e : Expr} {ta : TA} {p pos tpos : Pos} {elts : List Expr} {kk : Nat} (hg : Gl X "enumerate") (hm : X.mg "enumerate" = none) (ha : PA X [e] ta) (hs : starEach [e] X.env = [(false, eval e X.env)] := by rfl) :
    PI X (.Tuple elts kk tpos) (.Call (.Name "enumerate" p) [e] [] pos) (iEnumA X.K ta) := by
  refine ⟨fun pins s σ H R I h => Call_ (ld_blt I hg hm boot_enumerate (PyProof.Rows.callWith_type1 (thn (ha.run pos pins s σ H _ I h) fun us s1 ⟨vs, H1, I1, r1, q1⟩ => ?_) hs rfl))⟩
  obtain ⟨a, xs, rfl, q1⟩ := q1
  cases r1 with
  | cons r rr =>
    cases rr
    cases r
    have fresh : ∀ b ∈ [s1.heap.objs.size + 1, s1.heap.objs.size], FpOk X pins H1 b := fun b hb => by
      have hle : s1.heap.objs.size ≤ b := by
        rcases List.mem_cons.mp hb with z | z
        · rw [z]; exact Nat.le_add_right _ _
        · rw [List.mem_singleton.mp z]; exact Nat.le_refl _
      exact I1.fpOk hle (I1.hok.fresh hle)
    rcases q1 with ⟨hq, q⟩ | ⟨hq, q⟩
    · obtain ⟨its, rv, p', hz⟩ := I1.list hq
      refine call_enumerate_list p'.isList fun h' he hit hsz hk => wpAny_pyIter_enum he ?_
      have I2 : Inv X pins σ H1 { s1 with heap := h' } := I1.kept (t' := s1.toks) hk
      exact ⟨s1.heap.objs.size + 1, [s1.heap.objs.size + 1, s1.heap.objs.size], _, _, H1, rfl, I2, turn_enum a (s1.heap.objs.size + 1) s1.heap.objs.size, ⟨⟨.none, he⟩, hit, Nat.succ_ne_self _⟩, fresh, q⟩
    · obtain ⟨its, rv, p', hz⟩ := I1.tuple hq
      have hal : a < s1.heap.objs.size := by
        have ⟨o, ho, _⟩ := p'
        exact Heap.lt_size ho
      refine call_enumT p' fun h' he hit hk => wpAny_pyIter_enum he ?_
      have I2 : Inv X pins σ H1 { s1 with heap := h' } := I1.kept (t' := s1.toks) hk
      exact ⟨s1.heap.objs.size + 1, [s1.heap.objs.size + 1, s1.heap.objs.size], _, _, H1, rfl, I2, turn_enumT a (s1.heap.objs.size + 1) s1.heap.objs.size, ⟨⟨.none, he⟩, hit, Nat.succ_ne_self _, Nat.ne_of_lt hal, fun z => absurd (Nat.lt_trans (Nat.lt_succ_self _) (z ▸ hal : s1.heap.objs.size + 1 < s1.heap.objs.size)) (Nat.lt_irrefl _)⟩, fresh, q⟩
theorem walk_enumT {K : PySem.W.Frag} {a : Addr} {xs : List V} : Walk (IteT K a) xs.length (fun H => SqT K H a xs) (YPair (fun i => some (.int (i : Nat))) (fun i => xs[i]?)) := by
  refine ⟨fun i _ hi q => ⟨xs, xs[i]'hi, q, by simp [hi]⟩, fun _ q => ⟨xs, q, rfl⟩, fun i H v H' _ q y => ?_⟩
  obtain ⟨T, x, e1, e2, e3, e4⟩ := y
  exact ⟨T, .int (i : Nat), x, e1, e2, e3, rfl, e4 xs q⟩
end L2.MP
end
section
set_option Elab.async false
set_option linter.all false
set_option maxRecDepth 100000
set_option maxHeartbeats 4000000
namespace L2.MP
open PySem PySem.Spec PyProof.Rows RZ
mutual
theorem sameD_eq : ∀ (a b : D), sameD a b = true → a = b
  | .non, b, h => by cases b <;> first | rfl | cases h
  | .bl x, b, h => by cases b <;> first | (rw [eq_of_beq (show (x == _) = true from h)]) | cases h
  | .int x, b, h => by cases b <;> first | (rw [eq_of_beq (show (x == _) = true from h)]) | cases h
  | .str x, b, h => by cases b <;> first | (rw [eq_of_beq (show (x == _) = true from h)]) | cases h
  | .ref x, b, h => by cases b <;> first | (rw [eq_of_beq (show (x == _) = true from h)]) | cases h
  | .tup x, b, h => by cases b <;> first | (rw [sameDs_eq x _ h]) | cases h
  | .lst x, b, h => by cases b <;> first | (rw [sameDs_eq x _ h]) | cases h
  | .rl x, b, h => by cases b <;> first | (rw [sameDs_eq x _ h]) | cases h
  | .rt x, b, h => by cases b <;> first | (rw [sameDs_eq x _ h]) | cases h
  | .dk _ _, b, h => by cases b <;> cases h
  | .dt _ _, b, h => by cases b <;> cases h
  | .own _, b, h => by cases b <;> cases h
theorem sameDs_eq : ∀ (a b : List D), sameDs a b = true → a = b
  | [], [], _ => rfl
  | [], _ :: _, h => by cases h
  | _ :: _, [], h => by cases h
  | a :: r, b :: s, h => by
    have h : (sameD a b && sameDs r s) = true := h
    rw [Bool.and_eq_true] at h
    rw [sameD_eq a b h.1, sameDs_eq r s h.2]
end
structure Agree (vs : List Nat) (σ σ' : L2.St) : Prop where
  len : σ'.length = σ.length
  at_ : ∀ j, j ∉ vs → σ'[j]? = σ[j]?
theorem Agree.refl {vs : List Nat} {σ : L2.St} : Agree vs σ σ := ⟨rfl, fun _ _ => rfl⟩
theorem Agree.trans {vs : List Nat} {a b c : L2.St} (h : Agree vs a b) (g : Agree vs b c) : Agree vs a c := ⟨g.len.trans h.len, fun j hj => (g.at_ j hj).trans (h.at_ j hj)⟩
theorem Agree.mono {vs us : List Nat} {a b : L2.St} (h : Agree vs a b) (s : ∀ j ∈ vs, j ∈ us) : Agree us a b := ⟨h.len, fun j hj => h.at_ j fun z => hj (s j z)⟩
theorem Agree.set {vs : List Nat} {σ : L2.St} {i : Nat} {v : Option V} (hi : i ∈ vs) : Agree vs σ (σ.set i v) := ⟨by simp, fun j hj => List.getElem?_set_ne (fun e => hj (by rw [← e]; exact hi))⟩
def tG (k : Ky) (vs : List Nat) (g : Tgt) : TG := fun v σ H Q => ∃ P w env S d env', RB k P w env S σ H ∧ Rep k w d v ∧ g d env = some env' ∧ ∀ σ', Agree vs σ σ' → RB k P w env' S σ' H → Q σ' H
def tGs (k : Ky) (vs : List Nat) (g : List Tgt) : TGs := fun us σ H Q => ∃ P w env S ds env', RB k P w env S σ H ∧ Reps k w ds us ∧ gTs g ds env = some env' ∧ ∀ σ', Agree vs σ σ' → RB k P w env' S σ' H → Q σ' H
theorem pg_sub' {X : Cx} {tg : Expr} {t t' : TG} (h : PG X tg t) (hs : ∀ v σ H Q, t' v σ H Q → t v σ H Q) : PG X tg t' := ⟨fun pins s σ H v u Q I r q => h.run pins s σ H v u Q I r (hs v σ H Q q)⟩
theorem pgs_sub' {X : Cx} {tg : List Expr} {t t' : TGs} (h : PGs X tg t) (hs : ∀ v σ H Q, t' v σ H Q → t v σ H Q) : PGs X tg t' := ⟨fun pins s σ H v u Q I r q => h.run pins s σ H v u Q I r (hs v σ H Q q)⟩
section
variable {X : Cx} {k : Ky} {pos : Pos} {vs : List Nat}
theorem dg_name {i : Nat} {x : Str} (hN : X.N.Nodup) (hi : X.N[i]? = some x) (hx : Loc X.env.scope x) (hf : X.fn x = true ∨ X.env.scope.names.lookup x = some .local) (hv : i ∈ vs) : PG X (.Name x pos) (tG k vs (gNm i)) :=
  pg_sub' (pg_name hN hi hx hf) fun v σ H Q ⟨P, w, env, S, d, env', I, r, e, q⟩ => by
    cases e
    exact q _ (.set hv) (I.setVal r)
theorem dgs_nil : PGs X [] (tGs k vs []) := pgs_sub' pgs_nil fun v σ H Q ⟨P, w, env, S, ds, env', I, r, e, q⟩ => by
  cases ds with
  | nil =>
    cases e
    exact ⟨r, q σ .refl I⟩
  | cons d ds => cases e
theorem dgs_cons {e : Expr} {es : List Expr} {g : Tgt} {gs : List Tgt} (h1 : PG X e (tG k vs g)) (h2 : PGs X es (tGs k vs gs)) (hs : (assignEach (e :: es) X.env).map (·.2) = assign e X.env :: (assignEach es X.env).map (·.2)) : PGs X (e :: es) (tGs k vs (g :: gs)) :=
  pgs_sub' (pgs_cons h1 h2 hs) fun us σ H Q ⟨P, w, env, S, ds, env', I, r, e, q⟩ => by
    cases ds with
    | nil => cases e
    | cons d ds =>
      obtain ⟨v, t, rfl, r1, r2⟩ := r
      obtain ⟨env1, e1, e2⟩ := Option.bind_eq_some_iff.mp e
      exact ⟨v, t, rfl, P, w, env, S, d, env1, I, r1, e1, fun σ1 a1 I1 => ⟨P, w, env1, S, ds, env', I1, r2, e2, fun σ2 a2 I2 => q σ2 (a1.trans a2) I2⟩⟩
theorem gTs_len : ∀ {gs : List Tgt} {ds : List D} {env env' : Envr}, gTs gs ds env = some env' → ds.length = gs.length
  | [], [], _, _, _ => rfl
  | [], _ :: _, _, _, e => by cases e
  | _ :: _, [], _, _, e => by cases e
  | g :: gs, d :: ds, env, env', e => by
    obtain ⟨_, _, e2⟩ := Option.bind_eq_some_iff.mp e
    simp [gTs_len e2]
theorem dg_tup {es : List Expr} {kk : Nat} {gs : List Tgt} (hk : k.K = X.K) (hc : X.calm = true) (h : PGs X es (tGs k vs gs)) (hn : (assignEach es X.env).length = gs.length) (hst : (assignEach es X.env).findIdx? (·.1) = none) : PG X (.Tuple es kk pos) (tG k vs (gTp gs)) :=
  pg_sub' (pg_tup hc h hn hst) fun v σ H Q ⟨P, w, env, S, d, env', I, r, e, q⟩ => by
    unfold gTp at e
    split at e
    · rename_i ds ed
      have key : ∃ a us, v = .ref a ∧ SqT k.K H a us ∧ Reps k w ds us := by
        rcases tupOf_ok ed with rfl | rfl
        · obtain ⟨a, us, e1, f, r⟩ := r; exact ⟨a, us, e1, SqT.of (I.rs.frz _ _ f), r⟩
        · obtain ⟨a, us, e1, f, r⟩ := r; exact ⟨a, us, e1, sqT_mono I.rs.frz f, r⟩
      obtain ⟨a, us, rfl, f, r⟩ := key
      exact ⟨a, us, rfl, hk ▸ f, by rw [r.length, gTs_len e], P, w, env, S, ds, env', I, r, e, q⟩
    · cases e
end
structure ItOk (k : Ky) (w0 : Wd) (src : Src) (J : It) : Prop where
  ex : ∃ G Y, Walk J src.1.length G Y ∧ (∀ P w env S σ H, Wd.Le w0 w → RB k P w env S σ H → gOk src.2 src.1 S = true → G H) ∧
    ∀ P w env S σ H i x H', Wd.Le w0 w → RB k P w env S σ H → gOk src.2 src.1 S = true → i < src.1.length → Y i H x H' → ∃ w' d, src.1[i]? = some d ∧ Wd.Le w w' ∧ RB k P w' env S σ H' ∧ Rep k w' d x
def rI' (k : Ky) (P : Hp) (σ : L2.St) (R : It → Hp → Prop) : Src → Wd → Envr → Sto → Prop := fun src w env S => ∀ H J, RB k P w env S σ H → ItOk k w src J → R J H
def tI (k : Ky) (W : WX) (m : M Src) : TI := fun σ H R => ∃ P w env S, RB k P w env S σ H ∧ Aft k W P w (m env S) (rI' k P σ R)
abbrev DI (X : Cx) (k : Ky) (W : WX) (tg e : Expr) (m : M Src) : Prop := PI X tg e (tI k W m)
theorem pi_sub {X : Cx} {tg e : Expr} {t t' : TI} (h : PI X tg e t) (hs : ∀ σ H R, t' σ H R → t σ H R) : PI X tg e t' := ⟨fun pins s σ H R I q => h.run pins s σ H R I (hs σ H R q)⟩
section
variable {X : Cx} {k : Ky} {W : WX} {a b e tg : Expr} {ma mb : M D} {pos : Pos}
def iAny (K : PySem.W.Frag) (t : TE) : TI := fun σ H R => t σ H fun x H1 => (∃ a, x = .ref a ∧ (∃ xs, SqL K H1 a xs) ∧ R (Itl K a) H1) ∨ ((∃ a, x = .ref a ∧ (∃ xs, SqT K H1 a xs) ∧ R (Itt K a) H1) ∨ ∃ z, x = .str z ∧ R (Its z) H1)
theorem pi_any {t : TE} (h : PE X e t) : PI X tg e (iAny X.K t) := by
  constructor
  intro pins s σ H R I hq
  refine thn (h.run pins s σ H _ I hq) ?_
  rintro v s1 ⟨x, H1, J, r, (⟨a, rfl, ⟨xs, hs⟩, q⟩ | ⟨a, rfl, ⟨xs, hs⟩, q⟩ | ⟨z, rfl, q⟩)⟩
  · cases r
    obtain ⟨its, _, pl, _⟩ := J.list hs
    exact wpAny_pyIter_list pl.isList (pi_one (tk := s1.toks) J _ (turn_list a _) ⟨_, Heap.get?_push_size _ rfl, rfl, rfl⟩ q)
  · cases r
    obtain ⟨its, _, pl, _⟩ := J.tuple hs
    exact wpAny_pyIter_tuple (show s1.heap.IsTuple a its.toArray from pl) (pi_one (tk := s1.toks) J _ (turn_tuple a _) ⟨_, Heap.get?_push_size _ rfl, rfl, rfl⟩ q)
  · obtain ⟨t, rfl⟩ := r
    cases hz : z.cps.all (· < 128) with
    | false => exact wpAny_pyIter_wide hz (pi_one (tk := s1.toks) J _ (turn_str _ z t "str_iterator" (.inr rfl)) ⟨_, Heap.get?_push_size _ rfl, rfl, rfl⟩ q)
    | true => exact wpAny_pyIter_ascii hz (pi_one (tk := s1.toks) J _ (turn_str _ z t "str_ascii_iterator" (.inl rfl)) ⟨_, Heap.get?_push_size _ rfl, rfl, rfl⟩ q)
theorem yAt_rep {w0 w : Wd} {P : Hp} {env : Envr} {S : Sto} {σ : L2.St} {H H' : Hp} {i : Nat} {x : V} {vs : List V} {l : List D} (r : Reps k w0 l vs) (le : Wd.Le w0 w) (I : RB k P w env S σ H) (y : YAt vs i H x H') : ∃ w' d, l[i]? = some d ∧ Wd.Le w w' ∧ RB k P w' env S σ H' ∧ Rep k w' d x := by
  obtain ⟨rfl, e⟩ := y
  obtain ⟨d, e1, r1⟩ := (r.mono le).get e
  exact ⟨w, d, e1, .refl w, I, r1⟩
theorem itOk_list {w : Wd} {H : Hp} {a : Addr} {vs : List V} {l : List D} (f : SqL k.K w.F a vs) (r : Reps k w l vs) : ItOk k w (l, none) (Itl k.K a) :=
  ⟨fun H => SqL k.K H a vs, YAt vs, by rw [show (l, (none : Option Nat)).1.length = vs.length from r.length.symm]; exact walk_list, fun P w1 env S σ H le I _ => sqL_mono (fun b o e => I.rs.frz b o (le.f b o e)) f, fun P w1 env S σ H i x H' le I _ _ y => yAt_rep r le I y⟩
theorem itOk_tup {w : Wd} {a : Addr} {vs : List V} {l : List D} (f : SqT k.K w.F a vs) (r : Reps k w l vs) : ItOk k w (l, none) (Itt k.K a) :=
  ⟨fun H => SqT k.K H a vs, YAt vs, by rw [show (l, (none : Option Nat)).1.length = vs.length from r.length.symm]; exact walk_tup, fun P w1 env S σ H le I _ => sqT_mono (fun b o e => I.rs.frz b o (le.f b o e)) f, fun P w1 env S σ H i x H' le I _ _ y => yAt_rep r le I y⟩
theorem itOk_ref {w : Wd} {n : Nat} {a : Addr} {l : List D} (ra : w.R n = some a) : ItOk k w (l, some (2 * n)) (Itl k.K a) := by
  have look : ∀ {P w1 env S σ H}, Wd.Le w w1 → RB k P w1 env S σ H → gOk (some (2 * n)) l S = true → ∃ vs, H a = some (.lst vs) ∧ Reps k w1 l vs := by
    intro P w1 env S σ H le I g
    obtain ⟨c, o, e1, e2, e3, e4⟩ := I.rs.lt (le.r _ _ ra)
    have g : (match S[2 * n / 2]? with
      | some (.lst m) => if 2 * n % 2 = 0 then sameDs m l else sameDs (enumFrom 0 m) l
      | _ => false) = true := g
    rw [show 2 * n / 2 = n by omega, e1] at g
    cases c with
    | lst m =>
      dsimp only at g
      rw [if_pos (show 2 * n % 2 = 0 by omega)] at g
      have := sameDs_eq m l g
      subst this
      obtain ⟨vs, rfl, r⟩ := e4
      exact ⟨vs, e2, r⟩
    | _ => cases g
  refine ⟨fun H => ∃ vs, H a = some (.lst vs) ∧ vs.length = l.length, fun i H x H' => H' = H ∧ ∀ vs, H a = some (.lst vs) → vs[i]? = some x, ⟨fun i H hi ⟨vs, h, e⟩ => ⟨vs, vs[i], SqL.of h, by simp [show i < vs.length by rw [e]; exact hi]⟩, fun H ⟨vs, h, e⟩ => ⟨vs, SqL.of h, Nat.le_of_eq e⟩, fun i H x H' hi g y => ⟨y.1, fun vs h => y.2 vs (SqL.of h)⟩⟩, ?_, ?_⟩
  · intro P w1 env S σ H le I g
    obtain ⟨vs, h, r⟩ := look le I g
    exact ⟨vs, h, r.length⟩
  · intro P w1 env S σ H i x H' le I g hi ⟨e, y⟩
    subst e
    obtain ⟨vs, h, r⟩ := look le I g
    obtain ⟨d, e1, r1⟩ := r.get (y vs h)
    exact ⟨w1, d, e1, .refl w1, I, r1⟩
theorem itOk_str {w : Wd} {z : Str} : ItOk k w (signs z, none) (Its z) := by
  refine ⟨fun _ => True, _, by rw [show (signs z, (none : Option Nat)).1.length = z.cps.size by simp [signs]]; exact walk_str, fun _ _ _ _ _ _ _ _ _ => trivial, ?_⟩
  intro P w1 env S σ H i x H' le I _ hi ⟨e, c, ec, ex⟩
  subst e
  refine ⟨w1, .str ⟨#[c]⟩, ?_, .refl w1, I, ex⟩
  show (z.cps.toList.map _)[i]? = _
  rw [List.getElem?_map, Array.getElem?_toList, ec]
  rfl
theorem di_walk (hk : k.K = X.K) (h : DE X k W e ma) : DI X k W tg e (dWalk ma) :=
  pi_sub (pi_any h) fun σ H R ⟨P, w, env, S, I, q⟩ => thenE I q fun d w1 env1 S1 v H1 l1 I1 r1 q1 => by
    obtain ⟨src, es, q2⟩ := q1.getS.opt
    have fin : ∀ J, ItOk k w1 src J → R J H1 := fun J ok => q2.ret H1 J I1 ok
    cases d <;> simp only [srcOf, itemsD] at es <;> try contradiction
    · cases es; exact .inr (.inr ⟨_, r1, fin _ itOk_str⟩)
    · cases es; obtain ⟨a, vs, e1, f, r⟩ := r1; exact .inr (.inl ⟨a, e1, ⟨vs, hk ▸ SqT.of (I1.rs.frz _ _ f)⟩, hk ▸ fin _ (itOk_tup (SqT.of f) r)⟩)
    · cases es; obtain ⟨a, vs, e1, f, r⟩ := r1; exact .inl ⟨a, e1, ⟨vs, hk ▸ SqL.of (I1.rs.frz _ _ f)⟩, hk ▸ fin _ (itOk_list (H := H1) (SqL.of f) r)⟩
    · cases es; obtain ⟨a, vs, e1, f, r⟩ := r1; exact .inl ⟨a, e1, ⟨vs, hk ▸ sqL_mono I1.rs.frz f⟩, hk ▸ fin _ (itOk_list (H := H1) f r)⟩
    · cases es; obtain ⟨a, vs, e1, f, r⟩ := r1; exact .inr (.inl ⟨a, e1, ⟨vs, hk ▸ sqT_mono I1.rs.frz f⟩, hk ▸ fin _ (itOk_tup f r)⟩)
    · split at es
      · rename_i n l el
        cases es
        obtain ⟨a, e1, ra⟩ := r1
        obtain ⟨c, o, y1, y2, y3, y4⟩ := I1.rs.lt ra
        rw [el] at y1; cases y1
        obtain ⟨vs, rfl, r⟩ := y4
        exact .inl ⟨a, e1, ⟨vs, SqL.of y2⟩, hk ▸ fin _ (itOk_ref ra)⟩
      · cases es
theorem itOk_rng {w : Wd} {lo hi : Int} : ItOk k w (upto lo hi, none) (Itr lo (hi - lo).toNat) := by
  refine ⟨fun _ => True, _, by rw [show (upto lo hi, (none : Option Nat)).1.length = (hi - lo).toNat by simp [upto]]; exact walk_range, fun _ _ _ _ _ _ _ _ _ => trivial, ?_⟩
  intro P w1 env S σ H i x H' le I _ hi' ⟨e, ex⟩
  subst e
  refine ⟨w1, .int (lo + i), ?_, .refl w1, I, ex⟩
  have : i < (hi - lo).toNat := by simpa [upto] using hi'
  show ((List.range _).map _)[i]? = _
  rw [List.getElem?_map, List.getElem?_range this]
  rfl
theorem di_rng1 {p : Pos} (hg : Gl X "range") (hm : X.mg "range" = none) (ha : DE X k W a ma) (hs : ∀ x p, a ≠ .Starred x p) : DI X k W tg (.Call (.Name "range" p) [a] [] pos) (dRng1 ma) :=
  pi_sub (pi_range1 hg hm (pa_one ha hs) (star1 a hs [] _)) fun σ H R ⟨P, w, env, S, I, q⟩ => thenE I q fun d w1 env1 S1 v H1 l1 I1 r1 q1 => by
    cases d <;> first | exact q1.elim | skip
    rename_i j
    obtain ⟨hb, q1⟩ := if_ok q1
    unfold rgB at hb
    rw [Bool.and_eq_true] at hb
    have ok : ItOk k w1 (upto 0 j, none) (Itr 0 j.toNat) := by
      have := itOk_rng (k := k) (w := w1) (lo := 0) (hi := j)
      rwa [Int.sub_zero] at this
    exact ⟨j, by rw [show v = _ from r1], of_decide_eq_true hb.1, of_decide_eq_true hb.2, q1.ret H1 _ I1 ok⟩
theorem di_rng2 {p : Pos} (hg : Gl X "range") (hm : X.mg "range" = none) (ha : DE X k W a ma) (hb : DE X k W b mb) (hs : ∀ x p, a ≠ .Starred x p) (hs2 : ∀ x p, b ≠ .Starred x p) : DI X k W tg (.Call (.Name "range" p) [a, b] [] pos) (dRng2 ma mb) :=
  pi_sub (pi_range2 hg hm (pa_cons ha (pa_one hb hs2) (star1 a hs _ _)) (by rw [star1 a hs, star1 b hs2]; rfl) (star1 b hs2 [] _)) fun σ H R ⟨P, w, env, S, I, q⟩ => thenE I q fun c w1 env1 S1 v H1 l1 I1 r1 q1 => thenE I1 q1 fun d w2 env2 S2 u H2 l2 I2 r2 q2 => by
    cases c <;> first | exact q2.elim | skip
    cases d <;> first | exact q2.elim | skip
    rename_i i j
    obtain ⟨hb, q2⟩ := if_ok q2
    unfold rgB at hb
    simp only [Bool.and_eq_true, decide_eq_true_eq] at hb
    exact ⟨i, j, by rw [show v = _ from r1, show u = _ from r2], ⟨hb.1.1, hb.1.2, hb.2.1, hb.2.2⟩, q2.ret H2 _ I2 itOk_rng⟩
theorem yPair_rep {w : Wd} {P : Hp} {env : Envr} {S : Sto} {σ : L2.St} {H H' : Hp} {i : Nat} {x : V} {f g : Nat → Option V} {ff gg : Nat → Option D} (hf : ∀ v, f i = some v → ∃ d, ff i = some d ∧ Rep k w d v) (hg : ∀ v, g i = some v → ∃ d, gg i = some d ∧ Rep k w d v) (I : RB k P w env S σ H) (y : YPair f g i H x H') :
    ∃ w' d e, ff i = some d ∧ gg i = some e ∧ Wd.Le w w' ∧ RB k P w' env S σ H' ∧ Rep k w' (.tup [d, e]) x := by
  obtain ⟨T, u, v, rfl, hT, rfl, h1, h2⟩ := y
  obtain ⟨d, e1, r1⟩ := hf u h1
  obtain ⟨e, e2, r2⟩ := hg v h2
  have le := I.le_grow (o := .tup [u, v]) hT
  exact ⟨_, d, e, e1, e2, le, I.grow hT, T, [u, v], rfl, Wd.fz_at, ⟨_, _, rfl, Rep.mono le _ r1, Reps.one (Rep.mono le _ r2)⟩⟩
theorem enumFrom_get : ∀ (n : Nat) (l : List D) (i : Nat), (enumFrom n l)[i]? = l[i]?.map fun d => .tup [.int ((n + i : Nat) : Int), d]
  | n, [], i => by simp [enumFrom]
  | n, d :: r, 0 => by simp [enumFrom]
  | n, d :: r, i + 1 => by
    show (enumFrom (n + 1) r)[i]? = _
    rw [enumFrom_get (n + 1) r i, List.getElem?_cons_succ]
    rw [show n + 1 + i = n + (i + 1) by omega]
theorem enumFrom_len : ∀ (n : Nat) (l : List D), (enumFrom n l).length = l.length
  | n, [] => rfl
  | n, d :: r => by simp [enumFrom, enumFrom_len (n + 1) r]
theorem enumFrom_inj : ∀ {k : Nat} {l m : List D}, enumFrom k l = enumFrom k m → l = m
  | k, [], [], _ => rfl
  | k, [], _ :: _, h => nomatch h
  | k, _ :: _, [], h => nomatch h
  | k, a :: l, b :: m, h => by
    have h : D.tup [.int k, a] :: enumFrom (k + 1) l = D.tup [.int k, b] :: enumFrom (k + 1) m := h
    injection h with h1 h2
    injection h1 with h1
    injection h1 with _ h1
    injection h1 with h1 _
    rw [h1, enumFrom_inj h2]
theorem itOk_enum {w : Wd} {n : Nat} {a : Addr} {l : List D} (ra : w.R n = some a) : ItOk k w (enumFrom 0 l, some (2 * n + 1)) (Ite k.K a) := by
  have look : ∀ {P w1 env S σ H}, Wd.Le w w1 → RB k P w1 env S σ H → gOk (some (2 * n + 1)) (enumFrom 0 l) S = true → ∃ vs, H a = some (.lst vs) ∧ Reps k w1 l vs := by
    intro P w1 env S σ H le I g
    obtain ⟨c, o, e1, e2, e3, e4⟩ := I.rs.lt (le.r _ _ ra)
    have g : (match S[(2 * n + 1) / 2]? with
      | some (.lst m) => if (2 * n + 1) % 2 = 0 then sameDs m (enumFrom 0 l) else sameDs (enumFrom 0 m) (enumFrom 0 l)
      | _ => false) = true := g
    rw [show (2 * n + 1) / 2 = n by omega, e1] at g
    cases c with
    | lst m =>
      dsimp only at g
      rw [if_neg (show ¬ (2 * n + 1) % 2 = 0 by omega)] at g
      have := enumFrom_inj (sameDs_eq _ _ g)
      subst this
      obtain ⟨vs, rfl, r⟩ := e4
      exact ⟨vs, e2, r⟩
    | _ => cases g
  have len : ∀ {vs : List V}, vs.length = l.length → vs.length = (enumFrom 0 l, some (2 * n + 1)).1.length := fun h => h.trans (enumFrom_len 0 l).symm
  refine ⟨fun H => ∃ vs, H a = some (.lst vs) ∧ vs.length = l.length, fun i H x H' => ∃ T y, x = .ref T ∧ H T = none ∧ H' = upd H T (.tup [.int (i : Nat), y]) ∧ ∀ vs, H a = some (.lst vs) → vs[i]? = some y, ⟨fun i H hi ⟨vs, h, e⟩ => ⟨vs, vs[i]'(by rw [len e]; exact hi), SqL.of h, by simp [show i < vs.length by rw [len e]; exact hi]⟩, fun H ⟨vs, h, e⟩ => ⟨vs, SqL.of h, Nat.le_of_eq (len e)⟩, fun i H x H' hi g ⟨T, y, e1, e2, e3, e4⟩ => ⟨T, y, e1, e2, e3, fun vs h => e4 vs (SqL.of h)⟩⟩, ?_, ?_⟩
  · intro P w1 env S σ H le I g
    obtain ⟨vs, h, r⟩ := look le I g
    exact ⟨vs, h, r.length⟩
  · intro P w1 env S σ H i x H' le I g hi ⟨T, y, e1, e2, e3, e4⟩
    obtain ⟨vs, h, r⟩ := look le I g
    obtain ⟨w', d, e, h1, h2, h3, h4, h5⟩ := yPair_rep (ff := fun i => some (.int (i : Nat))) (gg := fun i => l[i]?) (f := fun i => some (.int (i : Nat))) (g := fun i => vs[i]?) (fun v e => by cases e; exact ⟨_, rfl, rfl⟩) (fun v e => r.get e) I ⟨T, .int (i : Nat), y, e1, e2, e3, rfl, e4 vs h⟩
    refine ⟨w', _, ?_, h3, h4, h5⟩
    show (enumFrom 0 l)[i]? = _
    rw [enumFrom_get, h2]
    cases h1
    simp
theorem di_enum {p tpos : Pos} {elts : List Expr} {kk : Nat} (hk : k.K = X.K) (hg : Gl X "enumerate") (hm : X.mg "enumerate" = none) (ha : DE X k W a ma) (hs : ∀ x p, a ≠ .Starred x p) : DI X k W (.Tuple elts kk tpos) (.Call (.Name "enumerate" p) [a] [] pos) (dEnum ma) :=
  pi_sub (pi_enumA hg hm (pa_one ha hs) (star1 a hs [] _)) fun σ H R ⟨P, w, env, S, I, q⟩ => thenE I q fun d w1 env1 S1 v H1 l1 I1 r1 q1 => by
    obtain ⟨src, es, q2⟩ := q1.getS.opt
    by_cases hd : ∃ n, d = .ref n
    · obtain ⟨n, rfl⟩ := hd
      unfold enumOf at es
      dsimp only at es
      split at es
      · rename_i l el
        cases es
        obtain ⟨a, e1, ra⟩ := r1
        obtain ⟨c, o, y1, y2, y3, y4⟩ := I1.rs.lt ra
        rw [el] at y1; cases y1
        obtain ⟨vs, rfl, r⟩ := y4
        subst e1
        exact ⟨a, vs, rfl, .inl ⟨SqL.of y2, q2.ret H1 _ I1 (hk ▸ itOk_enum ra)⟩⟩
      · cases es
    have es : (enumSrc d).map (fun l => (enumFrom 0 l, (none : Option Nat))) = some src := by
      unfold enumOf at es
      split at es
      · exact absurd ⟨_, rfl⟩ hd
      · exact es
    obtain ⟨l, el, rfl⟩ := Option.map_eq_some_iff.mp es
    have key : (∃ a vs, v = .ref a ∧ SqL k.K w1.F a vs ∧ Reps k w1 l vs) ∨ ∃ a vs, v = .ref a ∧ SqT k.K w1.F a vs ∧ Reps k w1 l vs := by
      unfold enumSrc at el
      split at el
      · rename_i l' e'
        cases el
        rcases lstOf_ok e' with rfl | rfl
        · obtain ⟨a, vs, e1, f, r⟩ := r1; exact .inl ⟨a, vs, e1, SqL.of f, r⟩
        · exact .inl r1
      · rcases tupOf_ok el with rfl | rfl
        · obtain ⟨a, vs, e1, f, r⟩ := r1; exact .inr ⟨a, vs, e1, SqT.of f, r⟩
        · exact .inr r1
    have fin : ∀ {J : It} {vs : List V} {St : Hp → Prop}, Walk J vs.length St (YPair (fun i => some (.int (i : Nat))) (fun i => vs[i]?)) → Reps k w1 l vs → (∀ P w env S σ H, Wd.Le w1 w → RB k P w env S σ H → St H) → ItOk k w1 (enumFrom 0 l, none) J := fun {J vs St} wk r st =>
      ⟨St, _, by rw [show (enumFrom 0 l, (none : Option Nat)).1.length = vs.length by rw [r.length]; exact enumFrom_len 0 l]; exact wk, fun P w env S σ H le I _ => st P w env S σ H le I, fun P w2 env S σ H i x H' le I _ hi y => by
        obtain ⟨w', d, e, h1, h2, h3, h4, h5⟩ := yPair_rep (ff := fun i => some (.int (i : Nat))) (gg := fun i => l[i]?) (fun v e => by cases e; exact ⟨_, rfl, rfl⟩) (fun v e => (r.mono le).get e) I y
        refine ⟨w', _, ?_, h3, h4, h5⟩
        show (enumFrom 0 l)[i]? = _
        rw [enumFrom_get, h2]
        cases h1
        simp⟩
    rcases key with ⟨a, vs, rfl, f, r⟩ | ⟨a, vs, rfl, f, r⟩
    · have f : SqL X.K w1.F a vs := hk ▸ f
      exact ⟨a, vs, rfl, .inl ⟨sqL_mono I1.rs.frz f, q2.ret H1 _ I1 (fin walk_enum r fun P w env S σ H le I => sqL_mono (fun b o e => I.rs.frz b o (le.f b o e)) f)⟩⟩
    · have f : SqT X.K w1.F a vs := hk ▸ f
      exact ⟨a, vs, rfl, .inr ⟨sqT_mono I1.rs.frz f, q2.ret H1 _ I1 (fin walk_enumT r fun P w env S σ H le I => sqT_mono (fun b o e => I.rs.frz b o (le.f b o e)) f)⟩⟩
theorem zipD_get : ∀ (l m : List D) (i : Nat) (a b : D), l[i]? = some a → m[i]? = some b → (zipD l m)[i]? = some (.tup [a, b])
  | [], _, _, _, _, h, _ => by simp at h
  | _ :: _, [], _, _, _, _, h => by simp at h
  | a :: r, b :: s, 0, _, _, h, g => by simp at h g; subst h g; rfl
  | a :: r, b :: s, i + 1, _, _, h, g => by simp at h g; exact zipD_get r s i _ _ h g
theorem walk_zipT {K : PySem.W.Frag} {a b : Addr} {xs ys : List V} : Walk (ItzT K a b) (min xs.length ys.length) (fun H => SqT K H a xs ∧ SqT K H b ys) (YPair (fun i => xs[i]?) (fun i => ys[i]?)) := by
  refine ⟨fun i _ hi q => ?_, fun _ q => ⟨xs, ys, q.1, q.2, by omega⟩, fun i H v H' _ q y => ?_⟩
  · exact ⟨xs, ys, xs[i]'(by omega), ys[i]'(by omega), q.1, q.2, by simp [show i < xs.length by omega], by simp [show i < ys.length by omega]⟩
  · obtain ⟨T, x, z, h1, h2, h3, h4, h5⟩ := y
    exact ⟨T, x, z, h1, h2, h3, h4 xs q.1, h5 ys q.2⟩
theorem di_zip {p tpos : Pos} {elts : List Expr} {kk : Nat} (hk : k.K = X.K) (hg : Gl X "zip") (hm : X.mg "zip" = none) (ha : DE X k W a ma) (hb : DE X k W b mb) (hs : ∀ x p, a ≠ .Starred x p) (hs2 : ∀ x p, b ≠ .Starred x p) : DI X k W (.Tuple elts kk tpos) (.Call (.Name "zip" p) [a, b] [] pos) (dZip ma mb) :=
  pi_sub (pi_zipA hg hm (pa_cons ha (pa_one hb hs2) (star1 a hs _ _)) (star1 a hs _ _) (star_false [b] (fun q hq => by simp at hq; subst hq; exact hs2) _ _)) fun σ H R ⟨P, w, env, S, I, q⟩ => thenE I q fun c w1 env1 S1 v H1 l1 I1 r1 q1 => thenE I1 q1 fun d w2 env2 S2 u H2 l2 I2 r2 q2 => by
    obtain ⟨src, es, q3⟩ := q2.opt
    obtain ⟨l, el, rfl⟩ := Option.map_eq_some_iff.mp es
    have r1 := Rep.mono l2 c r1
    have pairs : ∀ {l m : List D} {xs ys : List V} {w3 : Wd} {P env S σ H i x H'}, Reps k w2 l xs → Reps k w2 m ys → Wd.Le w2 w3 → RB k P w3 env S σ H → YPair (fun i => xs[i]?) (fun i => ys[i]?) i H x H' → ∃ w' d, (zipD l m)[i]? = some d ∧ Wd.Le w3 w' ∧ RB k P w' env S σ H' ∧ Rep k w' d x := by
      intro l m xs ys w3 P env S σ H i x H' rl rm le I y
      obtain ⟨w', d, e, h1, h2, h3, h4, h5⟩ := yPair_rep (ff := fun i => l[i]?) (gg := fun i => m[i]?) (fun v e => (rl.mono le).get e) (fun v e => (rm.mono le).get e) I y
      exact ⟨w', _, zipD_get l m i d e h1 h2, h3, h4, h5⟩
    have lists : ∀ {l m : List D}, (∃ a vs, v = .ref a ∧ SqL k.K w2.F a vs ∧ Reps k w2 l vs) → (∃ a vs, u = .ref a ∧ SqL k.K w2.F a vs ∧ Reps k w2 m vs) → R = R → (∀ J, ItOk k w2 (zipD l m, none) J → R J H2) → ∃ a b xs ys, [v, u] = [.ref a, .ref b] ∧ ((SqL X.K H2 a xs ∧ SqL X.K H2 b ys ∧ R (Itz X.K a b) H2) ∨ (SqT X.K H2 a xs ∧ SqT X.K H2 b ys ∧ R (ItzT X.K a b) H2)) := by
      rintro l m ⟨a, xs, rfl, f1, rl⟩ ⟨b, ys, rfl, f2, rm⟩ _ fin
      have f1 : SqL X.K w2.F a xs := hk ▸ f1
      have f2 : SqL X.K w2.F b ys := hk ▸ f2
      refine ⟨a, b, xs, ys, rfl, .inl ⟨sqL_mono I2.rs.frz f1, sqL_mono I2.rs.frz f2, fin _ ⟨fun H => SqL X.K H a xs ∧ SqL X.K H b ys, _, by rw [show (zipD l m, (none : Option Nat)).1.length = min xs.length ys.length by rw [rl.length, rm.length]; exact zipD_len l m]; exact walk_zip rfl, fun P w env S σ H le I _ => ⟨sqL_mono (fun b o e => I.rs.frz b o (le.f b o e)) f1, sqL_mono (fun b o e => I.rs.frz b o (le.f b o e)) f2⟩, fun P w3 env S σ H i x H' le I _ hi y => pairs rl rm le I y⟩⟩⟩
    have tups : ∀ {l m : List D}, (∃ a vs, v = .ref a ∧ SqT k.K w2.F a vs ∧ Reps k w2 l vs) → (∃ a vs, u = .ref a ∧ SqT k.K w2.F a vs ∧ Reps k w2 m vs) → (∀ J, ItOk k w2 (zipD l m, none) J → R J H2) → ∃ a b xs ys, [v, u] = [.ref a, .ref b] ∧ ((SqL X.K H2 a xs ∧ SqL X.K H2 b ys ∧ R (Itz X.K a b) H2) ∨ (SqT X.K H2 a xs ∧ SqT X.K H2 b ys ∧ R (ItzT X.K a b) H2)) := by
      rintro l m ⟨a, xs, rfl, f1, rl⟩ ⟨b, ys, rfl, f2, rm⟩ fin
      have f1 : SqT X.K w2.F a xs := hk ▸ f1
      have f2 : SqT X.K w2.F b ys := hk ▸ f2
      refine ⟨a, b, xs, ys, rfl, .inr ⟨sqT_mono I2.rs.frz f1, sqT_mono I2.rs.frz f2, fin _ ⟨fun H => SqT X.K H a xs ∧ SqT X.K H b ys, _, by rw [show (zipD l m, (none : Option Nat)).1.length = min xs.length ys.length by rw [rl.length, rm.length]; exact zipD_len l m]; exact walk_zipT, fun P w env S σ H le I _ => ⟨sqT_mono (fun b o e => I.rs.frz b o (le.f b o e)) f1, sqT_mono (fun b o e => I.rs.frz b o (le.f b o e)) f2⟩, fun P w3 env S σ H i x H' le I _ hi y => pairs rl rm le I y⟩⟩⟩
    have asL : ∀ {d : D} {v : V} {l : List D}, Rep k w2 d v → lstOf d = some l → ∃ a vs, v = .ref a ∧ SqL k.K w2.F a vs ∧ Reps k w2 l vs := by
      intro d v l r e
      rcases lstOf_ok e with rfl | rfl
      · obtain ⟨a, vs, e1, f, r⟩ := r; exact ⟨a, vs, e1, SqL.of f, r⟩
      · exact r
    have asT : ∀ {d : D} {v : V} {l : List D}, Rep k w2 d v → tupOf d = some l → ∃ a vs, v = .ref a ∧ SqT k.K w2.F a vs ∧ Reps k w2 l vs := by
      intro d v l r e
      rcases tupOf_ok e with rfl | rfl
      · obtain ⟨a, vs, e1, f, r⟩ := r; exact ⟨a, vs, e1, SqT.of f, r⟩
      · exact r
    unfold seqOf2 at el
    split at el
    · rename_i l1 m1 h1 h2
      cases el
      exact lists (asL r1 h1) (asL r2 h2) rfl fun J ok => q3.ret H2 J I2 ok
    · split at el
      · rename_i l1 m1 h1 h2
        cases el
        exact tups (asT r1 h1) (asT r2 h2) fun J ok => q3.ret H2 J I2 ok
      · cases el
end
end L2.MP
end
section
set_option Elab.async false
set_option linter.all false
set_option maxRecDepth 100000
set_option maxHeartbeats 4000000
namespace L2.MP
open PySem PySem.Spec PyProof.Rows
section
variable {X : Cx} {k : Ky} {W : WX} {a b e : Expr} {ma mb : M D} {pos : Pos} {body : List Stmt} {m : M Flo}
theorem drop_get {α : Type} {l : List α} {i : Nat} {d : α} (e : l[i]? = some d) : l.drop i = d :: l.drop (i + 1) := by
  obtain ⟨h, rfl⟩ := List.getElem?_eq_some_iff.mp e
  exact List.drop_eq_getElem_cons h
theorem ds_for {tg : Expr} {it : M Src} {g : Tgt} {vs : List Nat} (hp : PassesOwn (model X.prog X.w) X.A X.env X.xe) (hc : X.calm = true) (hi : DI X k W tg e it) (hg : PG X tg (tG k vs g)) (hb : DSs X k W body m) (hs : ∀ x, foldedSetIterable e X.env x = pure x) :
    DS X k W (.For tg e body [] pos) (dFor it g m) := by
  refine PS.sub (ps_for hp hc hi hg hb hs) fun Dn σ H ⟨P, w, env, S, I, h⟩ => ?_
  refine ⟨P, w, env, S, I, h.bind.imp fun src w1 env1 S1 l1 q H1 J I1 ok => ?_⟩
  obtain ⟨G, Y, walk, stay, yield_⟩ := ok.ex
  let Pv : Nat → L2.St → Hp → Prop := fun i σ H => ∃ w2 env2 S2, Wd.Le w1 w2 ∧ RB k P w2 env2 S2 σ H ∧ Aft k W P w2 (loopL src g m (src.1.drop i) env2 S2) (rS k P Dn)
  have guard : ∀ {i σ H}, Pv i σ H → ∃ w2 env2 S2, Wd.Le w1 w2 ∧ RB k P w2 env2 S2 σ H ∧ Aft k W P w2 (loopL src g m (src.1.drop i) env2 S2) (rS k P Dn) ∧ gOk src.2 src.1 S2 = true := by
    rintro i σ H ⟨w2, env2, S2, le, I2, q2⟩
    refine ⟨w2, env2, S2, le, I2, q2, ?_⟩
    by_cases hgk : gOk src.2 src.1 S2 = true
    · exact hgk
    · exfalso
      cases hd : src.1.drop i with
      | nil => rw [hd] at q2; unfold loopL at q2; rw [if_neg hgk] at q2; exact q2
      | cons d r => rw [hd] at q2; unfold loopL at q2; rw [if_neg hgk] at q2; exact q2
  refine for_it walk Pv ⟨w1, env1, S1, .refl w1, I1, q⟩ (fun i σ H _ pv => ?_) (fun i x σ H H' hi pv y => ?_) (fun σ H pv => ?_)
  · obtain ⟨w2, env2, S2, le, I2, q2, gk⟩ := guard pv
    exact stay P w2 env2 S2 σ H le I2 gk
  · obtain ⟨w2, env2, S2, le, I2, q2, gk⟩ := guard pv
    obtain ⟨w3, d, ed, le3, I3, r3⟩ := yield_ P w2 env2 S2 σ H i x H' le I2 gk hi y
    rw [drop_get ed] at q2
    unfold loopL at q2
    rw [if_pos gk] at q2
    cases et : g d env2 with
    | none => rw [et] at q2; exact q2.elim
    | some env3 =>
      rw [et] at q2
      refine ⟨P, w3, env2, S2, d, env3, I3, r3, et, fun σ' _ I4 => ⟨P, w3, env3, S2, I4, ?_⟩⟩
      dsimp only at q2
      have q3 := q2.up le3
      cases em : m env3 S2 with
      | bad => rw [em] at q3; exact q3
      | exc x env4 S4 => rw [em] at q3; exact q3
      | ok f env4 S4 =>
        rw [em] at q3
        intro w5 l5
        cases f with
        | nx => exact fun σ5 H5 I5 => ⟨w5, env4, S4, (le.trans le3).trans l5, I5, q3.up l5⟩
        | ct => exact fun σ5 H5 I5 => ⟨w5, env4, S4, (le.trans le3).trans l5, I5, q3.up l5⟩
        | bk => exact fun σ5 H5 I5 => q3 w5 l5 σ5 H5 I5
        | rt v => exact fun u σ5 H5 I5 r5 => q3 w5 l5 u σ5 H5 I5 r5
  · obtain ⟨w2, env2, S2, le, I2, q2, gk⟩ := guard pv
    rw [List.drop_length] at q2
    unfold loopL at q2
    rw [if_pos gk] at q2
    exact q2.ok σ H I2
theorem ds_while {mt : M Bool} {c : Expr} (fuel : Nat) (hp : PassesOwn (model X.prog X.w) X.A X.env X.xe) (hc : DT X k W c mt) (hb : DSs X k W body m) : DS X k W (.While c body [] pos) (dWhile mt m fuel) := by
  refine PS.sub (ps_while hp hc hb) fun Dn σ H ⟨P, w, env, S, I, h⟩ => ?_
  refine ⟨fun n σ H => ∃ w2 env2 S2, RB k P w2 env2 S2 σ H ∧ Aft k W P w2 (dWhile mt m n env2 S2) (rS k P Dn), ⟨fuel, w, env, S, I, h⟩, ?_⟩
  rintro n σ1 H1 ⟨w1, env1, S1, I1, h1⟩
  cases n with
  | zero => exact h1.elim
  | succ n =>
    refine thenT I1 h1 fun t w2 env2 S2 H2 l2 I2 h2 => ?_
    cases t with
    | false => exact iteF (h2.ret σ1 H2 I2)
    | true =>
      refine iteT ⟨fun σ H => ∃ w2 env2 S2, RB k P w2 env2 S2 σ H ∧ Aft k W P w2 (dWhile mt m n env2 S2) (rS k P Dn), fun σ' H' q => ⟨n, Nat.lt_succ_self n, q⟩, P, w2, env2, S2, I2, ?_⟩
      have h3 : Aft k W P w2 (match m env2 S2 with
        | .ok .nx env2 S2 => dWhile mt m n env2 S2
        | .ok .ct env2 S2 => dWhile mt m n env2 S2
        | .ok .bk env2 S2 => .ok .nx env2 S2
        | .ok (.rt v) env2 S2 => .ok (.rt v) env2 S2
        | .exc x env2 S2 => .exc x env2 S2
        | .bad => .bad) (rS k P Dn) := h2
      cases em : m env2 S2 with
      | bad => rw [em] at h3; exact h3
      | exc x env4 S4 => rw [em] at h3; exact h3
      | ok f env4 S4 =>
        rw [em] at h3
        intro w5 l5
        cases f with
        | nx => exact fun σ5 H5 I5 => ⟨w5, env4, S4, I5, h3.up l5⟩
        | ct => exact fun σ5 H5 I5 => ⟨w5, env4, S4, I5, h3.up l5⟩
        | bk => exact fun σ5 H5 I5 => h3 w5 l5 σ5 H5 I5
        | rt v => exact fun u σ5 H5 I5 r5 => h3 w5 l5 u σ5 H5 I5 r5
theorem RB.wipe {P : Hp} {w : Wd} {env : Envr} {S : Sto} {σ : L2.St} {H : Hp} (I : RB k P w env S σ H) : ∀ vs : List Nat, RB k P w (wipeE env vs) S (L2.wipe σ vs) H
  | [] => I
  | v :: vs => by
    have J := (I.wipe vs).setNo v
    refine J.less (by simp [L2.wipe]) fun i x e n => ?_
    show ((L2.wipe σ vs).set v none)[i]? = _
    rw [List.getElem?_set_ne, e]
    rintro rfl
    apply n
    show ((wipeE env vs).set v .no)[v]? = some .no
    have : v < (wipeE env vs).length := by
      have h1 := (List.getElem?_eq_some_iff.mp e).1
      rw [← (I.wipe vs).len]; exact h1
    rw [List.getElem?_set_self this]
theorem RB.unwipe {P : Hp} {w : Wd} {env : Envr} {S : Sto} {σ : L2.St} {H : Hp} {vs : List Nat} (I : RB k P w env S (L2.wipe σ vs) H) : RB k P w env S σ H :=
  I.less (L2.wipe_length σ vs).symm fun i v e _ => (L2.wipe_some e).1
theorem wipe_at {σ : L2.St} : ∀ {vs : List Nat} {i : Nat}, (L2.wipe σ vs)[i]? = if i ∈ vs ∧ i < σ.length then some none else σ[i]?
  | [], i => by simp [L2.wipe]
  | v :: vs, i => by
    show ((L2.wipe σ vs).set v none)[i]? = _
    by_cases h : v = i
    · subst h
      by_cases hl : v < σ.length
      · rw [List.getElem?_set_self (by rw [L2.wipe_length]; exact hl), if_pos ⟨List.mem_cons_self, hl⟩]
      · rw [List.getElem?_eq_none (by rw [List.length_set, L2.wipe_length]; omega), if_neg (by omega), List.getElem?_eq_none (by omega)]
    · rw [List.getElem?_set_ne h, wipe_at]
      have : i ∈ v :: vs ↔ i ∈ vs := by
        rw [List.mem_cons]
        exact ⟨fun q => q.resolve_left fun e => h e.symm, .inr⟩
      simp only [this]
theorem wipe_agree {σ σ' : L2.St} {vs : List Nat} (a : Agree vs (L2.wipe σ vs) σ') : L2.wipe σ' vs = L2.wipe σ vs := by
  have hl : σ'.length = σ.length := a.len.trans (L2.wipe_length σ vs)
  apply List.ext_getElem?
  intro i
  rw [wipe_at, wipe_at, hl]
  by_cases h : i ∈ vs ∧ i < σ.length
  · rw [if_pos h, if_pos h]
  · rw [if_neg h, if_neg h]
    by_cases hv : i ∈ vs
    · have : ¬ i < σ.length := fun q => h ⟨hv, q⟩
      rw [List.getElem?_eq_none (by omega), List.getElem?_eq_none (by omega)]
    · rw [a.at_ i hv, wipe_at, if_neg h]
abbrev W0 : WX := fun _ _ _ _ => False
theorem comp_lc {it : M Src} {g : Tgt} {tt : M Bool} {te : M D} {vs : List Nat} {σ : L2.St} {H : Hp} {Q : VK} (h : tF k W (dComp it g tt te vs) σ H Q) : tLc (tI k W it) (tG k vs g) (tTt k W0 tt) (tE k W0 te) vs σ H Q := by
  obtain ⟨P, w, env, S, I, h⟩ := h
  refine ⟨P, w, env, S, I, h.bind.imp fun src w1 env1 S1 l1 q H1 J I1 ok D hD => ?_⟩
  obtain ⟨hz, q⟩ := if_ok q
  obtain ⟨G, Y, walk, stay, yield_⟩ := ok.ex
  let Pv : Nat → Hp → Prop := fun i H => ∃ w2 env2 S2 acc us, Wd.Le w1 w2 ∧ RB k P w2 env2 S2 (L2.wipe σ vs) H ∧ Loose P w2 env2 (L2.wipe σ vs) D ∧ H D = some (.lst us) ∧ Reps k w2 acc us ∧ acc.length ≤ i ∧
    ∃ res envF SF, compL src g tt te vs (src.1.drop i) acc env2 S2 = .ok res envF SF ∧ ∀ w3, Wd.Le w2 w3 → rF k P σ Q (.lst res) w3 envF SF
  have guard : ∀ {i H}, Pv i H → ∃ w2 env2 S2 acc us, Wd.Le w1 w2 ∧ RB k P w2 env2 S2 (L2.wipe σ vs) H ∧ Loose P w2 env2 (L2.wipe σ vs) D ∧ H D = some (.lst us) ∧ Reps k w2 acc us ∧ acc.length ≤ i ∧
      (∃ res envF SF, compL src g tt te vs (src.1.drop i) acc env2 S2 = .ok res envF SF ∧ ∀ w3, Wd.Le w2 w3 → rF k P σ Q (.lst res) w3 envF SF) ∧ gOk src.2 src.1 S2 = true := by
    rintro i H ⟨w2, env2, S2, acc, us, le, I2, L2', e2, r2, hi, res, envF, SF, ec, fin⟩
    refine ⟨w2, env2, S2, acc, us, le, I2, L2', e2, r2, hi, ⟨res, envF, SF, ec, fin⟩, ?_⟩
    by_cases hgk : gOk src.2 src.1 S2 = true
    · exact hgk
    · exfalso
      cases hd : src.1.drop i with
      | nil => rw [hd] at ec; unfold compL at ec; rw [if_neg hgk] at ec; cases ec
      | cons d r => rw [hd] at ec; unfold compL at ec; rw [if_neg hgk] at ec; cases ec
  refine lc_it walk Pv ?_ (fun i H _ pv => ?_) (fun i x H H' hi pv y => ?_) (fun H pv => ?_)
  · obtain ⟨I2, L⟩ := I1.new (o := .lst []) hD
    have I3 := I2.wipe vs
    have L3 : Loose P w1 (wipeE env1 vs) (L2.wipe σ vs) D := ⟨L.f, L.r, L.p, fun i c e1 e2 => by
      have key : ∀ vs : List Nat, (wipeE env1 vs)[i]? = some (.own c) → env1[i]? = some (.own c) := by
        intro vs
        induction vs with
        | nil => exact id
        | cons v vs ih =>
          intro e
          rcases get_set (show ((wipeE env1 vs).set v .no)[i]? = some (.own c) from e) with ⟨_, z, _⟩ | ⟨_, e⟩
          · cases z
          · exact ih e
      exact L.o i c (key vs e1) (L2.wipe_some e2).1⟩
    cases ec : compL src g tt te vs src.1 [] (wipeE env1 vs) S1 with
    | ok res envF SF =>
      rw [ec] at q
      exact ⟨w1, _, S1, [], [], .refl w1, I3, L3, upd_same, rfl, Nat.le_refl _, res, envF, SF, ec, fun w3 l3 => q w3 l3⟩
    | exc x envF SF => rw [ec] at q; exact q.elim
    | bad => rw [ec] at q; exact q.elim
  · obtain ⟨w2, env2, S2, acc, us, le, I2, _, _, _, _, _, gk⟩ := guard pv
    exact stay P w2 env2 S2 _ H le I2 gk
  · obtain ⟨w2, env2, S2, acc, us, le, I2, L2', e2, r2, hi2, ⟨res, envF, SF, ec, fin⟩, gk⟩ := guard pv
    have I2p := I2.protect e2 L2'
    obtain ⟨w3, d, ed, le3, I3, r3⟩ := yield_ _ w2 env2 S2 _ H i x H' le I2p gk hi y
    rw [drop_get ed] at ec
    unfold compL at ec
    rw [if_pos gk] at ec
    cases et : g d env2 with
    | none => rw [et] at ec; cases ec
    | some env3 =>
      rw [et] at ec
      dsimp only at ec
      refine ⟨_, w3, env2, S2, d, env3, I3, r3, et, fun σ4 ag I4 => ⟨wipe_agree ag, ?_⟩⟩
      refine ⟨_, w3, env3, S2, I4, ?_⟩
      have hus : us.length = acc.length := r2.length
      have hlen : acc.length < sizeLine := by have : i < src.1.length := hi; omega
      cases em : tt env3 S2 with
      | bad => rw [em] at ec; cases ec
      | exc x env4 S4 => rw [em] at ec; cases ec
      | ok b env4 S4 =>
        rw [em] at ec
        intro w5 l5 H5 I5
        cases b with
        | false =>
          refine iteF ?_
          obtain ⟨I6, e6, L6⟩ := I5.unprotect L2'.p
          have I7 := I6.wipe vs
          rw [wipe_agree ag] at I7
          refine ⟨w5, _, S4, acc, us, (le.trans le3).trans l5, I7, ⟨L6.f, L6.r, L6.p, fun j c e1 e2 => ?_⟩, e6, r2.mono (le3.trans l5), by omega, res, envF, SF, ec, fun w6 l6 => fin w6 ((le3.trans l5).trans l6)⟩
          obtain ⟨a, o, x1, x2, x3, x4, x5, x6⟩ := I7.own j c e1
          rw [e2] at x1; cases x1
          have := (I5.wipe vs).own j c e1
          rw [wipe_agree ag] at this
          obtain ⟨a, o, y1, y2, y3, y4, y5, y6⟩ := this
          rw [e2] at y1; cases y1
          rw [upd_same] at y6; cases y6
        | true =>
          refine iteT ⟨_, w5, env4, S4, I5, ?_⟩
          dsimp only at ec
          cases ee : te env4 S4 with
          | bad => rw [ee] at ec; cases ec
          | exc x env6 S6 => rw [ee] at ec; cases ec
          | ok z env6 S6 =>
            rw [ee] at ec
            intro w7 l7 v H7 I7 r7
            obtain ⟨I8, e8, L8⟩ := I7.unprotect L2'.p
            refine ⟨us, e8, by rw [hus]; exact hlen, ?_⟩
            have le7 : Wd.Le w2 w7 := (le3.trans l5).trans l7
            -- the new list's cell is nobody's: it changes
            have I9 : RB k P w7 env6 S6 σ4 (upd H7 D (.lst (us ++ [v]))) := by
              refine ⟨⟨fun b o e => (upd_ne (fun q => by subst q; rw [L8.f] at e; cases e)).trans (I8.rs.frz b o e), fun n c e => ?_, I8.rs.bound, I8.rs.inj, fun b o e => ?_⟩, I8.len, I8.val, fun j c e => ?_, I8.sep, I8.exn⟩
              · obtain ⟨a, o, y1, y2, y3, y4⟩ := I8.rs.live n c e
                exact ⟨a, o, y1, (upd_ne (fun q => L8.r n (by rw [← q]; exact y1))).trans y2, y3, y4⟩
              · obtain ⟨y1, y2, y3⟩ := I8.rs.prot b o e
                exact ⟨(upd_ne (fun q => by subst q; rw [L8.p] at e; cases e)).trans y1, y2, y3⟩
              · obtain ⟨a, o, y1, y2, y3⟩ := I8.own j c e
                exact ⟨a, o, y1, (upd_ne (fun q => L8.o j c e (by rw [← q]; exact y1))).trans y2, y3⟩
            have I10 := I9.wipe vs
            rw [wipe_agree ag] at I10
            refine ⟨w7, _, S6, acc ++ [z], us ++ [v], (le.trans le7), I10, ⟨L8.f, L8.r, L8.p, fun j c e1 e2 => ?_⟩, upd_same, (r2.mono le7).append (Reps.one r7), by simp; omega, res, envF, SF, ec, fun w6 l6 => fin w6 (le7.trans l6)⟩
            have := (I7.wipe vs).own j c e1
            rw [wipe_agree ag] at this
            obtain ⟨a, o, y1, y2, y3, y4, y5, y6⟩ := this
            rw [e2] at y1; cases y1
            rw [upd_same] at y6; cases y6
  · obtain ⟨w2, env2, S2, acc, us, le, I2, L2', e2, r2, hi2, ⟨res, envF, SF, ec, fin⟩, gk⟩ := guard pv
    rw [List.drop_length] at ec
    unfold compL at ec
    rw [if_pos gk] at ec
    cases ec
    refine fin w2 (.refl w2) D _ H I2.unwipe e2 ⟨us, rfl, r2⟩ ⟨L2'.f, L2'.r, L2'.p, fun j c e1 e2 => ?_⟩
    obtain ⟨a, o, y1, y2, _⟩ := I2.own j c e1
    have := (L2.wipe_some y1).1
    rw [e2] at this; cases this
    exact L2'.o j c e1 y1
end
end L2.MP
end
section
set_option Elab.async false
set_option linter.all false
set_option maxRecDepth 100000
set_option maxHeartbeats 4000000
namespace L2.MP
open PySem PySem.Spec PyProof.Rows
section
variable {X : Cx} {k : Ky} {W : WX} {a b e : Expr} {ma mb : M D} {mf : M Cell} {pos : Pos} {st : Stmt} {i : Nat}
theorem ds_set (h : PS X st (tAsg (tE k W ma) (gName i))) : DS X k W st (dSet i ma) := PS.sub h fun Dn σ H ⟨P, w, env, S, I, h⟩ => thenE I h fun d w1 env1 S1 v H1 l1 I1 r1 h1 => by
  have h2 : Aft k W P w1 (M.ret Flo.nx (env1.set i (.val d)) S1) (rS k P Dn) := h1
  exact h2.ret _ H1 (I1.setVal r1)
theorem ds_setOwn (h : PS X st (tAsg (tF k W mf) (gName i))) : DS X k W st (dSetOwn i mf) := PS.sub h fun Dn σ H ⟨P, w, env, S, I, h⟩ => ⟨P, w, env, S, I, h.bind.imp fun c w1 env1 S1 l1 q p o H1 I1 e1 r1 L => by
  have h2 : Aft k W P w1 (M.ret Flo.nx (env1.set i (.own c)) S1) (rS k P Dn) := q
  exact h2.ret _ H1 (I1.setOwn e1 r1 L)⟩
theorem ds_setHp (h : PS X st (tAsg (tF k W mf) (gName i))) : DS X k W st (dSetHp i mf) := PS.sub h fun Dn σ H ⟨P, w, env, S, I, h⟩ => ⟨P, w, env, S, I, h.bind.imp fun c w1 env1 S1 l1 q p o H1 I1 e1 r1 L => by
  have h2 : Aft k W P w1 (M.ret Flo.nx (env1.set i (.val (.ref S1.length))) (S1 ++ [c])) (rS k P Dn) := q
  have le := I1.rs.al_le (a := p)
  have I2 := I1.alloc e1 r1 L
  exact (h2.up le).ret _ H1 (I2.setVal ⟨p, rfl, Wd.al_at⟩)⟩
theorem as_fz (h : PS X st (tAsg (tF k W mf) (gName i))) : PS X st (tAsg (tE k W (dFz mf)) (gName i)) := PS.sub h fun Dn σ H ⟨P, w, env, S, I, h⟩ => ⟨P, w, env, S, I, h.bind.imp fun c w1 env1 S1 l1 q p o H1 I1 e1 r1 L => by
  obtain ⟨d, e, q⟩ := q.opt
  have le : Wd.Le w1 (w1.fz p o) := Wd.fz_le L.f
  exact (q.up le).ret _ _ (I1.freeze e1 L) (frozen_rep e (r1.mono le) Wd.fz_at)⟩
theorem ds_asg {g : Tgt} {vs : List Nat} (h : PS X st (tAsg (tE k W ma) (tG k vs g))) : DS X k W st (dAsg g ma) := PS.sub h fun Dn σ H ⟨P, w, env, S, I, h⟩ => thenE I h fun d w1 env1 S1 v H1 l1 I1 r1 h1 => by
  have h2 : Aft k W P w1 (M.bind (setTg g d) (fun _ => M.ret Flo.nx) env1 S1) (rS k P Dn) := h1
  unfold M.bind setTg at h2
  cases e : g d env1 with
  | none => rw [e] at h2; exact h2.elim
  | some env2 =>
    rw [e] at h2
    exact ⟨P, w1, env1, S1, d, env2, I1, r1, e, fun σ' _ J => h2.ok σ' H1 J⟩
variable {rest body els : List Stmt} {ms mt mu : M Flo}
theorem dss_nil : DSs X k W [] (M.ret .nx) := PSs.sub pss_nil fun Dn σ H ⟨P, w, env, S, I, h⟩ => h.ret σ H I
theorem dss_cons (h1 : DS X k W st ms) (h2 : DSs X k W rest mt) : DSs X k W (st :: rest) (dSeq ms mt) :=
  PSs.sub (pss_cons h1 h2) fun Dn σ H ⟨P, w, env, S, I, h⟩ => ⟨P, w, env, S, I, h.bind.imp fun f w1 env1 S1 l1 q => by
    cases f with
    | nx => exact fun σ' H' J => ⟨P, w1, env1, S1, J, q⟩
    | rt d => exact q.ret
    | bk => exact q.ret
    | ct => exact q.ret⟩
theorem dss_one (h : DS X k W st ms) : DSs X k W [st] ms := pss_one h
theorem ds_pass : DS X k W (.Pass pos) (M.ret .nx) := PS.sub ps_pass fun Dn σ H ⟨P, w, env, S, I, h⟩ => h.ret σ H I
theorem ds_break : DS X k W (.Break pos) (M.ret .bk) := PS.sub ps_break fun Dn σ H ⟨P, w, env, S, I, h⟩ => h.ret σ H I
theorem ds_continue : DS X k W (.Continue pos) (M.ret .ct) := PS.sub ps_continue fun Dn σ H ⟨P, w, env, S, I, h⟩ => h.ret σ H I
theorem ds_never {s : Stmt} : DS X k W s M.fail := PS.sub (ps_never (st := s)) fun Dn σ H ⟨P, w, env, S, I, h⟩ => h
theorem ds_expr (ha : DE X k W e ma) (hs : swapsWith e none pos.line X.env = pure false) : DS X k W (.Expr e pos) (dExpr ma) :=
  PS.sub (ps_expr ha hs) fun Dn σ H ⟨P, w, env, S, I, h⟩ => thenE I h fun d w1 env1 S1 v H1 l1 I1 r1 h1 => h1.ret σ H1 I1
theorem ds_ret (ha : DE X k W e ma) : DS X k W (.Return (some e) pos) (dRet ma) :=
  PS.sub (ps_ret ha) fun Dn σ H ⟨P, w, env, S, I, h⟩ => thenE I h fun d w1 env1 S1 v H1 l1 I1 r1 h1 => h1.ret v σ H1 I1 r1
theorem ds_retHp (ha : DF X k W e mf) : DS X k W (.Return (some e) pos) (dRetHp mf) :=
  PS.sub (ps_ret ha) fun Dn σ H ⟨P, w, env, S, I, h⟩ => ⟨P, w, env, S, I, h.bind.imp fun c w1 env1 S1 l1 q p o H1 I1 e1 r1 L => by
    have h2 : Aft k W P w1 (M.ret (Flo.rt (.ref S1.length)) env1 (S1 ++ [c])) (rS k P Dn) := q
    have le := I1.rs.al_le (a := p)
    exact (h2.up le).ret _ σ H1 (I1.alloc e1 r1 L) ⟨p, rfl, Wd.al_at⟩⟩
theorem ds_retN : DS X k W (.Return none pos) (M.ret (.rt .non)) := PS.sub ps_retN fun Dn σ H ⟨P, w, env, S, I, h⟩ => h.ret _ σ H I rfl
theorem ds_if {c : Expr} {mc : M Bool} (hc : DT X k W c mc) (ha : DSs X k W body mt) (hb : DSs X k W els mu) : DS X k W (.If c body els pos) (dIf mc mt mu) :=
  PS.sub (ps_if hc ha hb) fun Dn σ H ⟨P, w, env, S, I, h⟩ => thenT I h fun t w1 env1 S1 H1 l1 I1 h1 => by
    cases t with
    | true => exact iteT ⟨P, w1, env1, S1, I1, h1⟩
    | false => exact iteF ⟨P, w1, env1, S1, I1, h1⟩
theorem cell_ok {P : Hp} {w : Wd} {env : Envr} {S : Sto} {σ : L2.St} {H : Hp} {x : D} {v : V} {c : Cell} (I : RB k P w env S σ H) (r : RepO k w σ x v) (e : cellOf env S x = some c) :
    ∃ a o, v = .ref a ∧ H a = some o ∧ RepC k w c o ∧ ∀ c' o', RepC k w c' o' → ∃ env' S', setCell x c' env S = .ok () env' S' ∧ RB k P w env' S' σ (upd H a o') := by
  cases x <;> simp only [cellOf] at e <;> try contradiction
  · rename_i n
    obtain ⟨a, rfl, ra⟩ := r
    obtain ⟨c1, o, e1, e2, e3, e4⟩ := I.rs.lt ra
    rw [e] at e1; cases e1
    exact ⟨a, o, rfl, e2, e4, fun c' o' r' => ⟨env, _, rfl, I.updS ra r'⟩⟩
  · rename_i i
    split at e
    · rename_i c1 e1
      cases e
      obtain ⟨a, o, x1, x2, x3, _⟩ := I.own i _ e1
      have r : σ[i]? = some (some v) := r
      rw [x1] at r; cases r
      exact ⟨a, o, rfl, x2, x3, fun c' o' r' => ⟨_, S, rfl, I.updOwn e1 x1 r'⟩⟩
    · cases e
def OpMt (X : Cx) (r : V → List V → Hp → VK → Prop) (f : Cell → List D → Option (Cell × D)) : Prop :=
  ∀ (k : Ky) (P : Hp) (w : Wd) (env : Envr) (S : Sto) (σ : L2.St) (H : Hp) (a : Addr) (o : HO) (vs : List V) (ds : List D) (c c' : Cell) (d : D) (Q : VK), k.K = X.K → RB k P w env S σ H → H a = some o → RepC k w c o → Reps k w ds vs → f c ds = some (c', d) →
    (∀ o' v, RepC k w c' o' → Rep k w d v → Q v (upd H a o')) → r (.ref a) vs H Q
theorem mut_ok {r : V → List V → Hp → VK → Prop} {f : Cell → List D → Option (Cell × D)} (hk : k.K = X.K) (hf : OpMt X r f) {mo : M D} {mas : M (List D)} {σ : L2.St} {H : Hp} {Q : VK} (h : tE k W (dMut f mo mas) σ H Q) : tBM X.K "list" r (tO k W mo) (tAs k W mas) σ H Q := by
  obtain ⟨P, w, env, S, I, h⟩ := h
  refine thenO I h fun x w1 env1 S1 v H1 l1 I1 r1 h1 => ?_
  have h1 := h1.getS
  cases ec : (cellOf env1 S1 x).map isLst with
  | none => rw [ec] at h1; exact h1.elim
  | some b =>
    rw [ec] at h1
    cases b with
    | false => exact h1.elim
    | true =>
      obtain ⟨c, e1, e2⟩ := Option.map_eq_some_iff.mp ec
      obtain ⟨a, o, rfl, hH, rc, _⟩ := cell_ok I1 r1 e1
      refine ⟨?_, thenA I1 h1 fun ds w2 env2 S2 vs H2 l2 I2 r2 h2 => ?_⟩
      · cases c with
        | lst l => obtain ⟨us, rfl, _⟩ := rc; exact .inl ⟨rfl, us, SqL.of hH⟩
        | _ => cases e2
      obtain ⟨p, e3, h3⟩ := h2.getS.bind.opt
      obtain ⟨c2, e4, e5⟩ := Option.bind_eq_some_iff.mp e3
      obtain ⟨a2, o2, q1, q2, q3, q4⟩ := cell_ok I2 (r1.up l2) e4
      cases q1
      refine hf k P w2 env2 S2 σ H2 a o2 vs ds c2 p.1 p.2 Q hk I2 q2 q3 r2 e5 fun o' u rc' ru => ?_
      obtain ⟨env3, S3, e6, I3⟩ := q4 p.1 o' rc'
      have h4 := h3.ret
      unfold M.bind at h4
      rw [e6] at h4
      exact h4.ret u _ I3 ru
theorem om_append : OpMt X rAppend appF := by
  intro k P w env S σ H a o vs ds c c' d Q hk I hH rc rs e q
  unfold appF at e
  split at e
  · split at e
    · cases e
      obtain ⟨us, rfl, r⟩ := rc
      obtain ⟨v, t, rfl, r1, r2⟩ := rs
      rw [show t = [] from r2]
      exact ⟨a, us, v, rfl, rfl, hH, by rw [r.length]; assumption, q _ _ ⟨_, rfl, r.append (Reps.one r1)⟩ rfl⟩
    · cases e
  · cases e
theorem om_pop : OpMt X rPop popF := by
  intro k P w env S σ H a o vs ds c c' d Q hk I hH rc rs e q
  unfold popF at e
  split at e
  · obtain ⟨d', e1, e2⟩ := Option.map_eq_some_iff.mp e
    cases e2
    obtain ⟨us, rfl, r⟩ := rc
    obtain ⟨v, e3, r3⟩ := r.getD e1
    rw [show vs = [] from rs]
    exact ⟨a, us, v, rfl, rfl, hH, by rw [r.length]; exact e3, q _ _ ⟨_, rfl, r.dropLast⟩ r3⟩
  · cases e
theorem om_popAt : OpMt X rPopAt popAtF := by
  intro k P w env S σ H a o vs ds c c' d Q hk I hH rc rs e q
  unfold popAtF at e
  split at e
  · split at e
    · rename_i hb
      obtain ⟨j, e0, e⟩ := Option.bind_eq_some_iff.mp e
      obtain ⟨d', e1, e2⟩ := Option.map_eq_some_iff.mp e
      cases e2
      obtain ⟨us, rfl, r⟩ := rc
      obtain ⟨v, e3, r3⟩ := r.getD e1
      obtain ⟨u, t, rfl, r1, r2⟩ := rs
      rw [show t = [] from r2, show u = _ from r1]
      exact ⟨a, us, _, j, v, rfl, rfl, hH, hb.1, hb.2, by rw [r.length]; exact e0, e3, q _ _ ⟨_, rfl, r.eraseIdx j⟩ r3⟩
    · cases e
  · cases e
theorem om_extend : OpMt X rExtend extF := by
  intro k P w env S σ H a o vs ds c c' d Q hk I hH rc rs e q
  unfold extF at e
  split at e
  · split at e
    · cases e
      obtain ⟨us, rfl, r⟩ := rc
      obtain ⟨v, t, rfl, r1, r2⟩ := rs
      obtain ⟨b, zs, rfl, f, rz⟩ := r1
      rw [show t = [] from r2]
      exact ⟨a, b, us, zs, rfl, rfl, hH, I.rs.frz _ _ f, by rw [r.length, rz.length]; assumption, q _ _ ⟨_, rfl, r.append rz⟩ rfl⟩
    · cases e
  · cases e
theorem om_clear : OpMt X rClear clrF := by
  intro k P w env S σ H a o vs ds c c' d Q hk I hH rc rs e q
  unfold clrF at e
  split at e
  · cases e
    obtain ⟨us, rfl, r⟩ := rc
    rw [show vs = [] from rs]
    exact ⟨a, us, rfl, rfl, hH, q _ _ ⟨[], rfl, rfl⟩ rfl⟩
  · cases e
theorem om_reverse : OpMt X rReverse revF := by
  intro k P w env S σ H a o vs ds c c' d Q hk I hH rc rs e q
  unfold revF at e
  split at e
  · cases e
    obtain ⟨us, rfl, r⟩ := rc
    rw [show vs = [] from rs]
    exact ⟨a, us, rfl, rfl, hH, q _ _ ⟨_, rfl, r.reverse⟩ rfl⟩
  · cases e
theorem putK_nil {κ : Type} [DecidableEq κ] (q : κ) (v : V) : putK ([] : List (κ × V)) q v = [(q, v)] := rfl
theorem map_id_of {α : Type} {l : List α} {f : α → α} (h : ∀ x ∈ l, f x = x) : l.map f = l := by
  induction l with
  | nil => rfl
  | cons a r ih => rw [List.map_cons, h a List.mem_cons_self, ih fun x hx => h x (List.mem_cons_of_mem _ hx)]
theorem putK_cons {κ : Type} [DecidableEq κ] {a q : κ} {x v : V} {kvs : List (κ × V)} (nd : a ∉ kvs.map (·.1)) : putK ((a, x) :: kvs) q v = if a = q then (a, v) :: kvs else (a, x) :: putK kvs q v := by
  unfold putK
  by_cases h : a = q
  · subst h
    rw [if_pos rfl, if_pos (by simp)]
    rw [List.map_cons]
    show (if a = a then (a, v) else (a, x)) :: _ = _
    rw [if_pos rfl]
    congr 1
    refine map_id_of fun kv hkv => ?_
    rw [if_neg]
    rintro rfl
    exact nd (List.mem_map.mpr ⟨kv, hkv, rfl⟩)
  · rw [if_neg h]
    rw [List.any_cons, decide_eq_false (show ¬ (a, x).1 = q from h), Bool.false_or]
    by_cases hb : (kvs.any fun kv => decide (kv.1 = q)) = true
    · rw [if_pos hb, if_pos hb, List.map_cons]
      show (if a = q then _ else _) :: _ = _
      rw [if_neg h]
    · rw [if_neg hb, if_neg hb]; rfl
theorem putD_rep {κ : Type} [DecidableEq κ] {w : Wd} {q : κ} {d : D} {v : V} (g : Rep k w d v) : ∀ {kvs : List (κ × V)} {ds : List D}, (kvs.map (·.1)).Nodup → Reps k w ds (kvs.map (·.2)) →
    (putK kvs q v).map (·.1) = (putD q d (kvs.map (·.1)) ds).1 ∧ Reps k w (putD q d (kvs.map (·.1)) ds).2 ((putK kvs q v).map (·.2))
  | [], [], _, _ => ⟨rfl, Reps.one g⟩
  | [], d :: ds, _, r => by obtain ⟨_, _, e, _⟩ := r; cases e
  | (a, x) :: kvs, [], _, r => by
    have r : (((a, x) :: kvs).map (·.2)) = ([] : List V) := r
    cases r
  | (a, x) :: kvs, y :: ds, nd, r => by
    rw [List.map_cons] at nd
    obtain ⟨n1, n2⟩ := List.nodup_cons.mp nd
    obtain ⟨v', t, e, r1, r2⟩ := r
    rw [List.map_cons] at e
    obtain ⟨e1, e2⟩ := List.cons.inj e
    have e1 : x = v' := e1
    subst e1
    rw [← e2] at r2
    obtain ⟨i1, i2⟩ := putD_rep g n2 r2
    rw [putK_cons n1, List.map_cons]
    show _ = (if a = q then (a :: kvs.map (·.1), d :: ds) else (a :: (putD q d (kvs.map (·.1)) ds).1, y :: (putD q d (kvs.map (·.1)) ds).2)).1 ∧ Reps k w (if a = q then (a :: kvs.map (·.1), d :: ds) else (a :: (putD q d (kvs.map (·.1)) ds).1, y :: (putD q d (kvs.map (·.1)) ds).2)).2 _
    by_cases h : a = q
    · rw [if_pos h, if_pos h]
      exact ⟨rfl, ⟨_, _, rfl, g, r2⟩⟩
    · rw [if_neg h, if_neg h]
      exact ⟨by rw [List.map_cons, i1], ⟨_, _, rfl, r1, i2⟩⟩
abbrev rSetA : V → V → V → Hp → (Hp → Prop) → Prop := fun o i v H Q => rSetL o i v H Q ∨ ∃ a H', o = .ref a ∧ DPut H a i v H' ∧ Q H'
theorem pset_any (hu : X.A.units + 1 < cLine) : PSet X rSetA := by
  intro pins s σ H o i v ov iv u Q I r1 r2 r3 h
  rcases h with h | ⟨a, H', rfl, g, q⟩
  · exact set_list pins s σ H o i v ov iv u Q I r1 r2 r3 h
  · cases r1
    exact d_setItem hu I g r2 r3 fun s' I' => ⟨H', I', q⟩
theorem keyOf_repH {w : Wd} {H : Hp} {d : D} {v : V} {q : Key} (e : keyOf d = some q) (r : RepH k w H d v) : v = kV q := by
  cases d <;> simp only [keyOf] at e <;> first | (cases e; exact r) | cases e
theorem ds_setIx {mi mo mv : M D} (hk : k.K = X.K) (h : PS X st (tAsg (tE k W mv) (gSub (tO k W mo) (tO k W mi) rSetA))) : DS X k W st (dSetIx mv mo mi) :=
  PS.sub h fun Dn σ H ⟨P, w, env, S, I, h⟩ => thenE I h fun d w1 env1 S1 v H1 l1 I1 r1 h1 => thenO I1 h1 fun x w2 env2 S2 y H2 l2 I2 r2 h2 => thenO I2 h2 fun j w3 env3 S3 z H3 l3 I3 r3 h3 => by
    obtain ⟨c', e, h4⟩ := h3.getS.bind.opt
    obtain ⟨c, e1, e2⟩ := Option.bind_eq_some_iff.mp e
    obtain ⟨a, o, rfl, hH, rc, fin⟩ := cell_ok I3 (r2.up l3) e1
    have rd : Rep k w3 d v := Rep.mono (l2.trans l3) d r1
    have rj := I3.view r3
    have go : ∀ o', RepC k w3 c' o' → Dn.nx σ (upd H3 a o') := fun o' rc' => by
      obtain ⟨env4, S4, e5, I4⟩ := fin c' o' rc'
      have h5 := h4.ret
      unfold M.bind at h5
      rw [e5] at h5
      exact h5.ret σ _ I4
    unfold setIxF at e2
    split at e2
    · rename_i l n ej
      obtain ⟨m, e3, rfl⟩ := Option.map_eq_some_iff.mp e2
      obtain ⟨us, rfl, r⟩ := rc
      rw [ej] at rj
      exact .inl ⟨a, us, n, m, rfl, rj, hH, by rw [r.length]; exact e3, go _ ⟨_, rfl, Reps.set rd m r⟩⟩
    · rename_i ks vs
      split at e2
      · rename_i hb
        obtain ⟨q, e3, rfl⟩ := Option.map_eq_some_iff.mp e2
        obtain ⟨kvs, rfl, rfl, r⟩ := rc
        have ez : z = kV q := keyOf_repH e3 rj
        subst ez
        obtain ⟨p1, p2⟩ := putD_rep (q := q) rd hb.1 r
        exact .inr ⟨a, _, rfl, DPut.k hH (by simpa using hb.2), go _ ⟨_, rfl, p1, p2⟩⟩
      · cases e2
    · rename_i ks vs l ej
      split at e2
      · rename_i hb
        obtain ⟨q, e3, rfl⟩ := Option.map_eq_some_iff.mp e2
        obtain ⟨kvs, rfl, rfl, r⟩ := rc
        rw [ej] at rj
        obtain ⟨p, us, rfl, h2, r2⟩ := rj
        have ex := keysOf_rep e3 r2
        subst ex
        obtain ⟨p1, p2⟩ := putD_rep (q := q) rd hb.1 r
        exact .inr ⟨a, _, rfl, DPut.t hH (I3.rs.frz _ _ h2) (by simpa using hb.2), go _ ⟨_, rfl, p1, p2⟩⟩
      · cases e2
    · cases e2
end
end L2.MP
end
section
set_option Elab.async false
set_option linter.all false
set_option maxRecDepth 100000
set_option maxHeartbeats 4000000
namespace L2.MP
open PySem PySem.Spec PyProof.Rows
section
variable {P : Program} {w : World} {K : Type} [DecidableEq K]
open Classical in
noncomputable def kOf [Inhabited K] (kd : PySem.KeyKind P w K) (v : Value) : K := if h : ∃ k, kd.is k v = true then h.choose else default
theorem kOf_eq [Inhabited K] {kd : PySem.KeyKind P w K} {v : Value} {k : K} (h : kd.is k v = true) : kOf kd v = k := by
  have e : ∃ k, kd.is k v = true := ⟨k, h⟩
  unfold kOf
  rw [dif_pos e]
  exact kd.inj v _ _ e.choose_spec h
structure Tb [Inhabited K] (kd : PySem.KeyKind P w K) (es : Array (Int × Value)) (t : SetTable) (L : List K) : Prop where
  el : ElemsOf kd es.toList
  pm : (es.toList.map fun e => kOf kd e.2).Perm L
  nd : L.Nodup
  sz : es.size < scanBound
  fit : t.fits es.size = true
  ris : Ris t.place.toList
  led : w.params.followText "set-order" = true ∨ t.led = true
def SetL [Inhabited K] (kd : PySem.KeyKind P w K) (h : Heap) (a : Addr) (L : List K) : Prop := ∃ o es ep t, h.get? a = some o ∧ o.ExactSet ∧ o.data = .set es ep t ∧ Tb kd es t L
variable [Inhabited K] {kd : PySem.KeyKind P w K} {h h' : Heap} {a : Addr} {L : List K} {es : Array (Int × Value)} {t : SetTable}
theorem SetL.keep (R : SetL kd h a L) (k : ∀ o, h.get? a = some o → h'.get? a = some o) : SetL kd h' a L := let ⟨o, es, ep, t, ho, r⟩ := R; ⟨o, es, ep, t, k o ho, r⟩
theorem Tb.mem (T : Tb kd es t L) (k : K) : k ∈ L ↔ ∃ e ∈ es.toList, kd.is k e.2 = true := by
  rw [← T.pm.mem_iff, List.mem_map]
  constructor
  · rintro ⟨e, he, q⟩
    obtain ⟨⟨k1, h1, _⟩, _⟩ := T.el e he
    rw [kOf_eq h1] at q
    exact ⟨e, he, q ▸ h1⟩
  · rintro ⟨e, he, q⟩
    exact ⟨e, he, kOf_eq q⟩
theorem Tb.len (T : Tb kd es t L) : es.size = L.length := by rw [← T.pm.length_eq, List.length_map, Array.length_toList]
end
section
variable {P : Program} {w : World} {K : Type} [DecidableEq K] [Inhabited K] {kd : PySem.KeyKind P w K} {A : Around} {E : Value → Shared → Prop} {s : Shared} {a : Addr} {L : List K}
theorem set_tail {g : Bool → Sem Unit} (hg : ∀ (b : Bool) (s₁ : Shared) (Q' : Unit → Shared → Prop), Q' () s₁ → wpAny (model P w) A (g b) Q' E s₁) {o : Obj} {es es1 : Array (Int × Value)} {ep : Nat} {t t2 : SetTable}
    (ho : s.heap.get? a = some o) (hex : o.ExactSet) (hd : o.data = .set es ep t) (T : Tb kd es1 t2 L) {wd : Bool} {R : Option Bool → Shared → Prop} (hR : ∀ h', Heap.SameBut a s.heap h' → SetL kd h' a L → R (some true) { s with heap := h' }) :
    wpAny (model P w) A (storeSet a es1 t2 >>= fun _ => if (!wd && t2.tooFull) = true then (g (relayAll t2 es1 (SetTable.grown es1.size)).2.2 >>= fun _ =>
        storeSet a (relayAll t2 es1 (SetTable.grown es1.size)).1 (relayAll t2 es1 (SetTable.grown es1.size)).2.1 >>= fun _ => pure (some true)) else pure (some true)) R E s := by
  refine wpAny_bind (wpAny_storeSet_of ho hd ?_ (fits_of_scanBound T.sz))
  have o1 := store_at (es' := es1) (t' := t2) ho hd
  have b1 := Heap.SameBut.update s.heap a (Obj.putSet es1 t2)
  by_cases c : (!wd && t2.tooFull) = true
  · rw [if_pos c]
    have r1 := relayAll_perm t2 es1 (SetTable.grown es1.size)
    have r2 := relayAll_fits t2 es1 (SetTable.grown es1.size)
    have r3 := relayAll_ris t2 es1 (SetTable.grown es1.size)
    have r4 := relayAll_led t2 es1 (SetTable.grown es1.size)
    revert r1 r2 r3 r4
    generalize relayAll t2 es1 (SetTable.grown es1.size) = Z
    obtain ⟨es2, t3, gv⟩ := Z
    intro r1 r2 r3 r4
    have z : es2.size = es1.size := by have := r1.length_eq; simpa using this
    have z2 : es2.size < scanBound := z ▸ T.sz
    refine wpAny_bind (hg _ _ _ (wpAny_bind (wpAny_storeSet_of o1 rfl ?_ (fits_of_scanBound z2))))
    have o2 := store_at (es' := es2) (t' := t3) o1 rfl
    refine wpAny_pure (hR _ (b1.trans (Heap.SameBut.update _ a _)) ⟨_, es2, _, t3, o2, hex, rfl, ⟨fun e he => T.el e (r1.mem_iff.mp he), (r1.map _).trans T.pm, T.nd, z2, r2, r3, T.led.imp id fun q => ?_⟩⟩)
    show t3.led = true
    rw [show t3.led = t2.led from r4]; exact q
  · rw [if_neg c]
    exact wpAny_pure (hR _ b1 ⟨_, es1, _, t2, o1, hex, rfl, T⟩)
theorem set_put {k : K} {v : Value} (hk : kd.is k v = true) (hs : v.scannable = true) {Q : Bool → Shared → Prop} (R : SetL kd s.heap a L) (room : L.length + 1 < scanBound)
    (q0 : k ∈ L → Q false s) (q1 : k ∉ L → ∀ h', Heap.SameBut a s.heap h' → SetL kd h' a (k :: L) → Q true { s with heap := h' }) : wpAny (model P w) A (setAddHashed a v (kd.hash k)) Q E s := by
  obtain ⟨o, es, ep, t, ho, hex, hd, T⟩ := R
  unfold setAddHashed setAddHashedIn
  refine wpAny_holding (wpAny_bind (wpAny_setState_of ho hd T.fit ?_))
  dsimp only
  rw [byScan_of hs T.sz T.el, if_pos rfl]
  unfold setAddByScan
  refine wpAny_bind (wpAny_bind (wpAny_rule (wpAny_bind (wpAny_setScan_of hk ho hd T.fit T.el ?_))))
  cases fi : List.findIdx? (fun e => kd.is k e.2) es.toList with
  | some j =>
    obtain ⟨j1, j2, _⟩ := List.findIdx?_eq_some_iff_getElem.mp fi
    exact wpAny_pure (wpAny_pure (q0 ((T.mem k).2 ⟨_, List.getElem_mem j1, j2⟩)))
  | none =>
    dsimp only
    have hn : k ∉ L := fun z => by
      obtain ⟨e, he, q⟩ := (T.mem k).1 z
      have := List.findIdx?_eq_none_iff.mp fi e he
      rw [q] at this; cases this
    have y1 := layNew_perm t es (kd.hash k) v
    have y2 := layNew_fits t es (kd.hash k) v
    have y3 := layNew_ris t es (kd.hash k) v T.ris
    have y4 := layNew_led t es (kd.hash k) v
    revert y1 y2 y3 y4
    generalize layNew t es (kd.hash k) v = Z
    obtain ⟨es1, t1, wd, gv⟩ := Z
    dsimp only
    intro y1 y2 y3 y4
    have pc : es1.toList.Perm ((kd.hash k, v) :: es.toList) := by
      rw [Array.toList_push] at y1
      exact y1.trans (List.perm_append_singleton _ _)
    have mk : ∀ t2 : SetTable, t2.fits es1.size = true → Ris t2.place.toList → t2.led = t1.led → Tb kd es1 t2 (k :: L) := fun t2 f r l => ⟨fun e he => by
        rcases List.mem_cons.mp (pc.mem_iff.mp he) with rfl | z
        · exact ⟨⟨k, hk, rfl⟩, hs⟩
        · exact T.el e z, by
        refine (pc.map _).trans ?_
        rw [List.map_cons, kOf_eq hk]
        exact T.pm.cons k, List.nodup_cons.mpr ⟨hn, T.nd⟩, by
        have := pc.length_eq
        rw [Array.length_toList, List.length_cons, Array.length_toList, T.len] at this
        omega, f, r, T.led.imp id fun q => by rw [l, y4]; exact q⟩
    have fin : ∀ h', Heap.SameBut a s.heap h' → SetL kd h' a (k :: L) → Q true { s with heap := h' } := q1 hn
    have gw : ∀ (b : Bool) (s₁ : Shared) (Q' : Unit → Shared → Prop), Q' () s₁ → wpAny (model P w) A (match b with | true => rule "set.scan.the-table-gave-way" | false => pure ()) Q' E s₁ := fun b s₁ Q' q => by
      cases b
      · exact wpAny_pure q
      · exact wpAny_rule q
    refine wpAny_bind (gw gv _ _ ?_)
    split
    · refine wpAny_bind ?_
      rw [hashByValue_scannable 8 hs]
      refine wpAny_pure ?_
      split
      · exact set_tail gw ho hex hd (mk _ y2 y3 rfl) fun h' b r => wpAny_pure (fin h' b r)
      · exact set_tail gw ho hex hd (mk { t1 with plain := false } (SetTable.fits_plain_off y2) y3 rfl) fun h' b r => wpAny_pure (fin h' b r)
    · refine wpAny_bind (wpAny_pure ?_)
      rw [if_pos rfl]
      exact set_tail gw ho hex hd (mk _ y2 y3 rfl) fun h' b r => wpAny_pure (fin h' b r)
end
section
variable {P : Program} {w : World} {K : Type} [DecidableEq K] [Inhabited K] {kd : PySem.KeyKind P w K} {A : Around} {E : Value → Shared → Prop} {s : Shared}
theorem set_loop {I S : Addr} {fp wr : List Addr} {G : Array GenState → Array GenState → Prop} {n : Nat} {Pv : Nat → Value → Prop} {St : Nat → Shared → Prop} {R : Result → Shared → Prop} (V : WalksS P w A.in1 I fp wr G n Pv St) (hS : S ∉ fp) :
    ∀ (xs : List K) (i : Nat) (L : List K) (s : Shared), i + xs.length = n → (∀ j v, Pv (i + j) v → j < xs.length → ∃ k, xs[j]? = some k ∧ kd.is k v = true ∧ v.scannable = true) → xs.length + L.length + 1 < scanBound → St i s → SetL kd s.heap S L →
      (∀ s', Moved (S :: wr) G s s' → SetL kd s'.heap S (onto xs L) → R (.ok (.ret .none)) s') → codeAny (model P w) A (.builtin "set.update.loop" ⟨[.ref S, .ref I], []⟩) R s := by
  have nw : S ∉ wr := fun z => hS (V.sub _ z)
  have up : ∀ b ∈ wr, b ∈ S :: wr := fun b hb => List.mem_cons_of_mem _ hb
  intro xs
  induction xs with
  | nil =>
    intro i L s hi _ _ st T fin
    have : i = n := by simpa using hi
    subst this
    refine codeAny_builtin PyProof.Rows.F.entry_set_update_loop ?_
    rw [Around.under_plainId PyProof.Rows.F.plain_set_update_loop _]
    refine wpAny_bind (V.done s _ _ st fun s' m => ?_)
    exact wpAny_pure (fin s' (m.mono up) (T.keep fun o e => m.heap S o nw e))
  | cons x xs ih =>
    intro i L s hi hv room st T fin
    rw [List.length_cons] at hi room
    refine codeAny_builtin PyProof.Rows.F.entry_set_update_loop ?_
    rw [Around.under_plainId PyProof.Rows.F.plain_set_update_loop _]
    refine wpAny_bind (V.item i s _ _ (by omega) st fun v s' pv st' m => ?_)
    obtain ⟨k, e, hk, hs⟩ := hv 0 v pv (by simp)
    obtain rfl : x = k := by simpa using e
    have T1 : SetL kd s'.heap S L := T.keep fun o e => m.heap S o nw e
    show wpAny _ A.in1 (holding [v] (setAdd S v) >>= _) _ _ s'
    refine wpAny_bind (wpAny_holding ?_)
    unfold setAdd
    refine wpAny_holding (wpAny_bind (kd.pyHash hk ?_))
    refine set_put (s := { s' with toks := s'.toks + 1 }) hk hs T1 (by omega) (fun hm => ?_) fun hm h' sb T2 => ?_
    · refine wpAny_pure ⟨plainId_quiet PyProof.Rows.F.plain_set_update_loop _, ih (i + 1) L _ (by omega) (fun j v p hj => ?_) (by omega) (V.frame _ s' _ _ st' (Nat.le_succ _) fun b _ o e => e) T1 fun s2 m2 T3 => ?_⟩
      · have := hv (j + 1) v (by rw [← Nat.add_assoc, Nat.add_right_comm]; exact p) (by simpa using hj)
        simpa using this
      · refine fin s2 (Moved.trans V.gtrans ((m.mono up).then_heap (Nat.le_succ _) fun b o _ e => e) m2) ?_
        have e : onto (x :: xs) L = onto xs L := by show onto xs (if x ∈ L then L else x :: L) = _; rw [if_pos hm]
        rw [e]; exact T3
    · refine wpAny_pure ⟨plainId_quiet PyProof.Rows.F.plain_set_update_loop _, ih (i + 1) (x :: L) _ (by omega) (fun j v p hj => ?_) (by rw [List.length_cons]; omega) (V.frame _ s' _ _ st' (Nat.le_succ _) fun b hb o e => ?_) T2 fun s2 m2 T3 => ?_⟩
      · have := hv (j + 1) v (by rw [← Nat.add_assoc, Nat.add_right_comm]; exact p) (by simpa using hj)
        simpa using this
      · exact (sb.2 b fun z => hS (z ▸ hb)).trans e
      · refine fin s2 (Moved.trans V.gtrans ((m.mono up).then_heap (Nat.le_succ _) fun b o hb e => (sb.2 b fun z => hb (by rw [z]; exact List.mem_cons_self)).trans e) m2) ?_
        have e : onto (x :: xs) L = onto xs (x :: L) := by show onto xs (if x ∈ L then L else x :: L) = _; rw [if_neg hm]
        rw [e]; exact T3
end
theorem ad_lt {a n : Nat} (h : a < n) : a ≠ n + 1 := by omega
theorem ad_eq {n : Nat} (h : n = n + 1) : False := by omega
theorem ad_ir {b n : Nat} (h : b < n) (z : b = n) : False := by omega
section
variable {P : Program} {w : World} {K : Type} [DecidableEq K] [Inhabited K] {kd : PySem.KeyKind P w K} {A : Around} {E : Value → Shared → Prop} {s : Shared}
set_option maxHeartbeats 4000000 in
theorem setL_list {l : Addr} {items : Array Value} (xs : List K) {Q : Value → Shared → Prop} (hh : A.handled = none) (hl : s.heap.IsList l items) (hv : ∀ (i : Nat) v, items[i]? = some v → ∃ k, xs[i]? = some k ∧ kd.is k v = true ∧ v.scannable = true) (hn : xs.length = items.size) (room : xs.length + 1 < scanBound)
    (q : ∀ h' tk, SetL kd h' s.heap.objs.size (onto xs []) → (∀ b o, s.heap.get? b = some o → h'.get? b = some o) → Q (.ref s.heap.objs.size) { s with heap := h', toks := tk }) : wpAny (model P w) A (call (.type "set") [.ref l]) Q E s := by
  obtain ⟨_, _, mro0⟩ := PySem.F.called_set.mro
  have made0 := PySem.F.called_set.made
  have sub0 := PySem.F.called_set.sub
  have nt0 := PySem.F.called_set.notType
  have cc0 := PySem.F.called_set.canCreate
  have tc0 := PySem.F.typeCall_set_1 (.ref l)
  refine wpAny_call (codeAny_of_tree ?_)
  show wpAny _ _ (callAny (.type "set") _) _ _ _
  refine wpAny_pure ⟨Code.quiet_builtin _ (by decide +kernel), codeAny_builtin PySem.F.entry_type_call ?_⟩
  rw [Around.under_plain (weight_type_call_type "set" [.ref l] []) rfl]
  repeat (any_goals (first | assumption | wp_step))
  let o0 : Obj := { cls := .type "set", dict := none, data := .set #[] 0 (.fresh 0 0 (!w.params.followText "set-order")) }
  refine codeAny_mono (code_set_led1 (.ref l) (E := E) (Q₁ := fun obj s₁ => obj = .ref s.heap.objs.size ∧ s₁ = { s with heap := s.heap.push o0 }) ⟨rfl, rfl⟩) fun r s₁ hr => ?_
  cases r with
  | error e => exact hr
  | ok fl =>
    cases fl with
    | ret obj =>
      obtain ⟨rfl, rfl⟩ := hr
      have g0 : (s.heap.push o0).get? s.heap.objs.size = some o0 := Heap.get?_push_size _ rfl
      have ty0 : Shared.TypeIs { s with heap := s.heap.push o0 } (.ref s.heap.objs.size) "set" := ⟨_, g0, rfl⟩
      have li0 := PySem.F.called_set.init.lookup
      have bi0 := PySem.F.called_set.init.bind (.ref s.heap.objs.size)
      repeat (any_goals (first | assumption | wp_step))
      refine codeAny_mono (codeAny_call_builtin (R := wants (fun r s₂ => r = .none ∧ ∃ h' tk, s₂ = { s with heap := h', toks := tk } ∧ SetL kd h' s.heap.objs.size (onto xs []) ∧ ∀ b o, s.heap.get? b = some o → h'.get? b = some o) E) PySem.F.called_set.init.plain PySem.F.entry_set_init (check_set_init_1 ty0 ?_)) fun r₂ s₂ hr₂ => ?_
      · obtain ⟨ol, hol, hcl, nl, hdl⟩ := hl
        obtain ⟨ocls, odict, odata, oslots⟩ := ol
        dsimp only at hcl hdl
        subst hcl hdl
        have gl : (s.heap.push o0).get? l = some { cls := .type "list", dict := odict, data := .seq items nl, slots := oslots } := Heap.get?_push_of_some _ hol
        have sb1 := PySem.F.sub_list_set
        have sb2 := PySem.F.sub_list_frozenset
        have nd1 : (Value.type "list" == Value.type "dict") = false := by decide
        have hl1 : (s.heap.push o0).IsList l items := ⟨_, gl, rfl, nl, rfl⟩
        unfold Builtin.«set.__init__» noKeywords Builtin.Frozenset.updateFrom
        generalize hPI : pyIter = PI
        wp_walk
        subst hPI
        refine wpAny_pyIter_list hl1 (wpAny_bind (wpAny_runValue ?_))
        have ll := Heap.lt_size hol
        have sz1 : (s.heap.push o0).objs.size = s.heap.objs.size + 1 := Heap.size_push ..
        have ne1 : l ≠ (s.heap.push o0).objs.size := by rw [sz1]; exact ad_lt ll
        refine set_loop (kd := kd) (Walks.list (A := A.in1.in1.in1) (by simp [hh]) _ l ne1 items).toS (S := s.heap.objs.size) (fun z => ?_) xs 0 [] _ (by omega) (fun j v p _ => hv j v (by simpa using p)) (by simpa using room) ⟨⟨_, Heap.get?_push_size _ rfl, rfl, rfl⟩, hl1.push _⟩ ?_ fun s' m T => ?_
        · rcases List.mem_cons.mp z with z | z
          · rw [sz1] at z; exact ad_eq z
          · exact ad_ir ll (List.mem_singleton.mp z).symm
        · refine ⟨o0, #[], 0, _, Heap.get?_push_of_some _ g0, ⟨rfl, rfl, rfl⟩, rfl, ⟨fun e he => by simp at he, List.Perm.refl _, List.nodup_nil, by decide, by rfl, List.Pairwise.nil, ?_⟩⟩
          show _ ∨ (!w.params.followText "set-order") = true
          cases w.params.followText "set-order"
          · exact .inr rfl
          · exact .inl rfl
        · obtain ⟨h', g2, d', tk', os'⟩ := s'
          obtain rfl : g2 = s.gens := m.gens
          obtain rfl : d' = s.drawn := m.drawn
          obtain rfl : os' = s.os := m.os
          refine wpAny_pure (wpAny_pure ⟨rfl, h', tk', rfl, T, fun b o e => ?_⟩)
          have lb := Heap.lt_size e
          refine m.heap b o (fun z => ?_) (Heap.get?_push_of_some _ (Heap.get?_push_of_some _ e))
          rcases List.mem_cons.mp z with z | z
          · exact ad_ir lb z
          · rw [List.mem_singleton, sz1] at z; exact ad_lt lb z
      · cases r₂ with
        | error e => exact hr₂
        | ok fl₂ =>
          cases fl₂ with
          | ret r =>
            obtain ⟨rfl, h', tk, rfl, T, hk⟩ := hr₂
            repeat (any_goals (first | assumption | wp_step))
            exact q _ _ T hk
          | _ => exact hr₂.elim
    | _ => exact hr.elim
set_option maxHeartbeats 4000000 in
theorem set_tuple {l : Addr} {items : Array Value} (xs : List K) {Q : Value → Shared → Prop} (hh : A.handled = none) (hl : s.heap.IsTuple l items) (hv : ∀ (i : Nat) v, items[i]? = some v → ∃ k, xs[i]? = some k ∧ kd.is k v = true ∧ v.scannable = true) (hn : xs.length = items.size) (room : xs.length + 1 < scanBound)
    (q : ∀ h' tk, SetL kd h' s.heap.objs.size (onto xs []) → (∀ b o, s.heap.get? b = some o → h'.get? b = some o) → Q (.ref s.heap.objs.size) { s with heap := h', toks := tk }) : wpAny (model P w) A (call (.type "set") [.ref l]) Q E s := by
  obtain ⟨_, _, mro0⟩ := PySem.F.called_set.mro
  have made0 := PySem.F.called_set.made
  have sub0 := PySem.F.called_set.sub
  have nt0 := PySem.F.called_set.notType
  have cc0 := PySem.F.called_set.canCreate
  have tc0 := PySem.F.typeCall_set_1 (.ref l)
  refine wpAny_call (codeAny_of_tree ?_)
  show wpAny _ _ (callAny (.type "set") _) _ _ _
  refine wpAny_pure ⟨Code.quiet_builtin _ (by decide +kernel), codeAny_builtin PySem.F.entry_type_call ?_⟩
  rw [Around.under_plain (weight_type_call_type "set" [.ref l] []) rfl]
  repeat (any_goals (first | assumption | wp_step))
  let o0 : Obj := { cls := .type "set", dict := none, data := .set #[] 0 (.fresh 0 0 (!w.params.followText "set-order")) }
  refine codeAny_mono (code_set_led1 (.ref l) (E := E) (Q₁ := fun obj s₁ => obj = .ref s.heap.objs.size ∧ s₁ = { s with heap := s.heap.push o0 }) ⟨rfl, rfl⟩) fun r s₁ hr => ?_
  cases r with
  | error e => exact hr
  | ok fl =>
    cases fl with
    | ret obj =>
      obtain ⟨rfl, rfl⟩ := hr
      have g0 : (s.heap.push o0).get? s.heap.objs.size = some o0 := Heap.get?_push_size _ rfl
      have ty0 : Shared.TypeIs { s with heap := s.heap.push o0 } (.ref s.heap.objs.size) "set" := ⟨_, g0, rfl⟩
      have li0 := PySem.F.called_set.init.lookup
      have bi0 := PySem.F.called_set.init.bind (.ref s.heap.objs.size)
      repeat (any_goals (first | assumption | wp_step))
      refine codeAny_mono (codeAny_call_builtin (R := wants (fun r s₂ => r = .none ∧ ∃ h' tk, s₂ = { s with heap := h', toks := tk } ∧ SetL kd h' s.heap.objs.size (onto xs []) ∧ ∀ b o, s.heap.get? b = some o → h'.get? b = some o) E) PySem.F.called_set.init.plain PySem.F.entry_set_init (check_set_init_1 ty0 ?_)) fun r₂ s₂ hr₂ => ?_
      · obtain ⟨ol, hol, hcl, nl, hdl⟩ := hl
        obtain ⟨ocls, odict, odata, oslots⟩ := ol
        dsimp only at hcl hdl
        subst hcl hdl
        have gl : (s.heap.push o0).get? l = some { cls := .type "tuple", dict := odict, data := .seq items nl, slots := oslots } := Heap.get?_push_of_some _ hol
        have sb1 := PySem.F.sub_tuple_set
        have sb2 := PySem.F.sub_tuple_frozenset
        have nd1 : (Value.type "tuple" == Value.type "dict") = false := by decide
        have hl1 : (s.heap.push o0).IsTuple l items := ⟨_, gl, rfl, nl, rfl⟩
        unfold Builtin.«set.__init__» noKeywords Builtin.Frozenset.updateFrom
        generalize hPI : pyIter = PI
        wp_walk
        subst hPI
        refine wpAny_pyIter_tuple hl1 (wpAny_bind (wpAny_runValue ?_))
        have ll := Heap.lt_size hol
        have sz1 : (s.heap.push o0).objs.size = s.heap.objs.size + 1 := Heap.size_push ..
        have ne1 : l ≠ (s.heap.push o0).objs.size := by rw [sz1]; exact ad_lt ll
        refine set_loop (kd := kd) (Walks.tuple (A := A.in1.in1.in1) (by simp [hh]) _ l ne1 items).toS (S := s.heap.objs.size) (fun z => ?_) xs 0 [] _ (by omega) (fun j v p _ => hv j v (by simpa using p)) (by simpa using room) ⟨⟨_, Heap.get?_push_size _ rfl, rfl, rfl⟩, hl1.push _⟩ ?_ fun s' m T => ?_
        · rcases List.mem_cons.mp z with z | z
          · rw [sz1] at z; exact ad_eq z
          · exact ad_ir ll (List.mem_singleton.mp z).symm
        · refine ⟨o0, #[], 0, _, Heap.get?_push_of_some _ g0, ⟨rfl, rfl, rfl⟩, rfl, ⟨fun e he => by simp at he, List.Perm.refl _, List.nodup_nil, by decide, by rfl, List.Pairwise.nil, ?_⟩⟩
          show _ ∨ (!w.params.followText "set-order") = true
          cases w.params.followText "set-order"
          · exact .inr rfl
          · exact .inl rfl
        · obtain ⟨h', g2, d', tk', os'⟩ := s'
          obtain rfl : g2 = s.gens := m.gens
          obtain rfl : d' = s.drawn := m.drawn
          obtain rfl : os' = s.os := m.os
          refine wpAny_pure (wpAny_pure ⟨rfl, h', tk', rfl, T, fun b o e => ?_⟩)
          have lb := Heap.lt_size e
          refine m.heap b o (fun z => ?_) (Heap.get?_push_of_some _ (Heap.get?_push_of_some _ e))
          rcases List.mem_cons.mp z with z | z
          · exact ad_ir lb z
          · rw [List.mem_singleton, sz1] at z; exact ad_lt lb z
      · cases r₂ with
        | error e => exact hr₂
        | ok fl₂ =>
          cases fl₂ with
          | ret r =>
            obtain ⟨rfl, h', tk, rfl, T, hk⟩ := hr₂
            repeat (any_goals (first | assumption | wp_step))
            exact q _ _ T hk
          | _ => exact hr₂.elim
    | _ => exact hr.elim
end
end L2.MP
end
section
set_option Elab.async false
set_option linter.all false
set_option maxRecDepth 100000
set_option maxHeartbeats 4000000
namespace L2.MP
open PySem PySem.Spec PyProof.Rows
instance : Inhabited Str := ⟨Str.empty⟩
section
variable {P : Program} {w : World} {A : Around} {E : Value → Shared → Prop} {s : Shared} {a : Addr}
theorem strs_kof : ∀ (l : List Value), (∀ v ∈ l, ∃ k, (PySem.strKind P w).is k v = true) → StrsAre l (l.map (kOf (PySem.strKind P w)))
  | [], _ => .nil
  | v :: l, h => by
    obtain ⟨k, hk⟩ := h v List.mem_cons_self
    obtain ⟨t, rfl⟩ := Value.isStrOf_shape hk
    rw [List.map_cons, kOf_eq hk]
    exact .cons k t (strs_kof l fun u hu => h u (List.mem_cons_of_mem _ hu))
theorem ints_kof : ∀ (l : List Value), (∀ v ∈ l, ∃ k, (PySem.intKind P w).is k v = true) → IntsAre l (l.map (kOf (PySem.intKind P w)))
  | [], _ => .nil
  | v :: l, h => by
    obtain ⟨k, hk⟩ := h v List.mem_cons_self
    obtain ⟨t, rfl⟩ := Value.isInt_shape hk
    rw [List.map_cons, kOf_eq hk]
    exact .cons k t (ints_kof l fun u hu => h u (List.mem_cons_of_mem _ hu))
theorem sort_setS {L : List Str} {Q : Value → Shared → Prop} (R : SetL (PySem.strKind P w) s.heap a L) (hh : A.handled = none) (h64 : L.length < 64)
    (q : ∀ s' p (out : Array Value) (c : Nat) (ys : List Str), (∀ b o, s.heap.get? b = some o → s'.heap.get? b = some o) → s'.gens = s.gens → s'.os = s.os → s.heap.objs.size ≤ p → s'.heap.get? p = some (seqObj "list" out c) → StrsAre out.toList ys → ys.Perm L → sortedS ys = true → Q (.ref p) s') :
    wpAny (model P w) A (call (.builtin "sorted") [.ref a]) Q E s := by
  obtain ⟨o, es, ep, t, ho, hex, hd, T⟩ := R
  refine Calls.call_function_entry kind_sorted plain_sorted entry_sorted (args_sorted1 _) ?_
  unfold Builtin.«sorted»
  refine wpAny_bind (m := checkCount "sorted" 1 1 _) (wpAny_pure (wpAny_bind (collect_set (A := A.in1) hh ⟨o, ho, hex.1, hd⟩ T.fit T.sz T.ris T.led fun s1 vs k1 z1 g1 o1 pm => ?_)))
  have vl : vs.length = L.length := by rw [pm.length_eq, List.length_map, Array.length_toList, T.len]
  have vS : StrsAre vs (vs.map (kOf (PySem.strKind P w))) := strs_kof vs fun v hv => by
    obtain ⟨e, he, rfl⟩ := List.mem_map.mp (pm.mem_iff.mp hv)
    obtain ⟨⟨k, h1, _⟩, _⟩ := T.el e he
    exact ⟨k, h1⟩
  have pL : (vs.map (kOf (PySem.strKind P w))).Perm L := by
    have := pm.map (kOf (PySem.strKind P w))
    rw [List.map_map] at this
    exact this.trans T.pm
  refine wpAny_bind (wpAny_newList ?_ (by rw [vl, sizeLine_eq]; omega))
  have oL : (s1.heap.push (seqObj "list" vs.toArray 0)).get? s1.heap.objs.size = some (seqObj "list" vs.toArray 0) := Heap.get?_push_size _ rfl
  refine wpAny_bind (wpAny_holding (wpAny_call_entry slot_list_sort ⟨_, oL, rfl⟩ entry_list_sort (list_sort_treeK strKind_oneLt oL vS.keysOf (fun v₁ v₂ rest e => keyKind_strs (by rw [← e]; exact vS)) (by rw [vl]; exact h64) fun st' hp hs => ⟨_, rfl, ?_⟩) (args_list_sort _)))
  obtain ⟨ys, y1, y2, y3⟩ := sorted_out_str vS hp hs
  obtain ⟨c, hc⟩ := sortedHeap_at (vs := vs) (out := (arrOf st').map (·.2)) oL
  refine wpAny_pure ⟨_, rfl, q _ s1.heap.objs.size _ c ys (fun b u e => ?_) g1 o1 z1 hc y1 (y2.trans pL) y3⟩
  have e1 := k1 b u e
  have lt := Heap.lt_size e1
  show (sortedHeap (s1.heap.push (seqObj "list" vs.toArray 0)) s1.heap.objs.size vs _).get? b = some u
  rw [sortedHeap_old (Nat.ne_of_lt lt) (by rw [size_push']; exact Nat.lt_succ_of_lt lt)]
  exact Heap.get?_push_of_some _ e1
theorem sort_setI {L : List Int} {Q : Value → Shared → Prop} (R : SetL (PySem.intKind P w) s.heap a L) (hh : A.handled = none) (h64 : L.length < 64)
    (q : ∀ s' p (out : Array Value) (c : Nat) (ys : List Int), (∀ b o, s.heap.get? b = some o → s'.heap.get? b = some o) → s'.gens = s.gens → s'.os = s.os → s.heap.objs.size ≤ p → s'.heap.get? p = some (seqObj "list" out c) → IntsAre out.toList ys → ys.Perm L → ys.Pairwise (· ≤ ·) → Q (.ref p) s') :
    wpAny (model P w) A (call (.builtin "sorted") [.ref a]) Q E s := by
  obtain ⟨o, es, ep, t, ho, hex, hd, T⟩ := R
  refine Calls.call_function_entry kind_sorted plain_sorted entry_sorted (args_sorted1 _) ?_
  unfold Builtin.«sorted»
  refine wpAny_bind (m := checkCount "sorted" 1 1 _) (wpAny_pure (wpAny_bind (collect_set (A := A.in1) hh ⟨o, ho, hex.1, hd⟩ T.fit T.sz T.ris T.led fun s1 vs k1 z1 g1 o1 pm => ?_)))
  have vl : vs.length = L.length := by rw [pm.length_eq, List.length_map, Array.length_toList, T.len]
  have vS : IntsAre vs (vs.map (kOf (PySem.intKind P w))) := ints_kof vs fun v hv => by
    obtain ⟨e, he, rfl⟩ := List.mem_map.mp (pm.mem_iff.mp hv)
    obtain ⟨⟨k, h1, _⟩, _⟩ := T.el e he
    exact ⟨k, h1⟩
  have pL : (vs.map (kOf (PySem.intKind P w))).Perm L := by
    have := pm.map (kOf (PySem.intKind P w))
    rw [List.map_map] at this
    exact this.trans T.pm
  refine wpAny_bind (wpAny_newList ?_ (by rw [vl, sizeLine_eq]; omega))
  have oL : (s1.heap.push (seqObj "list" vs.toArray 0)).get? s1.heap.objs.size = some (seqObj "list" vs.toArray 0) := Heap.get?_push_size _ rfl
  refine wpAny_bind (wpAny_holding (wpAny_call_entry slot_list_sort ⟨_, oL, rfl⟩ entry_list_sort (list_sort_tree oL vS (by rw [vl]; exact h64) fun out ys y1 y2 y3 => ⟨_, rfl, ?_⟩) (args_list_sort _)))
  obtain ⟨c, hc⟩ := sortedHeap_at (vs := vs) (out := out) oL
  refine wpAny_pure ⟨_, rfl, q _ s1.heap.objs.size _ c ys (fun b u e => ?_) g1 o1 z1 hc y1 (y2.trans pL) y3⟩
  have e1 := k1 b u e
  have lt := Heap.lt_size e1
  show (sortedHeap (s1.heap.push (seqObj "list" vs.toArray 0)) s1.heap.objs.size vs _).get? b = some u
  rw [sortedHeap_old (Nat.ne_of_lt lt) (by rw [size_push']; exact Nat.lt_succ_of_lt lt)]
  exact Heap.get?_push_of_some _ e1
end
class Ks (K : Type) [DecidableEq K] where
  inh : Inhabited K
  v : K → V
  kd : (P : Program) → (w : World) → PySem.KeyKind P w K
  is : ∀ P w k u, RelV (v k) u → (kd P w).is k u = true ∧ u.scannable = true
instance : Ks Str := ⟨⟨Str.empty⟩, V.str, PySem.strKind, fun P w k u ⟨t, e⟩ => by subst e; exact ⟨strKind_is _ _ _ _, rfl⟩⟩
instance : Ks Int := ⟨⟨0⟩, V.int, PySem.intKind, fun P w k u ⟨t, e⟩ => by subst e; exact ⟨intKind_is _ _ _ _, rfl⟩⟩
instance (priority := low) inhKs {K : Type} [DecidableEq K] [Ks K] : Inhabited K := Ks.inh
def SetHO (K : Type) [DecidableEq K] [Ks K] (P : Program) (w : World) (a : Addr) (L : List K) : HO := .ext fun h => SetL (Ks.kd P w) h a L
section
variable {K : Type} [DecidableEq K] [Ks K] {X : Cx}
theorem setHO_ok {P : Program} {w : World} {H : Hp} {h : Heap} {a : Addr} {L : List K} (R : SetL (Ks.kd P w) h a L) : ObjOk P w H h a (SetHO K P w a L) := by
  have ⟨o, _, _, _, ho, _⟩ := R
  exact ⟨R, ⟨o, ho⟩, fun h1 h2 p k => SetL.keep p k⟩
theorem vals_at : ∀ {zs : List K} {us : List Value}, Vals (zs.map Ks.v) us → ∀ (i : Nat) (v : Value), us[i]? = some v → ∀ P w, ∃ k, zs[i]? = some k ∧ (Ks.kd P w).is k v = true ∧ v.scannable = true
  | [], _, r, i, v, e, P, w => by cases r; simp at e
  | z :: zs, _, r, 0, v, e, P, w => by
    cases r with
    | cons r1 r2 =>
      simp at e; subst e
      exact ⟨z, rfl, Ks.is P w z _ r1⟩
  | z :: zs, _, r, i + 1, v, e, P, w => by
    cases r with
    | cons r1 r2 =>
      simp at e
      obtain ⟨k, e1, q⟩ := vals_at r2 i v e P w
      exact ⟨k, by simpa using e1, q⟩
def rSetV (K : Type) [DecidableEq K] [Ks K] (X : Cx) : List V → Hp → VK → Prop := fun xs H Q => ∃ (l : Addr) (zs : List K), xs = [.ref l] ∧ (SqL X.K H l (zs.map Ks.v) ∨ SqT X.K H l (zs.map Ks.v)) ∧ zs.length < 64 ∧ ∀ a, H a = none → Q (.ref a) (upd H a (SetHO K X.prog X.w a (onto zs [])))
theorem cr_setV (hc : X.calm = true) : CallR X (.type "set") (rSetV K X) := by
  intro pins s σ H xs us Q I r h
  obtain ⟨l, zs, rfl, hs, h64, q⟩ := h
  rw [Vals.ref1 r]
  have room : zs.length + 1 < scanBound := by unfold scanBound; omega
  rcases hs with hs | hs
  · obtain ⟨its, rv, pl, _⟩ := I.list hs
    have hn := rv.length
    rw [List.length_map] at hn
    exact setL_list (kd := Ks.kd X.prog X.w) zs (I.ok.hd hc) pl.isList (fun i v e => vals_at rv i v (by simpa using e) X.prog X.w) (by rw [List.size_toArray]; exact hn) room fun h' tk T k =>
      ⟨.ref _, upd H s.heap.objs.size (SetHO K X.prog X.w s.heap.objs.size (onto zs [])), I.laid (t' := tk) k (Nat.le_refl _) (setHO_ok T), rfl, q _ (I.hok.fresh (Nat.le_refl _))⟩
  · obtain ⟨its, rv, pl, _⟩ := I.tuple hs
    have hn := rv.length
    rw [List.length_map] at hn
    exact set_tuple (kd := Ks.kd X.prog X.w) zs (I.ok.hd hc) pl (fun i v e => vals_at rv i v (by simpa using e) X.prog X.w) (by rw [List.size_toArray]; exact hn) room fun h' tk T k =>
      ⟨.ref _, upd H s.heap.objs.size (SetHO K X.prog X.w s.heap.objs.size (onto zs [])), I.laid (t' := tk) k (Nat.le_refl _) (setHO_ok T), rfl, q _ (I.hok.fresh (Nat.le_refl _))⟩
theorem setHO_at {pins : List (Addr × Obj)} {σ : L2.St} {H : Hp} {s : Shared} {a : Addr} {L : List K} (I : Inv X pins σ H s) (e : H a = some (SetHO K X.prog X.w a L)) : SetL (Ks.kd X.prog X.w) s.heap a L := (I.hok a _ e).1
def rLenV (K : Type) [DecidableEq K] [Ks K] (X : Cx) : List V → Hp → VK → Prop := fun xs H Q => ∃ (a : Addr) (L : List K), xs = [.ref a] ∧ H a = some (SetHO K X.prog X.w a L) ∧ L.length < 64 ∧ Q (.int L.length) H
theorem cr_lenV : CallR X (.builtin "len") (rLenV K X) := by
  intro pins s σ H xs us Q I r h
  obtain ⟨a, L, rfl, e, h64, q⟩ := h
  rw [Vals.ref1 r]
  obtain ⟨o, es, ep, t, ho, hex, hd, T⟩ := setHO_at I e
  exact call_len_set ho hex hd T.fit (by rw [T.len]; omega) ⟨.int L.length, H, I.tok _, ⟨_, by rw [T.len]⟩, q⟩
def rSortV {K : Type} [DecidableEq K] [Ks K] (ord : List K → Prop) (X : Cx) : List V → Hp → VK → Prop := fun xs H Q => ∃ (a : Addr) (L : List K), xs = [.ref a] ∧ H a = some (SetHO K X.prog X.w a L) ∧ L.length < 64 ∧ ∀ ys p, ys.Perm L → ord ys → H p = none → Q (.ref p) (upd H p (.lst (ys.map Ks.v)))
end
section
variable {X : Cx}
theorem told_lst {s s' : Shared} {pins : List (Addr × Obj)} {σ : L2.St} {H : Hp} {p : Addr} {vs : List V} {out : Array Value} {c : Nat} {Q : VK} (I : Inv X pins σ H s) (k : ∀ b o, s.heap.get? b = some o → s'.heap.get? b = some o) (g : s'.gens = s.gens) (o : s'.os = s.os) (hp : s.heap.objs.size ≤ p)
    (e : s'.heap.get? p = some (seqObj "list" out c)) (r : Vals vs out.toList) (hl : vs.length ≤ sizeLine) (q : H p = none → Q (.ref p) (upd H p (.lst vs))) : EP X pins σ Q (.ref p) s' := by
  have hn : H p = none := I.hok.fresh hp
  have J : Inv X pins σ (upd H p (.lst vs)) { s with heap := s'.heap, gens := s'.gens, drawn := s'.drawn, toks := s'.toks } := I.call (ch := []) (Un.laid k hp hn) (I.hok.laid k hp ⟨hl, out.toList, c, r, e⟩) (by rw [g]; exact I.bare) (fun _ z => nomatch z)
  have es : s' = { s with heap := s'.heap, gens := s'.gens, drawn := s'.drawn, toks := s'.toks } := by
    cases s'; cases s; cases o; rfl
  rw [es]
  exact ⟨.ref p, _, J, rfl, q hn⟩
theorem cr_sortVS (hc : X.calm = true) : CallR X (.builtin "sorted") (rSortV (K := Str) (fun ys => sortedS ys = true) X) := by
  intro pins s σ H xs us Q I r h
  obtain ⟨a, L, rfl, e, h64, q⟩ := h
  rw [Vals.ref1 r]
  exact sort_setS (setHO_at I e) (I.ok.hd hc) h64 fun s' p out c ys k g o hp ep hS pm so => told_lst I k g o hp ep (vals_of_strs hS) (by rw [List.length_map, pm.length_eq, sizeLine_eq]; omega) fun hn => q ys p pm so hn
theorem cr_sortVI (hc : X.calm = true) : CallR X (.builtin "sorted") (rSortV (K := Int) (fun ys => ys.Pairwise (· ≤ ·)) X) := by
  intro pins s σ H xs us Q I r h
  obtain ⟨a, L, rfl, e, h64, q⟩ := h
  rw [Vals.ref1 r]
  exact sort_setI (setHO_at I e) (I.ok.hd hc) h64 fun s' p out c ys k g o hp ep hS pm so => told_lst I k g o hp ep (vals_of_ints hS) (by rw [List.length_map, pm.length_eq, sizeLine_eq]; omega) fun hn => q ys p pm so hn
end
theorem seqD_of {k : Ky} {P : Hp} {w : Wd} {env : Envr} {S : Sto} {σ : L2.St} {H : Hp} {d : D} {v : V} {l : List D} (I : RB k P w env S σ H) (r : RepH k w H d v) (e : seqD d = some l) : ∃ a vs, v = .ref a ∧ (SqL k.K H a vs ∨ SqT k.K H a vs) ∧ Reps k w l vs := by
  cases d <;> simp only [seqD] at e <;> first | contradiction | (cases e)
  · obtain ⟨a, vs, e, h, r⟩ := seqT_of I r (.inl rfl); exact ⟨a, vs, e, .inr h, r⟩
  · obtain ⟨a, vs, e, h, r⟩ := seqL_of I r (.inl rfl); exact ⟨a, vs, e, .inl h, r⟩
  · obtain ⟨a, vs, e, h, r⟩ := seqL_of I r (.inr rfl); exact ⟨a, vs, e, .inl h, r⟩
  · obtain ⟨a, vs, e, h, r⟩ := seqT_of I r (.inr rfl); exact ⟨a, vs, e, .inr h, r⟩
theorem setF_ok {α : Type} {fs : List Str → α} {fi : List Int → α} {d : D} {x : α} {k : Ky} {P : Hp} {w : Wd} {env : Envr} {S : Sto} {σ : L2.St} {H : Hp} {v : V} (I : RB k P w env S σ H) (r : RepH k w H d v) (e : setF fs fi d = some x) :
    (∃ a xs, v = .ref a ∧ (SqL k.K H a (xs.map V.str) ∨ SqT k.K H a (xs.map V.str)) ∧ xs.length < 64 ∧ x = fs xs) ∨ (∃ a xs, v = .ref a ∧ (SqL k.K H a (xs.map V.int) ∨ SqT k.K H a (xs.map V.int)) ∧ xs.length < 64 ∧ x = fi xs) := by
  obtain ⟨l, e1, e⟩ := Option.bind_eq_some_iff.mp e
  split at e
  · rename_i hl
    obtain ⟨a, vs, rfl, h, r⟩ := seqD_of I r e1
    split at e
    · rename_i xs e2
      cases e
      have := strs_rep e2 r
      subst this
      have := r.length
      rw [List.length_map] at this
      exact .inl ⟨a, xs, rfl, h, by omega, rfl⟩
    · obtain ⟨xs, e2, rfl⟩ := Option.map_eq_some_iff.mp e
      have := ints_rep e2 r
      subst this
      have := r.length
      rw [List.length_map] at this
      exact .inr ⟨a, xs, rfl, h, by omega, rfl⟩
  · cases e
theorem onto64 {K : Type} [DecidableEq K] {xs : List K} (h : xs.length < 64) : (onto xs []).length < 64 := Nat.lt_of_le_of_lt (onto_len (L := [])) (by simpa using h)
section
variable {X : Cx} {k : Ky} {W : WX} {a : Expr} {ma : M D} {p p2 q pos : Pos} {x y : Str}
theorem df_sset (hk : k.K = X.K) (hc : X.calm = true) (hx : x = "sorted") (hy : y = "set") (hg : Gl X x) (hm : X.mg x = none) (hg2 : Gl X y) (hm2 : X.mg y = none) (ha : DO X k W a ma) (hs : ∀ x p, a ≠ .Starred x p) : DF X k W (.Call (.Name x p) [.Call (.Name y p2) [a] [] q] [] pos) (dOpF1 ssetF ma) := by
  subst hx hy
  have hs1 : ∀ r ∈ [a], ∀ x p, r ≠ .Starred x p := fun r hr => by simp at hr; subst hr; exact hs
  have hs2 : ∀ x p, Expr.Call (.Name "set" p2) [a] [] q ≠ .Starred x p := fun _ _ z => nomatch z
  refine PE.sub (pe_blt (c := .f "sorted") ((cr_sortVS hc).or (cr_sortVI hc)) hg hm (by decide +kernel) (pa_one (pe_blt (c := .t "set") ((cr_setV (K := Str) hc).or (cr_setV (K := Int) hc)) hg2 hm2 (by decide +kernel) (pa_one ha hs) (by decide +kernel) (by decide +kernel) hs1) hs2) (by decide +kernel) (by decide +kernel) (fun r hr => by simp at hr; subst hr; exact hs2)) fun σ H Q ⟨P, w, env, S, I, h⟩ => thenO I h fun dx w1 env1 S1 x H1 l1 I1 r1 h1 => ?_
  obtain ⟨c, e, h3⟩ := h1.getS.opt
  rcases setF_ok I1 (I1.view r1) e with ⟨b, xs, rfl, hq, h64, rfl⟩ | ⟨b, xs, rfl, hq, h64, rfl⟩
  · refine .inl ⟨b, xs, rfl, hk ▸ hq, h64, fun t ht => .inl ⟨t, onto xs [], rfl, upd_same, onto64 h64, fun ys u pm so hu => ?_⟩⟩
    rw [sortS_uniq pm so]
    obtain ⟨J1, _⟩ := I1.new (o := SetHO Str X.prog X.w t (onto xs [])) ht
    obtain ⟨J2, L2⟩ := J1.new (o := .lst ((sortS (onto xs [])).map Ks.v)) hu
    exact h3.ret u _ _ J2 upd_same ⟨_, rfl, reps_strs _⟩ L2
  · refine .inr ⟨b, xs, rfl, hk ▸ hq, h64, fun t ht => .inr ⟨t, onto xs [], rfl, upd_same, onto64 h64, fun ys u pm so hu => ?_⟩⟩
    rw [sortI_uniq pm so]
    obtain ⟨J1, _⟩ := I1.new (o := SetHO Int X.prog X.w t (onto xs [])) ht
    obtain ⟨J2, L2⟩ := J1.new (o := .lst ((sortI (onto xs [])).map Ks.v)) hu
    exact h3.ret u _ _ J2 upd_same ⟨_, rfl, reps_ints _⟩ L2
theorem de_lset (hk : k.K = X.K) (hc : X.calm = true) (hx : x = "len") (hy : y = "set") (hg : Gl X x) (hm : X.mg x = none) (hg2 : Gl X y) (hm2 : X.mg y = none) (ha : DO X k W a ma) (hs : ∀ x p, a ≠ .Starred x p) : DE X k W (.Call (.Name x p) [.Call (.Name y p2) [a] [] q] [] pos) (dOp1 lsetD ma) := by
  subst hx hy
  have hs1 : ∀ r ∈ [a], ∀ x p, r ≠ .Starred x p := fun r hr => by simp at hr; subst hr; exact hs
  have hs2 : ∀ x p, Expr.Call (.Name "set" p2) [a] [] q ≠ .Starred x p := fun _ _ z => nomatch z
  refine PE.sub (pe_blt (c := .f "len") ((cr_lenV (K := Str)).or (cr_lenV (K := Int))) hg hm (by decide +kernel) (pa_one (pe_blt (c := .t "set") ((cr_setV (K := Str) hc).or (cr_setV (K := Int) hc)) hg2 hm2 (by decide +kernel) (pa_one ha hs) (by decide +kernel) (by decide +kernel) hs1) hs2) (by decide +kernel) (by decide +kernel) (fun r hr => by simp at hr; subst hr; exact hs2)) fun σ H Q ⟨P, w, env, S, I, h⟩ => thenO I h fun dx w1 env1 S1 x H1 l1 I1 r1 h1 => ?_
  obtain ⟨c, e, h3⟩ := h1.getS.opt
  rcases setF_ok I1 (I1.view r1) e with ⟨b, xs, rfl, hq, h64, rfl⟩ | ⟨b, xs, rfl, hq, h64, rfl⟩
  · refine .inl ⟨b, xs, rfl, hk ▸ hq, h64, fun t ht => .inl ⟨t, onto xs [], rfl, upd_same, onto64 h64, ?_⟩⟩
    obtain ⟨J1, _⟩ := I1.new (o := SetHO Str X.prog X.w t (onto xs [])) ht
    exact h3.ret _ _ J1 rfl
  · refine .inr ⟨b, xs, rfl, hk ▸ hq, h64, fun t ht => .inr ⟨t, onto xs [], rfl, upd_same, onto64 h64, ?_⟩⟩
    obtain ⟨J1, _⟩ := I1.new (o := SetHO Int X.prog X.w t (onto xs [])) ht
    exact h3.ret _ _ J1 rfl
end
end L2.MP
end
section
set_option Elab.async false
set_option linter.all false
set_option maxRecDepth 100000
set_option maxHeartbeats 4000000
namespace L2.MP
open PySem PySem.Spec PyProof.Rows
section
variable {P : Program} {w : World} {A : Around} {E : Value → Shared → Prop} {s : Shared}
theorem rev_applied {sl : Addr} {vl vu vs : Value} {n : Nat} {Q : Int × Int × Nat → Shared → Prop} (hs : s.heap.IsSliceOf sl vl vu vs) (pl : IsPart vl none) (pu : IsPart vu none) (ps : IsPart vs (some (-1)))
    (h : Q ((n : Int) - 1, -1, n) s) : wpAny (model P w) A (Builtin.Slice.sliceApplied (.ref sl) (pure (n : Int))) Q E s := by
  obtain ⟨os, hos, hcs, hds⟩ := id hs
  cases pl
  cases pu
  cases ps
  unfold Builtin.Slice.sliceApplied Builtin.Slice.sliceFields
  refine wpAny_bind (wpAny_bind (wpAny_field hos hds (x := .none) rfl (wpAny_bind (wpAny_field hos hds (x := .none) rfl (wpAny_bind (wpAny_field hos hds (x := .int (-1) _) rfl (wpAny_pure ?_)))))))
  refine wpAny_bind (slicePart_int ?_)
  show wpAny _ _ (if ((-1 : Int) == 0) = true then _ else _) _ _ s
  rw [if_neg (by decide)]
  refine wpAny_bind (slicePart_none (wpAny_bind (slicePart_none (wpAny_bind (wpAny_pure ?_)))))
  have e : Builtin.Slice.slicePlaces ((n : Int) - 1) (-1) (-1) = n := by
    unfold Builtin.Slice.slicePlaces
    rw [if_neg (by decide)]
    rw [show -(-1 : Int) = 1 from rfl, Int.ediv_one]
    split <;> omega
  show wpAny _ _ (pure ((n : Int) - 1, (-1 : Int), Builtin.Slice.slicePlaces ((n : Int) - 1) (-1) (-1))) _ _ s
  rw [e]
  exact wpAny_pure h
theorem pick_rev (xs : Array Value) : ((List.range xs.size).filterMap fun (m : Nat) => xs[(((xs.size : Int) - 1) + (m : Int) * (-1)).toNat]?) = xs.toList.reverse := by
  apply List.ext_getElem?
  intro i
  have key : ∀ n, n ≤ xs.size → ((List.range n).filterMap fun (m : Nat) => xs[(((xs.size : Int) - 1) + (m : Int) * (-1)).toNat]?) = xs.toList.reverse.take n := by
    intro n
    induction n with
    | zero => intro _; rfl
    | succ n ih =>
      intro h
      rw [List.range_succ, List.filterMap_append, ih (by omega)]
      have e : (((xs.size : Int) - 1) + (n : Int) * (-1)).toNat = xs.size - 1 - n := by omega
      have e2 : xs[xs.size - 1 - n]? = some xs[xs.size - 1 - n] := Array.getElem?_eq_getElem (by omega)
      simp only [List.filterMap_cons, List.filterMap_nil, e, e2]
      have hl : n < xs.toList.reverse.length := by simp; omega
      rw [List.take_add_one, List.getElem?_eq_getElem hl]
      simp
  rw [key _ (Nat.le_refl _), List.take_of_length_le (by simp)]
theorem get_tup_rev {t sl : Addr} {items : Array Value} {vl vu vs : Value} {Q : Value → Shared → Prop} (ht : IsTup s.heap t items) (hs : s.heap.IsSliceOf sl vl vu vs) (pl : IsPart vl none) (pu : IsPart vu none) (ps : IsPart vs (some (-1)))
    (h : Q (.ref s.heap.objs.size) { s with heap := s.heap.push { cls := .type "tuple", data := .seq items.toList.reverse.toArray } }) (hz : items.size ≤ sizeLine) : wpAny (model P w) A (getItem (.ref t) (.ref sl)) Q E s := by
  obtain ⟨os, hos, hcs, hds⟩ := id hs
  have ok : sizeOk (.seq items.toList.reverse.toArray) := by
    show items.toList.reverse.toArray.size ≤ sizeLine
    rw [List.size_toArray, List.length_reverse, Array.length_toList]; exact hz
  have ts : s.TypeIs (.ref sl) "slice" := ⟨os, hos, hcs⟩
  unfold getItem
  try with_reducible refine wpAny_holding ?_
  first | refine wpAny_bind (wpAny_pure ?_) | skip
  refine wpAny_bind (wpAny_sequenceKey ht.typeIs (by decide) (wpAny_bind (wpAny_callSpecial?_slot (name := Str.ofString "__getitem__") ht.typeIs PyProof.Rows.slot_tuple_getitem
    (wpAny_call_entry PyProof.Rows.slot_tuple_getitem ht.typeIs entry_tuple_getitem ?_ (args_tuple_getitem _ _)))))
  show wpAny _ _ (Builtin.Tuple.tupleItemsOf (.ref t) >>= _) _ _ s
  refine wpAny_bind (tupleItemsOf_ ht (wpAny_bind (wpAny_typeOf ts ?_)))
  rw [if_pos (by decide)]
  refine wpAny_bind (rev_applied hs pl pu ps ?_)
  have no : ¬ ((((items.size : Int) - 1) == 0 && (-1 : Int) == 1 && items.size == items.size) = true) := by
    rw [show ((-1 : Int) == 1) = false from rfl, Bool.and_false, Bool.false_and]; exact Bool.false_ne_true
  show wpAny _ _ (if ((((items.size : Int) - 1) == 0 && (-1 : Int) == 1 && items.size == items.size) = true) then _ else _) _ _ s
  rw [if_neg no, pick_rev]
  first
    | exact wpAny_bind (m := Builtin.Tuple.tupleExact _) (wpAny_newObj_type (wpAny_pure ⟨_, rfl, wpAny_pure h⟩) ok)
    | exact wpAny_bind (m := Builtin.Tuple.tupleExact _) (wpAny_newObj_type (wpAny_bind (wpAny_pure (wpAny_pure ⟨_, rfl, wpAny_pure h⟩))) ok)
    | exact wpAny_bind (wpAny_bind (m := Builtin.Tuple.tupleExact _) (wpAny_newObj_type (wpAny_pure (wpAny_pure ⟨_, rfl, wpAny_pure h⟩)) ok))
    | exact wpAny_bind (wpAny_bind (m := Builtin.Tuple.tupleExact _) (wpAny_newObj_type (wpAny_pure ⟨_, rfl, wpAny_pure h⟩) ok))
end
def tRev2 (K : PySem.W.Frag) (te : TE) : TE := fun σ H Q => te σ H fun x H1 => (∃ a xs, x = .ref a ∧ SqL K H1 a xs ∧ ∀ p, H1 p = none → Q (.ref p) (upd H1 p (.lst xs.reverse))) ∨ ∃ a xs, x = .ref a ∧ SqT K H1 a xs ∧ ∀ p, H1 p = none → Q (.ref p) (upd H1 p (.tup xs.reverse))
theorem pe_rev2 {X : Cx} {e : Expr} {te : TE} {k : Nat} {p1 p2 p3 pos : Pos} (he : PE X e te) : PE X (.Subscript e (.Slice none none (some (.UnaryOp .USub (.Constant (.int 1) k p1) p2)) p3) pos) (tRev2 X.K te) := by
  refine ⟨fun pins s σ H Q I h => Subscript_ (thn (he.run pins s σ H _ I h) fun v s1 ⟨x, H1, I1, r1, q1⟩ => ?_)⟩
  have st : PO X (some (.UnaryOp .USub (.Constant (.int 1) k p1) p2)) (tPart (tUn (rU fun i => .int (-i)) (tC (.int 1)))) := po_some (pe_un un_neg pe_int)
  refine wpAny_Slice (thn (po_none.run pins s1 σ H1 (fun o H2 => o = none ∧ H2 = H1) I1 ⟨rfl, rfl⟩) fun vl s2 ⟨l, H2, I2, pl, el, e2⟩ => thn (po_none.run pins s2 σ H2 (fun o H3 => o = none ∧ H3 = H2) I2 ⟨rfl, rfl⟩) fun vu s3 ⟨u, H3, I3, pu, eu, e3⟩ =>
    thn (st.run pins s3 σ H3 (fun o H4 => o = some (-1) ∧ H4 = H3) I3 ⟨1, rfl, -1, rfl, rfl, rfl⟩) fun vs s4 ⟨o, H4, I4, ps, eo, e4⟩ => ?_)
  subst el e2 eu e3 eo e4
  have I5 : Inv X pins σ H4 { s4 with heap := s4.heap.push { cls := .type "slice", data := .fields #[vl, vu, vs] } } := I4.kept (t' := s4.toks) fun b ob q => Heap.get?_push_of_some _ q
  rcases q1 with ⟨a, xs, rfl, hx, q⟩ | ⟨a, xs, rfl, hx, q⟩
  · cases r1
    obtain ⟨its, r, ht, hz⟩ := I5.list hx
    have hl := r.length
    refine tail_any (ops := [.ref a, .ref s4.heap.objs.size]) ht.isList.typeIs (PySem.slot_list_getitem.lookup) (wpAny_getItem_list_slice ht.isList (Heap.IsSliceOf.new _ vl vu vs) pl pu ps (by decide) ?_ (by rw [List.size_toArray]; omega)) (by with_unfolding_all rfl)
    rw [PySem.W.krv_pick]
    exact ⟨.ref _, _, I5.laid (t' := s4.toks) (o := .lst xs.reverse) (fun b ob q => Heap.get?_push_of_some _ q) (Nat.le_refl _) ⟨by rw [List.length_reverse]; exact hz, _, 0, r.reverse, Heap.get?_push_size _ rfl⟩, rfl, q _ (I5.hok.fresh (Nat.le_refl _))⟩
  · cases r1
    obtain ⟨its, r, ht, hz⟩ := I5.tuple hx
    have hl := r.length
    refine tail_any (ops := [.ref a, .ref s4.heap.objs.size]) ht.typeIs (PyProof.Rows.slot_tuple_getitem.lookup) (get_tup_rev ht (Heap.IsSliceOf.new _ vl vu vs) pl pu ps ?_ (by rw [List.size_toArray]; omega)) (by with_unfolding_all rfl)
    exact ⟨.ref _, _, I5.laid (t' := s4.toks) (o := .tup xs.reverse) (fun b ob q => Heap.get?_push_of_some _ q) (Nat.le_refl _) ⟨by rw [List.length_reverse]; exact hz, _, r.reverse, IsTup.new _ _⟩, rfl, q _ (I5.hok.fresh (Nat.le_refl _))⟩
section
variable {X : Cx} {k : Ky} {W : WX} {e : Expr} {ma mo : M D} {mf : M Cell} {pos p1 p2 p3 : Pos}
theorem de_rev {i : Nat} (hk : k.K = X.K) (ha : DO X k W e ma) : DE X k W (.Subscript e (.Slice none none (some (.UnaryOp .USub (.Constant (.int 1) i p1) p2)) p3) pos) (dOp1 revD ma) :=
  PE.sub (pe_rev2 ha) fun σ H Q ⟨P, w, env, S, I, h⟩ => thenO I h fun dx w1 env1 S1 x H1 l1 I1 r1 h1 => by
    obtain ⟨d, e, h3⟩ := h1.getS.opt
    have rx := I1.view r1
    unfold revD at e
    split at e
    · rename_i ee; cases e; rw [ee] at rx
      obtain ⟨a, vs, rfl, h, r⟩ := seqL_of I1 rx (.inl rfl)
      exact .inl ⟨a, vs, rfl, hk ▸ h, fun p hp => (h3.up (I1.le_grow hp)).ret _ _ (I1.grow hp) ⟨p, _, rfl, Wd.fz_at, r.reverse.mono (I1.le_grow hp)⟩⟩
    · rename_i ee; cases e; rw [ee] at rx
      obtain ⟨a, vs, rfl, h, r⟩ := seqL_of I1 rx (.inr rfl)
      exact .inl ⟨a, vs, rfl, hk ▸ h, fun p hp => (h3.up (I1.le_grow hp)).ret _ _ (I1.grow hp) ⟨p, _, rfl, Wd.fz_at, r.reverse.mono (I1.le_grow hp)⟩⟩
    · rename_i ee; cases e; rw [ee] at rx
      obtain ⟨a, vs, rfl, h, r⟩ := seqT_of I1 rx (.inl rfl)
      exact .inr ⟨a, vs, rfl, hk ▸ h, fun p hp => (h3.up (I1.le_grow hp)).ret _ _ (I1.grow hp) ⟨p, _, rfl, Wd.fz_at, r.reverse.mono (I1.le_grow hp)⟩⟩
    · rename_i ee; cases e; rw [ee] at rx
      obtain ⟨a, vs, rfl, h, r⟩ := seqT_of I1 rx (.inr rfl)
      exact .inr ⟨a, vs, rfl, hk ▸ h, fun p hp => (h3.up (I1.le_grow hp)).ret _ _ (I1.grow hp) ⟨p, _, rfl, Wd.fz_at, r.reverse.mono (I1.le_grow hp)⟩⟩
    · cases e
theorem de_hp (h : DF X k W e mf) : DE X k W e (dHp mf) := PE.sub h fun σ H Q ⟨P, w, env, S, I, h⟩ => ⟨P, w, env, S, I, h.bind.imp fun c w1 env1 S1 l1 q p o H1 I1 e1 r1 L => by
  have h2 : Aft k W P w1 (M.ret (D.ref S1.length) env1 (S1 ++ [c])) (rE k P σ Q) := q
  exact (h2.up I1.rs.al_le).ret _ H1 (I1.alloc e1 r1 L) ⟨p, rfl, Wd.al_at⟩⟩
theorem de_call0 {x : Str} {f : Addr} {fd : FuncData} {ps : List Str} {fn : Fn} {p : Pos} {lv n : Nat} (F : FnOk X.prog X.w X.K X.mg X.base (L2.CX X.prog X.w) lv f fd ps (spOf k n fn)) (hr : Room lv X.A) (hg : Gl X x) (hm : X.mg x = some (.ref f)) (hk : PySem.W.keepIn X.K (.ref f) = true) (hb : Binds X.K fd ps [])
    (tk : Takes X W) (hdb : (x == ("__debug__" : Str)) = false) : DE X k W (.Call (.Name x p) [] [] pos) (M.bind dNil fun ds => if ds.length = n then (fun env S => (fn ds S).out env) else M.fail) := by
  refine ⟨fun pins s σ H Q I h => ?_⟩
  obtain ⟨P, w, env, S, J, h⟩ := h
  have h1 : Aft k W P w ((if ([] : List D).length = n then (fun env S => (fn [] S).out env) else M.fail : M D) env S) (rE k P σ Q) := h
  obtain ⟨hl, h2⟩ := if_ok h1
  refine wpAny_Call_Name_kw (ld_glob I hg hm ?_ hdb)
  exact PySem.W.callWith_K0 (first := []) I.kIn hk (run_fnSD (us := []) (vs := []) F hr hb .nil (passAt tk σ) I .nil (call_sp (ds := []) J rfl hl h2))
theorem om_insert : OpMt X (fun x vs H Q => ∃ (l : Addr) (xs : List V) (i : Int) (y : V), x = .ref l ∧ vs = [.int i, y] ∧ H l = some (.lst xs) ∧ xs.length < sizeLine ∧ 0 ≤ i ∧ i < 2 ^ 63 ∧ Q .non (upd H l (.lst (xs.take i.toNat ++ [y] ++ xs.drop i.toNat)))) insF := by
  intro k P w env S σ H a o vs ds c c' d Q hk I hH rc rs e q
  unfold insF at e
  split at e
  · split at e
    · rename_i hb
      cases e
      obtain ⟨us, rfl, r⟩ := rc
      obtain ⟨v, t, rfl, r1, v2, t2, rfl, r2, rfl⟩ := rs
      obtain rfl : v = _ := r1
      exact ⟨a, us, _, v2, rfl, rfl, hH, by rw [r.length]; exact hb.1, hb.2.1, hb.2.2, q _ _ ⟨_, rfl, ((r.take _).append (Reps.one r2)).append (r.drop _)⟩ rfl⟩
    · cases e
  · cases e
end
end L2.MP
namespace L2.MP
open PySem PySem.Spec PyProof.Rows
section
variable {X : Cx} {k : Ky} {W : WX} {o e : Expr} {mo ma : M D} {apos pos : Pos}
def LmOk (X : Cx) (r : V → List V → Hp → VK → Prop) (f : List D → D → Option D) : Prop :=
  ∀ (k : Ky) (P : Hp) (w : Wd) (env : Envr) (S : Sto) (σ : L2.St) (H : Hp) (a : Addr) (vs : List V) (l : List D) (y : D) (v : V) (d : D) (Q : VK), k.K = X.K → RB k P w env S σ H → SqL k.K H a vs → Reps k w l vs → RepH k w H y v → f l y = some d →
    (∀ w' u H', Wd.Le w w' → RB k P w' env S σ H' → Rep k w' d u → Q u H') → r (.ref a) [v] H Q
theorem de_lm1 {id : String} {name : Str} {r : V → List V → Hp → VK → Prop} {f : List D → D → Option D} (hk : k.K = X.K) (slot : PySem.Slot "list" name id) (ty : typeOf (.builtin id) = pure (.type "method_descriptor")) (rule : MtR X id r) (hf : LmOk X r f)
    (ho : DO X k W o mo) (ha : DO X k W e ma) (hs : ∀ x p, e ≠ .Starred x p) (hbase : attributeBase o name X.env (eval o X.env) = eval o X.env) (hfew : ((backTo pos (starEach [e] X.env)).all (fun x => !x.1) && (backToKw pos (keywordEach [] X.env)).all (fun x => x.1.isSome)
      && decide ([e].length + ([] : List Keyword).length + (if ([] : List Keyword).isEmpty then 0 else 1) < 30)) = true) (hline : (apos.endLine == pos.line) = true) : DE X k W (.Call (.Attribute o name apos) [e] [] pos) (dLm1 f mo ma) :=
  PE.sub (pe_bm PySem.F.plainAttrs_list slot ty rule ho (pa_one ha hs) hbase hfew hline (star1 e hs [] _) rfl) fun σ H Q ⟨P, w, env, S, I, h⟩ => thenO I h fun x w1 env1 S1 v H1 l1 I1 r1 h1 => by
    have h1 := h1.getS
    dsimp only at h1
    cases el : lstOf (view env1 S1 x) with
    | none => rw [el] at h1; exact h1.elim
    | some l =>
      rw [el] at h1
      obtain ⟨a, vs, rfl, hq, _⟩ := seqL_of I1 (I1.view r1) (lstOf_ok el)
      refine ⟨.inl ⟨rfl, vs, hk ▸ hq⟩, thenO I1 h1 fun y w2 env2 S2 u H2 l2 I2 r2 h2 => ?_⟩
      obtain ⟨d, e1, h3⟩ := h2.getS.opt
      obtain ⟨m, e2, e3⟩ := Option.bind_eq_some_iff.mp e1
      obtain ⟨a2, us, ea, hq2, rr⟩ := seqL_of I2 (I2.view (r1.up l2)) (lstOf_ok e2)
      cases ea
      exact hf k P w2 env2 S2 σ H2 a us m _ u d Q hk I2 hq2 rr (I2.view r2) e3 fun w' u' H' le J q => (h3.up le).ret u' H' J q
theorem posD_ok {y : D} : ∀ {l : List D} {j : Nat}, posD y l = some j → (∃ z, l[j]? = some z ∧ eqD z y = true) ∧ ∀ (m : Nat) z, m < j → l[m]? = some z → eqD z y = false
  | [], j, e => by cases e
  | x :: r, j, e => by
    unfold posD at e
    split at e
    · rename_i h
      cases e
      exact ⟨⟨x, rfl, h⟩, fun m z hm => by omega⟩
    · rename_i h
      obtain ⟨i, e1, rfl⟩ := Option.map_eq_some_iff.mp e
      obtain ⟨⟨z, h1, h2⟩, h3⟩ := posD_ok e1
      refine ⟨⟨z, by simpa using h1, h2⟩, fun m z hm ez => ?_⟩
      cases m with
      | zero => simp at ez; subst ez; simpa using h
      | succ m => exact h3 m z (by omega) (by simpa using ez)
theorem lm_index : LmOk X (rIndex X.K) idxF := by
  intro k P w env S σ H a vs l y v d Q hk I hq rr ry e q
  unfold idxF at e
  split at e
  · rename_i hb
    rw [Bool.and_eq_true] at hb
    obtain ⟨j, e1, rfl⟩ := Option.map_eq_some_iff.mp e
    obtain ⟨⟨z, h1, h2⟩, h3⟩ := posD_ok e1
    have ry := flat_repH hb.1 ry
    obtain ⟨u, g1, g2⟩ := rr.getD h1
    have fl : ∀ (i : Nat) x, l[i]? = some x → flatD x = true := fun i x e => List.all_eq_true.mp hb.2 x (List.mem_of_getElem? e)
    exact ⟨a, vs, v, j, u, rfl, rfl, hk ▸ hq, flat_rep hb.1 ry, flats_rep hb.2 rr, g1, by rw [eqV_rep (fl _ _ h1) hb.1 g2 ry]; exact h2, fun m z' hm ez => by
      obtain ⟨x, f1, f2⟩ := rr.get ez
      rw [eqV_rep (fl _ _ f1) hb.1 f2 ry]; exact h3 m x hm f1, q w _ H (Wd.Le.refl w) I rfl⟩
  · cases e
end
end L2.MP
end
section
set_option Elab.async false
set_option linter.all false
namespace L2.MP
open PySem PySem.Spec PyProof.Rows
def cntF (l : List D) (y : D) : Option D := if flatD y && l.all flatD then some (.int ((l.countP fun x => eqD x y : Nat) : Int)) else none
def dCount (o a : M D) : M D := fun env S => match o env S with
  | .ok (.str _) _ _ => dSm1 countD o a env S
  | _ => dLm1 cntF o a env S
end L2.MP
end
section
set_option Elab.async false
set_option linter.all false
namespace L2.MP
open PySem PySem.Spec PyProof.Rows
def stpD (x : D) (o : Option Int) : Option D := match x, o with
  | .lst l, some (.ofNat 1) => some (.lst l)
  | .lst l, some (.negSucc 0) => some (.lst l.reverse)
  | _, _ => none
def dStp (a st : M D) : M D := M.bind a fun x => M.bind (dPart (some st)) fun o => M.bind getS fun z => M.opt (stpD (view z.1 z.2 x) o)
end L2.MP
end
section
set_option Elab.async false
set_option linter.all false
set_option maxRecDepth 100000
set_option maxHeartbeats 4000000
namespace L2.MP
open PySem PySem.Spec PyProof.Rows
theorem pick_one (items : Array Value) : slicePick items none none (some 1) = items.toList.toArray := by
  have h := L2.slicePick_cut items.toList none none
  have e : slicePick items none none (some 1) = slicePick items.toList.toArray none none none := by
    rw [Array.toArray_toList]
    rfl
  rw [e, h]
  simp [HT.sIx]
  rw [List.take_of_length_le (by simp)]
def tStp (K : PySem.W.Frag) (te : TE) (to : TO) : TE := fun σ H Q => te σ H fun x H1 => to σ H1 fun o H2 => ∃ a xs i, o = some i ∧ (i = 1 ∨ i = -1) ∧ x = .ref a ∧ SqL K H2 a xs ∧ ∀ p, H2 p = none → Q (.ref p) (upd H2 p (.lst (if i = 1 then xs else xs.reverse)))
theorem pe_stp {X : Cx} {e st : Expr} {te : TE} {to : TO} {p3 pos : Pos} (he : PE X e te) (hst : PO X (some st) to) : PE X (.Subscript e (.Slice none none (some st) p3) pos) (tStp X.K te to) := by
  refine ⟨fun pins s σ H Q I h => Subscript_ (thn (he.run pins s σ H _ I h) fun v s1 ⟨x, H1, I1, r1, q1⟩ => ?_)⟩
  refine wpAny_Slice (thn (po_none.run pins s1 σ H1 (fun o H2 => o = none ∧ H2 = H1) I1 ⟨rfl, rfl⟩) fun vl s2 ⟨l, H2, I2, pl, el, e2⟩ => thn (po_none.run pins s2 σ H2 (fun o H3 => o = none ∧ H3 = H2) I2 ⟨rfl, rfl⟩) fun vu s3 ⟨u, H3, I3, pu, eu, e3⟩ => ?_)
  subst el e2 eu e3
  refine thn (hst.run pins s3 σ H3 _ I3 q1) fun vs s4 ⟨o, H4, I4, ps, q4⟩ => ?_
  obtain ⟨a, xs, i, eo, hi, ex, hx, q⟩ := q4
  subst eo ex
  cases r1
  have I5 : Inv X pins σ H4 { s4 with heap := s4.heap.push { cls := .type "slice", data := .fields #[vl, vu, vs] } } := I4.kept (t' := s4.toks) fun b ob q => Heap.get?_push_of_some _ q
  obtain ⟨its, r, ht, hz⟩ := I5.list hx
  have hl := r.length
  rcases hi with rfl | rfl
  · refine tail_any (ops := [.ref a, .ref s4.heap.objs.size]) ht.isList.typeIs (PySem.slot_list_getitem.lookup) (wpAny_getItem_list_slice ht.isList (Heap.IsSliceOf.new _ vl vu vs) pl pu ps (by decide) ?_ (by rw [List.size_toArray]; omega)) (by with_unfolding_all rfl)
    rw [pick_one]
    exact ⟨.ref _, _, I5.laid (t' := s4.toks) (o := .lst xs) (fun b ob q => Heap.get?_push_of_some _ q) (Nat.le_refl _) ⟨hz, _, 0, r, Heap.get?_push_size _ rfl⟩, rfl, q _ (I5.hok.fresh (Nat.le_refl _))⟩
  · refine tail_any (ops := [.ref a, .ref s4.heap.objs.size]) ht.isList.typeIs (PySem.slot_list_getitem.lookup) (wpAny_getItem_list_slice ht.isList (Heap.IsSliceOf.new _ vl vu vs) pl pu ps (by decide) ?_ (by rw [List.size_toArray]; omega)) (by with_unfolding_all rfl)
    rw [PySem.W.krv_pick]
    exact ⟨.ref _, _, I5.laid (t' := s4.toks) (o := .lst xs.reverse) (fun b ob q => Heap.get?_push_of_some _ q) (Nat.le_refl _) ⟨by rw [List.length_reverse]; exact hz, _, 0, r.reverse, Heap.get?_push_size _ rfl⟩, rfl, q _ (I5.hok.fresh (Nat.le_refl _))⟩
section
variable {X : Cx} {k : Ky} {W : WX} {e st : Expr} {ma ms : M D} {pos p3 : Pos}
theorem de_stp (hk : k.K = X.K) (ha : DO X k W e ma) (hs : DE X k W st ms) : DE X k W (.Subscript e (.Slice none none (some st) p3) pos) (dStp ma ms) :=
  PE.sub (pe_stp ha (dp_some hs)) fun σ H Q ⟨P, w, env, S, I, h⟩ => thenO I h fun dx w1 env1 S1 x H1 l1 I1 r1 h1 => thenP I1 h1 fun l w2 env2 S2 H2 l2 I2 h2 => by
    obtain ⟨d, e, h3⟩ := h2.getS.opt
    have rx := I2.view (r1.up l2)
    unfold stpD at e
    split at e
    · rename_i ee; cases e; rw [ee] at rx
      obtain ⟨a, vs, rfl, h, r⟩ := seqL_of I2 rx (.inl rfl)
      refine ⟨a, vs, 1, rfl, .inl rfl, rfl, hk ▸ h, fun p hp => ?_⟩
      rw [if_pos rfl]
      exact (h3.up (I2.le_grow hp)).ret _ _ (I2.grow hp) ⟨p, _, rfl, Wd.fz_at, r.mono (I2.le_grow hp)⟩
    · rename_i ee; cases e; rw [ee] at rx
      obtain ⟨a, vs, rfl, h, r⟩ := seqL_of I2 rx (.inl rfl)
      refine ⟨a, vs, -1, rfl, .inr rfl, rfl, hk ▸ h, fun p hp => ?_⟩
      rw [if_neg (by decide)]
      exact (h3.up (I2.le_grow hp)).ret _ _ (I2.grow hp) ⟨p, _, rfl, Wd.fz_at, r.reverse.mono (I2.le_grow hp)⟩
    · cases e
end
end L2.MP
end
section
set_option Elab.async false
set_option linter.all false
set_option maxRecDepth 100000
set_option maxHeartbeats 4000000
namespace L2.MP
open PySem PySem.Spec PyProof.Rows
section
variable {X : Cx} {k : Ky} {W : WX} {o e : Expr} {mo ma : M D} {apos pos : Pos}
def SmOk (X : Cx) (r : V → List V → Hp → VK → Prop) (f : Str → D → Option D) : Prop :=
  ∀ (k : Ky) (P : Hp) (w : Wd) (env : Envr) (S : Sto) (σ : L2.St) (H : Hp) (s : Str) (y : D) (v : V) (d : D) (Q : VK), k.K = X.K → RB k P w env S σ H → RepH k w H y v → f s y = some d →
    (∀ w' u H', Wd.Le w w' → RB k P w' env S σ H' → Rep k w' d u → Q u H') → r (.str s) [v] H Q
theorem de_sm0 {id : String} {name : Str} {r : V → List V → Hp → VK → Prop} {f : Str → Option D} (slot : PySem.Slot "str" name id) (ty : typeOf (.builtin id) = pure (.type "method_descriptor")) (rule : MtR X id r)
    (hf : ∀ s d H (Q : VK) v, f s = some d → (∀ k w, Rep k w d v) → Q v H → r (.str s) [] H Q) (hv : ∀ s d, f s = some d → ∃ v, ∀ k w, Rep k w d v)
    (ho : DO X k W o mo) (hbase : attributeBase o name X.env (eval o X.env) = eval o X.env) (hline : (apos.endLine == pos.line) = true) : DE X k W (.Call (.Attribute o name apos) [] [] pos) (dSm0 f mo) :=
  PE.sub (pe_m0 slot ty rule ho hbase hline) fun σ H Q ⟨P, w, env, S, I, h⟩ => thenO I h fun x w1 env1 S1 v H1 l1 I1 r1 h1 => by
    cases x <;> first | exact h1.elim | skip
    rename_i s
    cases (show v = .str s from r1)
    obtain ⟨d, e, h2⟩ := h1.opt
    obtain ⟨u, hu⟩ := hv s d e
    exact ⟨⟨s, rfl⟩, hf s d H1 Q u e hu (h2.ret u H1 I1 (hu _ _))⟩
theorem de_sm1 {id : String} {name : Str} {r : V → List V → Hp → VK → Prop} {f : Str → D → Option D} (hk : k.K = X.K) (slot : PySem.Slot "str" name id) (ty : typeOf (.builtin id) = pure (.type "method_descriptor")) (rule : MtR X id r) (hf : SmOk X r f)
    (ho : DO X k W o mo) (ha : DO X k W e ma) (hs : ∀ x p, e ≠ .Starred x p) (hbase : attributeBase o name X.env (eval o X.env) = eval o X.env) (hline : (apos.endLine == pos.line) = true) : DE X k W (.Call (.Attribute o name apos) [e] [] pos) (dSm1 f mo ma) :=
  PE.sub (pe_m1 slot ty rule ho ha (star1 e hs [] _) hbase hline) fun σ H Q ⟨P, w, env, S, I, h⟩ => thenO I h fun x w1 env1 S1 v H1 l1 I1 r1 h1 => by
    cases x <;> first | exact h1.elim | skip
    rename_i s
    cases (show v = .str s from r1)
    refine ⟨⟨s, rfl⟩, thenO I1 h1 fun y w2 env2 S2 u H2 l2 I2 r2 h2 => ?_⟩
    obtain ⟨d, e, h3⟩ := h2.getS.opt
    exact hf k P w2 env2 S2 σ H2 s _ u d Q hk I2 (I2.view r2) e fun w' u H' le J q => (h3.up le).ret u H' J q
theorem sm_join : SmOk X (fun x xs H Q => ∃ a p, ∃ ys : List Str, x = .str a ∧ xs = [.ref p] ∧ (SqL X.K H p (ys.map V.str) ∨ SqT X.K H p (ys.map V.str)) ∧ (ys.map (·.length)).sum + ys.length * a.length ≤ 16777216 ∧ Q (.str (Txt.join a ys)) H) joinD := by
  intro k P w env S σ H s y v d Q hk I r e q
  obtain ⟨l, e1, e⟩ := Option.bind_eq_some_iff.mp e
  obtain ⟨ys, e2, e⟩ := Option.bind_eq_some_iff.mp e
  split at e
  · cases e
    obtain ⟨a, vs, rfl, h, r⟩ := seqL_of I r (lstOf_ok e1)
    exact ⟨s, a, ys, rfl, rfl, .inl (strs_rep e2 r ▸ hk ▸ h), by assumption, q w _ H (.refl w) I rfl⟩
  · cases e
theorem sm_split : SmOk X (fun x xs H Q => ∃ a b, x = .str a ∧ xs = [.str b] ∧ (b.length == 0) = false ∧ a.length + 2 ≤ sizeLine ∧ rNewStrs (Txt.split a b) H Q) splitD := by
  intro k P w env S σ H s y v d Q hk I r e q
  unfold splitD at e
  split at e
  · rename_i b
    split at e
    · rename_i hb
      cases e
      cases (show v = .str b from r)
      refine ⟨s, b, rfl, rfl, hb.1, hb.2, fun p hp => ?_⟩
      exact q _ _ _ (I.le_grow (o := .lst ((Txt.split s b).map V.str)) hp) (I.grow hp) ⟨p, _, rfl, Wd.fz_at, reps_strs _⟩
    · cases e
  · cases e
theorem sm_part : SmOk X (fun x xs H Q => ∃ a b, x = .str a ∧ xs = [.str b] ∧ (b.length == 0) = false ∧ a.length ≤ sizeLine ∧
    ∀ p, H p = none → Q (.ref p) (upd H p (.tup [.str (Txt.partition a b).1, .str (Txt.partition a b).2.1, .str (Txt.partition a b).2.2]))) partD := by
  intro k P w env S σ H s y v d Q hk I r e q
  unfold partD at e
  split at e
  · rename_i b
    split at e
    · rename_i hb
      cases e
      cases (show v = .str b from r)
      refine ⟨s, b, rfl, rfl, hb.1, hb.2, fun p hp => ?_⟩
      exact q _ _ _ (I.le_grow (o := .tup _) hp) (I.grow hp) ⟨p, _, rfl, Wd.fz_at, ⟨_, _, rfl, rfl, _, _, rfl, rfl, _, _, rfl, rfl, rfl⟩⟩
    · cases e
  · cases e
theorem sm_str {g : Str → Str → V} {gd : Str → Str → D} (hg : ∀ k w a b, Rep k w (gd a b) (g a b)) : SmOk X (fun x xs H Q => ∃ a b, x = .str a ∧ xs = [.str b] ∧ Q (g a b) H) (fun s y => match y with
  | .str b => some (gd s b)
  | _ => none) := by
  intro k P w env S σ H s y v d Q hk I r e q
  dsimp only at e
  split at e
  · rename_i b
    cases e
    cases (show v = .str b from r)
    exact ⟨s, b, rfl, rfl, q w _ H (.refl w) I (hg k w s b)⟩
  · cases e
def tPr (k : Ky) (W : WX) (p : M D × M D) : TE × TE := (tE k W p.1, tE k W p.2)
theorem putK_nodup {κ : Type} [DecidableEq κ] {kvs : List (κ × V)} {q : κ} {v : V} (nd : (kvs.map (·.1)).Nodup) : ((putK kvs q v).map (·.1)).Nodup := by
  induction kvs with
  | nil => rw [putK_nil]; simp
  | cons a r ih =>
    obtain ⟨a, x⟩ := a
    rw [List.map_cons] at nd
    obtain ⟨n1, n2⟩ := List.nodup_cons.mp nd
    rw [putK_cons n1]
    split
    · rw [List.map_cons]; exact nd
    · rename_i hne
      rw [List.map_cons]
      refine List.nodup_cons.mpr ⟨fun hm => ?_, ih n2⟩
      obtain ⟨p, hp, e⟩ := List.mem_map.mp hm
      have : p.1 = q ∨ p.1 ∈ r.map (·.1) := by
        clear ih hm n1 n2 nd e hne
        unfold putK at hp
        split at hp
        · obtain ⟨z, hz, rfl⟩ := List.mem_map.mp hp
          split
          · exact .inl (by assumption)
          · exact .inr (List.mem_map.mpr ⟨z, hz, rfl⟩)
        · rcases List.mem_append.mp hp with hp | hp
          · exact .inr (List.mem_map.mpr ⟨p, hp, rfl⟩)
          · simp at hp; subst hp; exact .inl rfl
      have e : p.1 = a := e
      rcases this with h | h
      · exact hne (by rw [← e, h])
      · exact n1 (by rw [← e]; exact h)
theorem merge_rep {k : Ky} {w : Wd} : ∀ {l : List (Key × D)} {more : List (Key × V)} {kvs : List (Key × V)} {ds : List D}, more.map (·.1) = l.map (·.1) → Reps k w (l.map (·.2)) (more.map (·.2)) → (kvs.map (·.1)).Nodup → Reps k w ds (kvs.map (·.2)) →
    (L2.mergeK kvs more).map (·.1) = (mergeD (kvs.map (·.1)) ds l).1 ∧ Reps k w (mergeD (kvs.map (·.1)) ds l).2 ((L2.mergeK kvs more).map (·.2))
  | [], [], kvs, ds, _, _, _, r => ⟨rfl, r⟩
  | [], _ :: _, _, _, e, _, _, _ => by simp at e
  | _ :: _, [], _, _, e, _, _, _ => by simp at e
  | (q, d) :: l, (q', v) :: more, kvs, ds, e, r1, nd, r => by
    rw [List.map_cons, List.map_cons] at e
    obtain ⟨e1, e2⟩ := List.cons.inj e
    have e1 : q' = q := e1
    subst e1
    obtain ⟨v', t, e3, r2, r3⟩ := r1
    obtain ⟨e4, e5⟩ := List.cons.inj (show v :: more.map (·.2) = v' :: t from e3)
    subst e4
    have r3 : Reps k w (l.map (·.2)) (more.map (·.2)) := by rw [e5]; exact r3
    obtain ⟨p1, p2⟩ := putD_rep (q := q') r2 nd r
    have := merge_rep (kvs := putK kvs q' v) (ds := (putD q' d (kvs.map (·.1)) ds).2) e2 r3 (putK_nodup nd) p2
    rw [p1] at this
    exact this
theorem df_disp {ks : List (Option Expr)} {vs : List Expr} {ps : List (M D × M D)} (hp : PPs X pos ks vs (ps.map (tPr k W))) (hall : ks.all (·.isSome) = true) (hl : ks.length = vs.length) (h0 : ks ≠ []) (h15 : ks.length ≤ 15) : DF X k W (.Dict ks vs pos) (dDisp ps) :=
  PE.sub (pe_disp hp hall hl h0 h15) fun σ H Q ⟨P, w, env, S, I, h⟩ p hpn => by
    obtain ⟨I1, L⟩ := I.new (o := .dK []) hpn
    have Ip := I1.protect upd_same L
    have key : ∀ (ps : List (M D × M D)) (P' : Hp) (w1 : Wd) (env1 : Envr) (S1 : Sto) (H1 : Hp) (R : List (D × D) → Wd → Envr → Sto → Prop) (QQ : List (V × V) → Hp → Prop), RB k P' w1 env1 S1 σ H1 → Aft k W P' w1 (dPairs ps env1 S1) R →
        (∀ l w2 env2 S2 us H2, Wd.Le w1 w2 → RB k P' w2 env2 S2 σ H2 → Reps k w2 (l.map (·.1)) (us.map (·.1)) → Reps k w2 (l.map (·.2)) (us.map (·.2)) → R l w2 env2 S2 → QQ us H2) → tPairs (ps.map (tPr k W)) σ H1 QQ := by
      intro ps
      induction ps with
      | nil => intro P' w1 env1 S1 H1 R QQ J h1 nx; exact nx [] w1 env1 S1 [] H1 (.refl _) J rfl rfl h1.ret
      | cons a r ih =>
        obtain ⟨a, b⟩ := a
        intro P' w1 env1 S1 H1 R QQ J h1 nx
        refine thenE J h1 fun x w2 env2 S2 u H2 l2 I2 r2 h2 => thenE I2 h2 fun y w3 env3 S3 v H3 l3 I3 r3 h3 => ?_
        refine ih P' w3 env3 S3 H3 _ _ I3 h3.bind fun l w4 env4 S4 us H4 l4 I4 q1 q2 h4 => ?_
        exact nx ((x, y) :: l) w4 env4 S4 ((u, v) :: us) H4 (l2.trans (l3.trans l4)) I4 ⟨_, _, rfl, Rep.mono (l3.trans l4) x r2, q1⟩ ⟨_, _, rfl, Rep.mono l4 y r3, q2⟩ h4.ret
    have h' : Aft k W (upd P p (.dK [])) w (dPairs ps env S) (fun l w1 env1 S1 => Aft k W P w1 ((match keyPairs l with
      | some l => if l.length ≤ 15 then M.ret (.dk (mergeD [] [] l).1 (mergeD [] [] l).2) else M.fail
      | none => M.fail : M Cell) env1 S1) (rF k P σ Q)) := by
      exact Aft.prot h.bind L.p
    refine key ps _ w env S _ _ _ Ip h' fun l w1 env1 S1 us H1 l1 J q1 q2 h1 => ?_
    obtain ⟨J1, e1, L1⟩ := J.unprotect L.p
    refine ⟨e1, ?_⟩
    cases ek : keyPairs l with
    | none => rw [ek] at h1; exact h1.elim
    | some l' =>
      rw [ek] at h1
      obtain ⟨hz, h1⟩ := if_ok h1
      have kp : ∀ {l : List (D × D)} {l' : List (Key × D)} {us : List (V × V)}, keyPairs l = some l' → Reps k w1 (l.map (·.1)) (us.map (·.1)) → Reps k w1 (l.map (·.2)) (us.map (·.2)) → ∃ kvs : List (Key × V), us = kvs.map (fun kv => (kV kv.1, kv.2)) ∧ kvs.map (·.1) = l'.map (·.1) ∧ Reps k w1 (l'.map (·.2)) (kvs.map (·.2)) := by
        intro l
        induction l with
        | nil =>
          intro l' us e r1 r2
          cases e
          cases us with
          | nil => exact ⟨[], rfl, rfl, rfl⟩
          | cons _ _ => cases (show _ = [] from r1)
        | cons a r ih =>
          obtain ⟨a, b⟩ := a
          intro l' us e r1 r2
          unfold keyPairs at e
          split at e
          · rename_i q l2 eq el
            cases e
            cases us with
            | nil => obtain ⟨_, _, z, _⟩ := r1; cases z
            | cons u us =>
              obtain ⟨u1, u2⟩ := u
              obtain ⟨v1, t1, z1, p1, p2⟩ := r1
              obtain ⟨v2, t2, z2, p3, p4⟩ := r2
              cases z1; cases z2
              obtain ⟨kvs, i1, i2, i3⟩ := ih el p2 p4
              have : u1 = kV q := by
                cases a <;> simp only [keyOf] at eq <;> first | contradiction | (cases eq; exact p1)
              subst this
              exact ⟨(q, u2) :: kvs, by rw [i1]; rfl, by rw [List.map_cons, i2]; rfl, ⟨_, _, rfl, p3, i3⟩⟩
          · cases e
      obtain ⟨kvs, i1, i2, i3⟩ := kp ek q1 q2
      obtain ⟨m1, m2⟩ := merge_rep (kvs := []) (ds := []) i2 i3 (by simp) rfl
      refine ⟨kvs, i1, ?_, ?_⟩
      · have : kvs.length = l'.length := by simpa using congrArg List.length i2
        omega
      have I9 : RB k P w1 env1 S1 σ (upd H1 p (.dK (L2.mergeK [] kvs))) := by
        refine ⟨⟨fun b o e => (upd_ne (fun q => by subst q; rw [L1.f] at e; cases e)).trans (J1.rs.frz b o e), fun n c e => ?_, J1.rs.bound, J1.rs.inj, fun b o e => ?_⟩, J1.len, J1.val, fun j c e => ?_, J1.sep, J1.exn⟩
        · obtain ⟨a, o, y1, y2, y3, y4⟩ := J1.rs.live n c e
          exact ⟨a, o, y1, (upd_ne (fun q => L1.r n (by rw [← q]; exact y1))).trans y2, y3, y4⟩
        · obtain ⟨y1, y2, y3⟩ := J1.rs.prot b o e
          exact ⟨(upd_ne (fun q => by subst q; rw [L1.p] at e; cases e)).trans y1, y2, y3⟩
        · obtain ⟨a, o, y1, y2, y3⟩ := J1.own j c e
          exact ⟨a, o, y1, (upd_ne (fun q => L1.o j c e (by rw [← q]; exact y1))).trans y2, y3⟩
      exact h1.ret p _ _ I9 upd_same ⟨_, rfl, m1, m2⟩ L1
theorem pairsD_rep {k : Ky} {w : Wd} {H : Hp} (hF : ∀ a o, w.F a = some o → H a = some o) : ∀ {l : List D} {l' : List (Key × D)} {vs : List V}, pairsD l = some l' → Reps k w l vs → ∃ (ps : List Addr) (kvs : List (Key × V)), vs = ps.map V.ref ∧ kvs.map (·.1) = l'.map (·.1) ∧ Reps k w (l'.map (·.2)) (kvs.map (·.2)) ∧ Paired (fun p kv => SqT k.K H p [kV kv.1, kv.2]) ps kvs
  | [], l', vs, e, r => by
    cases e
    rw [show vs = [] from r]
    exact ⟨[], [], rfl, rfl, rfl, .nil⟩
  | x :: l, l', vs, e, r => by
    unfold pairsD at e
    split at e
    · rename_i hx; cases hx
    · rename_i a b r' hx
      injection hx with hx1 hx2
      subst hx1 hx2
      split at e
      · rename_i q l2 eq el
        cases e
        obtain ⟨v, t, rfl, r1, r2⟩ := r
        obtain ⟨ps, kvs, i1, i2, i3, i4⟩ := pairsD_rep hF el r2
        obtain ⟨p, us, rfl, hp, v1, t1, e1, p1, v2, t2, e2, p2, e3⟩ := r1
        subst e1 e2
        rw [show t2 = [] from e3] at hp
        have hv : v1 = kV q := by
          cases a <;> simp only [keyOf] at eq <;> first | contradiction | (cases eq; exact p1)
        subst hv
        exact ⟨p :: ps, (q, v2) :: kvs, by rw [i1]; rfl, by rw [List.map_cons, i2]; rfl, ⟨_, _, rfl, p2, i3⟩, .cons (SqT.of (hF _ _ hp)) i4⟩
      · cases e
    · cases e
theorem opf_dict : OpF1 X (fun x H Q => ∃ (a : Addr) (ps : List Addr) (kvs : List (Key × V)), [x] = [.ref a] ∧ SqL X.K H a (ps.map V.ref) ∧ Paired (fun p kv => SqT X.K H p [kV kv.1, kv.2]) ps kvs ∧ ∀ p, H p = none → Q (.ref p) (upd H p (.dK (L2.mergeK [] kvs)))) dictF := by
  intro k P w env S σ H x dx c Q hk I rx e q
  obtain ⟨l, e1, e⟩ := Option.bind_eq_some_iff.mp e
  obtain ⟨l', e2, rfl⟩ := Option.map_eq_some_iff.mp e
  obtain ⟨a, vs, rfl, h, r⟩ := seqL_of I rx (lstOf_ok e1)
  obtain ⟨ps, kvs, i1, i2, i3, i4⟩ := pairsD_rep I.rs.frz e2 r
  subst i1
  obtain ⟨m1, m2⟩ := merge_rep (kvs := []) (ds := []) i2 i3 (by simp) rfl
  exact ⟨a, ps, kvs, rfl, hk ▸ h, hk ▸ i4, fun p hp => q p _ hp ⟨_, rfl, m1, m2⟩⟩
end
end L2.MP
end
section
set_option Elab.async false
set_option linter.all false
set_option maxRecDepth 100000
set_option maxHeartbeats 4000000
namespace L2.MP
open PySem PySem.Spec PyProof.Rows
section
variable {X : Cx} {k : Ky} {W : WX} {pos : Pos}
theorem ds_raise0 {x m : Str} {j : Nat} {p p2 p3 : Pos} {c : Nat} {bmB : List Value} {B newId initId : String} (F : ExcBaseFacts B newId initId bmB) (q : PySem.W.excIn X.K (k.cl c) bmB newId = true) (hm : X.mg x = some (.ref (k.cl c))) (hk : PySem.W.keepIn X.K (.ref (k.cl c)) = true)
    (r : Raises X (.ref (k.cl c))) (hg : Gl X x) (hdb : (x == ("__debug__" : Str)) = false) (hc : X.calm = true) (tk : Takes X W) :
    DS X k W (.Raise (some (.Call (.Name x p) [.Constant (.str m) j p2] [] p3)) none pos) (dRaise0 c) :=
  PS.sub (ps_raise hc tk (pmk_own F q hm hk r hg hdb)) fun Dn σ H ⟨P, w, env, S, I, h⟩ => h w σ H _ none (.refl w) I ⟨rfl, .inl ⟨rfl, rfl⟩⟩
def spI (C : Addr) (f : Str) : Sp := fun vs H Q _ => ∃ a t y, vs = [.ref a, t, y] ∧ H a = some (exo a C none) ∧ ∀ dx, H dx = none → dx ≠ a → Q .non (upd (upd H dx (exd dx [(f, y)])) a (exo a C (some dx)))
theorem cx_no {P : Program} {w : World} {l : List Env} {H : Hp} {s : Shared} {e : Value} {s' : Shared} : L2.CX P w l H s (fun _ _ _ => False) e s' → False := fun h => by
  obtain ⟨_, _, _, _, _, _, _, _, _, _, _, _, z⟩ := h
  exact z
theorem ds_raise1 {x t f : Str} {j : Nat} {p p2 p3 : Pos} {c lv : Nat} {fI : Addr} {fd : FuncData} {ps : List Str} {e : Expr} {me : M D} (T : OexC X.K (k.cl c)) (iC : PySem.W.findIn X.K (.ref (k.cl c)) "__init__" = some (some (.ref fI))) (tI : PySem.W.typeIn X.K (.ref fI) = some (.type "function"))
    (F1 : FnOk X.prog X.w X.K X.mg X.base (L2.CX X.prog X.w) lv fI fd ps (spI (k.cl c) f)) (hr : Room (lv + 1) X.A) (hb : Binds X.K fd ps []) (hg : Gl X x) (hm : X.mg x = some (.ref (k.cl c))) (hdb : (x == ("__debug__" : Str)) = false) (hc : X.calm = true) (tk : Takes X W)
    (he : DE X k W e me) (hs : ∀ x p, e ≠ .Starred x p) :
    DS X k W (.Raise (some (.Call (.Name x p) [.Constant (.str t) j p2, e] [] p3)) none pos) (dRaise1 c f me) :=
  PS.sub (ps_raise hc tk (pmk_oex (dvs := []) T iC tI F1 hr hb .nil (fun _ _ _ _ _ _ _ z => (cx_no z).elim) hg hm (pa_cons pe_str (pa_one he hs) (star1 _ (fun _ _ z => by cases z) _ _)) hdb (star1 _ (fun _ _ z => by cases z) _ _) (star_false [e] (fun q hq => by simp at hq; subst hq; exact hs) _ _))) fun Dn σ H ⟨P, w, env, S, I, h⟩ =>
    thenE I h fun d w1 env1 S1 v H1 l1 I1 r1 h1 => ⟨by show 2 ≤ 1000; decide, fun a na => ⟨a, .str t, v, rfl, upd_same, fun dx ndx ne => ⟨rfl, dx, [(f, v)], upd_same, by rw [upd_ne ne]; exact upd_same, by rw [upd_ne ne] at ndx; exact ndx, by
      have n1 : H1 dx = none := by rw [upd_ne ne] at ndx; exact ndx
      have hh : upd (del (upd (upd (upd H1 a (exo a (k.cl c) none)) dx (exd dx [(f, v)])) a (exo a (k.cl c) (some dx))) a) dx (.xd [(f, v)]) = upd H1 dx (.xd [(f, v)]) := by
        funext b
        by_cases hb : b = dx
        · subst hb; rw [upd_same, upd_same]
        · rw [upd_ne hb, upd_ne hb]
          by_cases ha : b = a
          · subst ha; rw [del_same, na]
          · rw [del_ne ha, upd_ne ha, upd_ne hb, upd_ne ha]
      rw [hh]
      exact h1 (w1.fz dx (.xd [(f, v)])) σ _ _ _ (I1.le_grow n1) (I1.grow n1) ⟨rfl, .inr ⟨by simp, dx, _, rfl, Wd.fz_at, rfl, Reps.one (Rep.mono (I1.le_grow n1) d r1)⟩⟩⟩⟩⟩
theorem pe_binit {C : Addr} {mc : Value} {x : Str} {p1 p2 : Pos} {e : Expr} {es : List Expr} {ta : TA} {pl : Sem Bool} (hg : Gl X x) (hm : X.mg x = some (.ref C)) (hdb : (x == ("__debug__" : Str)) = false) (r1 : PySem.W.readsIn X.K C mc = true) (r2 : PySem.W.specialIn X.K (.ref C) "__getattribute__" = some (some (.builtin "type.__getattribute__")))
    (vV : PySem.W.findCls X.K (.ref C) mc "__init__" = some (.val (.builtin "ValueError.__init__"))) (ha : PA X (e :: es) ta)
    (hc : eval (.Call (.Attribute (.Name x p1) "__init__" p2) (e :: es) [] pos) X.env = (do
      let ov ← eval (.Name x p1) X.env
      standAt p2.atName
      let (f, first) ← holding [ov] (getMethod ov "__init__" pl)
      callWith pos f first (backTo pos (starEach (e :: es) X.env)) (backToKw pos (keywordEach [] X.env))))
    (he : starEach (e :: es) X.env = (false, eval e X.env) :: starEach es X.env) (hpl : (backTo pos (starEach es X.env)).any (·.1) = false) :
    PE X (.Call (.Attribute (.Name x p1) "__init__" p2) (e :: es) [] pos) (tVeI X.K ta) := by
  refine ⟨fun pins s σ H Q I h => ?_⟩
  refine PySem.W.methodCall_KW (ld_glob I hg hm ?_ hdb) hc
  refine PySem.W.method_cls I.kIn r2 (PySem.W.cls_value I.kIn r1 vV (by decide +kernel) ?_)
  show wpAny _ _ (callWith pos (Value.builtin "ValueError.__init__") [] (backTo pos (starEach (e :: es) X.env)) []) _ _ _
  refine PyProof.Rows.callWith_method1 (thn (ha.run pos pins _ σ H _ (I.tok _) h) fun us s1 ⟨vs, H1, I1, r1, a, C, ws, ev, hl, T, ea, q⟩ => ?_) he hpl
  subst ev
  cases r1 with
  | @cons _ u0 _ ur ra rw' =>
    obtain rfl : u0 = Value.ref a := ra
    have hlen : ur.length ≤ sizeLine := by
      rw [← Paired.length rw', sizeLine_eq]
      omega
    exact oinit_ok T I1 ea hlen fun s' J => ⟨.non, H1, J, rfl, q⟩
end
end L2.MP
end
section
set_option Elab.async false
set_option linter.all false
set_option maxRecDepth 100000
set_option maxHeartbeats 4000000
namespace L2.MP
open PySem PySem.Spec PyProof.Rows
section
open PySem.W PySem.Calls
variable {prog : Program} {w : World} {A : Around} {E : Value → Shared → Prop} {s : Shared} {K : Frag} {x D : Addr} {ox : Obj} {od : Option Obj}
theorem findX {C : Addr} {name : Str} {a g : Value} (hc : (clsIn K C).isSome = true) (ha : findIn K (.ref C) name = some (some a)) (hg : specialIn K a "__get__" = some (some g)) (ht : takesIn K a = some true) : findObj K C od name = some (.bind g a) := by
  cases od with
  | none => exact findObj_dataN hc ha hg ht
  | some o => exact findObj_data hc ha hg ht
theorem kin_classX {Q : Option Value → Shared → Prop} (hga : findIn K (.ref D) "__getattribute__" = some (some (.builtin "BaseException.__getattribute__"))) (hgt : findIn K (.ref D) "__getattr__" = some none) (hsub : subIn K (.ref D) (.type "BaseException") = some true)
    (hdct : hasDictIn K D = true) (ha : findIn K (.ref D) "__class__" = some (some (.builtin "object.__class__")))
    (hn : specialIn K (.builtin "object.__class__") "__get__" = some (some (.builtin "getset_descriptor.__get__"))) (htk : takesIn K (.builtin "object.__class__") = some true) (hm : mroIn K D (.type "object") = some true)
    (X : K.In s.heap) (I : PySem.W.InstAt s.heap x ox D od) (h : Q (some (.ref D)) { s with toks := s.toks + 1 }) : wpAny (model prog w) A (getAttr? (.ref x) "__class__") Q E s := by
  have hf : findObj K D od "__class__" = some (.bind (.builtin "getset_descriptor.__get__") (.builtin "object.__class__")) := findX (by obtain ⟨cd, hc, _⟩ := any_some hdct; rw [hc]; rfl) ha hn htk
  obtain ⟨hp, g, d, t, os⟩ := s
  have L0 := I.type (M := model prog w)
  have L1 := looks_findIn (M := model prog w) X hga
  have L2 := looks_findIn (M := model prog w) X hgt
  have L3 := looks_find (M := model prog w) X I hf
  have sub : Looks (model prog w) hp (isInstance (.ref x) (.type "BaseException")) true := L0.andThen (looks_subIn X hsub)
  have hx0 : (false && onTheHeap (Value.builtin "BaseException.__getattribute__")) = false := rfl
  have hx2 : (Value.builtin "BaseException.__getattribute__" == Value.builtin "object.__getattribute__") = false := by decide +kernel
  have hx1 : (onTheHeap (Value.ref D) && Value.builtin "BaseException.__getattribute__" == Value.builtin "object.__getattribute__") = false := by rw [hx2]; rfl
  unfold getAttr? getAttrBy? getAttrBy
  refine wpAny_bind (wpAny_mkText (wpAny_bind (wpAny_attempt (wpAny_holding (wpAny_bind (L0.at (wpAny_bind (L1.at ?_))))))))
  show wpAny _ _ (if (onTheHeap (Value.ref D) && Value.builtin "BaseException.__getattribute__" == Value.builtin "object.__getattribute__") = true then _ else _) _ _ _
  rw [hx1, if_neg Bool.false_ne_true]
  unfold getAttrByItsOwn hookBefore
  refine wpAny_bind ?_
  rw [if_pos (show onTheHeap (Value.ref D) = true from rfl)]
  refine L2.at ?_
  refine wpAny_bind (wpAny_attempt (wpAny_holding ?_))
  unfold callGetattribute
  rw [hx0, if_neg Bool.false_ne_true]
  unfold boundAndCalled
  rw [PySem.F.excAttr_ValueError.ga.bind (.ref x)]
  refine wpAny_bind (wpAny_pure ?_)
  show wpAny _ _ (call (.builtin "BaseException.__getattribute__") [.ref x, .str "__class__" t]) _ _ _
  refine wpAny_call (codeAny_call_builtin PySem.F.excAttr_ValueError.ga.plain PySem.F.entry_bexc_ga ?_)
  refine @check_slot (model prog w) _ _ ⟨hp, g, d, t + 1, os⟩ "BaseException.__getattribute__" "BaseException" "__getattribute__" (.ref x) [.str "__class__" t] [] _ (by decide +kernel) (by decide +kernel) sub (PySem.F.args_bexc_ga (.ref x) (.str "__class__" t)) ?_
  unfold Builtin.«object.__getattribute__»
  refine wpAny_bind (wpAny_of_eq (a := ((Value.ref x : Value), [Value.str "__class__" t])) (by first | rfl | (simp only [slotArgs]; rfl)) ?_)
  refine wpAny_bind (wpAny_pure (wpAny_bind (L0.at (wpAny_bind (L3.at ?_)))))
  show wpAny _ _ (holding [Value.builtin "object.__class__"] (call (.builtin "getset_descriptor.__get__") [.builtin "object.__class__", .ref x, .ref D]) >>= ret) _ _ _
  refine wpAny_bind (wpAny_holding (wpAny_call (class_get (s := ⟨hp, g, d, t + 1, os⟩) (ox := ox) (od := od) X I hm ?_)))
  refine wpAny_pure ?_
  show wpAny _ _ (handedOut (.ref D)) _ _ _
  rw [handedOut_of (v := .ref D) rfl]
  first
    | exact wpAny_pure (wpAny_pure h)
    | exact wpAny_pure h
    | exact wpAny_pure (wpAny_bind (wpAny_pure (wpAny_pure h)))
theorem kitX_exc (C : ExcC K D) : KitX K (.ref x) (.ref D) (fun h => PySem.W.InstAt h x ox D od) where
  ty := fun _ _ _ I => I.type
  it := fun _ _ X _ => by
    obtain ⟨cdD, hcD, _⟩ := any_some C.hd
    unfold clsIn at hcD
    split at hcD
    · rename_i c' d' cd' sl' ho
      intro A' Q' E' s' k q
      unfold isType loadHead
      exact wpAny_bind (wpAny_loadPart (k _ _ (X _ _ ho)) (wpAny_pure q))
    · cases hcD
  ne := fun h tp dd its n sl X htp => by
    obtain ⟨cdD, hcD, _⟩ := any_some C.hd
    refine Bool.eq_false_iff.mpr fun q => ?_
    have e : D = tp := Value.ref.inj (beq_iff_eq.mp q)
    subst e
    unfold clsIn at hcD
    split at hcD
    · rename_i c' d' cd' sl' ho
      have z := (X _ _ ho).symm.trans htp
      cases z
    · cases hcD
  ca := fun X I k => kin_classX C.hg C.hk C.hs C.hd C.ha C.hn C.ht C.hm X I k
end
def rIsX (K : PySem.W.Frag) (D a : Addr) (dx : Option Addr) : List V → Hp → VK → Prop := fun xs H Q => (∀ dd, dx = some dd → ∃ fs, H dd = some (.xd fs)) ∧
  ((∃ c cv b, xs = [.ref a, c] ∧ ClsV c cv ∧ PySem.W.kitOne K (.ref D) cv = some b ∧ Q (.bl b) H) ∨
    ∃ (tp : Addr) (cs : List V) (us : List Value) (b : Bool), xs = [.ref a, .ref tp] ∧ H tp = some (.tup cs) ∧ Paired ClsV cs us ∧ PySem.W.kitAny K (.ref D) us = some b ∧ Q (.bl b) H)
theorem call_isX {X : Cx} {a D : Addr} {oe : Obj} {dx : Option Addr} {pn : List (Addr × Obj)} (C : ExcC X.K D) (hz : Zc (.ref D) dx oe) (hf : ∃ vs, oe.data = .fields vs) : CallR (X.suite a ((a, oe) :: pn)) (.builtin "isinstance") (rIsX X.K D a dx) := by
  intro pins s σ H xs us Q I r ⟨hd, h⟩
  obtain ⟨hget, _⟩ := I.pin (a, oe) (List.mem_append.mpr (.inl List.mem_cons_self))
  obtain ⟨vs, hv⟩ := hf
  have J : ∃ od, PySem.W.InstAt s.heap a oe D od := by
    obtain ⟨oc, od, oda, osl⟩ := oe
    obtain ⟨h1, h2⟩ := hz
    dsimp only at h1 h2 hv
    subst h1 h2 hv
    cases od with
    | none => exact ⟨none, hget, rfl, rfl, trivial⟩
    | some dd =>
      obtain ⟨fs, e⟩ := hd dd rfl
      obtain ⟨o, e2⟩ := objOk_get (I.hok dd _ e)
      exact ⟨some o, hget, rfl, rfl, e2⟩
  obtain ⟨od, J⟩ := J
  have hx : Value.ref a ≠ .builtin "__main__.__loader__#opaque" := fun z => nomatch z
  rcases h with ⟨c, cv, b, rfl, k, e, q⟩ | ⟨tp, cs, ws, b, rfl, hT, k, e, q⟩
  · obtain ⟨u1, u2, rfl, r1, r2⟩ := vals2 r
    cases (show u1 = Value.ref a from r1)
    have e2 := k.eq r2
    subst e2
    exact PySem.W.kia_one (kitX_exc C) I.kIn J e hx fun tk => ⟨.bl b, H, I.tok tk, rfl, q⟩
  · obtain ⟨u1, u2, rfl, r1, r2⟩ := vals2 r
    cases (show u1 = Value.ref a from r1)
    cases (show u2 = Value.ref tp from r2)
    obtain ⟨_, its, rv, o, h1, h2, n, h3⟩ := (show ObjOk X.prog X.w H s.heap tp (.tup cs) from I.hok tp _ hT)
    have e3 := ClsV.all k rv
    subst e3
    obtain ⟨oc, od2, dt, sl⟩ := o
    simp only at h2 h3
    subst h2 h3
    exact PySem.W.kia_tup (kitX_exc C) I.kIn J h1 e hx fun tk => ⟨.bl b, H, I.tok tk, rfl, q⟩
def clsV (k : Kz) : Option Nat → V
  | none => .ty "ValueError"
  | some c => .ref (k.cl c)
def clsU (k : Kz) : Option Nat → Value
  | none => .type "ValueError"
  | some c => .ref (k.cl c)
theorem cls_vu (k : Kz) : ∀ c, ClsV (clsV k c) (clsU k c)
  | none => .ty _
  | some _ => .own _
structure XcOk (K : PySem.W.Frag) (k : Kz) (t : Xt) (fl : List Str) : Prop where
  is : ∀ x, (t.lookup x).isSome = true → ExcC K (k.cl x)
  xf : ∀ x, (t.lookup x).isSome = true → XfC K (k.cl x)
  fld : ∀ x, (t.lookup x).isSome = true → ∀ f ∈ fl, PySem.W.findIn K (.ref (k.cl x)) f = some none
  kit : ∀ x, (t.lookup x).isSome = true → ∀ c, knX t c = true → PySem.W.kitOne K (.ref (k.cl x)) (clsU k c) = some (subX t x c)
  exm : ∀ x, (t.lookup x).isSome = true → ∀ c, (t.lookup c).isSome = true → PySem.W.exmOne K (.ref (k.cl x)) (.ref (k.cl c)) = some (subX t x (some c))
theorem kit_anyX {K : PySem.W.Frag} {k : Kz} {t : Xt} {fl : List Str} (O : XcOk K k t fl) {x : Nat} (hx : (t.lookup x).isSome = true) : ∀ {cs : List (Option Nat)}, cs.all (knX t) = true → PySem.W.kitAny K (.ref (k.cl x)) (cs.map (clsU k)) = some (cs.any (subX t x))
  | [], _ => rfl
  | c :: cs, h => by
    rw [List.all_cons, Bool.and_eq_true] at h
    refine kitAny_cons (O.kit x hx c h.1) (fun hb => ?_) (fun hb => ?_)
    · rw [List.any_cons, hb, Bool.false_or]
      exact kit_anyX O hx h.2
    · rw [List.any_cons, hb]; rfl
def SuX (X : Cx) (k : Ky) : Prop := ∀ i a cls dx, k.xn = some (i, a, cls, dx) → ∃ Y oe pn, X = Cx.suite Y a ((a, oe) :: pn) ∧ Zc cls dx oe ∧ ∃ vs, oe.data = .fields vs
def XcE (X : Cx) (k : Kz) : List Expr → List (Option Nat) → Prop
  | [], [] => True
  | e :: es, c :: cs => (PE X e (tC (clsV k c)) ∧ ∀ x p, e ≠ .Starred x p) ∧ XcE X k es cs
  | _, _ => False
theorem pa_xc {X : Cx} {k : Kz} : ∀ {es : List Expr} {cs : List (Option Nat)}, XcE X k es cs → PA X es (fun σ H Q => Q (cs.map (clsV k)) H)
  | [], [], _ => pa_nil
  | e :: es, c :: cs, ⟨⟨h1, h2⟩, h⟩ => pa_cons h1 (pa_xc h) (star1 _ h2 _ _)
  | [], _ :: _, h => h.elim
  | _ :: _, [], h => h.elim
theorem xc_paired (k : Kz) : ∀ cs : List (Option Nat), Paired ClsV (cs.map (clsV k)) (cs.map (clsU k))
  | [] => .nil
  | c :: cs => .cons (cls_vu k c) (xc_paired k cs)
section
variable {X : Cx} {k : Ky} {W : WX} {pos : Pos} {t : Xt} {fl : List Str}
theorem exn_at {P : Hp} {w : Wd} {env : Envr} {S : Sto} {σ : L2.St} {H : Hp} {i : Nat} {x : Exn} (hk : k.K = X.K) (su : SuX X k) (I : RB k P w env S σ H) (e : env[i]? = some (.exn x)) :
    ∃ a dx Y oe pn, X = Cx.suite Y a ((a, oe) :: pn) ∧ Zc (.ref (k.cl x.cls)) dx oe ∧ (∃ vs, oe.data = .fields vs) ∧ σ[i]? = some (some (.ref a)) ∧ RepX k w x (.ref (k.cl x.cls)) dx ∧ ∀ dd, dx = some dd → ∃ fs, H dd = some (.xd fs) := by
  obtain ⟨a, cls, dx, e1, e2, r⟩ := I.exn i x e
  obtain ⟨Y, oe, pn, hX, hz, hf⟩ := su i a cls dx e1
  obtain rfl := r.1
  refine ⟨a, dx, Y, oe, pn, hX, hz, hf, e2, r, fun dd ed => ?_⟩
  rcases r.2 with ⟨_, q⟩ | ⟨_, d, fs, q, f, _⟩
  · rw [q] at ed; cases ed
  · rw [q] at ed; cases ed
    exact ⟨fs, I.rs.frz _ _ f⟩
theorem de_isX1 {i : Nat} {x y : Str} {p p1 : Pos} {e : Expr} {c : Option Nat} (hk : k.K = X.K) (O : XcOk X.K k t fl) (su : SuX X k) (hN : X.N[i]? = some y) (hv : Vis X.env.scope y) (hd : (y == ("__debug__" : Str)) = false) (hcd : (y == ("__classdict__" : Str)) = false)
    (hx : x = "isinstance") (hg : Gl X x) (hm : X.mg x = none) (he : PE X e (tC (clsV k c))) (hs : ∀ x p, e ≠ .Starred x p) : DE X k W (.Call (.Name x p) [.Name y p1, e] [] pos) (dIsX t i [c]) := by
  subst hx
  refine ⟨fun pins s σ H Q I0 ⟨P, w, env, S, I, h⟩ => ?_⟩
  unfold dIsX at h
  split at h
  · rename_i xx ex
    split at h
    · rename_i hc
      rw [Bool.and_eq_true] at hc
      obtain ⟨a, dx, Y, oe, pn, hX, hz, hf, es, r, hdd⟩ := exn_at hk su I ex
      subst hX
      refine (pe_blt (c := .f "isinstance") (call_isX (O.is _ hc.1) hz hf) hg hm (by decide +kernel) (pa_cons (pe_var hN hv hd hcd) (pa_one he hs) (star1 _ (fun _ _ z => by cases z) _ _)) (by decide +kernel) (by decide +kernel) fun q hq => by simp at hq; rcases hq with rfl | rfl; (intro x p z; cases z); exact hs).run pins s σ H Q I0 ?_
      refine ⟨.ref a, es, hdd, .inl ⟨_, _, subX t xx.cls c, rfl, cls_vu k c, O.kit _ hc.1 c (by simpa using hc.2), ?_⟩⟩
      rw [show [c].any (subX t xx.cls) = subX t xx.cls c by simp] at h
      exact h.ok _ H I rfl
    · exact h.elim
  · exact h.elim
theorem de_isXT {i kk : Nat} {x y : Str} {p p1 p2 : Pos} {es : List Expr} {cs : List (Option Nat)} (hk : k.K = X.K) (O : XcOk X.K k t fl) (su : SuX X k) (hN : X.N[i]? = some y) (hv : Vis X.env.scope y) (hd : (y == ("__debug__" : Str)) = false) (hcd : (y == ("__classdict__" : Str)) = false)
    (hx : x = "isinstance") (hg : Gl X x) (hm : X.mg x = none) (he : XcE X k es cs) (hz : cs.length ≤ sizeLine) : DE X k W (.Call (.Name x p) [.Name y p1, .Tuple es kk p2] [] pos) (dIsX t i cs) := by
  subst hx
  refine ⟨fun pins s σ H Q I0 ⟨P, w, env, S, I, h⟩ => ?_⟩
  unfold dIsX at h
  split at h
  · rename_i xx ex
    split at h
    · rename_i hc
      rw [Bool.and_eq_true] at hc
      obtain ⟨a, dx, Y, oe, pn, hX, hzz, hf, es', r, hdd⟩ := exn_at hk su I ex
      subst hX
      refine (pe_blt (c := .f "isinstance") (call_isX (O.is _ hc.1) hzz hf) hg hm (by decide +kernel) (pa_cons (pe_var hN hv hd hcd) (pa_one (pe_tup (pa_xc he)) (fun _ _ z => by cases z)) (star1 _ (fun _ _ z => by cases z) _ _)) (by decide +kernel) (by decide +kernel) fun q hq => by simp at hq; rcases hq with rfl | rfl <;> (intro x p z; cases z)).run pins s σ H Q I0 ?_
      refine ⟨.ref a, es', by rw [List.length_map]; exact hz, fun q hq => ?_⟩
      have J := I.at (keep_new (o := .tup (cs.map (clsV k))) hq)
      exact ⟨fun dd ed => let ⟨fs, e⟩ := hdd dd ed; ⟨fs, (keep_new hq) _ _ e⟩, .inr ⟨q, _, _, _, rfl, upd_same, xc_paired k cs, kit_anyX O hc.1 hc.2, h.ok _ _ J rfl⟩⟩
    · exact h.elim
  · exact h.elim
theorem de_xf {i : Nat} {y f : Str} {p1 : Pos} (hk : k.K = X.K) (O : XcOk X.K k t fl) (su : SuX X k) (hN : X.N[i]? = some y) (hv : Vis X.env.scope y) (hd : (y == ("__debug__" : Str)) = false) (hcd : (y == ("__classdict__" : Str)) = false) :
    DE X k W (.Attribute (.Name y p1) f pos) (dXf t fl i f) := by
  refine ⟨fun pins s σ H Q I0 ⟨P, w, env, S, I, h⟩ => ?_⟩
  unfold dXf at h
  split at h
  · rename_i xx ex
    split at h
    · rename_i hc
      rw [Bool.and_eq_true] at hc
      split at h
      · rename_i d el
        obtain ⟨a, dx, Y, oe, pn, hX, hz, hf, es', r, hdd⟩ := exn_at hk su I ex
        subst hX
        refine (pe_xf (O.xf _ hc.1) (O.fld _ hc.1 f (by simpa using hc.2)) hz hf (pe_var hN hv hd hcd) rfl).run pins s σ H Q I0 ?_
        rcases r.2 with ⟨q, _⟩ | ⟨_, dd, fs, q, ff, z, rr⟩
        · rw [q] at el; cases el
        · obtain ⟨v, e5, r5⟩ := (lookF_rep z rr).2 d el
          exact ⟨.ref a, es', rfl, rfl, dd, fs, v, q, I.rs.frz _ _ ff, (lookF_eq f fs).trans e5, h.ok v H I r5⟩
      · exact h.elim
    · exact h.elim
  · exact h.elim
end
end L2.MP
end
section
set_option Elab.async false
set_option linter.all false
set_option maxRecDepth 100000
set_option maxHeartbeats 4000000
namespace L2.MP
open PySem PySem.Spec PyProof.Rows
def Ky.at (k : Ky) (i : Nat) (a : Addr) (cls : Value) (d : Option Addr) : Ky := ⟨k.toKz, some (i, a, cls, d)⟩
section
variable {k : Ky} {P : Hp} {w : Wd} {env : Envr} {S : Sto} {σ : L2.St} {H : Hp} {i : Nat} {a : Addr} {cls : Value} {dx : Option Addr} {x : Exn}
theorem RB.setExn (h : RB k P w env S σ H) (h0 : k.xn = none) (r : RepX k w x cls dx) : RB (k.at i a cls dx) P w (env.set i (.exn x)) S (σ.set i (some (.ref a))) H where
  rs := h.rs
  len := by simpa using h.len
  val := fun j d' e => by
    rcases get_set e with ⟨rfl, e2, hl⟩ | ⟨hj, e⟩
    · cases e2
    · obtain ⟨v', e1, r'⟩ := h.val j d' e
      exact ⟨v', by rw [List.getElem?_set_ne (Ne.symm hj)]; exact e1, r'⟩
  own := fun j c e => by
    rcases get_set e with ⟨rfl, e2, hl⟩ | ⟨hj, e⟩
    · cases e2
    · obtain ⟨a, o, e1, e2⟩ := h.own j c e
      exact ⟨a, o, by rw [List.getElem?_set_ne (Ne.symm hj)]; exact e1, e2⟩
  sep := fun i' j c c' a e1 e2 e3 e4 => by
    rcases get_set e1 with ⟨rfl, z, hl⟩ | ⟨hi, e1⟩
    · cases z
    · rcases get_set e2 with ⟨rfl, z, hl⟩ | ⟨hj, e2⟩
      · cases z
      · rw [List.getElem?_set_ne (Ne.symm hi)] at e3
        rw [List.getElem?_set_ne (Ne.symm hj)] at e4
        exact h.sep i' j c c' a e1 e2 e3 e4
  exn := fun j y e => by
    rcases get_set e with ⟨rfl, e2, hl⟩ | ⟨hj, e⟩
    · cases e2
      exact ⟨a, cls, dx, rfl, List.getElem?_set_self (by rw [h.len]; exact hl), r⟩
    · obtain ⟨_, _, _, z, _⟩ := h.exn j y e
      rw [h0] at z; cases z
theorem RB.unExn (h : RB (k.at i a cls dx) P w env S σ H) : RB k P w (env.set i .no) S (σ.set i none) H where
  rs := h.rs
  len := by simpa using h.len
  val := fun j d' e => by
    rcases get_set e with ⟨rfl, e2, hl⟩ | ⟨hj, e⟩
    · cases e2
    · obtain ⟨v', e1, r'⟩ := h.val j d' e
      exact ⟨v', by rw [List.getElem?_set_ne (Ne.symm hj)]; exact e1, r'⟩
  own := fun j c e => by
    rcases get_set e with ⟨rfl, e2, hl⟩ | ⟨hj, e⟩
    · cases e2
    · obtain ⟨a, o, e1, e2⟩ := h.own j c e
      exact ⟨a, o, by rw [List.getElem?_set_ne (Ne.symm hj)]; exact e1, e2⟩
  sep := fun i' j c c' a e1 e2 e3 e4 => by
    rcases get_set e1 with ⟨rfl, z, hl⟩ | ⟨hi, e1⟩
    · cases z
    · rcases get_set e2 with ⟨rfl, z, hl⟩ | ⟨hj, e2⟩
      · cases z
      · rw [List.getElem?_set_ne (Ne.symm hi)] at e3
        rw [List.getElem?_set_ne (Ne.symm hj)] at e4
        exact h.sep i' j c c' a e1 e2 e3 e4
  exn := fun j y e => by
    rcases get_set e with ⟨rfl, e2, hl⟩ | ⟨hj, e⟩
    · cases e2
    · obtain ⟨_, _, _, z, _⟩ := h.exn j y e
      cases z
      exact absurd rfl hj
end
section
variable {X : Cx} {k : Ky} {W : WX} {pos : Pos} {t : Xt} {fl : List Str} {body suite : List Stmt} {b₀ : Stmt} {b s : M Flo} {c : Nat} {x : Str} {np pos' : Pos}
theorem ds_tryN (hs : X.stack = X.env :: X.outer) (hf : X.env.frame = some X.env.locals) (hc : Names X x (.ref (k.cl c))) (O : XcOk X.K k t fl) (tk : Takes X W)
    (hb : ∀ (W : WX) (pn : List (Addr × Obj)) (xe : Value → Shared → Prop), Takes (X.tr pn xe) W → PassesOwn (model X.prog X.w) X.A X.env xe → DSs (X.tr pn xe) k W body b)
    (hsu : ∀ (a : Addr) (oe : Obj) (cls : Value) (d : Option Addr) (pn : List (Addr × Obj)), Zc cls d oe → (∃ vs, oe.data = .fields vs) → DSs (X.suite a ((a, oe) :: pn)) k W0 (b₀ :: suite) s) :
    DS X k W (.Try body [.ExceptHandler (some (.Name x np)) none (b₀ :: suite) pos'] [] [] pos) (dTryN t c b s) := by
  refine PS.sub (ps_try_only (tb := fun W => tS k W b) (ts := fun _ _ _ => tS k W0 s) hs hf hc tk hb hsu) fun D σ H ⟨P, w, env, S, I, h⟩ => ⟨P, w, env, S, I, ?_⟩
  unfold dTryN at h
  cases eb : b env S with
  | ok f env1 S1 => rw [eb] at h; exact h
  | bad => rw [eb] at h; exact h
  | exc xx env1 S1 =>
    rw [eb] at h
    dsimp only at h
    split at h
    · rename_i hx
      rw [Bool.and_eq_true] at hx
      intro w1 σ1 H1 cls dx l1 I1 r1
      refine ⟨_, by rw [r1.1]; exact O.exm _ hx.1 _ hx.2, fun hb a na => ?_, fun hb => ?_⟩
      · rw [if_pos hb] at h
        refine ⟨P, w1, env1, S1, I1, ?_⟩
        unfold noX at h
        cases es : s env1 S1 with
        | ok f env2 S2 => rw [es] at h; exact fun w2 l2 => h w2 (l1.trans l2)
        | exc _ _ _ => rw [es] at h; exact h.elim
        | bad => rw [es] at h; exact h.elim
      · rw [if_neg (by rw [hb]; exact Bool.false_ne_true)] at h
        exact h w1 σ1 H1 cls dx l1 I1 r1
    · exact h.elim
theorem ds_tryE {i : Nat} {n : Str} (hs : X.stack = X.env :: X.outer) (hf : X.env.frame = some X.env.locals) (hN : X.N.Nodup) (hi : X.N[i]? = some n) (hln : X.env.kindOf n = some .local) (h0 : k.xn = none) (hc : Names X x (.ref (k.cl c))) (O : XcOk X.K k t fl) (tk : Takes X W)
    (hb : ∀ (W : WX) (pn : List (Addr × Obj)) (xe : Value → Shared → Prop), Takes (X.tr pn xe) W → PassesOwn (model X.prog X.w) X.A X.env xe → DSs (X.tr pn xe) k W body b)
    (hsu : ∀ (a : Addr) (oe : Obj) (cls : Value) (d : Option Addr) (pn : List (Addr × Obj)), Zc cls d oe → (∃ vs, oe.data = .fields vs) → DSs (X.suite a ((a, oe) :: pn)) (k.at i a cls d) W0 (b₀ :: suite) s) :
    DS X k W (.Try body [.ExceptHandler (some (.Name x np)) (some n) (b₀ :: suite) pos'] [] [] pos) (dTryE t c i b s) := by
  refine PS.sub (ps_try_as (tb := fun W => tS k W b) (ts := fun a cls d => tS (k.at i a cls d) W0 s) hs hf hN hi hln hc tk hb hsu) fun D σ H ⟨P, w, env, S, I, h⟩ => ⟨P, w, env, S, I, ?_⟩
  unfold dTryE at h
  cases eb : b env S with
  | ok f env1 S1 => rw [eb] at h; exact h
  | bad => rw [eb] at h; exact h
  | exc xx env1 S1 =>
    rw [eb] at h
    dsimp only at h
    split at h
    · rename_i hx
      rw [Bool.and_eq_true] at hx
      intro w1 σ1 H1 cls dx l1 I1 r1
      refine ⟨_, by rw [r1.1]; exact O.exm _ hx.1 _ hx.2, fun hb a na => ?_, fun hb => ?_⟩
      · rw [if_pos hb] at h
        refine ⟨P, w1, _, S1, I1.setExn h0 r1, ?_⟩
        cases es : s (env1.set i (.exn xx)) S1 with
        | ok f env2 S2 =>
          rw [es] at h
          intro w2 l2
          have h2 := h w2 (l1.trans l2)
          cases f with
          | nx => exact fun σ2 H2 I2 => h2 _ _ I2.unExn
          | bk => exact fun σ2 H2 I2 => h2 _ _ I2.unExn
          | ct => exact fun σ2 H2 I2 => h2 _ _ I2.unExn
          | rt d => exact fun v σ2 H2 I2 r2 => h2 v _ _ I2.unExn r2
        | exc _ _ _ => rw [es] at h; exact h.elim
        | bad => rw [es] at h; exact h.elim
      · rw [if_neg (by rw [hb]; exact Bool.false_ne_true)] at h
        exact h w1 σ1 H1 cls dx l1 I1 r1
    · exact h.elim
end
end L2.MP
end
section
set_option Elab.async false
set_option linter.all false
set_option maxRecDepth 100000
set_option maxHeartbeats 4000000
namespace L2.MP
open PySem PySem.Spec PyProof.Rows
theorem allAlikeB_ok {ds : List PyData} (h : allAlikeB ds = true) : PySem.W.AllAlike ds := fun d hd e he => List.all_eq_true.mp (List.all_eq_true.mp h d hd) e he
theorem sortableB_ok {ds : List PyData} (h : sortableB ds = true) : PySem.W.Sortable ds := by
  unfold sortableB at h
  rw [Bool.or_eq_true] at h
  rcases h with h | h
  · refine .inl fun d hd => ?_
    have := List.all_eq_true.mp h d hd
    cases d <;> simp only [isTupP] at this <;> try contradiction
    rename_i xs
    cases xs with
    | nil => cases this
    | cons x r => exact ⟨x, r, rfl⟩
  · refine .inr fun d hd => ?_
    have := List.all_eq_true.mp h d hd
    cases d <;> simp only [isOthP] at this <;> try contradiction
    all_goals exact ⟨fun z => (by cases z), fun xs z => (by cases z)⟩
def rSortD (K : PySem.W.Frag) : List V → Hp → VK → Prop := fun xs H Q => ∃ (a : Addr) (ps : List (V × PyData)), xs = [.ref a] ∧ SqL K H a (ps.map (·.1)) ∧ (∀ p ∈ ps, Dp K H p.1 p.2) ∧ PySem.W.AllAlike (ps.map (·.2)) ∧ PySem.W.Sortable (ps.map (·.2)) ∧ (∀ p ∈ ps, p.2.depth ≤ 60) ∧
  ∀ p, H p = none → Q (.ref p) (upd H p (.lst ((ps.mergeSort fun a b => leP a.2 b.2).map (·.1))))
section
variable {X : Cx}
theorem each_vals {s : Shared} {pins : List (Addr × Obj)} {σ : L2.St} {H : Hp} (I : Inv X pins σ H s) : ∀ {ps : List (V × PyData)} {us : List Value}, (∀ p ∈ ps, Dp X.K H p.1 p.2) → Vals (ps.map (·.1)) us →
    PySem.W.EachIs (fun (v : Value) (b : V × PyData) => RelV b.1 v) us ps ∧ PySem.W.EachIs (fun (v : Value) (b : V × PyData) => ∃ as, Reads s.heap v b.2 as) us ps
  | [], us, _, r => by cases r; exact ⟨.nil, .nil⟩
  | p :: ps, us, h, r => by
    rw [List.map_cons] at r
    cases r with
    | cons r1 r2 =>
      obtain ⟨e1, e2⟩ := each_vals I (fun q hq => h q (List.mem_cons_of_mem _ hq)) r2
      exact ⟨.cons r1 e1, .cons (Dp.reads I _ _ _ (h p List.mem_cons_self) r1) e2⟩
theorem vals_each : ∀ {ps : List (V × PyData)} {us : List Value}, PySem.W.EachIs (fun (v : Value) (b : V × PyData) => RelV b.1 v) us ps → Vals (ps.map (·.1)) us
  | _, _, .nil => .nil
  | _, _, .cons h t => .cons h (vals_each t)
theorem cr_sortD (hu : X.A.units + 65 < cLine) : CallR X (.builtin "sorted") (rSortD X.K) := by
  intro pins s σ H xs us Q I r h
  obtain ⟨a, ps, rfl, hq, hd, hal, hk, hdp, q⟩ := h
  obtain ⟨u, rfl, ru⟩ := vals1 r
  cases ru
  obtain ⟨its, rv, pl, hz⟩ := I.list hq
  obtain ⟨e1, e2⟩ := each_vals I hd rv
  rw [List.length_map] at hz
  refine PySem.W.sorted_data (bs := ps) (enc := (·.2)) (R := fun v b => RelV b.1 v) pl.isList e1 e2 hal hk hz (fun b hb => by have := hdp b hb; omega) fun out hl he => ?_
  have hv := vals_each he
  obtain ⟨c, hat⟩ := sortedAll_at s.heap its out.toArray
  exact told_lst I (fun b o e => sortedAll_old e) rfl rfl (Nat.le_succ _) hat hv (by rw [List.length_map, List.length_mergeSort]; exact hz) fun hn => q _ hn
theorem okDs_mem {n : Nat} : ∀ {l : List D}, okDs n l = true → ∀ x ∈ l, okD n x = true
  | [], _, x, h => nomatch h
  | y :: ys, h, x, hx => by
    unfold okDs at h
    rw [Bool.and_eq_true] at h
    rcases List.mem_cons.mp hx with rfl | hx
    · exact h.1
    · exact okDs_mem h.2 x hx
theorem reps_zip {k : Ky} {w : Wd} : ∀ {l : List D} {vs : List V}, Reps k w l vs → (vs.zip l).map (·.1) = vs ∧ (vs.zip l).map (·.2) = l ∧ ∀ z ∈ vs.zip l, Rep k w z.2 z.1
  | [], vs, r => by rw [show vs = [] from r]; exact ⟨rfl, rfl, fun _ h => nomatch h⟩
  | d :: l, vs, r => by
    obtain ⟨v, t, rfl, r1, r2⟩ := r
    obtain ⟨h1, h2, h3⟩ := reps_zip r2
    refine ⟨by rw [List.zip_cons_cons, List.map_cons, h1], by rw [List.zip_cons_cons, List.map_cons, h2], fun z hz => ?_⟩
    rcases List.mem_cons.mp hz with rfl | hz
    · exact r1
    · exact h3 z hz
theorem zip_reps {k : Ky} {w : Wd} : ∀ {zs : List (V × D)}, (∀ z ∈ zs, Rep k w z.2 z.1) → Reps k w (zs.map (·.2)) (zs.map (·.1))
  | [], _ => rfl
  | z :: zs, h => ⟨_, _, rfl, h z List.mem_cons_self, zip_reps fun y hy => h y (List.mem_cons_of_mem _ hy)⟩
theorem opf_sortD : OpF1 X (fun x H Q => rSortD X.K [x] H Q) sortedDF := by
  intro k P w env S σ H x dx c Q hk I rx e q
  obtain ⟨l, e1, e⟩ := Option.bind_eq_some_iff.mp e
  split at e
  · rename_i hc
    cases e
    rw [Bool.and_eq_true, Bool.and_eq_true] at hc
    obtain ⟨ho, ha, hs⟩ := hc
    obtain ⟨a, vs, rfl, h, r⟩ := seqL_of I rx (lstOf_ok e1)
    obtain ⟨z1, z2, z3⟩ := reps_zip r
    have hm : ∀ z ∈ vs.zip l, z.2 ∈ l := fun z hz => by rw [← z2]; exact List.mem_map_of_mem hz
    let zs := vs.zip l
    let f : V × D → V × PyData := fun z => (z.1, toPy z.2)
    have p1 : (zs.map f).map (·.1) = vs := by rw [List.map_map]; exact z1
    have p2 : (zs.map f).map (·.2) = l.map toPy := by rw [List.map_map, ← z2, List.map_map]; rfl
    have srt : ((zs.map f).mergeSort fun a b => leP a.2 b.2) = (zs.mergeSort fun a b => leP (toPy a.2) (toPy b.2)).map f := (List.map_mergeSort (f := f) (fun a _ b _ => rfl)).symm
    have srt2 : sortD l = (zs.mergeSort fun a b => leP (toPy a.2) (toPy b.2)).map (·.2) := by
      have : zs.map (·.2) = l := z2
      unfold sortD
      rw [← this]
      exact (List.map_mergeSort (f := fun z : V × D => z.2) (fun a _ b _ => rfl)).symm
    refine ⟨a, zs.map f, rfl, by rw [p1]; exact hk ▸ h, fun p hp => ?_, by rw [p2]; exact allAlikeB_ok ha, by rw [p2]; exact sortableB_ok hs, fun p hp => ?_, fun p hp => ?_⟩
    · obtain ⟨z, hz, rfl⟩ := List.mem_map.mp hp
      exact dp_mono I.rs.frz _ (hk ▸ dp_rep 60 z.2 (okDs_mem ho _ (hm z hz)) (z3 z hz))
    · obtain ⟨z, hz, rfl⟩ := List.mem_map.mp hp
      exact (toPy_ok 60 z.2 (okDs_mem ho _ (hm z hz))).2
    · rw [srt, List.map_map]
      refine q p _ hp ⟨_, rfl, ?_⟩
      rw [srt2]
      exact zip_reps fun z hz => z3 z (List.mem_mergeSort.mp hz)
  · cases e
theorem opf_sortedX : OpF1 X (fun x H Q => (rSorted X.K [x] H Q ∨ rSortedS X.K [x] H Q) ∨ rSortD X.K [x] H Q) sortedF := by
  intro k P w env S σ H x dx c Q hk I rx e q
  unfold sortedF at e
  cases es : sortedB dx with
  | some c' =>
    rw [es] at e
    cases e
    exact .inl (opf_sorted k P w env S σ H x dx _ Q hk I rx es q)
  | none =>
    rw [es] at e
    exact .inr (opf_sortD k P w env S σ H x dx c Q hk I rx e q)
end
end L2.MP
end
section
set_option Elab.async false
set_option linter.all false
set_option maxRecDepth 100000
set_option maxHeartbeats 4000000
namespace L2.MP
open PySem PySem.Spec PyProof.Rows
section
variable {X : Cx} {k : Ky} {W : WX} {pos : Pos}
theorem pget_lst : PGet X (rIxL X.K) := by
  intro pins s σ H x y v u Q I rx ry h
  obtain ⟨p, xs, i, z, rfl, rfl, hq, he, q⟩ := h
  cases rx
  obtain ⟨t, rfl⟩ := ry
  obtain ⟨its, r, pl, hz⟩ := I.list hq
  obtain ⟨j, h1, h2, h3, h4, h5⟩ := atI_get he
  obtain ⟨w, ew, rw'⟩ := r.get h2
  have hl := r.length
  have hn := line63
  have fin : EP X pins σ Q w s := ⟨z, H, I, rw', q⟩
  by_cases h0 : 0 ≤ i
  · have hj : i.toNat = j := by
      rw [seqIndex_of h0 h5] at h1
      exact Option.some.inj h1
    exact wpAny_getItem_list pl.isList h0 (by omega) (by rw [hj]; simpa using ew) fin
  · have hj : (i + (its.toArray.size : Int)).toNat = j := by
      rw [seqIndex_neg (by omega) h4] at h1
      rw [List.size_toArray, ← hl]
      exact Option.some.inj h1
    exact wpAny_getItem_list_neg pl.isList (by omega) (by rw [List.size_toArray] <;> omega) (by omega) (by rw [hj]; simpa using ew) fin
theorem ds_augIx {o i e : Expr} {mo mi mv : M D} {op : Operator} {f : Int → Int → Int} {tpos : Pos} (hk : k.K = X.K) (ho : DO X k W o mo) (hi : DO X k W i mi) (hv : DE X k W e mv) (hp : PIp X op (ipI f))
    (ha : ∀ ov iv new, augStore i ov iv new = (do holding [new, ov, iv] (setItem ov iv new); release [new, ov, iv] []; pure .next)) : DS X k W (.AugAssign (.Subscript o i tpos) op e pos) (dAugIx f mo mi mv) :=
  PS.sub (ps_augS ho hi pget_lst hv hp set_list ha) fun Dn σ H ⟨P, w, env, S, I, h⟩ => thenO I h fun x w1 env1 S1 vx H1 l1 I1 r1 h1 => thenO I1 h1 fun j w2 env2 S2 vj H2 l2 I2 r2 h2 => by
    obtain ⟨n, e0, h3⟩ := h2.getS.bind.opt
    obtain ⟨c, e1, e2⟩ := Option.bind_eq_some_iff.mp e0
    obtain ⟨a, o, rfl, hH, rc, _⟩ := cell_ok I2 (r1.up l2) e1
    unfold augAt at e2
    split at e2
    · split at e2
      · split at e2
        · rename_i l _ i' _ m ei
          cases e2
          obtain ⟨us, rfl, r⟩ := rc
          have ej : vj = .int i' := r2
          subst ej
          obtain ⟨u, eu, ru⟩ := atI_rep r ei
          obtain rfl : u = .int n := ru
          refine ⟨a, us, i', _, rfl, rfl, SqL.of hH, eu, thenE I2 h3.ret fun d w3 env3 S3 vd H3 l3 I3 r3 h4 => ?_⟩
          obtain ⟨m, e5, h5⟩ := h4.bind.opt
          cases d <;> simp only [intOf] at e5 <;> try contradiction
          cases e5
          have ed : vd = .int m := r3
          subst ed
          refine ⟨n, m, rfl, rfl, ?_⟩
          obtain ⟨c', e6, h6⟩ := h5.ret.getS.bind.opt
          obtain ⟨c3, e7, e8⟩ := Option.bind_eq_some_iff.mp e6
          obtain ⟨a', o', ea, hH', rc', fin⟩ := cell_ok I3 ((r1.up l2).up l3) e7
          cases ea
          have go : ∀ o', RepC k w3 c' o' → Dn.nx σ (upd H3 a o') := fun o' rc' => by
            obtain ⟨env4, S4, e9, I4⟩ := fin c' o' rc'
            have h7 := h6.ret
            unfold M.bind at h7
            rw [e9] at h7
            exact h7.ret σ _ I4
          cases c3 <;> simp only [augSet] at e8 <;> try contradiction
          · obtain ⟨m', e9, rfl⟩ := Option.map_eq_some_iff.mp e8
            obtain ⟨us', rfl, r'⟩ := rc'
            exact ⟨a, us', i', m', rfl, rfl, hH', by rw [r'.length]; exact e9, go _ ⟨_, rfl, Reps.set (show Rep k w3 (.int (f n m)) (.int (f n m)) from rfl) m' r'⟩⟩
        · cases e2
      · cases e2
    · cases e2
end
end L2.MP
end
section
set_option Elab.async false
set_option linter.all false
set_option maxRecDepth 100000
set_option maxHeartbeats 4000000
namespace L2.MP
open PySem PySem.Spec PyProof.Rows
section
variable {X : Cx} {k : Ky} {W : WX}
def rCountF (K : PySem.W.Frag) : V → List V → Hp → VK → Prop := fun x xs H Q => ∃ (a : Addr) (ys : List V) (y : V), x = V.ref a ∧ xs = [y] ∧ SqL K H a ys ∧ flatV y = true ∧ ys.all flatV = true ∧ Q (.int ((ys.countP fun z => eqV z y : Nat) : Int)) H
theorem countU {y : V} {uy : Value} (fy : flatV y = true) : ∀ {ys : List V} {us : List Value}, Vals ys us → ys.all flatV = true → us.countP (eqU y) = ys.countP fun z => eqV z y
  | _, _, .nil, _ => rfl
  | z :: ys, u :: us, .cons r t, f => by
    rw [List.all_cons, Bool.and_eq_true] at f
    rw [List.countP_cons, List.countP_cons, countU (uy := uy) fy t f.2, eqU_of r f.1]
theorem mt_countF : MtR X "list.count" (rCountF X.K) := by
  intro pins s σ H x xs v us Q I rx rxs h
  obtain ⟨a, ys, y, rfl, rfl, hs, fy, fys, q⟩ := h
  cases rx
  cases rxs with
  | cons ry rt =>
    rename_i uy ut
    cases rt
    obtain ⟨its, rv, ⟨⟨cls, dd, data, sl⟩, n, ho, hc, hdn, hd⟩, hlen⟩ := I.list hs
    simp only at hc hd
    subst hc hd
    refine call_meets PySem.F.slot_list_count ⟨_, ho, rfl⟩ PySem.F.entry_list_count (PySem.F.args_list_count_2 _ _)
      (SeqAt.list_countAt a its.toArray n dd sl uy (eqU y)) ⟨ho, fun u' hu' => mem_eqAt ry fy rv fys u' (by simpa using hu'), ?_⟩
    have ec : its.toArray.toList.countP (eqU y) = ys.countP fun z => eqV z y := countU (uy := uy) fy rv fys
    refine ⟨.int ((ys.countP fun z => eqV z y : Nat) : Int), H, I.tok _, ⟨s.toks, ?_⟩, q⟩
    show Value.int ((its.toArray.toList.countP (eqU y) : Nat) : Int) s.toks = _
    rw [ec]
theorem countD_rep {w : Wd} {y : D} {v : V} (fy : flatD y = true) (ry : Rep k w y v) : ∀ {l : List D} {vs : List V}, Reps k w l vs → l.all flatD = true → (vs.countP fun z => eqV z v) = l.countP fun x => eqD x y
  | [], _, r, _ => by rw [show _ = _ from r]; rfl
  | x :: l, _, r, f => by
    obtain ⟨u, t, rfl, r1, r2⟩ := r
    rw [List.all_cons, Bool.and_eq_true] at f
    rw [List.countP_cons, List.countP_cons, countD_rep fy ry r2 f.2, eqV_rep f.1 fy r1 ry]
theorem lm_count : LmOk X (rCountF X.K) cntF := by
  intro k P w env S σ H a vs l y v d Q hk I hq rr ry e q
  unfold cntF at e
  split at e
  · rename_i hb
    rw [Bool.and_eq_true] at hb
    cases e
    have ry := flat_repH hb.1 ry
    exact ⟨a, vs, v, rfl, rfl, hk ▸ hq, flat_rep hb.1 ry, flats_rep hb.2 rr, q w _ H (Wd.Le.refl w) I (by rw [countD_rep hb.1 ry rr hb.2]; rfl)⟩
  · cases e
end
end L2.MP
end
section
set_option Elab.async false
set_option linter.all false
set_option maxRecDepth 100000
set_option maxHeartbeats 4000000
namespace L2.MP
open PySem PySem.Spec PyProof.Rows
def code (x : Str) : Nat := x.cps.toList.foldl (fun a c => (a * 1000003 + c) % 2305843009213693951) 7
def tabGo (c : Nat) (x : Str) : Tab → Option Nd
  | [] => none
  | (h, y, n) :: r => if h == c then (if x = y then some n else tabGo c x r) else tabGo c x r
def tabAt (t : Tab) (x : Str) : Option Nd := tabGo (code x) x t
theorem tabGo_mem {c : Nat} {x : Str} {n : Nd} : ∀ {t : Tab}, tabGo c x t = some n → ∃ h, (h, x, n) ∈ t
  | [], e => by cases e
  | (h, y, m) :: r, e => by
    unfold tabGo at e
    split at e
    · split at e
      · rename_i hx
        cases e; subst hx
        exact ⟨h, List.mem_cons_self⟩
      · obtain ⟨h', q⟩ := tabGo_mem e
        exact ⟨h', List.mem_cons_of_mem _ q⟩
    · obtain ⟨h', q⟩ := tabGo_mem e
      exact ⟨h', List.mem_cons_of_mem _ q⟩
theorem tabAt_mem {x : Str} {n : Nd} {t : Tab} (e : tabAt t x = some n) : ∃ h, (h, x, n) ∈ t := tabGo_mem e
def lkGo {α : Type} (c : Nat) (x : Str) : List (Nat × Str × α) → Option α
  | [] => none
  | (h, y, n) :: r => if h == c then (if x = y then some n else lkGo c x r) else lkGo c x r
def lkAt {α : Type} (t : List (Nat × Str × α)) (x : Str) : Option α := lkGo (code x) x t
theorem lkGo_mem {α : Type} {c : Nat} {x : Str} {n : α} : ∀ {t : List (Nat × Str × α)}, lkGo c x t = some n → ∃ h, (h, x, n) ∈ t
  | [], e => by cases e
  | (h, y, m) :: r, e => by
    unfold lkGo at e
    split at e
    · split at e
      · rename_i hx
        cases e; subst hx
        exact ⟨h, List.mem_cons_self⟩
      · obtain ⟨h', q⟩ := lkGo_mem e
        exact ⟨h', List.mem_cons_of_mem _ q⟩
    · obtain ⟨h', q⟩ := lkGo_mem e
      exact ⟨h', List.mem_cons_of_mem _ q⟩
theorem lkAt_mem {α : Type} {x : Str} {n : α} {t : List (Nat × Str × α)} (e : lkAt t x = some n) : ∃ h, (h, x, n) ∈ t := lkGo_mem e
def notStar : Expr → Bool
  | .Starred .. => false
  | _ => true
theorem notStar_ok {e : Expr} (h : notStar e = true) : ∀ x p, e ≠ .Starred x p := by
  intro x p z; subst z; cases h
theorem notStars_ok {es : List Expr} (h : es.all notStar = true) : ∀ e ∈ es, ∀ x p, e ≠ .Starred x p := fun e he => notStar_ok (List.all_eq_true.mp h e he)
def notC0 : Expr → Bool
  | .Call (.Name _ _) [] [] _ => false
  | _ => true
theorem ab_ok {o : Expr} {f : Str} {env : Env} (h : notC0 o = true) : attributeBase o f env (eval o env) = eval o env := by
  unfold attributeBase
  split
  · cases h
  · rfl
theorem back_all (pos : Pos) (env : Env) : ∀ es : List Expr, (∀ e ∈ es, ∀ x p, e ≠ .Starred x p) → (backTo pos (starEach es env)).all (fun x => !x.1) = true ∧ (backTo pos (starEach es env)).length = es.length
  | [], _ => ⟨rfl, rfl⟩
  | e :: es, h => by
    rw [star1 e (h e List.mem_cons_self) es env]
    obtain ⟨h1, h2⟩ := back_all pos env es fun x hx => h x (List.mem_cons_of_mem _ hx)
    unfold backTo at *
    exact ⟨by simpa using h1, by simpa using h2⟩
theorem few_ok {e : Expr} {es : List Expr} {pos : Pos} {env : Env} (h3 : ∀ q ∈ e :: es, ∀ x p, q ≠ .Starred x p) (h4 : (e :: es).length < 20) : ((backTo pos (starEach (e :: es) env)).all (fun x => !x.1) && (backToKw pos (keywordEach [] env)).all (fun x => x.1.isSome)
      && decide ((e :: es).length + ([] : List Keyword).length + (if ([] : List Keyword).isEmpty then 0 else 1) < 30)) = true := by
  rw [(back_all pos env (e :: es) h3).1]
  show (true && true && decide ((e :: es).length + 0 + 0 < 30)) = true
  rw [decide_eq_true (by omega)]; rfl
theorem meth_ok {o : Expr} {es : List Expr} {m : Str} {apos pos : Pos} {env : Env} (h1 : notC0 o = true) (h2 : (apos.endLine == pos.line) = true) (h3 : ∀ e ∈ es, ∀ x p, e ≠ .Starred x p) (h4 : es.length < 20) : eval (.Call (.Attribute o m apos) es [] pos) env = (do
      let ov ← eval o env
      standAt apos.atName
      let (f, first) ← holding [ov] (getMethod ov m (plainOf o env))
      callWith pos f first (backTo pos (starEach es env)) (backToKw pos (keywordEach [] env))) := by
  have hf : methodCallForm (es.length + 0) (backTo pos (starEach es env)) (backToKw pos (keywordEach [] env)) = true := by
    unfold methodCallForm
    rw [(back_all pos env es h3).1]
    show (true && true && decide (es.length + 0 + 0 < 30)) = true
    rw [decide_eq_true (by omega)]; rfl
  show (do
    let ov ← attributeBase o m env (eval o env)
    standAt apos.atName
    methodCall o m apos pos env ov (es.length + 0) (backTo pos (starEach es env)) (backToKw pos (keywordEach [] env))) = _
  rw [ab_ok h1]
  congr 1
  funext ov
  congr 1
  funext _
  exact L2.mcall_line hf h2
def plainT : Expr → Bool
  | .Call .. => true
  | .Name .. => true
  | .Attribute .. => true
  | .Subscript .. => true
  | .List .. => true
  | .ListComp .. => true
  | .BinOp .. => true
  | .Constant .. => true
  | .Tuple .. => true
  | _ => false
theorem plainT_ok {a : Expr} {env : Env} (h : plainT a = true) : ∀ whole, isTrue a env whole = (do let v ← whole; standAt a.pos; holding [v] (truthy v)) := by
  cases a <;> first | (intro _; rfl) | cases h
def plainIx : Expr → Bool
  | .Slice .. => false
  | .Tuple .. => false
  | _ => true
theorem plainIx_ok {b : Expr} (h : plainIx b = true) : PlainIx b := by
  intro o i
  cases b <;> first | rfl | cases h
def notSet : Expr → Bool
  | .Set .. => false
  | _ => true
theorem fold_ok {e : Expr} {env : Env} (h : notSet e = true) (x : Value) : foldedSetIterable e env x = pure x := by
  cases e <;> first | rfl | cases h
theorem mark_ok {e : Expr} {op : CmpOp} (h : notSet e = true) : behindInMarks op e = false := by
  cases e <;> first | rfl | cases h
theorem marks_ok {e d : Expr} {op op' : CmpOp} (h : notSet e = true) : lastMarks [op, op'] [d, e] = false := by
  show behindInMarks op' e = false
  exact mark_ok h
def notComp : Expr → Bool
  | .ListComp .. => false
  | .SetComp .. => false
  | .DictComp .. => false
  | _ => true
theorem swap_ok {e : Expr} {env : Env} {t : Option Expr} {l : Nat} (h : notComp e = true) : swapsWith e t l env = pure false := by
  cases e <;> first | rfl | cases h
def notTup : Expr → Bool
  | .Tuple .. => false
  | _ => true
theorem stores_ok {tg e : Expr} {env : Env} (h : notTup e = true) : swappedStores [tg] e env = pure none := by
  unfold swappedStores
  cases tg <;> cases e <;> first | rfl | cases h
theorem stores_ok2 {e o i : Expr} {p : Pos} {env : Env} : swappedStores [.Subscript o i p] e env = pure none := by
  cases e <;> rfl
def isTg : Expr → Bool
  | .Name .. => true
  | .Tuple .. => true
  | _ => false
theorem aeach_ok {e : Expr} {es : List Expr} {env : Env} (h : isTg e = true) : (assignEach (e :: es) env).map (·.2) = assign e env :: (assignEach es env).map (·.2) := by
  cases e <;> first | rfl | cases h
theorem aeach_one {e : Expr} {env : Env} (h : isTg e = true) : (assignEach [e] env).map (·.2) = [assign e env] := by
  cases e <;> first | rfl | cases h
theorem aeach_len : ∀ {es : List Expr} {env : Env}, es.all isTg = true → (assignEach es env).length = es.length ∧ (assignEach es env).findIdx? (·.1) = none
  | [], env, _ => ⟨rfl, rfl⟩
  | e :: es, env, h => by
    rw [List.all_cons, Bool.and_eq_true] at h
    obtain ⟨h1, h2⟩ := aeach_len (env := env) h.2
    cases e <;> first | cases h.1 | skip
    · exact ⟨by show _ + 1 = _; rw [h1]; rfl, by show List.findIdx? _ ((false, _) :: _) = none; rw [List.findIdx?_cons]; simp [h2]⟩
    · exact ⟨by show _ + 1 = _; rw [h1]; rfl, by show List.findIdx? _ ((false, _) :: _) = none; rw [List.findIdx?_cons]; simp [h2]⟩
structure Den where
  E : Ct → Expr → M D
  O : Ct → Expr → M D
  F : Ct → Expr → M Cell
  T : Ct → Expr → M Bool
  S : Ct → Stmt → M Flo
def Den.none : Den := ⟨fun _ _ => M.fail, fun _ _ => M.fail, fun _ _ => M.fail, fun _ _ => M.fail, fun _ _ => M.fail⟩
section
variable (G : Gm) (φ : Nat → Fn) (d : Den) (C : Ct)
def nameE (x : Str) : M D := match tabAt C.tab x with
  | some (.loc i) => dVar i
  | some (.frv i) => dVar i
  | some (.glo (.con j)) => M.opt G.con[j]?
  | _ => M.fail
def nameO (x : Str) : M D := match tabAt C.tab x with
  | some (.loc i) => dPeek i
  | some (.frv i) => dPeek i
  | some (.glo (.con j)) => M.opt G.con[j]?
  | _ => M.fail
def opF : Operator → Option (D → D → Option D)
  | .Add => some addD
  | .Sub => some subD
  | .Mult => some mulD
  | .FloorDiv => some fdivD
  | .Mod => some modD
  | .Pow => some powD
  | _ => none
def cmF : CmpOp → Option (D → D → Option D)
  | .Eq => some (cmpEq false)
  | .NotEq => some (cmpEq true)
  | .Lt => some ltD
  | .LtE => some leD
  | .Gt => some gtD
  | .GtE => some geD
  | .In => some (inF false)
  | .NotIn => some (inF true)
  | .Is => some (isD false)
  | .IsNot => some (isD true)
def tabE (e : Expr) : Option (List (Str × D)) := match e with
  | .Name y _ => (match tabAt C.tab y with
    | some (.glo (.tab j)) => G.tb[j]?
    | _ => none)
  | _ => none
def boolE (op : BoolOp) : List Expr → M D
  | [] => M.fail
  | [a] => d.E C a
  | a :: b :: r => match op with
    | .And => dAnd (d.E C a) (boolE op (b :: r))
    | .Or => dOr (d.E C a) (boolE op (b :: r))
def boolT (op : BoolOp) : List Expr → M Bool
  | [] => M.fail
  | [a] => d.T C a
  | a :: b :: r => match op with
    | .And => dAndT (d.T C a) (boolT op (b :: r))
    | .Or => dOrT (d.T C a) (boolT op (b :: r))
def bfF : Blt → Option (D → Option Cell)
  | .list => some listF
  | .sorted => some sortedF
  | .dict => some dictF
  | _ => none
def isF : Expr → Bool
  | .List .. => true
  | .ListComp .. => true
  | .Dict .. => true
  | .Subscript _ (.Slice _ _ none _) _ => true
  | .Call (.Name x _) _ _ _ => (match tabAt C.tab x with
    | some (.glo (.blt b)) => (bfF b).isSome
    | _ => false)
  | _ => false
def argE (e : Expr) : M D := if C.ahp && isF C e then dHp (d.F C e) else d.E C e
def argsE (es : List Expr) : M (List D) := if es.all notStar then dArgs (es.map (argE d C)) else M.fail
def setArg (e : Expr) : Option Expr := match e with
  | .Call (.Name y _) [a] [] _ => (match tabAt C.tab y with
    | some (.glo (.blt .set)) => if notStar a then some a else none
    | _ => none)
  | _ => none
def b1F : Blt → Option (D → Option D)
  | .len => some lenD
  | .int => some intD
  | .str => some strD
  | .all => some allD
  | .any => some anyD
  | .sum => some sumD
  | .min => some minD
  | .max => some maxD
  | .tuple => some tupleD
  | _ => none
def b2F : Blt → Option (D → D → Option D)
  | .min => some min2D
  | .max => some max2D
  | _ => none
def tyN : Blt → Option String
  | .bool => some "bool"
  | .int => some "int"
  | .str => some "str"
  | .tuple => some "tuple"
  | .list => some "list"
  | .dict => some "dict"
  | _ => none
def typesE : List Expr → Option (List String)
  | [] => some []
  | .Name t _ :: es => (match tabAt C.tab t with
    | some (.glo (.blt b)) => (match tyN b, typesE es with
      | some T, some Ts => some (T :: Ts)
      | _, _ => none)
    | _ => none)
  | _ :: _ => none
def xcE (e : Expr) : Option (Option Nat) := match e with
  | .Name t _ => (match tabAt C.tab t with
    | some (.glo (.xcl c)) => some (some c)
    | some (.glo (.blt .verr)) => some none
    | _ => none)
  | _ => none
def xcGo : List Expr → Option (List (Option Nat))
  | [] => some []
  | e :: es => match xcE C e, xcGo es with
    | some c, some cs => some (c :: cs)
    | _, _ => none
def xcsE (e : Expr) : Option (List (Option Nat)) := match e with
  | .Tuple es _ _ => xcGo C es
  | e => (xcE C e).map fun c => [c]
def slE (e : Expr) : Option Nat := match e with
  | .Name y _ => (match tabAt C.tab y with
    | some (.loc i) => some i
    | _ => none)
  | _ => none
def bltE (b : Blt) (es : List Expr) : M D := match es with
  | [a] => (match setArg C a with
    | some a2 => if C.hot then M.fail else (match b with
      | .len => dOp1 lsetD (d.O C a2)
      | .sorted => dFz (dOpF1 ssetF (d.O C a2))
      | _ => M.fail)
    | none => if notStar a then (match b1F b with
    | some f => dOp1 f (d.O C a)
    | none => match bfF b with
      | some f => dFz (dOpF1 f (d.O C a))
      | none => M.fail) else M.fail)
  | [a, c] => if notStar a && notStar c then (match b with
    | .isinstance => (match xcsE C c, slE C a with
     | some cs, some i => if cs.length ≤ sizeLine then dIsX G.xcs i cs else M.fail
     | _, _ => match c with
      | .Name t _ => (match tabAt C.tab t with
        | some (.glo (.blt b2)) => (match tyN b2 with
          | some T => dOp1 (isiD T) (d.O C a)
          | none => M.fail)
        | _ => M.fail)
      | .Tuple ts _ _ => (match typesE C ts with
        | some Ts => if Ts.length ≤ sizeLine then dOp1 (isiTD Ts) (d.O C a) else M.fail
        | none => M.fail)
      | _ => M.fail)
    | _ => match b2F b with
      | some f => dOp2 f (d.O C a) (d.O C c)
      | none => M.fail) else M.fail
  | _ => M.fail
def fnE (i : Nat) (es : List Expr) : M D := M.bind (argsE d C es) fun ds => if ds.length = G.ar.getD i 0 then (fun env S => (φ i ds S).out env) else M.fail
def clsE (c i : Nat) (es : List Expr) : M D := dMake c (G.ar.getD i 0) (φ i) (argsE d C es)
def mutF : Mn → Nat → Option (Cell → List D → Option (Cell × D))
  | .append, 1 => some appF
  | .pop, 0 => some popF
  | .pop, 1 => some popAtF
  | .extend, 1 => some extF
  | .clear, 0 => some clrF
  | .reverse, 0 => some revF
  | .insert, 2 => some insF
  | _, _ => none
def s0F : Mn → Option (Str → Option D)
  | .upper => some upperD
  | .lower => some lowerD
  | .isdigit => some isdigitD
  | .strip => some stripD
  | _ => none
def s1F : Mn → Option (Str → D → Option D)
  | .join => some joinD
  | .split => some splitD
  | .partition => some partD
  | .count => some countD
  | .find => some findD
  | .startswith => some startsD
  | .endswith => some endsD
  | _ => none
def textE (mn : Mn) (o : Expr) (es : List Expr) : M D := match es with
  | [] => (match s0F mn with
    | some f => dSm0 f (d.O C o)
    | none => M.fail)
  | [a] => (match s1F mn with
    | some f => dSm1 f (d.O C o) (d.O C a)
    | none => M.fail)
  | _ => M.fail
def methE (m : Str) (o : Expr) (es : List Expr) (apos pos : Pos) : M D :=
  if notC0 o && ((apos.endLine == pos.line) && (es.all notStar && decide (es.length < 20))) then
    (match lkAt G.mth m with
    | some (.own l) => if !C.hot then dMeths G φ l m (d.E C o) (argsE d C es) else M.fail
    | some mn => (match mutF mn es.length with
      | some f => dMut f (d.O C o) (argsE d C es)
      | none => (match mn, es with
        | .index, [a] => dLm1 idxF (d.O C o) (d.O C a)
        | .count, [a] => dCount (d.O C o) (d.O C a)
        | _, _ => textE d C mn o es))
    | none => M.fail)
  else M.fail
def hotB : Blt → Bool
  | .isinstance => true
  | .int => true
  | .str => true
  | .len => true
  | _ => false
def callE (f : Expr) (es : List Expr) (kws : List Keyword) (pos : Pos) : M D := match kws with
  | [] => (match f with
    | .Name x _ => (match tabAt C.tab x with
      | some (.glo (.blt b)) => if !C.hot || hotB b then bltE G d C b es else M.fail
      | some (.glo (.fn i)) => if !C.hot then fnE G φ d C i es else M.fail
      | some (.glo (.cls c i)) => if !C.hot then clsE G φ d C c i es else M.fail
      | _ => M.fail)
    | .Attribute o m apos => methE G φ d C m o es apos pos
    | _ => M.fail)
  | _ => M.fail
def optO : Option Expr → Option (M D)
  | none => none
  | some e => some (d.E C e)
def expE (e : Expr) : M D := match e with
  | .Constant (.int i) _ _ => M.ret (.int i)
  | .Constant (.bool b) _ _ => M.ret (.bl b)
  | .Constant .none _ _ => M.ret .non
  | .Constant (.str s) _ _ => M.ret (.str s)
  | .Name x _ => nameE G C x
  | .BinOp a op b _ => (match opF op with
    | some f => dOp2 f (d.O C a) (d.O C b)
    | none => M.fail)
  | .UnaryOp op a _ => (match op with
    | .Not => dNot (d.E C a)
    | .USub => dOp1 negD (d.O C a)
    | _ => M.fail)
  | .BoolOp op es _ => boolE d C op es
  | .Compare a ops bs _ => (match ops, bs with
    | [op], [b] => (match tabE G C b with
      | some t => (match op with
        | .In => dOp1 (tabInD t) (d.O C a)
        | _ => M.fail)
      | none => if notSet b then (match cmF op with
      | some f => dOp2 f (d.O C a) (d.O C b)
      | none => M.fail) else M.fail)
    | [op, op'], [b, c] => if notSet c then (match cmF op, cmF op' with
      | some f, some g => dChain f g (d.O C a) (d.O C b) (d.O C c)
      | _, _ => M.fail) else M.fail
    | _, _ => M.fail)
  | .IfExp c a b _ => dIf (d.T C c) (d.E C a) (d.E C b)
  | .Subscript a i _ => (match i with
    | .Slice lo hi none _ => dSl (d.O C a) (optO d C lo) (optO d C hi)
    | .Slice none none (some (.UnaryOp .USub (.Constant (.int 1) _ _) _)) _ => dOp1 revD (d.O C a)
    | .Slice none none (some st) _ => dStp (d.O C a) (d.E C st)
    | i => if plainIx i then (match tabE G C a with
      | some t => dOp1 (tabIxD t) (d.O C i)
      | none => dOp2 ixD (d.O C a) (d.O C i)) else M.fail)
  | .Attribute o f _ => if C.hot then (match o with
    | .Name y _ => (match tabAt C.tab y with
      | some (.loc i) => dXf G.xcs G.xfl i f
      | _ => M.fail)
    | _ => M.fail) else if notC0 o then (match lkAt G.fld f with
    | some cs => dFld cs f (d.E C o)
    | none => M.fail) else M.fail
  | .Tuple es _ _ => dTup (argsE d C es)
  | .List _ _ => dFz (d.F C e)
  | .ListComp _ _ _ _ => dFz (d.F C e)
  | .Dict _ _ _ => dFz (d.F C e)
  | .Call f es kws pos => callE G φ d C f es kws pos
  | _ => M.fail
def expO (e : Expr) : M D := match e with
  | .Name x _ => nameO G C x
  | e => expE G φ d C e
def expT (e : Expr) : M Bool := match e with
  | .UnaryOp .Not a _ => dNotT (d.T C a)
  | .BoolOp op es _ => boolT d C op es
  | .Compare a ops bs _ => (match ops, bs with
    | [op], [b] => (match tabE G C b with
      | some t => (match op with
        | .In => dBl (dOp1 (tabInD t) (d.O C a))
        | _ => M.fail)
      | none => if notSet b then (match cmF op with
      | some f => dBl (dOp2 f (d.O C a) (d.O C b))
      | none => M.fail) else M.fail)
    | [op, op'], [b, c] => if notSet c then (match cmF op, cmF op' with
      | some f, some g => dBl (dChain f g (d.O C a) (d.O C b) (d.O C c))
      | _, _ => M.fail) else M.fail
    | _, _ => M.fail)
  | e => if plainT e then dTru (d.O C e) else M.fail
def tgN (x : Str) : Option Nat := match tabAt C.tab x with
  | some (.loc i) => some i
  | _ => none
def tgD : Nat → Expr → Option (Tgt × List Nat)
  | 0, _ => none
  | n + 1, e => match e with
    | .Name x _ => (tgN C x).map fun i => (gNm i, [i])
    | .Tuple es _ _ => if C.hot then none else (go n es).map fun r => (gTp r.1, r.2)
    | _ => none
where go : Nat → List Expr → Option (List Tgt × List Nat)
  | _, [] => some ([], [])
  | n, e :: es => match tgD n e, go n es with
    | some a, some b => some (a.1 :: b.1, a.2 ++ b.2)
    | _, _ => none
def itE (tg e : Expr) : M Src := match e with
  | .Call (.Name x p) es [] pos => (match tabAt C.tab x with
    | some (.glo (.blt .range)) => (match es with
      | [a] => if notStar a then dRng1 (d.E C a) else M.fail
      | [a, b] => if notStar a && notStar b then dRng2 (d.E C a) (d.E C b) else M.fail
      | _ => M.fail)
    | some (.glo (.blt .enumerate)) => (match tg, es with
      | .Tuple _ _ _, [a] => if notStar a then dEnum (d.E C a) else M.fail
      | _, _ => M.fail)
    | some (.glo (.blt .zip)) => (match tg, es with
      | .Tuple _ _ _, [a, b] => if notStar a && notStar b then dZip (d.E C a) (d.E C b) else M.fail
      | _, _ => M.fail)
    | _ => dWalk (d.E C e))
  | e => dWalk (d.E C e)
def slotOf : Nd → Option Nat
  | .loc i => some i
  | .frv i => some i
  | .slo i => some i
  | _ => none
def gloOf : Nd → Option Gd
  | .glo g => some g
  | .bgl g => some g
  | _ => none
def inner (n : Nd) : Option Nd := match slotOf n with
  | some i => some (.slo i)
  | none => (gloOf n).map .bgl
def blkTab (names : List (Str × NameKind)) : Tab := (names.filterMap fun y => match y.2, tabAt C.tab y.1 with
  | .local, some n => (slotOf n).map fun i => (code y.1, y.1, .loc i)
  | .cell, some n => (slotOf n).map fun i => (code y.1, y.1, .loc i)
  | .free, some n => (slotOf n).map fun i => (code y.1, y.1, .frv i)
  | .globalImplicit, some n => (gloOf n).map fun g => (code y.1, y.1, .glo g)
  | _, _ => none) ++ C.tab.filterMap fun e => (inner e.2.2).map fun n => (e.1, e.2.1, n)
def blkOwn (names : List (Str × NameKind)) : List (Str × Nat) := names.filterMap fun y => match y.2, tabAt C.tab y.1 with
  | .local, some n => (slotOf n).map fun i => (y.1, i)
  | .cell, some n => (slotOf n).map fun i => (y.1, i)
  | _, _ => none
def blkCt (scope : Scope) : Ct := ⟨C.N, relS scope C.sc, some scope, blkTab C scope.names, [], [], false, C.dtt, C.ahp, false⟩
def ifsT (C : Ct) : List Expr → M Bool
  | [] => M.ret true
  | [c] => d.T C c
  | _ => M.fail
def compF (elt tg it : Expr) (ifs : List Expr) (scope : Scope) : M Cell :=
  if !C.hot && (blkC C.N C.sc scope (blkOwn C scope.names) && notSet it) then
    (match tgD (blkCt C scope) 5 tg with
    | some (g, vs) => if vs.all (fun i => decide (i ∈ (blkOwn C scope.names).map (·.2))) then dComp (itE d C tg it) g (ifsT d (blkCt C scope) ifs) (d.E (blkCt C scope) elt) ((blkOwn C scope.names).map (·.2)) else M.fail
    | none => M.fail)
  else M.fail
def pairsE : List (Option Expr) → List Expr → List (M D × M D)
  | some a :: ks, b :: vs => (d.E C a, d.E C b) :: pairsE ks vs
  | _, _ => []
def dispF (ks : List (Option Expr)) (vs : List Expr) : M Cell := match ks, vs with
  | [], [] => if C.dtt then M.ret (.dt [] []) else M.ret (.dk [] [])
  | _, _ => if ks.all (·.isSome) && (decide (ks.length = vs.length) && (!ks.isEmpty && decide (ks.length ≤ 15))) then dDisp (pairsE d C ks vs) else M.fail
def expF (e : Expr) : M Cell := match e with
  | .List es _ => dLst (argsE d C es)
  | .Dict ks vs _ => dispF d C ks vs
  | .ListComp elt gens scope _ => (match gens with
    | [⟨tg, it, ifs, 0⟩] => compF d C elt tg it ifs scope
    | _ => M.fail)
  | .Subscript a (.Slice lo hi none _) _ => dSlF (d.O C a) (optO d C lo) (optO d C hi)
  | .Call (.Name x _) [a] [] _ => if C.hot then M.fail else (match tabAt C.tab x with
    | some (.glo (.blt b)) => (match setArg C a with
      | some a2 => (match b with
        | .sorted => dOpF1 ssetF (d.O C a2)
        | _ => M.fail)
      | none => match bfF b with
      | some f => if notStar a then dOpF1 f (d.O C a) else M.fail
      | none => M.fail)
    | _ => M.fail)
  | .BinOp a .Add b _ => dOpF2 catF (d.O C a) (d.O C b)
  | _ => M.fail
def isF2 : Expr → Bool
  | .BinOp _ .Add _ _ => true
  | e => isF C e
def seqS : List Stmt → M Flo
  | [] => M.ret .nx
  | [s] => d.S C s
  | s :: r => dSeq (d.S C s) (seqS r)
def setE (i : Nat) (f : Bool) (me : M D) (mf : M Cell) : M Flo := if C.hp.contains i then dSetHp i mf else if C.own.contains i && f then dSetOwn i mf else dSet i me
def asgS (tg e : Expr) (pos : Pos) : M Flo := match tg with
  | .Name x p => (match tgN C x with
    | some i => (match e with
      | .ListComp elt gens scope epos => (match gens with
        | [⟨t, it, ifs, 0⟩] => setE C i true (dFz (compF d C elt t it ifs scope)) (compF d C elt t it ifs scope)
        | _ => M.fail)
      | e => if notComp e then setE C i (isF2 C e) (d.E C e) (d.F C e) else M.fail)
    | none => M.fail)
  | .Tuple es k p => if notTup e && (notComp e && es.all isTg) then (match tgD C 5 tg with
    | some (g, _) => dAsg g (d.E C e)
    | none => M.fail) else M.fail
  | .Subscript o i p => if notComp e && plainIx i then dSetIx (d.E C e) (d.O C o) (d.O C i) else M.fail
  | .Attribute o f p => if notComp e then (match lkAt G.fld f with
    | some cs => if isF C e then dSetFldF cs f (d.E C o) (d.F C e) else dSetFld cs f (d.E C o) (d.E C e)
    | none => M.fail) else M.fail
  | _ => M.fail
def augF : Operator → Option (Int → Int → Int)
  | .Add => some fun i j => i + j
  | .Sub => some fun i j => i - j
  | _ => none
def raiseS (e : Expr) : M Flo := if C.hot then M.fail else match e with
  | .Call (.Name x _) [.Constant (.str _) _ _] [] _ => (match tabAt C.tab x with
    | some (.glo (.xcl c)) => if (G.xin.lookup c).isNone then dRaise0 c else M.fail
    | _ => M.fail)
  | .Call (.Name x _) [.Constant (.str _) _ _, e] [] _ => (match tabAt C.tab x with
    | some (.glo (.xcl c)) => (match G.xin.lookup c with
      | some f => if notStar e then dRaise1 c f (d.E C e) else M.fail
      | none => M.fail)
    | _ => M.fail)
  | _ => M.fail
def Ct.heat (C : Ct) : Ct := { C with hot := true }
def tryS (a : List Stmt) (x : Str) (n : Option Str) (s : List Stmt) : M Flo := if C.hot then M.fail else match tabAt C.tab x with
  | some (.glo (.xcl c)) => (match n with
    | none => dTryN G.xcs c (seqS d C a) (seqS d C.heat s)
    | some y => match tabAt C.tab y with
      | some (.loc i) => if (C.sc.names.lookup y == some .local) then dTryE G.xcs c i (seqS d C a) (seqS d C.heat s) else M.fail
      | _ => M.fail)
  | _ => M.fail
def stmS (s : Stmt) : M Flo := match s with
  | .Raise (some e) none _ => raiseS G d C e
  | .Try a [.ExceptHandler (some (.Name x _)) n (b :: s) _] [] [] _ => tryS G d C a x n (b :: s)
  | .Pass _ => M.ret .nx
  | .Break _ => M.ret .bk
  | .Continue _ => M.ret .ct
  | .Expr e _ => if notComp e then dExpr (d.E C e) else M.fail
  | .Return none _ => M.ret (.rt .non)
  | .Return (some e) _ => if C.retHp && isF C e then dRetHp (d.F C e) else dRet (d.E C e)
  | .If c a b _ => dIf (d.T C c) (seqS d C a) (seqS d C b)
  | .While c a [] _ => dWhile (d.T C c) (seqS d C a) G.fuel
  | .For tg it a [] _ => if !C.hot && notSet it then (match tgD C 5 tg with
    | some (g, _) => dFor (itE d C tg it) g (seqS d C a)
    | none => M.fail) else M.fail
  | .Assign [tg] e pos => asgS G d C tg e pos
  | .AugAssign (.Subscript o i _) op e _ => if plainIx i then (match augF op with
    | some f => dAugIx f (d.O C o) (d.O C i) (d.E C e)
    | none => M.fail) else M.fail
  | _ => M.fail
end
def den (G : Gm) (φ : Nat → Fn) : Nat → Den
  | 0 => Den.none
  | n + 1 => ⟨expE G φ (den G φ n), expO G φ (den G φ n), expF (den G φ n), expT G (den G φ n), stmS G (den G φ n)⟩
end L2.MP
end
section
set_option Elab.async false
set_option linter.all false
set_option maxRecDepth 100000
set_option maxHeartbeats 4000000
namespace L2.MP
open PySem PySem.Spec PyProof.Rows
def FnHas (X : Cx) (k : Ky) (G : Gm) (φ : Nat → Fn) (i : Nat) (f : Addr) : Prop :=
  ∃ fd ps lv, FnOk X.prog X.w X.K X.mg X.base (L2.CX X.prog X.w) lv f fd ps (spOf k (G.ar.getD i 0) (φ i)) ∧ Room (lv + 1) X.A ∧ Binds X.K fd ps []
def TabOk (X : Cx) (k : Ky) (x : Str) (t : List (Str × D)) : Prop := ∃ a es n, X.mg x = some (.ref a) ∧ KDict X.K X.w a es n ∧ ∀ z, match lkS t z with
  | some d => ∃ u v, PySem.W.nsIn X.K a z = some (some u) ∧ RelV v u ∧ ∀ w, Rep k w d v
  | none => PySem.W.nsIn X.K a z = some none
def GdOk (X : Cx) (k : Ky) (G : Gm) (φ : Nat → Fn) (x : Str) : Gd → Prop
  | .blt b => x = b.name ∧ X.mg x = none
  | .con j => ∃ d v u, G.con[j]? = some d ∧ X.mg x = some u ∧ RelV v u ∧ ∀ w, Rep k w d v
  | .fn i => X.calm = true → ∃ f, X.mg x = some (.ref f) ∧ PySem.W.keepIn X.K (.ref f) = true ∧ FnHas X k G φ i f
  | .cls c i => X.calm = true → ∃ f, X.mg x = some (.ref (k.cl c)) ∧ Mk X.K (k.cl c) f ∧ FnHas X k G φ i f
  | .tab j => ∃ t, G.tb[j]? = some t ∧ TabOk X k x t
  | .xcl c => X.mg x = some (.ref (k.cl c)) ∧ PySem.W.keepIn X.K (.ref (k.cl c)) = true ∧ Raises X (.ref (k.cl c)) ∧ ((G.xin.lookup c).isNone = true → PySem.W.excIn X.K (k.cl c) [.type "ValueError", .type "Exception", .type "BaseException", .type "object"] "ValueError.__new__" = true)
def XinOk (X : Cx) (k : Ky) (c : Nat) (f : Str) : Prop := ∃ fI fd ps lv, OexC X.K (k.cl c) ∧ PySem.W.findIn X.K (.ref (k.cl c)) "__init__" = some (some (.ref fI)) ∧ PySem.W.typeIn X.K (.ref fI) = some (.type "function") ∧
  FnOk X.prog X.w X.K X.mg X.base (L2.CX X.prog X.w) lv fI fd ps (spI (k.cl c) f) ∧ Room (lv + 1) X.A ∧ Binds X.K fd ps []
def NotBad (x : Str) : Prop := (x == ("__debug__" : Str)) = false ∧ (x == ("__classdict__" : Str)) = false ∧ x ≠ "__name__"
def NdOk (X : Cx) (k : Ky) (G : Gm) (φ : Nat → Fn) (x : Str) : Nd → Prop
  | .loc i => X.N[i]? = some x ∧ Loc X.env.scope x ∧ (X.fn x = true ∨ X.env.scope.names.lookup x = some .local) ∧ NotBad x
  | .frv i => X.N[i]? = some x ∧ Vis X.env.scope x ∧ NotBad x
  | .slo i => X.N[i]? = some x ∧ NotBad x
  | .glo g => Gl X x ∧ NotBad x ∧ GdOk X k G φ x g
  | .bgl g => NotBad x ∧ GdOk X k G φ x g
def MnOk (X : Cx) (k : Ky) (G : Gm) (φ : Nat → Fn) (m : Str) : Mn → Prop
  | .own l => X.calm = true → ∀ c i, lkc l c = some i → ∃ f, Cls X.K (k.cl c) ∧ Meth X.K (k.cl c) m f ∧ FnHas X k G φ i f
  | n => m = n.name
structure Good (G : Gm) (φ : Nat → Fn) (C : Ct) (X : Cx) (k : Ky) (W : WX) : Prop where
  hk : k.K = X.K
  N : X.N = C.N
  nd : X.N.Nodup
  sc : X.env.scope = C.sc
  kind : X.env.scope.kind = .function
  fnd : C.blk = none → ∀ x, X.fn x = true
  calm : C.hot = false → X.calm = true
  stk : C.blk = none → X.stack = X.env :: X.outer ∧ X.env.frame = some X.env.locals
  su : SuX X k
  x0 : C.hot = false → k.xn = none
  xok : XcOk X.K k G.xcs G.xfl
  xin : X.calm = true → ∀ c f, (G.xin.lookup c) = some f → XinOk X k c f
  tk : Takes X W
  hu : X.A.units + 65 < cLine
  tab : ∀ h x n, (h, x, n) ∈ C.tab → NdOk X k G φ x n
  fld : ∀ h f cs, (h, f, cs) ∈ G.fld → ∀ c ∈ cs, Cls X.K (k.cl c) ∧ NoAttr X.K (k.cl c) f
  mth : ∀ h m n, (h, m, n) ∈ G.mth → MnOk X k G φ m n
structure DenOk (G : Gm) (φ : Nat → Fn) (d : Den) : Prop where
  E : ∀ {C X k W}, Good G φ C X k W → ∀ e, DE X k W e (d.E C e)
  O : ∀ {C X k W}, Good G φ C X k W → ∀ e, DO X k W e (d.O C e)
  F : ∀ {C X k W}, Good G φ C X k W → ∀ e, DF X k W e (d.F C e)
  T : ∀ {C X k W}, Good G φ C X k W → ∀ e, DT X k W e (d.T C e)
  S : ∀ {C X k W}, Good G φ C X k W → C.blk = none → PassesOwn (model X.prog X.w) X.A X.env X.xe → ∀ s, DS X k W s (d.S C s)
section
variable {G : Gm} {φ : Nat → Fn} {d : Den} {C : Ct} {X : Cx} {k : Ky} {W : WX}
theorem de_no {e : Expr} : DE X k W e M.fail := ⟨fun _ _ _ _ _ _ ⟨_, _, _, _, _, h⟩ => h.elim⟩
theorem do_no {e : Expr} : DO X k W e M.fail := ⟨fun _ _ _ _ _ _ ⟨_, _, _, _, _, h⟩ => h.elim⟩
theorem df_no {e : Expr} : DF X k W e M.fail := ⟨fun _ _ _ _ _ _ ⟨_, _, _, _, _, h⟩ => h.elim⟩
theorem dt_no {e : Expr} : DT X k W e M.fail := ⟨fun _ _ _ _ _ _ ⟨_, _, _, _, _, h⟩ => h.elim⟩
theorem da_no {e : List Expr} : DA X k W e M.fail := ⟨fun _ _ _ _ _ _ _ ⟨_, _, _, _, _, h⟩ => h.elim⟩
theorem dw_no {e : Expr} : DW X k W e M.fail := ⟨fun _ _ _ _ _ _ _ ⟨_, _, _, _, _, h⟩ => h.elim⟩
theorem di_no {tg e : Expr} : DI X k W tg e M.fail := ⟨fun _ _ _ _ _ _ ⟨_, _, _, _, _, h⟩ => h.elim⟩
theorem Loc.vis {sc : Scope} {x : Str} (h : Loc sc x) : Vis sc x := h.elim .inl fun h => .inr (.inl h)
theorem con_ok {x : Str} {p : Pos} {c : Nat} (hg : Gl X x) (hb : NotBad x) (g : GdOk X k G φ x (.con c)) : DE X k W (.Name x p) (M.opt G.con[c]?) := by
  obtain ⟨d, v, u, ec, e, r, h⟩ := g
  rw [ec]
  exact PE.sub (pe_glob hg e r hb.1) fun σ H Q ⟨P, w, env, S, I, q⟩ => q.ret v H I (h w)
theorem name_ok (g : Good G φ C X k W) {x : Str} {p : Pos} : DE X k W (.Name x p) (nameE G C x) := by
  unfold nameE
  split
  · rename_i i e
    obtain ⟨h, m⟩ := tabAt_mem e
    obtain ⟨h1, h2, _, h3⟩ := g.tab _ _ _ m
    exact de_var h1 (Loc.vis h2) h3.1 h3.2.1
  · rename_i i e
    obtain ⟨h, m⟩ := tabAt_mem e
    obtain ⟨h1, h2, h3⟩ := g.tab _ _ _ m
    exact de_var h1 h2 h3.1 h3.2.1
  · rename_i c e
    obtain ⟨h, m⟩ := tabAt_mem e
    obtain ⟨h1, h2, h3⟩ := g.tab _ _ _ m
    exact con_ok h1 h2 h3
  · exact de_no
theorem view_str {env : Envr} {S : Sto} {x : D} {z : Str} (h : view env S x = .str z) : x = .str z := by
  cases x <;> first | exact h | skip
  all_goals
    unfold view at h
    dsimp only at h
    split at h
    · rename_i c _
      cases c <;> cases h
    · cases h
theorem tabE_ok (g : Good G φ C X k W) {e : Expr} {t : List (Str × D)} (h : tabE G C e = some t) : ∃ a es n, PE X e (tC (.ref a)) ∧ notSet e = true ∧ KDict X.K X.w a es n ∧ ∀ z, match lkS t z with
    | some d => ∃ u v, PySem.W.nsIn X.K a z = some (some u) ∧ RelV v u ∧ ∀ w, Rep k w d v
    | none => PySem.W.nsIn X.K a z = some none := by
  unfold tabE at h
  split at h
  · split at h
    · rename_i et
      obtain ⟨_, m⟩ := tabAt_mem et
      obtain ⟨hg, hb, t', e1, a, es, n, hm, kd, hz⟩ := g.tab _ _ _ m
      rw [h] at e1; cases e1
      exact ⟨a, es, n, pe_glob hg hm rfl hb.1, rfl, kd, hz⟩
    · cases h
  · cases h
theorem tabIn_one {p : Addr} {t : List (Str × D)} {ma : M D} {σ : L2.St} {H : Hp} {Q : VK} (hz : ∀ z, match lkS t z with
    | some d => ∃ u v, PySem.W.nsIn X.K p z = some (some u) ∧ RelV v u ∧ ∀ w, Rep k w d v
    | none => PySem.W.nsIn X.K p z = some none) (h : tE k W (dOp1 (tabInD t) ma) σ H Q) : tOp (fun x y H Q => ∃ (z : Str) (r : Option Value), x = .str z ∧ y = .ref p ∧ PySem.W.nsIn X.K p z = some r ∧ Q (.bl r.isSome) H) (tO k W ma) (tC (.ref p)) σ H Q := by
  obtain ⟨P, w, env, S, I, h⟩ := h
  refine thenO I h fun dx w1 env1 S1 x H1 l1 I1 r1 h1 => ?_
  obtain ⟨d, e, h3⟩ := h1.getS.opt
  obtain ⟨z, ez⟩ : ∃ z, view env1 S1 dx = .str z := by
    cases q : view env1 S1 dx <;> rw [q] at e <;> first | (cases e; done) | exact ⟨_, rfl⟩
  obtain rfl := view_str ez
  cases e
  obtain rfl : x = .str z := r1
  have hz := hz z
  have hq : Q (.bl (lkS t z).isSome) H1 := h3.ret _ H1 I1 rfl
  cases el : lkS t z with
  | none => rw [el] at hz hq; exact ⟨z, none, rfl, rfl, hz, hq⟩
  | some d => rw [el] at hz hq; obtain ⟨u, v, e1, _⟩ := hz; exact ⟨z, some u, rfl, rfl, e1, hq⟩
theorem tabIn_ok (g : Good G φ C X k W) {a b : Expr} {t : List (Str × D)} {ma : M D} {pos : Pos} (ha : DO X k W a ma) (h : tabE G C b = some t) : DE X k W (.Compare a [.In] [b] pos) (dOp1 (tabInD t) ma) := by
  obtain ⟨p, es, n, hp, hs, kd, hz⟩ := tabE_ok g h
  exact PE.sub (pe_cmpR (op_in_kd kd) ha hp (mark_ok hs)) fun σ H Q h => tabIn_one hz h
theorem tabInT_ok (g : Good G φ C X k W) {a b : Expr} {t : List (Str × D)} {ma : M D} {pos : Pos} (ha : DO X k W a ma) (h : tabE G C b = some t) : DT X k W (.Compare a [.In] [b] pos) (dBl (dOp1 (tabInD t) ma)) := by
  obtain ⟨p, es, n, hp, hs, kd, hz⟩ := tabE_ok g h
  exact PT.sub (pt_cmpR (op_in_kd kd) ha hp (mark_ok hs)) fun σ H Q ⟨P, w, env, S, I, h⟩ => tabIn_one hz (thenBl (R := rT k P σ Q) I (f := M.ret) (by
    have : M.bind (dBl (dOp1 (tabInD t) ma)) M.ret = dBl (dOp1 (tabInD t) ma) := by
      funext e s
      unfold M.bind
      cases dBl (dOp1 (tabInD t) ma) e s <;> rfl
    rw [this]; exact h) fun t w1 env1 S1 H1 l1 I1 h1 => ⟨t, rfl, h1.ret H1 I1⟩)
theorem tabIx_ok (g : Good G φ C X k W) {a b : Expr} {t : List (Str × D)} {mb : M D} {pos : Pos} (hb : DO X k W b mb) (h : tabE G C a = some t) (hs : PlainIx b) : DE X k W (.Subscript a b pos) (dOp1 (tabIxD t) mb) := by
  obtain ⟨p, es, n, hp, _, kd, hz⟩ := tabE_ok g h
  refine PE.sub (pe_ix ix_kdict hp hb hs) fun σ H Q ⟨P, w, env, S, I, h⟩ => thenO I h fun dx w1 env1 S1 x H1 l1 I1 r1 h1 => ?_
  obtain ⟨d, e, h3⟩ := h1.getS.opt
  obtain ⟨z, ez⟩ : ∃ z, view env1 S1 dx = .str z := by
    cases q : view env1 S1 dx <;> rw [q] at e <;> first | (cases e; done) | exact ⟨_, rfl⟩
  obtain rfl := view_str ez
  · have e : lkS t z = some d := e
    obtain rfl : x = .str z := r1
    have hz := hz z
    rw [e] at hz
    obtain ⟨u, v, e1, r, e2⟩ := hz
    exact ⟨p, z, v, rfl, rfl, ⟨es, n, u, kd.at_, kd.lit, e1, r⟩, h3.ret _ H1 I1 (e2 w1)⟩
theorem nameO_ok (g : Good G φ C X k W) {x : Str} {p : Pos} : DO X k W (.Name x p) (nameO G C x) := by
  unfold nameO
  split
  · rename_i i e
    obtain ⟨h, m⟩ := tabAt_mem e
    obtain ⟨h1, h2, _, h3⟩ := g.tab _ _ _ m
    exact do_var h1 (Loc.vis h2) h3.1 h3.2.1
  · rename_i i e
    obtain ⟨h, m⟩ := tabAt_mem e
    obtain ⟨h1, h2, h3⟩ := g.tab _ _ _ m
    exact do_var h1 h2 h3.1 h3.2.1
  · rename_i c e
    obtain ⟨h, m⟩ := tabAt_mem e
    obtain ⟨h1, h2, h3⟩ := g.tab _ _ _ m
    exact do_of (con_ok h1 h2 h3)
  · exact do_no
theorem opF_ok {op : Operator} {f : D → D → Option D} (g : Good G φ C X k W) (e : opF op = some f) : ∃ r, OpR X (binaryOp op) r ∧ Op2 X r f := by
  cases op <;> simp only [opF] at e <;> first | contradiction | (cases e)
  · exact ⟨_, or_add, op2_add⟩
  · exact ⟨_, op_sub, op2_sub⟩
  · exact ⟨_, or_mul, op2_mul⟩
  · exact ⟨_, op_mod, op2_mod⟩
  · exact ⟨_, op_pow, op2_pow⟩
  · exact ⟨_, op_fdivW, op2_fdiv⟩
theorem cmF_ok {op : CmpOp} {f : D → D → Option D} (g : Good G φ C X k W) (e : cmF op = some f) : ∃ r, OpR X (compareOp op) r ∧ Op2 X r f := by
  have hu := g.hu
  cases op <;> simp only [cmF] at e <;> first | contradiction | (cases e)
  · exact ⟨_, or_eq (by omega), op2_eq⟩
  · exact ⟨_, or_ne (by omega), op2_ne⟩
  · exact ⟨_, or_lt (by have := g.hu; omega), op2_lt⟩
  · exact ⟨_, op_le, op2_le⟩
  · exact ⟨_, op_gt, op2_gt⟩
  · exact ⟨_, op_ge, op2_ge⟩
  · exact ⟨_, or_is, op2_is false⟩
  · exact ⟨_, or_isnot, op2_is true⟩
  · exact ⟨_, or_in hu, op2_in false⟩
  · exact ⟨_, or_notIn hu, op2_in true⟩
theorem boolE_ok (g : Good G φ C X k W) (dk : DenOk G φ d) {op : BoolOp} {pos : Pos} : ∀ es : List Expr, DE X k W (.BoolOp op es pos) (boolE d C op es)
  | [] => de_no
  | [a] => de_one (dk.E g a)
  | a :: b :: r => by
    cases op
    · exact de_and (dk.E g a) (boolE_ok g dk (b :: r))
    · exact de_or (dk.E g a) (boolE_ok g dk (b :: r))
theorem boolT_ok (g : Good G φ C X k W) (dk : DenOk G φ d) {op : BoolOp} {pos : Pos} : ∀ es : List Expr, DW X k W (.BoolOp op es pos) (boolT d C op es)
  | [] => dw_no
  | [a] => by
    cases op
    · exact dw_and1 (dk.T g a)
    · exact dw_or1 (dk.T g a)
  | a :: b :: r => by
    cases op
    · exact dw_and (dk.T g a) (boolT_ok g dk (b :: r))
    · exact dw_or (dk.T g a) (boolT_ok g dk (b :: r))
theorem argE_ok (g : Good G φ C X k W) (dk : DenOk G φ d) {e : Expr} : DE X k W e (argE d C e) := by
  unfold argE
  split
  · exact de_hp (dk.F g e)
  · exact dk.E g e
theorem args_ok (g : Good G φ C X k W) (dk : DenOk G φ d) {es : List Expr} : DA X k W es (argsE d C es) := by
  unfold argsE
  split
  · rename_i h
    induction es with
    | nil => exact da_nil
    | cons e es ih =>
      rw [List.all_cons, Bool.and_eq_true] at h
      exact da_cons (argE_ok g dk) (ih h.2) (star1 e (notStar_ok h.1) es _)
  · exact da_no
theorem setArg_ok (g : Good G φ C X k W) {e a : Expr} (h : setArg C e = some a) : ∃ y p pos, e = .Call (.Name y p) [a] [] pos ∧ y = "set" ∧ Gl X y ∧ X.mg y = none ∧ ∀ x p, a ≠ .Starred x p := by
  unfold setArg at h
  split at h
  · split at h
    · rename_i et
      split at h
      · rename_i hs
        cases h
        obtain ⟨_, m⟩ := tabAt_mem et
        obtain ⟨hg, hb, hx, hm⟩ := g.tab _ _ _ m
        exact ⟨_, _, _, rfl, hx, hg, hm, notStar_ok hs⟩
      · cases h
    · cases h
  · cases h
theorem types_ok (g : Good G φ C X k W) : ∀ {es : List Expr} {Ts : List String}, typesE C es = some Ts → TyOk X es Ts
  | [], Ts, e => by cases e; trivial
  | e :: es, Ts, h => by
    unfold typesE at h
    split at h
    · cases h; trivial
    · rename_i t p es' hc
      injection hc with hc1 hc2
      subst hc1 hc2
      split at h
      · rename_i b2 e2
        split at h
        · rename_i T Ts' eT eTs
          cases h
          obtain ⟨h2, m2⟩ := tabAt_mem e2
          obtain ⟨g2, n2, r2, q2⟩ := g.tab _ _ _ m2
          subst r2
          refine ⟨⟨_, _, rfl, ?_⟩, types_ok g eTs⟩
          cases b2 <;> simp only [tyN] at eT <;> first | contradiction | (cases eT)
          all_goals exact ⟨by decide, g2, q2, by decide +kernel, n2.2.2, n2.1⟩
        · cases h
      · cases h
    · cases h
theorem slE_ok (g : Good G φ C X k W) {e : Expr} {i : Nat} (h : slE C e = some i) : ∃ y p, e = .Name y p ∧ X.N[i]? = some y ∧ Loc X.env.scope y ∧ NotBad y := by
  unfold slE at h
  split at h
  · split at h
    · rename_i et
      cases h
      obtain ⟨_, m⟩ := tabAt_mem et
      obtain ⟨h1, h2, _, h3⟩ := g.tab _ _ _ m
      exact ⟨_, _, rfl, h1, h2, h3⟩
    · cases h
  · cases h
theorem xcE_ok (g : Good G φ C X k W) {e : Expr} {c : Option Nat} (h : xcE C e = some c) : PE X e (tC (clsV k c)) ∧ ∀ x p, e ≠ .Starred x p := by
  unfold xcE at h
  split at h
  · refine ⟨?_, fun _ _ z => by cases z⟩
    split at h
    · rename_i et
      cases h
      obtain ⟨_, m⟩ := tabAt_mem et
      obtain ⟨hg, hb, hm, _⟩ := g.tab _ _ _ m
      exact pe_glob hg hm rfl hb.1
    · rename_i et
      cases h
      obtain ⟨_, m⟩ := tabAt_mem et
      obtain ⟨hg, hb, hx, hm⟩ := g.tab _ _ _ m
      subst hx
      exact pe_bltn hg hm PyProof.Rows.Boot.«ValueError» (v := .ty "ValueError") rfl (by decide) (by decide)
    · cases h
  · cases h
theorem xcGo_ok (g : Good G φ C X k W) : ∀ {es : List Expr} {cs : List (Option Nat)}, xcGo C es = some cs → XcE X k es cs
  | [], cs, h => by cases h; trivial
  | e :: es, cs, h => by
    unfold xcGo at h
    split at h
    · rename_i c cs' e1 e2
      cases h
      exact ⟨xcE_ok g e1, xcGo_ok g e2⟩
    · cases h
theorem xcsE_ok (g : Good G φ C X k W) {e : Expr} {cs : List (Option Nat)} (h : xcsE C e = some cs) : (∃ es kk p, e = .Tuple es kk p ∧ XcE X k es cs) ∨ ∃ c, cs = [c] ∧ PE X e (tC (clsV k c)) ∧ ∀ x p, e ≠ .Starred x p := by
  unfold xcsE at h
  split at h
  · exact .inl ⟨_, _, _, rfl, xcGo_ok g h⟩
  · obtain ⟨c, e1, e2⟩ := Option.map_eq_some_iff.mp h
    exact .inr ⟨c, e2.symm, xcE_ok g e1⟩
theorem bltE_ok (g : Good G φ C X k W) (dk : DenOk G φ d) {b : Blt} {x : Str} {p pos : Pos} {es : List Expr} (hg : Gl X x) (hb : NotBad x) (hx : x = b.name) (hm : X.mg x = none) (hh : (!C.hot || hotB b) = true) : DE X k W (.Call (.Name x p) es [] pos) (bltE G d C b es) := by
  subst hx
  have hc : hotB b = false → X.calm = true := fun z => g.calm (by rw [z, Bool.or_false, Bool.not_eq_true'] at hh; exact hh)
  unfold bltE
  split
  · rename_i a
    split
    · rename_i a2 es
      obtain ⟨y, p2, pos2, rfl, hy, hg2, hm2, hs⟩ := setArg_ok g es
      split
      · exact de_no
      rename_i hot
      have hcc : X.calm = true := g.calm (by simpa using hot)
      split
      · exact de_lset g.hk hcc rfl hy hg hm hg2 hm2 (dk.O g a2) hs
      · exact de_fz (df_sset g.hk hcc rfl hy hg hm hg2 hm2 (dk.O g a2) hs)
      · exact de_no
    split
    · rename_i hs
      have hs := notStar_ok hs
      split
      · rename_i f e
        cases b <;> simp only [b1F] at e <;> first | contradiction | (cases e)
        · exact de_call1 (c := .f "len") g.hk cr_len op1_len hg hm (by decide +kernel) hb.2.2 hb.1 (dk.O g a) hs
        · exact de_call1 (c := .t "int") g.hk cr_int op1_int hg hm (by decide +kernel) hb.2.2 hb.1 (dk.O g a) hs
        · exact de_call1 (c := .t "str") g.hk cr_str op1_str hg hm (by decide +kernel) hb.2.2 hb.1 (dk.O g a) hs
        · exact de_call1 (c := .f "all") g.hk (cr_all (hc rfl)) op1_all hg hm (by decide +kernel) hb.2.2 hb.1 (dk.O g a) hs
        · exact de_call1 (c := .f "any") g.hk (cr_any (hc rfl)) op1_any hg hm (by decide +kernel) hb.2.2 hb.1 (dk.O g a) hs
        · exact de_call1 (c := .f "sum") g.hk (cr_sum (hc rfl)) op1_sum hg hm (by decide +kernel) hb.2.2 hb.1 (dk.O g a) hs
        · exact de_call1 (c := .f "min") g.hk (cr_min (hc rfl)) op1_min hg hm (by decide +kernel) hb.2.2 hb.1 (dk.O g a) hs
        · exact de_call1 (c := .f "max") g.hk (cr_max (hc rfl)) op1_max hg hm (by decide +kernel) hb.2.2 hb.1 (dk.O g a) hs
        · exact de_call1 (c := .t "tuple") g.hk cr_tuple op1_tuple hg hm (by decide +kernel) hb.2.2 hb.1 (dk.O g a) hs
      · split
        · rename_i f e
          cases b <;> simp only [bfF] at e <;> first | contradiction | (cases e)
          · exact de_fz (df_call1 (c := .t "list") g.hk cr_list opf_list hg hm (by decide +kernel) hb.2.2 hb.1 (dk.O g a) hs)
          · exact de_fz (df_call1 (c := .f "sorted") g.hk ((cr_sorted.or cr_sortedS).or (cr_sortD g.hu)) opf_sortedX hg hm (by decide +kernel) hb.2.2 hb.1 (dk.O g a) hs)
          · exact de_fz (df_call1 (c := .t "dict") g.hk (call_dictP (hc rfl)) opf_dict hg hm (by decide +kernel) hb.2.2 hb.1 (dk.O g a) hs)
        · exact de_no
    · exact de_no
  · rename_i a c
    split
    · rename_i hs
      rw [Bool.and_eq_true] at hs
      have hs1 := notStar_ok hs.1
      have hs2 := notStar_ok hs.2
      split
      · split
        · rename_i cs i ec ei
          obtain ⟨y, p1, rfl, hN, hl, hnb⟩ := slE_ok g ei
          split
          · rename_i hz
            rcases xcsE_ok g ec with ⟨es, kk, p2, rfl, he⟩ | ⟨cc, rfl, he, hs'⟩
            · exact de_isXT g.hk g.xok g.su hN (Loc.vis hl) hnb.1 hnb.2.1 rfl hg hm he hz
            · exact de_isX1 g.hk g.xok g.su hN (Loc.vis hl) hnb.1 hnb.2.1 rfl hg hm he hs'
          · exact de_no
        split
        · rename_i t p2
          split
          · rename_i b2 e2
            split
            · rename_i T eT
              obtain ⟨h2, m2⟩ := tabAt_mem e2
              obtain ⟨g2, n2, r2, q2⟩ := g.tab _ _ _ m2
              subst r2
              cases b2 <;> simp only [tyN] at eT <;> first | contradiction | (cases eT)
              all_goals exact de_isi g.hk rfl (by decide) hg hm g2 q2 (by decide +kernel) n2.2.2 n2.1 (dk.O g a) hs1
            · exact de_no
          · exact de_no
        · split
          · rename_i Ts eTs
            split
            · rename_i hz
              exact de_isiT g.hk rfl (types_ok g eTs) hz hg hm (dk.O g a) hs1
            · exact de_no
          · exact de_no
        · exact de_no
      · split
        · rename_i f e
          cases b <;> simp only [b2F] at e <;> first | contradiction | (cases e)
          · exact de_call2 (c := .f "min") g.hk (call_min2 (hc rfl)) op2_min2 hg hm (by decide +kernel) hb.2.2 hb.1 (dk.O g a) (dk.O g c) hs1 hs2
          · exact de_call2 (c := .f "max") g.hk (call_max2 (hc rfl)) op2_max2 hg hm (by decide +kernel) hb.2.2 hb.1 (dk.O g a) (dk.O g c) hs1 hs2
        · exact de_no
    · exact de_no
  · exact de_no
theorem args_ne {es : List Expr} {α : Type} {f : List D → M α} (h : (es.all notStar) = false) : M.bind (argsE d C es) f = M.fail := by
  unfold argsE
  rw [if_neg (by rw [h]; exact Bool.false_ne_true)]
  rfl
theorem fnE_ok (g : Good G φ C X k W) (dk : DenOk G φ d) {x : Str} {i : Nat} {p pos : Pos} {es : List Expr} (hot : C.hot = false) (hg : Gl X x) (hb : NotBad x) (h : GdOk X k G φ x (.fn i)) : DE X k W (.Call (.Name x p) es [] pos) (fnE G φ d C i es) := by
  obtain ⟨f, hm, hkp, fd, ps, lv, F, hr, hbn⟩ := h (g.calm hot)
  unfold fnE
  cases es with
  | nil => exact de_call0 F (hr.mono (Nat.le_succ _)) hg hm hkp hbn g.tk hb.1
  | cons e es =>
    cases hs : (e :: es).all notStar with
    | false => rw [args_ne hs]; exact de_no
    | true => exact de_call F (hr.mono (Nat.le_succ _)) hg hm hkp hbn g.tk (args_ok g dk) hb.1 (notStars_ok hs)
theorem clsE_ok (g : Good G φ C X k W) (dk : DenOk G φ d) {x : Str} {c i : Nat} {p pos : Pos} {es : List Expr} (hot : C.hot = false) (hg : Gl X x) (hb : NotBad x) (h : GdOk X k G φ x (.cls c i)) : DE X k W (.Call (.Name x p) es [] pos) (clsE G φ d C c i es) := by
  obtain ⟨f, hm, hmk, fd, ps, lv, F, hr, hbn⟩ := h (g.calm hot)
  unfold clsE
  cases es with
  | nil => exact de_make0 hmk F hr hg hm hbn g.tk hb.1
  | cons e es =>
    cases hs : (e :: es).all notStar with
    | false =>
      unfold dMake
      rw [args_ne hs]; exact de_no
    | true => exact de_make hmk F hr hg hm hbn g.tk (args_ok g dk) hb.1 (notStars_ok hs)
theorem insAny_of {S : Sto} {d : D} {c : Nat} {fs : List (Str × D)} (e : insAny S d = some (c, fs)) : ∃ n, insOf c S d = some (n, fs) := by
  cases d <;> simp only [insAny] at e <;> try contradiction
  rename_i n
  cases es : S[n]? with
  | none => rw [es] at e; cases e
  | some cc =>
    rw [es] at e
    cases cc with
    | ins c' fs' =>
      cases e
      exact ⟨n, by simp only [insOf]; rw [es]; exact if_pos rfl⟩
    | _ => cases e
theorem meths_ok (g : Good G φ C X k W) (dk : DenOk G φ d) {m : Str} {l : List (Nat × Nat)} {o : Expr} {es : List Expr} {apos pos : Pos} {pl : Sem Bool} (hs : ∀ q ∈ es, ∀ x p, q ≠ .Starred x p)
    (hM : ∀ c i, lkc l c = some i → ∃ f, Cls X.K (k.cl c) ∧ Meth X.K (k.cl c) m f ∧ FnHas X k G φ i f)
    (ht : eval (.Call (.Attribute o m apos) es [] pos) X.env = (do
      let ov ← eval o X.env
      standAt apos.atName
      let (f, first) ← holding [ov] (getMethod ov m pl)
      callWith pos f first (backTo pos (starEach es X.env)) (backToKw pos (keywordEach [] X.env)))) : DE X k W (.Call (.Attribute o m apos) es [] pos) (dMeths G φ l m (d.E C o) (argsE d C es)) := by
  refine ⟨fun pins s σ H Q I h => ?_⟩
  obtain ⟨P, w, env, S, J, h⟩ := h
  refine methcall_of (pl := pl) (dk.E g o) I (thenE J h fun x w1 env1 S1 v H1 l1 I1 r1 h1 => ?_) ht
  cases ei : insAny S1 x with
  | none => rw [ei] at h1; exact h1.elim
  | some nf =>
    obtain ⟨c, fs⟩ := nf
    rw [ei] at h1
    dsimp only at h1
    cases el : lkc l c with
    | none => rw [el] at h1; exact h1.elim
    | some i =>
      rw [el] at h1
      dsimp only at h1
      obtain ⟨f, hcl, hmt, fd, ps, lv, F, hr, hb⟩ := hM c i el
      obtain ⟨hn, h1⟩ := aft_len (m := (M.bind (argsE d C es) fun ds => if (x :: ds).length = G.ar.getD i 0 then (fun env S => (φ i (x :: ds) S).out env) else M.fail)) (c := lookF m fs = none) (by
        by_cases hc : lookF m fs = none
        · rw [if_pos hc] at h1 ⊢; exact h1
        · rw [if_neg hc] at h1; exact h1.elim)
      obtain ⟨nn, ei⟩ := insAny_of ei
      obtain ⟨ed, eS, aa, dx, fv, rfl, rr, hH, q1, q2⟩ := insOf_ok I1.rs r1 ei
      refine ⟨aa, k.cl c, dx, fv, f, rfl, hH, hcl, hmt, ?_, fun s1 J1 => ?_⟩
      · rw [lookF_eq]; exact (lookF_rep q1 q2).1 hn
      have body : ∀ {ds w2 env2 S2 vs H2}, Wd.Le w1 w2 → RB k P w2 env2 S2 σ H2 → Reps k w2 ds vs → Aft k W P w2 ((if (x :: ds).length = G.ar.getD i 0 then (fun env S => (φ i (x :: ds) S).out env) else M.fail : M D) env2 S2) (rE k P σ Q) → spOf k (G.ar.getD i 0) (φ i) (.ref aa :: vs) H2 Q (WE W σ) := fun {ds w2 env2 S2 vs H2} l2 I2 r2 h2 => by
        obtain ⟨hl, h2⟩ := if_ok h2
        exact call_sp (ds := x :: ds) I2 ⟨_, _, rfl, Rep.mono l2 x r1, r2⟩ hl h2
      have hr0 : Room lv X.A := hr.mono (Nat.le_succ _)
      cases es with
      | nil =>
        have h2 : Aft k W P w1 ((if (x :: []).length = G.ar.getD i 0 then (fun env S => (φ i (x :: []) S).out env) else M.fail : M D) env1 S1) (rE k P σ Q) := h1
        obtain ⟨hl, h2⟩ := if_ok h2
        exact PySem.W.callWith_K0 (first := [.ref aa]) J1.kIn hmt.kp (run_fnD (us := [.ref aa]) (vs := [.ref aa]) F hr0 hb (passAt g.tk σ) J1 (.cons rfl .nil) (call_sp (ds := [x]) I1 (Reps.one r1) hl h2))
      | cons e es =>
        refine PySem.W.callWith_K (first := [.ref aa]) (h₀ := X.base) I.ok.mod.kin hmt.kp (thn ((args_ok g dk (es := e :: es)).run pos pins s1 σ H1 _ J1 (thenA I1 h1 fun ds w2 env2 S2 vs H2 l2 I2 r2 h2 => body l2 I2 r2 h2)) fun us s2 ⟨vs, H2, I2, r, q2⟩ => ⟨I2.kIn, ?_⟩) (star1 e (hs e List.mem_cons_self) es _) (star_false es (fun q hq => hs q (List.mem_cons_of_mem _ hq)) _ _)
        exact run_fnD (us := .ref aa :: us) (vs := .ref aa :: vs) F hr0 hb (passAt g.tk σ) I2 (.cons rfl r) q2
theorem de_mutE (g : Good G φ C X k W) (dk : DenOk G φ d) {T id : String} {name : Str} {r : V → List V → Hp → VK → Prop} {f : Cell → List D → Option (Cell × D)} {o e : Expr} {es : List Expr} {apos pos : Pos} (slot : PySem.Slot "list" name id) (ty : typeOf (.builtin id) = pure (.type "method_descriptor")) (hm : MtR X id r) (hf : OpMt X r f)
    (h1 : notC0 o = true) (h2 : (apos.endLine == pos.line) = true) (h3 : ∀ q ∈ e :: es, ∀ x p, q ≠ .Starred x p) (h4 : (e :: es).length < 20) : DE X k W (.Call (.Attribute o name apos) (e :: es) [] pos) (dMut f (d.O C o) (argsE d C (e :: es))) :=
  PE.sub (pe_bm PySem.F.plainAttrs_list slot ty hm (dk.O g o) (args_ok g dk) (ab_ok h1) (few_ok h3 h4) h2 (star1 e (h3 e List.mem_cons_self) es _) (star_false es (fun q hq => h3 q (List.mem_cons_of_mem _ hq)) _ _)) fun σ H Q h => mut_ok g.hk hf h
theorem mut0_ok {r : V → List V → Hp → VK → Prop} {f : Cell → List D → Option (Cell × D)} (hk : k.K = X.K) (hf : OpMt X r f) {mo : M D} {σ : L2.St} {H : Hp} {Q : VK} (h : tE k W (dMut f mo dNil) σ H Q) : tBM0 X.K "list" r (tO k W mo) σ H Q := by
  obtain ⟨P, w, env, S, I, h⟩ := mut_ok hk hf h
  refine ⟨P, w, env, S, I, h.imp fun x w1 env1 S1 l1 q v H1 I1 r1 => ?_⟩
  obtain ⟨ty, P2, w2, env2, S2, I2, h2⟩ := q v H1 I1 r1
  exact ⟨ty, h2.ret [] H1 I2 rfl⟩
theorem de_mut0 (g : Good G φ C X k W) (dk : DenOk G φ d) {id : String} {name : Str} {r : V → List V → Hp → VK → Prop} {f : Cell → List D → Option (Cell × D)} {o : Expr} {apos pos : Pos} (slot : PySem.Slot "list" name id) (ty : typeOf (.builtin id) = pure (.type "method_descriptor")) (hm : MtR X id r) (hf : OpMt X r f)
    (h1 : notC0 o = true) (h2 : (apos.endLine == pos.line) = true) : DE X k W (.Call (.Attribute o name apos) [] [] pos) (dMut f (d.O C o) (argsE d C [])) :=
  PE.sub (pe_bm0 PySem.F.plainAttrs_list slot ty hm (dk.O g o) (ab_ok h1) h2) fun σ H Q h => mut0_ok g.hk hf h
theorem textE_ok (g : Good G φ C X k W) (dk : DenOk G φ d) {m : Str} {mn : Mn} {o : Expr} {es : List Expr} {apos pos : Pos} (hno : ∀ l, mn ≠ .own l) (hmn : MnOk X k G φ m mn) (h1 : notC0 o = true) (h2 : (apos.endLine == pos.line) = true) (h3 : ∀ q ∈ es, ∀ x p, q ≠ .Starred x p) :
    DE X k W (.Call (.Attribute o m apos) es [] pos) (textE d C mn o es) := by
  unfold textE
  split
  · split
    · rename_i f e
      cases mn <;> simp only [s0F] at e <;> first | contradiction | (cases e)
      all_goals (have hmn : m = _ := hmn; subst hmn)
      · exact de_sm0 (f := upperD) PySem.F.slot_str_upper PySem.F.type_str_upper mt_upper (fun s d H Q v e hv q => by
          unfold upperD at e
          split at e
          · cases e; have := hv k ⟨fun _ => none, fun _ => none⟩; cases this; exact ⟨s, rfl, rfl, by assumption, q⟩
          · cases e) (fun s d e => by
          unfold upperD at e
          split at e
          · cases e; exact ⟨_, fun _ _ => rfl⟩
          · cases e) (dk.O g o) (ab_ok h1) h2
      · exact de_sm0 (f := lowerD) PySem.F.slot_str_lower PySem.F.type_str_lower mt_lower (fun s d H Q v e hv q => by
          unfold lowerD at e
          split at e
          · cases e; have := hv k ⟨fun _ => none, fun _ => none⟩; cases this; exact ⟨s, rfl, rfl, by assumption, q⟩
          · cases e) (fun s d e => by
          unfold lowerD at e
          split at e
          · cases e; exact ⟨_, fun _ _ => rfl⟩
          · cases e) (dk.O g o) (ab_ok h1) h2
      · exact de_sm0 (f := isdigitD) PySem.F.slot_str_isdigit PySem.F.type_str_isdigit mt_isdigit (fun s d H Q v e hv q => by
          cases e; have := hv k ⟨fun _ => none, fun _ => none⟩; cases this; exact ⟨s, rfl, rfl, trivial, q⟩) (fun s d e => by
          cases e; exact ⟨_, fun _ _ => rfl⟩) (dk.O g o) (ab_ok h1) h2
      · exact de_sm0 (f := stripD) PySem.F.slot_str_strip PySem.F.type_str_strip mt_strip (fun s d H Q v e hv q => by
          unfold stripD at e
          split at e
          · cases e; have := hv k ⟨fun _ => none, fun _ => none⟩; cases this; exact ⟨s, rfl, rfl, by assumption, q⟩
          · cases e) (fun s d e => by
          unfold stripD at e
          split at e
          · cases e; exact ⟨_, fun _ _ => rfl⟩
          · cases e) (dk.O g o) (ab_ok h1) h2
    · exact de_no
  · rename_i a
    have hs : ∀ x p, a ≠ .Starred x p := h3 a List.mem_cons_self
    split
    · rename_i f e
      cases mn <;> simp only [s1F] at e <;> first | contradiction | (cases e)
      all_goals (have hmn : m = _ := hmn; subst hmn)
      · exact de_sm1 g.hk PySem.F.slot_str_split PySem.F.type_str_split mt_split sm_split (dk.O g o) (dk.O g a) hs (ab_ok h1) h2
      · exact de_sm1 g.hk PySem.F.slot_str_join PySem.F.type_str_join mt_join sm_join (dk.O g o) (dk.O g a) hs (ab_ok h1) h2
      · exact de_sm1 g.hk PySem.F.slot_str_partition PySem.F.type_str_partition mt_partition sm_part (dk.O g o) (dk.O g a) hs (ab_ok h1) h2
      · exact de_sm1 g.hk PySem.F.slot_str_count PySem.F.type_str_count mt_count (sm_str (gd := fun a b => .int (Txt.count a b)) fun _ _ _ _ => rfl) (dk.O g o) (dk.O g a) hs (ab_ok h1) h2
      · exact de_sm1 g.hk PySem.F.slot_str_find PySem.F.type_str_find mt_find (sm_str (gd := fun a b => .int (Txt.find a b)) fun _ _ _ _ => rfl) (dk.O g o) (dk.O g a) hs (ab_ok h1) h2
      · exact de_sm1 g.hk PySem.F.slot_str_startswith PySem.F.type_str_startswith mt_startswith (sm_str (gd := fun a b => .bl (Txt.startswith a b)) fun _ _ _ _ => rfl) (dk.O g o) (dk.O g a) hs (ab_ok h1) h2
      · exact de_sm1 g.hk PySem.F.slot_str_endswith PySem.F.type_str_endswith mt_endswith (sm_str (gd := fun a b => .bl (Txt.endswith a b)) fun _ _ _ _ => rfl) (dk.O g o) (dk.O g a) hs (ab_ok h1) h2
    · exact de_no
  · exact de_no
theorem methE_ok (g : Good G φ C X k W) (dk : DenOk G φ d) {m : Str} {o : Expr} {es : List Expr} {apos pos : Pos} : DE X k W (.Call (.Attribute o m apos) es [] pos) (methE G φ d C m o es apos pos) := by
  unfold methE
  split
  · rename_i h
    rw [Bool.and_eq_true, Bool.and_eq_true, Bool.and_eq_true] at h
    obtain ⟨h1, h2, h3, h4⟩ := h
    have h4 : es.length < 20 := of_decide_eq_true h4
    have h3 := notStars_ok h3
    split
    · rename_i l e
      obtain ⟨hh, mm⟩ := lkAt_mem e
      split
      · rename_i hot
        exact meths_ok g dk h3 (g.mth _ _ _ mm (g.calm (by simpa using hot))) (meth_ok h1 h2 h3 h4)
      · exact de_no
    · rename_i mn hno e
      obtain ⟨hh, mm⟩ := lkAt_mem e
      have hmn := g.mth _ _ _ mm
      split
      · rename_i f ef
        cases es with
        | nil =>
          cases mn <;> simp only [mutF, List.length_nil] at ef <;> first | contradiction | (cases ef)
          all_goals (have hmn : m = _ := hmn; subst hmn)
          · exact de_mut0 g dk PySem.F.slot_list_pop PySem.F.type_list_pop mt_pop om_pop h1 h2
          · exact de_mut0 g dk PySem.F.slot_list_clear PySem.F.type_list_clear mt_clear om_clear h1 h2
          · exact de_mut0 g dk PySem.F.slot_list_reverse PySem.F.type_list_reverse mt_reverse om_reverse h1 h2
        | cons e es =>
          cases es with
          | nil =>
            cases mn <;> simp only [mutF, List.length_nil, List.length_cons] at ef <;> first | contradiction | (cases ef)
            all_goals (have hmn : m = _ := hmn; subst hmn)
            · exact de_mutE (T := "list") g dk PySem.F.slot_list_append PySem.F.type_list_append mt_append om_append h1 h2 h3 h4
            · exact de_mutE (T := "list") g dk PySem.F.slot_list_pop PySem.F.type_list_pop mt_popAt om_popAt h1 h2 h3 h4
            · exact de_mutE (T := "list") g dk PySem.F.slot_list_extend PySem.F.type_list_extend mt_extend om_extend h1 h2 h3 h4
          | cons e2 es2 =>
            cases es2 with
            | nil =>
              cases mn <;> simp only [mutF, List.length_nil, List.length_cons] at ef <;> first | contradiction | (cases ef)
              all_goals (have hmn : m = _ := hmn; subst hmn)
              · exact de_mutE (T := "list") g dk PySem.F.slot_list_insert PySem.F.type_list_insert mt_insert om_insert h1 h2 h3 h4
            | cons e3 es3 => cases mn <;> simp only [mutF, List.length_nil, List.length_cons] at ef <;> first | contradiction | (cases ef)
      · split
        · have hmn : m = _ := hmn
          subst hmn
          exact de_lm1 g.hk PySem.F.slot_list_index PySem.F.type_list_index mt_index lm_index (dk.O g o) (dk.O g _) (h3 _ List.mem_cons_self) (ab_ok h1) (few_ok h3 h4) h2
        · have hmn : m = _ := hmn
          subst hmn
          refine ⟨fun pins s σ H Q I ⟨P, w, env, S, J, h⟩ => ?_⟩
          unfold dCount at h
          split at h
          · exact (de_sm1 g.hk PySem.F.slot_str_count PySem.F.type_str_count mt_count (sm_str (gd := fun a b => .int (Txt.count a b)) fun _ _ _ _ => rfl) (dk.O g o) (dk.O g _) (h3 _ List.mem_cons_self) (ab_ok h1) h2).run pins s σ H Q I ⟨P, w, env, S, J, h⟩
          · exact (de_lm1 g.hk PySem.F.slot_list_count PySem.F.type_list_count mt_countF lm_count (dk.O g o) (dk.O g _) (h3 _ List.mem_cons_self) (ab_ok h1) (few_ok h3 h4) h2).run pins s σ H Q I ⟨P, w, env, S, J, h⟩
        · exact textE_ok g dk (fun l z => hno l z) hmn h1 h2 h3
    · exact de_no
  · exact de_no
theorem callE_ok (g : Good G φ C X k W) (dk : DenOk G φ d) {f : Expr} {es : List Expr} {kws : List Keyword} {pos : Pos} : DE X k W (.Call f es kws pos) (callE G φ d C f es kws pos) := by
  unfold callE
  split
  · split
    · rename_i x p
      split
      · rename_i b e
        obtain ⟨h, m⟩ := tabAt_mem e
        obtain ⟨h1, h2, h3⟩ := g.tab _ _ _ m
        split
        · rename_i hh
          exact bltE_ok g dk h1 h2 h3.1 h3.2 hh
        · exact de_no
      · rename_i i e
        obtain ⟨h, m⟩ := tabAt_mem e
        obtain ⟨h1, h2, h3⟩ := g.tab _ _ _ m
        split
        · rename_i hh
          exact fnE_ok g dk (by simpa using hh) h1 h2 h3
        · exact de_no
      · rename_i c i e
        obtain ⟨h, m⟩ := tabAt_mem e
        obtain ⟨h1, h2, h3⟩ := g.tab _ _ _ m
        split
        · rename_i hh
          exact clsE_ok g dk (by simpa using hh) h1 h2 h3
        · exact de_no
      · exact de_no
    · exact methE_ok g dk
    · exact de_no
  · exact de_no
end
end L2.MP
end
section
set_option Elab.async false
set_option linter.all false
set_option maxRecDepth 100000
set_option maxHeartbeats 4000000
namespace L2.MP
open PySem PySem.Spec PyProof.Rows
section
variable {G : Gm} {φ : Nat → Fn} {d : Den} {C : Ct} {X : Cx} {k : Ky} {W : WX}
theorem opt_ok (g : Good G φ C X k W) (dk : DenOk G φ d) : ∀ e : Option Expr, PO X e (tPt k W (dPart (optO d C e)))
  | none => dp_none
  | some e => dp_some (dk.E g e)
theorem cmp_ok (g : Good G φ C X k W) (dk : DenOk G φ d) {op : CmpOp} {f : D → D → Option D} {a b : Expr} {pos : Pos} (hs : notSet b = true) (e : cmF op = some f) : DE X k W (.Compare a [op] [b] pos) (dOp2 f (d.O C a) (d.O C b)) ∧ DT X k W (.Compare a [op] [b] pos) (dBl (dOp2 f (d.O C a) (d.O C b))) := by
  obtain ⟨r, h1, h2⟩ := cmF_ok g e
  exact ⟨de_cmp g.hk h1 h2 (dk.O g a) (dk.O g b) (mark_ok hs), dt_cmp g.hk h1 h2 (dk.O g a) (dk.O g b) (mark_ok hs)⟩
theorem chainE_ok (g : Good G φ C X k W) (dk : DenOk G φ d) {op op' : CmpOp} {f f' : D → D → Option D} {a b c : Expr} {pos : Pos} (hs : notSet c = true) (e : cmF op = some f) (e' : cmF op' = some f') : DE X k W (.Compare a [op, op'] [b, c] pos) (dChain f f' (d.O C a) (d.O C b) (d.O C c)) ∧ DT X k W (.Compare a [op, op'] [b, c] pos) (dBl (dChain f f' (d.O C a) (d.O C b) (d.O C c))) := by
  obtain ⟨r, h1, h2⟩ := cmF_ok g e
  obtain ⟨r', h1', h2'⟩ := cmF_ok g e'
  exact ⟨de_chain g.hk h1 h1' h2 h2' (dk.O g a) (dk.O g b) (dk.O g c) (marks_ok hs), dt_chain g.hk h1 h1' h2 h2' (dk.O g a) (dk.O g b) (dk.O g c) (marks_ok hs)⟩
theorem expE_ok (g : Good G φ C X k W) (dk : DenOk G φ d) (e : Expr) : DE X k W e (expE G φ d C e) := by
  have hu := g.hu
  unfold expE
  split
  · exact de_int
  · exact de_bl
  · exact de_non
  · exact de_str
  · exact name_ok g
  · split
    · rename_i f e
      obtain ⟨r, h1, h2⟩ := opF_ok g e
      exact de_op g.hk h1 h2 (dk.O g _) (dk.O g _)
    · exact de_no
  · split
    · exact de_not (dk.E g _)
    · exact de_un g.hk un_neg op1_neg (dk.O g _)
    · exact de_no
  · exact boolE_ok g dk _
  · split
    · split
      · split
        · exact tabIn_ok g (dk.O g _) (by assumption)
        · exact de_no
      split
      · rename_i hs
        split
        · exact (cmp_ok g dk hs (by assumption)).1
        · exact de_no
      · exact de_no
    · split
      · rename_i hs
        split
        · exact (chainE_ok g dk hs (by assumption) (by assumption)).1
        · exact de_no
      · exact de_no
    · exact de_no
  · exact de_if (dk.T g _) (dk.E g _) (dk.E g _)
  · split
    · exact de_sl g.hk (dk.O g _) (opt_ok g dk _) (opt_ok g dk _)
    · exact de_rev g.hk (dk.O g _)
    · exact de_stp g.hk (dk.O g _) (dk.E g _)
    · split
      · rename_i hp
        split
        · exact tabIx_ok g (dk.O g _) (by assumption) (plainIx_ok hp)
        · exact de_ix g.hk (or_ix (by omega)) op2_ix (dk.O g _) (dk.O g _) (plainIx_ok hp)
      · exact de_no
  · split
    · split
      · split
        · rename_i et
          obtain ⟨h, m⟩ := tabAt_mem et
          obtain ⟨h1, h2, _, h3⟩ := g.tab _ _ _ m
          exact de_xf g.hk g.xok g.su h1 (Loc.vis h2) h3.1 h3.2.1
        · exact de_no
      · exact de_no
    split
    · rename_i hc
      split
      · rename_i cs e
        obtain ⟨h, m⟩ := lkAt_mem e
        exact de_fld (g.fld _ _ _ m) (dk.E g _) (ab_ok hc)
      · exact de_no
    · exact de_no
  · exact de_tup (args_ok g dk)
  · exact de_fz (dk.F g _)
  · exact de_fz (dk.F g _)
  · exact de_fz (dk.F g _)
  · exact callE_ok g dk
  · exact de_no
theorem expO_ok (g : Good G φ C X k W) (dk : DenOk G φ d) (e : Expr) : DO X k W e (expO G φ d C e) := by
  unfold expO
  split
  · exact nameO_ok g
  · exact do_of (expE_ok g dk _)
theorem expT_ok (g : Good G φ C X k W) (dk : DenOk G φ d) (e : Expr) : DT X k W e (expT G d C e) := by
  unfold expT
  split
  · exact dt_not (dk.T g _)
  · exact (boolT_ok g dk _).pt
  · split
    · split
      · split
        · exact tabInT_ok g (dk.O g _) (by assumption)
        · exact dt_no
      split
      · rename_i hs
        split
        · exact (cmp_ok g dk hs (by assumption)).2
        · exact dt_no
      · exact dt_no
    · split
      · rename_i hs
        split
        · exact (chainE_ok g dk hs (by assumption) (by assumption)).2
        · exact dt_no
      · exact dt_no
    · exact dt_no
  · split
    · rename_i hp
      exact dt_tru g.hk (dk.O g _) (plainT_ok hp)
    · exact dt_no
theorem tgN_ok (g : Good G φ C X k W) {x : Str} {i : Nat} (e : tgN C x = some i) : X.N[i]? = some x ∧ Loc X.env.scope x ∧ (X.fn x = true ∨ X.env.scope.names.lookup x = some .local) ∧ NotBad x := by
  unfold tgN at e
  split at e
  · rename_i j et
    cases e
    obtain ⟨h, m⟩ := tabAt_mem et
    exact g.tab _ _ _ m
  · cases e
mutual
theorem tgD_ok (g : Good G φ C X k W) {vs : List Nat} : ∀ (n : Nat) {e : Expr} {t : Tgt} {us : List Nat}, tgD C n e = some (t, us) → (∀ i ∈ us, i ∈ vs) → PG X e (tG k vs t)
  | 0, e, t, us, h, _ => by simp [tgD] at h
  | n + 1, e, t, us, h, hv => by
    unfold tgD at h
    split at h
    · obtain ⟨i, e1, e2⟩ := Option.map_eq_some_iff.mp h
      cases e2
      obtain ⟨h1, h2, h3, _⟩ := tgN_ok g e1
      exact dg_name g.nd h1 h2 h3 (hv _ (by simp))
    · split at h
      · cases h
      rename_i hot
      obtain ⟨r, e1, e2⟩ := Option.map_eq_some_iff.mp h
      cases e2
      obtain ⟨ts, us⟩ := r
      obtain ⟨h1, h2, h3⟩ := tgs_ok g n e1 hv
      obtain ⟨a1, a2⟩ := aeach_len (env := X.env) h2
      exact dg_tup g.hk (g.calm (by simpa using hot)) h1 (a1.trans h3) a2
    · cases h
theorem tgs_ok (g : Good G φ C X k W) {vs : List Nat} : ∀ (n : Nat) {es : List Expr} {ts : List Tgt} {us : List Nat}, tgD.go C n es = some (ts, us) → (∀ i ∈ us, i ∈ vs) → PGs X es (tGs k vs ts) ∧ es.all isTg = true ∧ es.length = ts.length
  | n, [], ts, us, h, _ => by
    simp [tgD.go] at h
    obtain ⟨rfl, rfl⟩ := h
    exact ⟨dgs_nil, rfl, rfl⟩
  | n, e :: es, ts, us, h, hv => by
    unfold tgD.go at h
    split at h
    · rename_i a b ea eb
      cases h
      obtain ⟨t1, u1⟩ := a
      obtain ⟨t2, u2⟩ := b
      have i1 := tgD_ok g n ea (fun i hi => hv i (List.mem_append_left _ hi))
      obtain ⟨i2, i3, i4⟩ := tgs_ok g n eb (fun i hi => hv i (List.mem_append_right _ hi))
      have ie : isTg e = true := by
        cases n with
        | zero => simp [tgD] at ea
        | succ n =>
          unfold tgD at ea
          split at ea
          · rfl
          · rfl
          · cases ea
      exact ⟨dgs_cons i1 i2 (aeach_ok ie), by rw [List.all_cons, ie, i3]; rfl, by simp [i4]⟩
    · cases h
end
theorem it_ok (g : Good G φ C X k W) (dk : DenOk G φ d) {tg e : Expr} : DI X k W tg e (itE d C tg e) := by
  unfold itE
  split
  · rename_i x p es pos
    split
    · rename_i et
      obtain ⟨h, m⟩ := tabAt_mem et
      obtain ⟨h1, h2, h3, h4⟩ := g.tab _ _ _ m
      subst h3
      split
      · split
        · rename_i hs
          exact di_rng1 h1 h4 (dk.E g _) (notStar_ok hs)
        · exact di_no
      · split
        · rename_i hs
          rw [Bool.and_eq_true] at hs
          exact di_rng2 h1 h4 (dk.E g _) (dk.E g _) (notStar_ok hs.1) (notStar_ok hs.2)
        · exact di_no
      · exact di_no
    · rename_i et
      obtain ⟨h, m⟩ := tabAt_mem et
      obtain ⟨h1, h2, h3, h4⟩ := g.tab _ _ _ m
      subst h3
      split
      · split
        · rename_i hs
          exact di_enum g.hk h1 h4 (dk.E g _) (notStar_ok hs)
        · exact di_no
      · exact di_no
    · rename_i et
      obtain ⟨h, m⟩ := tabAt_mem et
      obtain ⟨h1, h2, h3, h4⟩ := g.tab _ _ _ m
      subst h3
      split
      · split
        · rename_i hs
          rw [Bool.and_eq_true] at hs
          exact di_zip g.hk h1 h4 (dk.E g _) (dk.E g _) (notStar_ok hs.1) (notStar_ok hs.2)
        · exact di_no
      · exact di_no
    · exact di_walk g.hk (dk.E g _)
  · exact di_walk g.hk (dk.E g _)
theorem slot_has (g : Good G φ C X k W) {h : Nat} {x : Str} {n : Nd} {i : Nat} (m : (h, x, n) ∈ C.tab) (e : slotOf n = some i) : X.N[i]? = some x ∧ NotBad x := by
  have := g.tab _ _ _ m
  cases n <;> simp only [slotOf] at e <;> first | contradiction | cases e
  · exact ⟨this.1, this.2.2.2⟩
  · exact ⟨this.1, this.2.2⟩
  · exact this
theorem glo_has (g : Good G φ C X k W) {h : Nat} {x : Str} {n : Nd} {q : Gd} (m : (h, x, n) ∈ C.tab) (e : gloOf n = some q) : NotBad x ∧ GdOk X k G φ x q := by
  have := g.tab _ _ _ m
  cases n <;> simp only [gloOf] at e <;> first | contradiction | cases e
  · exact this.2
  · exact this
theorem blkTab_mem (g : Good G φ C X k W) {names : List (Str × NameKind)} {h : Nat} {x : Str} {n : Nd} (m : (h, x, n) ∈ blkTab C names) :
    ((∃ i, n = .slo i ∧ X.N[i]? = some x ∧ NotBad x) ∨ (∃ q, n = .bgl q ∧ NotBad x ∧ GdOk X k G φ x q)) ∨ ∃ kd, (x, kd) ∈ names ∧
    ((∃ i, n = .loc i ∧ (kd = .local ∨ kd = .cell) ∧ X.N[i]? = some x ∧ NotBad x) ∨
     (∃ i, n = .frv i ∧ kd = .free ∧ X.N[i]? = some x ∧ NotBad x) ∨
     (∃ q, n = .glo q ∧ kd = .globalImplicit ∧ NotBad x ∧ GdOk X k G φ x q)) := by
  unfold blkTab at m
  rcases List.mem_append.mp m with m | m
  · refine .inr ?_
    obtain ⟨⟨y, kd⟩, h1, h2⟩ := List.mem_filterMap.mp m
    dsimp only at h2
    split at h2
    · rename_i nn _ e
      obtain ⟨i, e1, e2⟩ := Option.map_eq_some_iff.mp h2
      cases e2
      obtain ⟨hh, mm⟩ := tabAt_mem e
      exact ⟨_, h1, .inl ⟨i, rfl, .inl rfl, slot_has g mm e1⟩⟩
    · rename_i nn _ e
      obtain ⟨i, e1, e2⟩ := Option.map_eq_some_iff.mp h2
      cases e2
      obtain ⟨hh, mm⟩ := tabAt_mem e
      exact ⟨_, h1, .inl ⟨i, rfl, .inr rfl, slot_has g mm e1⟩⟩
    · rename_i nn _ e
      obtain ⟨i, e1, e2⟩ := Option.map_eq_some_iff.mp h2
      cases e2
      obtain ⟨hh, mm⟩ := tabAt_mem e
      exact ⟨_, h1, .inr (.inl ⟨i, rfl, rfl, slot_has g mm e1⟩)⟩
    · rename_i nn _ e
      obtain ⟨q, e1, e2⟩ := Option.map_eq_some_iff.mp h2
      cases e2
      obtain ⟨hh, mm⟩ := tabAt_mem e
      exact ⟨_, h1, .inr (.inr ⟨q, rfl, rfl, glo_has g mm e1⟩)⟩
    · cases h2
  · obtain ⟨⟨h', y, nn⟩, h1, h2⟩ := List.mem_filterMap.mp m
    obtain ⟨n', e1, e2⟩ := Option.map_eq_some_iff.mp h2
    cases e2
    unfold inner at e1
    split at e1
    · rename_i i ei
      cases e1
      exact .inl (.inl ⟨i, rfl, slot_has g h1 ei⟩)
    · obtain ⟨q, e3, e4⟩ := Option.map_eq_some_iff.mp e1
      cases e4
      exact .inl (.inr ⟨q, rfl, glo_has g h1 e3⟩)
theorem blk_good (g : Good G φ C X k W) (hot : C.hot = false) {scope : Scope} {s : Shared} {H : Hp} {A : Addr} {cl : List (Str × Addr)} {fp : List Addr} (hb : blkC C.N C.sc scope (blkOwn C scope.names) = true) : Good G φ (blkCt C scope) (X.blk s H scope (compEnvC scope cl A X.env) fp) k W0 := by
  have hb' := hb
  unfold blkC at hb'
  simp only [Bool.and_eq_true, List.all_eq_true, decide_eq_true_eq] at hb'
  obtain ⟨⟨⟨b1, b2⟩, b3⟩, b4⟩ := hb'
  have hsc : (compEnvC scope cl A X.env).scope = relS scope X.env.scope := rfl
  have kd : scope.kind = .function := by
    revert b1
    cases scope.kind <;> simp
  have lk : ∀ x kk, (x, kk) ∈ scope.names → scope.names.lookup x = some kk := fun x kk h => b2 (x, kk) h
  refine { hk := g.hk, N := g.N, nd := g.nd, sc := by show relS scope X.env.scope = relS scope C.sc; rw [g.sc], kind := kd, fnd := fun h => (nomatch h), calm := fun _ => g.calm hot, stk := fun h => (nomatch h), su := fun i a cls dx e => (by rw [g.x0 hot] at e; cases e), x0 := fun _ => g.x0 hot, xok := g.xok, xin := fun _ c f e => g.xin (g.calm hot) c f e, tk := takes0, hu := g.hu, tab := fun h x n m => ?_, fld := g.fld, mth := fun h m n q => ?_ }
  · have up : ∀ q, GdOk X k G φ x q → GdOk (X.blk s H scope (compEnvC scope cl A X.env) fp) k G φ x q := fun q h => by
      cases q <;> exact h
    rcases blkTab_mem g m with (⟨i, rfl, h1⟩ | ⟨q, rfl, h1, h2⟩) | ⟨kk, hm, hn⟩
    · exact h1
    · exact ⟨h1, up _ h2⟩
    have hl := lk x kk hm
    rcases hn with ⟨i, rfl, hk, h1⟩ | ⟨i, rfl, hk, h1⟩ | ⟨q, rfl, hk, a2, a3⟩
    · have h2 : Loc (relS scope X.env.scope) x := by
        rcases hk with hk | hk
        · exact .inl (lookup_relS_keep (by decide) (by rw [hl, hk]))
        · exact .inr (lookup_relS_keep (by decide) (by rw [hl, hk]))
      refine ⟨h1.1, h2, ?_, h1.2⟩
      rcases hk with hk | hk
      · exact .inr (lookup_relS_keep (by decide) (by rw [hl, hk]))
      · refine .inl ?_
        show (scope.names.lookup x == some NameKind.cell) = true
        rw [hl, hk]; rfl
    · refine ⟨h1.1, ?_, h1.2⟩
      have hv : ∃ k', (relS scope X.env.scope).names.lookup x = some k' ∧ (k' = .free ∨ k' = .cell) := by
        show ∃ k', (scope.names.map fun (n, k) => if (k == .free && X.env.scope.kind == .function && X.env.scope.names.lookup n == some .cell) then (n, .cell) else (n, k)).lookup x = some k' ∧ _
        have key : ∀ l : List (Str × NameKind), l.lookup x = some .free → ∃ k', (l.map fun (n, k) => if (k == .free && X.env.scope.kind == .function && X.env.scope.names.lookup n == some .cell) then (n, NameKind.cell) else (n, k)).lookup x = some k' ∧ (k' = .free ∨ k' = .cell) := by
          intro l
          induction l with
          | nil => intro h; cases h
          | cons a r ih =>
            obtain ⟨y, ky⟩ := a
            intro h
            rw [List.lookup_cons] at h
            rw [List.map_cons]
            by_cases hy : x == y
            · rw [hy] at h
              cases h
              dsimp only
              split
              · exact ⟨.cell, by rw [List.lookup_cons, hy], .inr rfl⟩
              · exact ⟨.free, by rw [List.lookup_cons, hy], .inl rfl⟩
            · have hy : (x == y) = false := by simpa using hy
              rw [hy] at h
              obtain ⟨k', e1, e2⟩ := ih h
              refine ⟨k', ?_, e2⟩
              dsimp only
              split <;> (rw [List.lookup_cons, hy]; exact e1)
        exact key _ (by rw [hl, hk])
      obtain ⟨k', e1, e2⟩ := hv
      rcases e2 with rfl | rfl
      · exact .inr (.inr e1)
      · exact .inr (.inl e1)
    · refine ⟨?_, a2, up _ a3⟩
      show (relS scope X.env.scope).names.lookup x = some .globalImplicit
      exact lookup_relS_keep (by decide) (by rw [hl, hk])
  · have := g.mth h m n q
    cases n <;> exact this
theorem ifs_ok {Y : Cx} {C' : Ct} (g : Good G φ C' Y k W) (dk : DenOk G φ d) {ifs : List Expr} : PTs Y ifs (tTt k W (ifsT d C' ifs)) := by
  unfold ifsT
  split
  · exact ⟨fun pins s σ H Q I ⟨P, w, env, S, J, h⟩ => pts_nil.run pins s σ H Q I (h.ret H J)⟩
  · exact pts_one (dk.T g _)
  · exact ⟨fun _ _ _ _ _ _ ⟨_, _, _, _, _, h⟩ => h.elim⟩
theorem comp_parts (g : Good G φ C X k W) (dk : DenOk G φ d) {elt tg it : Expr} {ifs : List Expr} {scope : Scope} : (∀ e pos, e = Expr.ListComp elt [⟨tg, it, ifs, 0⟩] scope pos → DF X k W e (compF d C elt tg it ifs scope)) ∧
    (∀ i y py epos pos, X.N[i]? = some y → Loc X.env.scope y → (X.fn y = true ∨ X.env.scope.names.lookup y = some .local) → PS X (.Assign [.Name y py] (.ListComp elt [⟨tg, it, ifs, 0⟩] scope epos) pos) (tAsg (tF k W (compF d C elt tg it ifs scope)) (gName i))) := by
  have no : (∀ e pos, e = Expr.ListComp elt [⟨tg, it, ifs, 0⟩] scope pos → DF X k W e M.fail) ∧
    (∀ i y py epos pos, X.N[i]? = some y → Loc X.env.scope y → (X.fn y = true ∨ X.env.scope.names.lookup y = some .local) → PS X (.Assign [.Name y py] (.ListComp elt [⟨tg, it, ifs, 0⟩] scope epos) pos) (tAsg (tF k W M.fail) (gName i))) :=
    ⟨fun _ _ _ => df_no, fun _ _ _ _ _ _ _ _ => ⟨fun _ _ _ _ _ _ ⟨_, _, _, _, _, h⟩ => h.elim⟩⟩
  unfold compF
  split
  · rename_i hb
    rw [Bool.and_eq_true, Bool.and_eq_true, Bool.not_eq_true'] at hb
    obtain ⟨hot, hb, hns⟩ := hb
    split
    · rename_i t us et
      split
      · rename_i hv
        have hv : ∀ i ∈ us, i ∈ (blkOwn C scope.names).map (·.2) := fun i hi => of_decide_eq_true (List.all_eq_true.mp hv i hi)
        have ok : BlkOk X.N X.env.scope scope (blkOwn C scope.names) := by rw [g.N, g.sc]; exact blkOk_by hb
        have hg : ∀ (s : Shared) (H : Hp) (A : Addr) (cl : List (Str × Addr)) (fp : List Addr), PG (X.blk s H scope (compEnvC scope cl A X.env) fp) tg (tG k ((blkOwn C scope.names).map (·.2)) t) := fun s H A cl fp => tgD_ok (blk_good g hot hb) 5 et hv
        have ht : ∀ (s : Shared) (H : Hp) (A : Addr) (cl : List (Str × Addr)) (fp : List Addr), PTs (X.blk s H scope (compEnvC scope cl A X.env) fp) ifs (tTt k W0 (ifsT d (blkCt C scope) ifs)) := fun s H A cl fp => ifs_ok (blk_good g hot hb) dk
        have he : ∀ (s : Shared) (H : Hp) (A : Addr) (cl : List (Str × Addr)) (fp : List Addr), PE (X.blk s H scope (compEnvC scope cl A X.env) fp) elt (tE k W0 (d.E (blkCt C scope) elt)) := fun s H A cl fp => dk.E (blk_good g hot hb) elt
        refine ⟨fun e pos ee => ?_, fun i y py epos pos hi hl hf => ?_⟩
        · subst ee
          exact PE.sub (pe_lc (g.calm hot) g.nd (it_ok g dk) ok hg ht he (fold_ok hns)) fun σ H Q h => comp_lc h
        · have sub : ∀ (st : Stmt), PS X st (tAsg (tLc (tI k W (itE d C tg it)) (tG k ((blkOwn C scope.names).map (·.2)) t) (tTt k W0 (ifsT d (blkCt C scope) ifs)) (tE k W0 (d.E (blkCt C scope) elt)) ((blkOwn C scope.names).map (·.2))) (gName i)) →
              PS X st (tAsg (tF k W (dComp (itE d C tg it) t (ifsT d (blkCt C scope) ifs) (d.E (blkCt C scope) elt) ((blkOwn C scope.names).map (·.2)))) (gName i)) := fun st h => PS.sub h fun Dn σ H q => comp_lc q
          refine sub _ ?_
          by_cases hyl : X.env.scope.names.lookup y = some .local
          · by_cases hline : (py.line == epos.line) = true
            · cases ha : (scope.names.any fun (n, k) => n == y && (k == .local || k == .cell)) with
              | false => exact ps_setLc (g.calm hot) g.nd hi hyl (sw_true g.kind hyl hline ha) (it_ok g dk) ok hg ht he (fold_ok hns)
              | true =>
                refine ps_set g.nd hi hl (pe_lc (g.calm hot) g.nd (it_ok g dk) ok hg ht he (fold_ok hns)) ?_ hf
                unfold swapsWith
                simp only [ha]
                simp
            · refine ps_set g.nd hi hl (pe_lc (g.calm hot) g.nd (it_ok g dk) ok hg ht he (fold_ok hns)) ?_ hf
              have hline : (py.line == epos.line) = false := by simpa using hline
              unfold swapsWith
              simp only [Expr.pos, hline]
              simp
          · refine ps_set g.nd hi hl (pe_lc (g.calm hot) g.nd (it_ok g dk) ok hg ht he (fold_ok hns)) ?_ hf
            have hk : (X.env.kindOf y == some NameKind.local) = false := by
              show (X.env.scope.names.lookup y == some NameKind.local) = false
              cases hq : X.env.scope.names.lookup y with
              | none => rfl
              | some q => cases q <;> first | rfl | exact absurd hq hyl
            unfold swapsWith
            simp only [hk]
            simp
      · exact no
    · exact no
  · exact no
theorem pairs_ok (g : Good G φ C X k W) (dk : DenOk G φ d) {pos : Pos} : ∀ {ks : List (Option Expr)} {vs : List Expr}, ks.all (·.isSome) = true → ks.length = vs.length → PPs X pos ks vs ((pairsE d C ks vs).map (tPr k W))
  | [], [], _, _ => pps_nil
  | [], _ :: _, _, h => by simp at h
  | _ :: _, [], _, h => by simp at h
  | none :: _, _ :: _, h, _ => by simp at h
  | some a :: ks, b :: vs, h, hl => pps_cons (dk.E g a) (dk.E g b) (pairs_ok g dk (by simpa using h) (by simpa using hl))
theorem disp_ok (g : Good G φ C X k W) (dk : DenOk G φ d) {ks : List (Option Expr)} {vs : List Expr} {pos : Pos} : DF X k W (.Dict ks vs pos) (dispF d C ks vs) := by
  unfold dispF
  split
  · split
    · exact PE.sub pe_dnewT fun σ H Q ⟨P, w, env, S, I, h⟩ p hp => by
        obtain ⟨I2, L⟩ := I.new (o := .dT []) hp
        exact h.ret p _ _ I2 upd_same ⟨[], rfl, rfl, rfl⟩ L
    · exact PE.sub pe_dnewK fun σ H Q ⟨P, w, env, S, I, h⟩ p hp => by
        obtain ⟨I2, L⟩ := I.new (o := .dK []) hp
        exact h.ret p _ _ I2 upd_same ⟨[], rfl, rfl, rfl⟩ L
  · split
    · rename_i h
      simp only [Bool.and_eq_true, decide_eq_true_eq, Bool.not_eq_true', List.isEmpty_eq_false_iff] at h
      obtain ⟨h1, h2, h3, h4⟩ := h
      exact df_disp (pairs_ok g dk h1 h2) h1 h2 h3 h4
    · exact df_no
theorem expF_ok (g : Good G φ C X k W) (dk : DenOk G φ d) (e : Expr) : DF X k W e (expF d C e) := by
  unfold expF
  split
  · exact df_lst (args_ok g dk)
  · exact disp_ok g dk
  · split
    · exact (comp_parts g dk).1 _ _ rfl
    · exact df_no
  · exact df_sl g.hk (dk.O g _) (opt_ok g dk _) (opt_ok g dk _)
  · rename_i x p a pos
    split
    · exact df_no
    rename_i hot
    have hc : X.calm = true := g.calm (by simpa using hot)
    split
    · rename_i b et
      obtain ⟨h, m⟩ := tabAt_mem et
      obtain ⟨hg, hb, rfl, hm⟩ := g.tab _ _ _ m
      split
      · rename_i a2 es
        obtain ⟨y, p2, pos2, rfl, hy, hg2, hm2, hs⟩ := setArg_ok g es
        split
        · exact df_sset g.hk hc rfl hy hg hm hg2 hm2 (dk.O g a2) hs
        · exact df_no
      split
      · rename_i f e
        split
        · rename_i hs
          have hs := notStar_ok hs
          cases b <;> simp only [bfF] at e <;> first | contradiction | (cases e)
          · exact df_call1 (c := .t "list") g.hk cr_list opf_list hg hm (by decide +kernel) hb.2.2 hb.1 (dk.O g a) hs
          · exact df_call1 (c := .f "sorted") g.hk ((cr_sorted.or cr_sortedS).or (cr_sortD g.hu)) opf_sortedX hg hm (by decide +kernel) hb.2.2 hb.1 (dk.O g a) hs
          · exact df_call1 (c := .t "dict") g.hk (call_dictP hc) opf_dict hg hm (by decide +kernel) hb.2.2 hb.1 (dk.O g a) hs
        · exact df_no
      · exact df_no
    · exact df_no
  · exact df_op g.hk or_add opf_cat (dk.O g _) (dk.O g _)
  · exact df_no
end
end L2.MP
end
section
set_option Elab.async false
set_option linter.all false
set_option maxRecDepth 100000
set_option maxHeartbeats 4000000
namespace L2.MP
open PySem PySem.Spec PyProof.Rows
section
variable {G : Gm} {φ : Nat → Fn} {d : Den} {C : Ct} {X : Cx} {k : Ky} {W : WX}
theorem ds_no {s : Stmt} : DS X k W s M.fail := ds_never
theorem seqS_ok (g : Good G φ C X k W) (dk : DenOk G φ d) (hb : C.blk = none) (hp : PassesOwn (model X.prog X.w) X.A X.env X.xe) : ∀ ss : List Stmt, DSs X k W ss (seqS d C ss)
  | [] => dss_nil
  | [s] => dss_one (dk.S g hb hp s)
  | s :: t :: r => dss_cons (dk.S g hb hp s) (seqS_ok g dk hb hp (t :: r))
theorem setE_ok {i : Nat} {f : Bool} {me : M D} {mf : M Cell} {st : Stmt} (h1 : PS X st (tAsg (tE k W me) (gName i))) (h2 : PS X st (tAsg (tF k W mf) (gName i))) : DS X k W st (setE C i f me mf) := by
  unfold setE
  split
  · exact ds_setHp h2
  · split
    · exact ds_setOwn h2
    · exact ds_set h1
theorem asgS_ok (g : Good G φ C X k W) (dk : DenOk G φ d) (hb : C.blk = none) {tg e : Expr} {pos : Pos} : DS X k W (.Assign [tg] e pos) (asgS G d C tg e pos) := by
  have hu := g.hu
  unfold asgS
  split
  · rename_i x p
    split
    · rename_i i ei
      obtain ⟨h1, h2, h3, _⟩ := tgN_ok g ei
      split
      · split
        · exact setE_ok (as_fz ((comp_parts g dk).2 i x p _ pos h1 h2 h3)) ((comp_parts g dk).2 i x p _ pos h1 h2 h3)
        · exact ds_no
      · split
        · rename_i hn
          exact setE_ok (ps_set g.nd h1 h2 (dk.E g _) (swap_ok hn) h3) (ps_set g.nd h1 h2 (dk.F g _) (swap_ok hn) h3)
        · exact ds_no
    · exact ds_no
  · rename_i es kk p
    split
    · rename_i hc
      rw [Bool.and_eq_true, Bool.and_eq_true] at hc
      split
      · rename_i t us et
        exact ds_asg (ps_asg (dk.E g _) (tgD_ok (vs := us) g 5 et fun i hi => hi) (show swapsWith e (some (.Tuple es kk p)) pos.line X.env = pure false from swap_ok hc.2.1) (stores_ok hc.1) (aeach_one rfl))
      · exact ds_no
    · exact ds_no
  · rename_i o i p
    split
    · rename_i hc
      rw [Bool.and_eq_true] at hc
      refine ds_setIx g.hk (ps_asg (dk.E g _) (pg_sub (dk.O g o) (dk.O g i) (pset_any (by omega)) ?_) (show swapsWith e (some (.Subscript o i p)) pos.line X.env = pure false from swap_ok hc.1) stores_ok2 rfl)
      have hx := hc.2
      intro v
      cases i <;> first | rfl | cases hx
    · exact ds_no
  · split
    · rename_i hc
      split
      · rename_i cs ec
        obtain ⟨h, m⟩ := lkAt_mem ec
        split
        · exact ds_fldF (g.fld _ _ _ m) (dk.E g _) (dk.F g _) (swap_ok hc)
        · exact ds_fld (g.fld _ _ _ m) (dk.E g _) (dk.E g _) (swap_ok hc)
      · exact ds_no
    · exact ds_no
  · exact ds_no
theorem raiseS_ok (g : Good G φ C X k W) (dk : DenOk G φ d) {e : Expr} {pos : Pos} : DS X k W (.Raise (some e) none pos) (raiseS G d C e) := by
  unfold raiseS
  split
  · exact ds_no
  rename_i hot
  have hc : X.calm = true := g.calm (by simpa using hot)
  split
  · split
    · rename_i et
      obtain ⟨_, m⟩ := tabAt_mem et
      obtain ⟨h1, h2, h3, h4, h5, h6⟩ := g.tab _ _ _ m
      split
      · rename_i hn
        exact ds_raise0 F.excBase_ValueError (h6 hn) h3 h4 h5 h1 h2.1 hc g.tk
      · exact ds_no
    · exact ds_no
  · split
    · rename_i et
      obtain ⟨_, m⟩ := tabAt_mem et
      obtain ⟨h1, h2, h3, h4, h5, h6⟩ := g.tab _ _ _ m
      split
      · rename_i f ef
        split
        · rename_i hs
          obtain ⟨fI, fd, ps, lv, T, iC, tI, F1, hr, hb⟩ := g.xin hc _ _ ef
          exact ds_raise1 T iC tI F1 hr hb h1 h3 h2.1 hc g.tk (dk.E g _) (notStar_ok hs)
        · exact ds_no
      · exact ds_no
    · exact ds_no
  · exact ds_no
theorem tr_good (g : Good G φ C X k W) {pn : List (Addr × Obj)} {xe : Value → Shared → Prop} {W' : WX} (tk : Takes (X.tr pn xe) W') (hot : C.hot = false) : Good G φ C (X.tr pn xe) k W' :=
  { hk := g.hk, N := g.N, nd := g.nd, sc := g.sc, kind := g.kind, fnd := g.fnd, calm := g.calm, stk := g.stk, su := fun i a cls dx e => (by rw [g.x0 hot] at e; cases e), x0 := g.x0, xok := g.xok, xin := g.xin, tk := tk, hu := g.hu,
    tab := fun h x n m => by
      have := g.tab h x n m
      cases n <;> first | exact this | (rename_i q; cases q <;> exact this)
    fld := g.fld, mth := fun h m n q => by
      have := g.mth h m n q
      cases n <;> exact this }
theorem suite_good (g : Good G φ C X k W) (hot : C.hot = false) {a : Addr} {pn : List (Addr × Obj)} {k' : Ky} (ek : k'.toKz = k.toKz) (su : SuX (X.suite a pn) k') : Good G φ C.heat (X.suite a pn) k' W0 := by
  obtain ⟨kz, xn⟩ := k
  obtain ⟨kz', xn'⟩ := k'
  cases ek
  refine { hk := g.hk, N := g.N, nd := g.nd, sc := g.sc, kind := g.kind, fnd := g.fnd, calm := fun h => ?_, stk := g.stk, su := su, x0 := fun h => ?_, xok := g.xok, xin := fun h => ?_, tk := takes0, hu := g.hu, tab := fun h x n m => ?_, fld := g.fld, mth := fun h m n q => ?_ }
  · cases h
  · cases h
  · cases h
  · have := g.tab h x n m
    cases n <;> first | exact this | skip
    · rename_i q; cases q <;> first | exact this | exact ⟨this.1, this.2.1, fun h => (nomatch h)⟩
    · rename_i q; cases q <;> first | exact this | exact ⟨this.1, fun h => (nomatch h)⟩
  · have := g.mth h m n q
    cases n <;> first | exact this | exact fun h => (nomatch h)
theorem tryS_ok (g : Good G φ C X k W) (dk : DenOk G φ d) (hb : C.blk = none) {a : List Stmt} {x : Str} {n : Option Str} {b : Stmt} {s : List Stmt} {p pos pos' : Pos} : DS X k W (.Try a [.ExceptHandler (some (.Name x p)) n (b :: s) pos'] [] [] pos) (tryS G d C a x n (b :: s)) := by
  unfold tryS
  split
  · exact ds_no
  rename_i hot
  have hot : C.hot = false := by simpa using hot
  obtain ⟨hs, hf⟩ := g.stk hb
  split
  · rename_i c et
    obtain ⟨_, m⟩ := tabAt_mem et
    obtain ⟨h1, h2, h3, _⟩ := g.tab _ _ _ m
    have hc : Names X x (.ref (k.cl c)) := ⟨h1, h2.1, .inl h3⟩
    have body : ∀ (W : WX) (pn : List (Addr × Obj)) (xe : Value → Shared → Prop), Takes (X.tr pn xe) W → PassesOwn (model X.prog X.w) X.A X.env xe → DSs (X.tr pn xe) k W a (seqS d C a) := fun W' pn xe tk hp => seqS_ok (tr_good g tk hot) dk hb hp a
    split
    · exact ds_tryN hs hf hc g.xok g.tk body fun a' oe cls dd pn hz hd => seqS_ok (suite_good g hot rfl fun i a cls dx e => by rw [g.x0 hot] at e; cases e) dk hb PassesOwn.never _
    · rename_i y
      split
      · rename_i i ei
        split
        · rename_i hl
          obtain ⟨_, m⟩ := tabAt_mem ei
          obtain ⟨q1, q2, _, q3⟩ := g.tab _ _ _ m
          refine ds_tryE hs hf g.nd q1 ?_ (g.x0 hot) hc g.xok g.tk body fun a' oe cls dd pn hz hd => seqS_ok (suite_good g hot (k' := k.at i a' cls dd) rfl fun i2 a2 cls2 dx2 e => ?_) dk hb PassesOwn.never _
          · show X.env.scope.names.lookup y = _
            rw [g.sc]
            simpa using hl
          · cases e
            exact ⟨X, oe, pn, rfl, hz, hd⟩
        · exact ds_no
      · exact ds_no
  · exact ds_no
theorem augS_ok (g : Good G φ C X k W) (dk : DenOk G φ d) {o i e : Expr} {p pos : Pos} {op : Operator} {f : Int → Int → Int} (hp : plainIx i = true) (ef : augF op = some f) : DS X k W (.AugAssign (.Subscript o i p) op e pos) (dAugIx f (d.O C o) (d.O C i) (d.E C e)) := by
  have ha : ∀ ov iv new, augStore i ov iv new = (do holding [new, ov, iv] (setItem ov iv new); release [new, ov, iv] []; pure .next) := by
    intro ov iv new
    cases i <;> first | rfl | cases hp
  cases op <;> simp only [augF] at ef <;> first | contradiction | skip
  · cases ef; exact ds_augIx g.hk (dk.O g _) (dk.O g _) (dk.E g _) ip_add ha
  · cases ef; exact ds_augIx g.hk (dk.O g _) (dk.O g _) (dk.E g _) ip_sub ha
theorem stmS_ok (g : Good G φ C X k W) (dk : DenOk G φ d) (hb : C.blk = none) (hp : PassesOwn (model X.prog X.w) X.A X.env X.xe) (s : Stmt) : DS X k W s (stmS G d C s) := by
  unfold stmS
  split
  · exact raiseS_ok g dk
  · exact tryS_ok g dk hb
  · exact ds_pass
  · exact ds_break
  · exact ds_continue
  · split
    · rename_i hn
      exact ds_expr (dk.E g _) (swap_ok hn)
    · exact ds_no
  · exact ds_retN
  · split
    · exact ds_retHp (dk.F g _)
    · exact ds_ret (dk.E g _)
  · exact ds_if (dk.T g _) (seqS_ok g dk hb hp _) (seqS_ok g dk hb hp _)
  · exact ds_while _ hp (dk.T g _) (seqS_ok g dk hb hp _)
  · split
    · rename_i hn
      rw [Bool.and_eq_true, Bool.not_eq_true'] at hn
      obtain ⟨hot, hn⟩ := hn
      split
      · rename_i t us et
        exact ds_for hp (g.calm hot) (it_ok g dk) (tgD_ok (vs := us) g 5 et fun i hi => hi) (seqS_ok g dk hb hp _) (fold_ok hn)
      · exact ds_no
    · exact ds_no
  · exact asgS_ok g dk hb
  · split
    · rename_i hp
      split
      · rename_i f ef
        exact augS_ok g dk hp ef
      · exact ds_no
    · exact ds_no
  · exact ds_no
end
theorem den_ok {G : Gm} {φ : Nat → Fn} : ∀ n : Nat, DenOk G φ (den G φ n)
  | 0 => ⟨fun _ _ => de_no, fun _ _ => do_no, fun _ _ => df_no, fun _ _ => dt_no, fun _ _ _ _ => ds_no⟩
  | n + 1 => ⟨fun g e => expE_ok g (den_ok n) e, fun g e => expO_ok g (den_ok n) e, fun g e => expF_ok g (den_ok n) e, fun g e => expT_ok g (den_ok n) e, fun g hb hp s => stmS_ok g (den_ok n) hb hp s⟩
def bodyM (G : Gm) (φ : Nat → Fn) (n : Nat) (dm : DefM) : M Flo := seqS (den G φ n) dm.C dm.body
section
variable {P : Program} {w : World} {K : PySem.W.Frag} {mg : Str → Option Value} {base : Heap} {k : Ky}
theorem start_rb {Pp : Hp} {ww : Wd} {S : Sto} {H : Hp} {ds : List D} {vs : List V} (N : List Str) (I : RS k Pp ww S H) (r : Reps k ww ds vs) : RB k Pp ww (ds.map Slot.val ++ List.replicate (N.length - ds.length) Slot.no) S (start N vs) H where
  rs := I
  len := by unfold start; simp [r.length]
  val := fun i d e => by
    unfold start
    rcases Nat.lt_or_ge i ds.length with hi | hi
    · rw [List.getElem?_append_left (by simpa using hi)] at e
      rw [List.getElem?_map] at e
      obtain ⟨d', e1, e2⟩ := Option.map_eq_some_iff.mp e
      cases e2
      obtain ⟨v, e3, r3⟩ := r.getD e1
      refine ⟨v, ?_, r3⟩
      rw [List.getElem?_append_left (by simpa [r.length] using hi), List.getElem?_map, e3]; rfl
    · rw [List.getElem?_append_right (by simpa using hi)] at e
      rw [List.getElem?_replicate] at e
      split at e <;> cases e
  own := fun i c e => by
    exfalso
    rcases Nat.lt_or_ge i ds.length with hi | hi
    · rw [List.getElem?_append_left (by simpa using hi)] at e
      rw [List.getElem?_map] at e
      obtain ⟨d', e1, e2⟩ := Option.map_eq_some_iff.mp e
      cases e2
    · rw [List.getElem?_append_right (by simpa using hi)] at e
      rw [List.getElem?_replicate] at e
      split at e <;> cases e
  sep := fun i j c c' a e => by
    exfalso
    rcases Nat.lt_or_ge i ds.length with hi | hi
    · rw [List.getElem?_append_left (by simpa using hi)] at e
      rw [List.getElem?_map] at e
      obtain ⟨d', e1, e2⟩ := Option.map_eq_some_iff.mp e
      cases e2
    · rw [List.getElem?_append_right (by simpa using hi)] at e
      rw [List.getElem?_replicate] at e
      split at e <;> cases e
  exn := fun i x e => by
    exfalso
    rcases Nat.lt_or_ge i ds.length with hi | hi
    · rw [List.getElem?_append_left (by simpa using hi)] at e
      rw [List.getElem?_map] at e
      obtain ⟨d', e1, e2⟩ := Option.map_eq_some_iff.mp e
      cases e2
    · rw [List.getElem?_append_right (by simpa using hi)] at e
      rw [List.getElem?_replicate] at e
      split at e <;> cases e
theorem def_ok {x qual : Str} {params : Arguments} {scope : Scope} {dvs : List V} {kws : List (Str × V)} {f : Addr} {fd : FuncData} {lv fu : Nat} {G : Gm} {φ : Nat → Fn} {dm : DefM} (F : FunD K x qual params dm.body scope dvs kws f fd) (S : FnScope dm.C.N dm.ps scope) (hsc : dm.C.sc = scope) (hb : dm.C.blk = none)
    (hg : ∀ (cdv : Value) (A : Around) (outer : List Env) (s : Shared) (H : Hp) (E : XK), Room lv (A.deeper (envOfC qual scope s.heap.objs.size f cdv)) →
      Good G φ dm.C (cxOf (L2.CX P w) P w K mg base dm.C.N qual scope f cdv A outer s H E) k (fun cls d _ H => E cls d H)) :
    FnOk P w K mg base (L2.CX P w) (lv + 1) f fd dm.ps (spOf k dm.ps.length (runD dm (bodyM G φ fu dm))) := by
  refine F.ok S (fun vs H Q E h => h.len) fun cdv A outer s H vs Q E hr h => ?_
  have g := hg cdv A outer s H E hr
  refine ⟨_, seqS_ok g (den_ok fu) hb (passes_of rfl) dm.body, ?_⟩
  obtain ⟨Pp, ww, S0, ds, I, r, hl, h⟩ := h
  refine ⟨Pp, ww, _, S0, start_rb dm.C.N I r, ?_⟩
  unfold runD at h
  rw [if_pos hl] at h
  have hm : bodyM G φ fu dm = seqS (den G φ fu) dm.C dm.body := rfl
  rw [hm] at h
  cases em : seqS (den G φ fu) dm.C dm.body (ds.map Slot.val ++ List.replicate (dm.C.N.length - ds.length) Slot.no) S0 with
  | bad => rw [em] at h; exact h.elim
  | exc x env S' =>
    rw [em] at h
    exact fun w' σ' H' cls dx le J q => h w' H' cls dx le J.rs q
  | ok fl env S' =>
    rw [em] at h
    cases fl with
    | nx => exact fun w' le σ' H' J => h w' .non H' le J.rs rfl
    | rt d => exact fun w' le v σ' H' J q => h w' v H' le J.rs q
    | bk => exact h.elim
    | ct => exact h.elim
end
end L2.MP
end
section
set_option Elab.async false
set_option linter.all false
set_option maxRecDepth 100000
set_option maxHeartbeats 4000000
namespace L2.MP
open PySem PySem.Spec PyProof.Rows
structure InitQ where
  b : Str
  f : Str
  s : Str
  t : Str
  y : Str
def initQ : List Stmt → Option InitQ
  | [.Expr (.Call (.Attribute (.Name b _) m p2) [.Name s _, .Name t _] [] pos) _, .Assign [.Attribute (.Name s2 _) f _] (.Name y _) _] => if (p2.endLine == pos.line) && ((m == ("__init__" : Str)) && (s2 == s)) then some ⟨b, f, s, t, y⟩ else none
  | _ => none
section
variable {P : Program} {w : World} {K : PySem.W.Frag} {mg : Str → Option Value} {base : Heap}
theorem init_ok {x qual : Str} {params : Arguments} {body : List Stmt} {scope : Scope} {f : Addr} {fd : FuncData} {q : InitQ} {C Cb : Addr} {mc : Value} (F : FunD K x qual params body scope [] [] f fd) (eq : initQ body = some q) (S : FnScope [q.s, q.t, q.y] [q.s, q.t, q.y] scope)
    (hl : ∀ z ∈ [q.s, q.t, q.y], Loc scope z ∧ NotBad z) (hb : scope.names.lookup q.b = some .globalImplicit) (hdb : (q.b == ("__debug__" : Str)) = false) (hm : mg q.b = some (.ref Cb))
    (r1 : PySem.W.readsIn K Cb mc = true) (r2 : PySem.W.specialIn K (.ref Cb) "__getattribute__" = some (some (.builtin "type.__getattribute__"))) (vV : PySem.W.findCls K (.ref Cb) mc "__init__" = some (.val (.builtin "ValueError.__init__")))
    (T : OexC K C) (hno : PySem.W.findIn K (.ref C) q.f = some none) :
    FnOk P w K mg base (L2.CX P w) 1 f fd [q.s, q.t, q.y] (spI C q.f) := by
  unfold initQ at eq
  split at eq
  · rename_i b p1 m p2 s p3 t p4 pos p5 s2 p6 f2 p7 y p8 p9
    split at eq
    · rename_i hc
      rw [Bool.and_eq_true, Bool.and_eq_true] at hc
      obtain ⟨hc1, hc3, hc2⟩ := hc
      cases eq
      obtain rfl : s2 = s := beq_iff_eq.mp hc2
      obtain rfl : m = "__init__" := beq_iff_eq.mp hc3
      dsimp only at *
      refine F.ok S (fun vs H Q E h => by obtain ⟨a, t, y, rfl, _⟩ := h; rfl) fun cdv A outer s0 H vs Q E hr h => ?_
      have N0 : ∀ (i : Nat) z, [s2, t, y][i]? = some z → ∀ p, PE (cxOf (L2.CX P w) P w K mg base [s2, t, y] qual scope f cdv A outer s0 H E) (.Name z p) (tVar i) := fun i z e p => by
        obtain ⟨l1, l2, l3, _⟩ := hl z (List.mem_of_getElem? e)
        exact pe_var e (Loc.vis l1) l2 l3
      have ns : ∀ (z : Str) (p : Pos) x q, Expr.Name z p ≠ .Starred x q := fun z p x q e => by cases e
      have ns2 : ∀ e ∈ [Expr.Name s2 p3, Expr.Name t p4], ∀ x p, e ≠ .Starred x p := fun e he => by
        rcases List.mem_cons.mp he with rfl | he
        · exact ns _ _
        · rcases List.mem_cons.mp he with rfl | he
          · exact ns _ _
          · cases he
      have hg : Gl (cxOf (L2.CX P w) P w K mg base [s2, t, y] qual scope f cdv A outer s0 H E) b := hb
      refine ⟨_, pss_cons (ps_expr (pe_binit hg hm hdb r1 r2 vV (pa_cons (N0 0 _ rfl p3) (pa_one (N0 1 _ rfl p4) (ns _ _)) (star1 _ (ns _ _) _ _)) (meth_ok rfl hc1 ns2 (by show 2 < 20; decide)) (star1 _ (ns _ _) _ _) (star_false [.Name t p4] (fun q hq => by simp at hq; subst hq; exact ns _ _) _ _)) rfl) (pss_one (ps_ost (N0 0 _ rfl p6) (N0 2 _ rfl p8) rfl)), ?_⟩
      obtain ⟨a, t', y', rfl, ha, hq⟩ := h
      exact ⟨.ref a, rfl, t', rfl, a, C, [t'], rfl, by show 1 ≤ 1000; decide, T, ha, y', rfl, .ref a, rfl, a, C, rfl, T, hno, .inl ⟨ha, fun dx n ne => hq dx n ne⟩⟩
    · cases eq
  · cases eq
end
def oexB (K : PySem.W.Frag) (C : Addr) : Bool := (match K.lookup C with
  | some ⟨.type "type", _, .cls cd, sl⟩ => (match cd.mro, sl.toList with
    | .ref C' :: bm, [_, _, _, _, some (.builtin n), _] => C' == C && (n == "ValueError.__new__" && (!cd.hasDel && (cd.hasDict && PySem.HandSPX.refsVE bm)))
    | _, _ => false)
  | _ => false) && (decide (PySem.W.findIn K (.ref C) "__setattr__" = some (some (.builtin "object.__setattr__"))) && (decide (PySem.W.subIn K (.ref C) (.type "BaseException") = some true) && (decide (PySem.W.typeIn K (.ref C) = some (.type "type")) && PySem.W.keepIn K (.ref C))))
theorem oexB_ok {K : PySem.W.Frag} {C : Addr} (h : oexB K C = true) : OexC K C := by
  unfold oexB at h
  rw [Bool.and_eq_true, Bool.and_eq_true, Bool.and_eq_true, Bool.and_eq_true] at h
  obtain ⟨h1, h2, h3, h4, h5⟩ := h
  refine ⟨?_, of_decide_eq_true h2, of_decide_eq_true h3, of_decide_eq_true h4, h5⟩
  split at h1
  · rename_i dd cd sl ho
    split at h1
    · rename_i C' bm k0 k1 k2 k3 n k5 hm hs
      simp only [Bool.and_eq_true, beq_iff_eq, Bool.not_eq_true'] at h1
      obtain ⟨rfl, rfl, hdel, hdict, hr⟩ := h1
      obtain ⟨nm, bs, mro, ns, qn, hd, sn, sub, ab, col, del⟩ := cd
      dsimp only at hm hdel hdict
      subst hm hdel hdict
      have hsl : sl = #[k0, k1, k2, k3, some (.builtin "ValueError.__new__"), k5] := by
        obtain ⟨l⟩ := sl
        simp only at hs
        rw [hs]
      subst hsl
      exact ⟨nm, qn, ns, bs, bm, sn, sub, ab, col, dd, k0, k1, k2, k3, k5, ho, hr⟩
    · cases h1
  · cases h1
end L2.MP
end
section
set_option Elab.async false
set_option linter.all false
set_option maxRecDepth 100000
set_option maxHeartbeats 4000000
namespace L2.MP
open PySem PySem.Spec PyProof.Rows
theorem zip_look : ∀ {ps : List Str} {us : List Value}, ps.Nodup → us.length = ps.length → (∀ n ∈ ps, ((ps.zip us).lookup n).isSome) ∧ ps.filterMap (fun n => ((ps.zip us).lookup n).map (n, ·)) = ps.zip us
  | [], us, _, _ => ⟨fun _ h => (nomatch h), rfl⟩
  | p :: ps, [], _, h => by simp at h
  | p :: ps, u :: us, nd, h => by
    obtain ⟨n1, n2⟩ := List.nodup_cons.mp nd
    obtain ⟨i1, i2⟩ := zip_look n2 (us := us) (by simpa using h)
    rw [List.zip_cons_cons]
    refine ⟨fun n hn => ?_, ?_⟩
    · rw [List.lookup_cons]
      cases e : n == p with
      | true => rfl
      | false =>
        rcases List.mem_cons.mp hn with z | z
        · rw [z] at e; simp at e
        · exact i1 n z
    · rw [List.filterMap_cons, List.lookup_cons]
      have : (p == p) = true := by simp
      rw [this]
      show (p, u) :: _ = _
      congr 1
      refine Eq.trans ?_ i2
      have key : ∀ l : List Str, p ∉ l → l.filterMap (fun n => (((p, u) :: ps.zip us).lookup n).map (n, ·)) = l.filterMap (fun n => ((ps.zip us).lookup n).map (n, ·)) := by
        intro l
        induction l with
        | nil => intro _; rfl
        | cons a r ih =>
          intro hm
          have ha : (a == p) = false := by
            cases e : a == p with
            | false => rfl
            | true => exact absurd (by rw [beq_iff_eq.mp e]; exact List.mem_cons_self) hm
          rw [List.filterMap_cons, List.filterMap_cons, List.lookup_cons, ha, ih fun q => hm (List.mem_cons_of_mem _ q)]
      exact key ps n1
theorem bind_gen {x qual : Str} {params : Arguments} {body : List Stmt} {scope : Scope} {kV doc pm : Value} {an : Option Addr} {cdv ct : Value} {ps : List Str} {us : List Value} (h1 : params.posonlyargs = []) (h2 : params.args.map (·.arg) = ps) (h3 : params.vararg = none) (h4 : params.kwonlyargs = []) (h5 : params.kwarg = none) (nd : ps.Nodup) (hl : us.length = ps.length) :
    bindArgs (PySem.W.fnOf x qual params body scope .none kV doc pm an cdv ct) ⟨us, []⟩ = pure (ps.zip us) := by
  obtain ⟨z1, z2⟩ := zip_look nd hl
  obtain ⟨po, as, va, ko, kd, kw, df⟩ := params
  dsimp only at h1 h2 h3 h4 h5
  subst h1 h3 h4 h5
  subst h2
  unfold bindArgs PySem.W.fnOf
  dsimp only
  have e1 : seqItems? Value.none = pure none := rfl
  rw [e1]
  have e2 : ((as.map (·.arg)).filter fun n => (((as.map (·.arg)).zip us).lookup n).isNone) = [] := by
    rw [List.filter_eq_nil_iff]
    intro n hn
    have := z1 n hn
    simp [Option.isSome_iff_ne_none] at this ⊢
    simpa using this
  have e3 : ¬ us.length > as.length := by simp at hl; omega
  have e4 : List.take as.length (as.map (·.arg)) = as.map (·.arg) := List.take_of_length_le (by simp)
  simp only [pure_bind, List.forIn_nil, List.map_nil, List.nil_append, List.append_nil]
  rw [if_neg (by simpa using e3)]
  rw [if_neg (by simp [e4, e2])]
  rw [List.filterMap_map] at z2
  simp [z2]
structure DefX where
  at_ : Str × Option Str
  name : Str
  qual : Str
  params : Arguments
  body : List Stmt
  ps : List Str
  C : Ct
def DefX.m (d : DefX) : DefM := ⟨d.C, d.body, d.ps⟩
structure XinD where
  c : Nat
  f : Str
  d : He.DefD
structure Sys where
  G : Gm
  gl : List (Nat × Str × Gd)
  cls : List Str
  defs : List DefX
  fu : Nat
  xd : List XinD
  tn : List Str
def Sys.ts (Y : Sys) : List He.Tab := (Y.tn.zip Y.G.tb).map fun q => ((fun K => He.ga K q.1), q.2.map (·.1))
def psi (Y : Sys) : Nat → Nat → Fn
  | 0, _ => fun _ _ => .bad
  | n + 1, i => match Y.defs[i]? with
    | some dm => runD dm.m (bodyM Y.G (psi Y n) Y.fu dm.m)
    | none => fun _ _ => .bad
def notBadB (x : Str) : Bool := !(x == ("__debug__" : Str)) && (!(x == ("__classdict__" : Str)) && !(x == ("__name__" : Str)))
theorem notBadB_ok {x : Str} (h : notBadB x = true) : NotBad x := by
  unfold notBadB at h
  simp only [Bool.and_eq_true, Bool.not_eq_true'] at h
  refine ⟨h.1, h.2.1, fun z => ?_⟩
  subst z
  have := h.2.2
  simp at this
def ndB (Y : Sys) (N : List Str) (sc : Scope) (h : Nat) (x : Str) : Nd → Bool
  | .loc i => decide (N[i]? = some x) && ((sc.names.lookup x == some .local || sc.names.lookup x == some .cell) && notBadB x)
  | .frv _ => false
  | .slo i => decide (N[i]? = some x) && notBadB x
  | .bgl g => notBadB x && decide ((h, x, g) ∈ Y.gl)
  | .glo g => (sc.names.lookup x == some .globalImplicit) && (notBadB x && decide ((h, x, g) ∈ Y.gl))
def scopeB (N ps : List Str) (sc : Scope) : Bool := (match sc.kind with | .function => true | _ => false) && (!sc.isCoroutine && (!sc.isGenerator && (decide N.Nodup && (decide (N.take ps.length = ps) &&
  ((ps.all fun x => sc.names.lookup x == some .local || sc.names.lookup x == some .cell) && (sc.names.all fun y => match y.2 with | .free => false | _ => true))))))
def parB (p : Arguments) (ps : List Str) : Bool := p.posonlyargs.isEmpty && (decide (p.args.map (·.arg) = ps) && (p.vararg.isNone && (p.kwonlyargs.isEmpty && (p.kwarg.isNone && decide ps.Nodup))))
def defB (Y : Sys) (i : Nat) (d : DefX) : Bool := d.C.blk.isNone && (scopeB d.C.N d.ps d.C.sc && (parB d.params d.ps && (decide (Y.G.ar.getD i 0 = d.ps.length) && (d.C.tab.all fun e => ndB Y d.C.N d.C.sc e.1 e.2.1 e.2.2))))
def defsB (Y : Sys) : Nat → List DefX → Bool
  | _, [] => true
  | i, d :: r => defB Y i d && defsB Y (i + 1) r
def nameB (sc : Scope) (z : Str) : Bool := (sc.names.lookup z == some .local || sc.names.lookup z == some .cell) && notBadB z
def xdB (e : XinD) : Bool := (match initQ e.d.body with
  | some q => decide (q.f = e.f) && (scopeB [q.s, q.t, q.y] [q.s, q.t, q.y] e.d.scope && (parB e.d.params [q.s, q.t, q.y] && (([q.s, q.t, q.y].all (nameB e.d.scope)) && (e.d.scope.names.lookup q.b == some .globalImplicit && !(q.b == ("__debug__" : Str))))))
  | none => false) && (e.d.dfl.isEmpty && e.d.kwd.isEmpty)
def Sys.ok (Y : Sys) : Bool := defsB Y 0 Y.defs && (Y.xd.all xdB && decide (Y.G.xin = Y.xd.map fun e => (e.c, e.f)))
theorem defsB_at {Y : Sys} : ∀ {l : List DefX} {j : Nat}, defsB Y j l = true → ∀ i d, l[i]? = some d → defB Y (j + i) d = true
  | [], _, _, i, d, e => by simp at e
  | a :: r, j, h, i, d, e => by
    unfold defsB at h
    rw [Bool.and_eq_true] at h
    cases i with
    | zero => simp at e; subst e; exact h.1
    | succ i =>
      have := defsB_at h.2 i d (by simpa using e)
      rwa [show j + 1 + i = j + (i + 1) by omega] at this
theorem scopeB_ok {N ps : List Str} {sc : Scope} (h : scopeB N ps sc = true) : FnScope N ps sc := by
  unfold scopeB at h
  simp only [Bool.and_eq_true, decide_eq_true_eq, List.all_eq_true, Bool.not_eq_true'] at h
  obtain ⟨h1, h2, h3, h4, h5, h6, h7⟩ := h
  refine ⟨?_, h2, h3, h4, h5, fun x hx => ?_, fun y hy e => ?_⟩
  · revert h1; cases sc.kind <;> simp
  · have := h6 x hx
    simpa using this
  · have := h7 y hy
    rw [e] at this
    exact Bool.false_ne_true this
def dvOf : D → Option He.Dv
  | .non => some .non
  | .bl b => some (.bl b)
  | .int i => some (.int i)
  | .str s => some (.str s)
  | _ => none
def dvsOf : List D → Option (List He.Dv)
  | [] => some []
  | d :: ds => match dvOf d, dvsOf ds with
    | some v, some vs => some (v :: vs)
    | _, _ => none
theorem dvOf_rep {K : PySem.W.Frag} {k : Ky} {w : Wd} {d : D} {v : He.Dv} (e : dvOf d = some v) : Rep k w d (v.v K) := by
  cases d <;> simp only [dvOf] at e <;> first | contradiction | (cases e; rfl)
theorem dvsOf_rep {K : PySem.W.Frag} {k : Ky} {w : Wd} : ∀ {ds : List D} {vs : List He.Dv}, dvsOf ds = some vs → Reps k w ds (vs.map (He.Dv.v K))
  | [], vs, e => by cases e; rfl
  | d :: ds, vs, e => by
    unfold dvsOf at e
    split at e
    · cases e
      exact ⟨_, _, rfl, dvOf_rep (by assumption), dvsOf_rep (by assumption)⟩
    · cases e
def conB (K : PySem.W.Frag) (x : Str) : D → Bool
  | .int i => (He.Fa.int x i).ok K
  | .str s => (He.Fa.str x s).ok K
  | .rt ds => (He.Fa.glo x).ok K && (match dvsOf ds with
    | some vs => He.tupB K x vs
    | none => false)
  | .rl ds => (He.Fa.glo x).ok K && (match dvsOf ds with
    | some vs => He.lstB K x vs
    | none => false)
  | _ => false
def atB (Y : Sys) (i : Nat) (p : Str × Option Str) : Bool := match Y.defs[i]? with
  | some d => decide (d.at_ = p)
  | none => false
def dvT : List (Str × D) → Option (List (Str × He.Dv))
  | [] => some []
  | (x, d) :: r => match dvOf d, dvT r with
    | some v, some vs => some ((x, v) :: vs)
    | _, _ => none
theorem keys_not {P : Params} : ∀ {l : List DictEntry} {ks : List Str}, l.map He.keyOf = He.keysIn P ks → ∀ z, z ∉ ks → l.find? (·.key.isStr z) = none ∧ l.any (·.refKey) = false
  | [], _, _, _, _ => ⟨rfl, rfl⟩
  | e :: r, [], h, _, _ => by cases h
  | e :: r, k :: ks, h, z, hz => by
    have h1 : He.keyOf e :: r.map He.keyOf = some (k, PyData.keyHash P k) :: He.keysIn P ks := h
    injection h1 with h2 h3
    obtain ⟨i1, i2⟩ := keys_not h3 z fun q => hz (List.mem_cons_of_mem _ q)
    have hk : k ≠ z := fun q => hz (by rw [q]; exact List.mem_cons_self)
    unfold He.keyOf at h2
    split at h2
    · rename_i x t q
      obtain ⟨h5, h6⟩ := Prod.mk.inj (Option.some.inj h2)
      have e1 : e.key.isStr z = false := by rw [q]; show (x == z) = false; rw [h5]; simpa using hk
      have e2 : e.refKey = false := by unfold DictEntry.refKey; rw [q]
      exact ⟨by rw [List.find?_cons, e1]; exact i1, by rw [List.any_cons, e2]; exact i2⟩
    · cases h2
theorem dicW_more {K : PySem.W.Frag} {w : World} {a : Addr} {ks : List Str} (h : He.dicW K a = some (He.keysIn w.params ks)) : ∀ z, z ∉ ks → PySem.W.nsIn K a z = some none := by
  intro z hz
  unfold He.dicW at h
  unfold PySem.W.nsIn
  cases q : K.lookup a with
  | none => rw [q] at h; cases h
  | some o =>
    obtain ⟨oc, od, dt, osl⟩ := o
    rw [q] at h
    cases oc with
    | type c =>
      cases od with
      | none =>
        cases dt with
        | dict es n =>
          dsimp only at h ⊢
          split at h
          · obtain ⟨h1, h2⟩ := keys_not (Option.some.inj h) z hz
            rw [h1]
            dsimp only
            rw [h2]; rfl
          · cases h
        | _ => cases h
      | some b => cases dt <;> cases h
    | _ => cases od <;> cases dt <;> cases h
theorem dvT_ok {K : PySem.W.Frag} {k : Ky} : ∀ {t : List (Str × D)} {vs : List (Str × He.Dv)}, dvT t = some vs → ∀ z, match lkS t z with
    | some d => ∃ v, (z, v) ∈ vs ∧ ∀ w, Rep k w d (v.v K)
    | none => z ∉ t.map (·.1)
  | [], _, _, z => by intro h; cases h
  | (x, d) :: r, vs, e, z => by
    unfold dvT at e
    split at e
    · rename_i v vs' e1 e2
      cases e
      unfold lkS
      by_cases h : x = z
      · rw [if_pos h]
        subst h
        exact ⟨v, List.mem_cons_self, fun w => dvOf_rep e1⟩
      · rw [if_neg h]
        have ih := dvT_ok (K := K) (k := k) e2 z
        cases q : lkS r z with
        | none =>
          rw [q] at ih
          intro hm
          rcases List.mem_cons.mp hm with hm | hm
          · exact h hm.symm
          · exact ih hm
        | some d' =>
          rw [q] at ih
          obtain ⟨v', h1, h2⟩ := ih
          exact ⟨v', List.mem_cons_of_mem _ h1, h2⟩
    · cases e
def tabB (K : PySem.W.Frag) (x : Str) (t : List (Str × D)) : Bool := match dvT t with
  | some vs => He.valsB K (He.ga K x) vs
  | none => false
def gdB (Y : Sys) (K : PySem.W.Frag) (x : Str) : Gd → Bool
  | .tab j => (He.Fa.glo x).ok K && (decide (Y.tn[j]? = some x) && (match Y.G.tb[j]? with
    | some t => tabB K x t
    | none => false))
  | .xcl c => (He.Fa.glo x).ok K && (decide (Y.cls[c]? = some x) && (PySem.W.keepIn K (.ref (He.ga K x)) && (decide (PySem.W.subIn K (.ref (He.ga K x)) (.type "BaseException") = some true) && (decide (PySem.W.typeIn K (.ref (He.ga K x)) = some (.type "type")) && ((Y.G.xin.lookup c).isSome || (He.Fa.exc x).ok K)))))
  | .blt b => decide (x = b.name) && (He.Fa.free x).ok K
  | .con j => (match Y.G.con[j]? with
    | some d => conB K x d
    | none => false)
  | .fn i => (He.Fa.glo x).ok K && ((He.Fa.keep x).ok K && atB Y i (x, none))
  | .cls c i => (He.Fa.glo x).ok K && ((He.Fa.mkr x).ok K && (decide (Y.cls[c]? = some x) && atB Y i (x, some "__init__")))
def fldB (Y : Sys) (K : PySem.W.Frag) (f : Str) (cs : List Nat) : Bool := cs.all fun c => match Y.cls[c]? with
  | some x => (He.Fa.cls x).ok K && (He.Fa.noat x f).ok K
  | none => false
def mnB (Y : Sys) (K : PySem.W.Frag) (m : Str) : Mn → Bool
  | .own l => l.all fun q => match Y.cls[q.1]? with
    | some x => (He.Fa.cls x).ok K && ((He.Fa.meth x m).ok K && atB Y q.2 (x, some m))
    | none => false
  | n => decide (m = n.name)
def excB (K : PySem.W.Frag) (D : Addr) : Bool := decide (PySem.W.findIn K (.ref D) "__getattribute__" = some (some (.builtin "BaseException.__getattribute__"))) && (decide (PySem.W.findIn K (.ref D) "__getattr__" = some none) && (decide (PySem.W.subIn K (.ref D) (.type "BaseException") = some true) && (PySem.W.hasDictIn K D && (decide (PySem.W.findIn K (.ref D) "__class__" = some (some (.builtin "object.__class__"))) &&
  (decide (PySem.W.specialIn K (.builtin "object.__class__") "__get__" = some (some (.builtin "getset_descriptor.__get__"))) && (decide (PySem.W.takesIn K (.builtin "object.__class__") = some true) && decide (PySem.W.mroIn K D (.type "object") = some true)))))))
theorem excB_ok {K : PySem.W.Frag} {D : Addr} (h : excB K D = true) : ExcC K D := by
  unfold excB at h
  simp only [Bool.and_eq_true, decide_eq_true_eq] at h
  exact ⟨h.1, h.2.1, h.2.2.1, h.2.2.2.1, h.2.2.2.2.1, h.2.2.2.2.2.1, h.2.2.2.2.2.2.1, h.2.2.2.2.2.2.2⟩
def Sys.ky (Y : Sys) (K : PySem.W.Frag) : Ky := ⟨⟨K, fun c => He.ga K (Y.cls.getD c "")⟩, none⟩
def xcB (K : PySem.W.Frag) (k : Kz) (t : Xt) (fl : List Str) (x : Nat) : Bool := excB K (k.cl x) && (xfB K (k.cl x) && (fl.all (fun f => decide (PySem.W.findIn K (.ref (k.cl x)) f = some none)) && (decide (PySem.W.kitOne K (.ref (k.cl x)) (.type "ValueError") = some true) &&
  t.all fun c => decide (PySem.W.kitOne K (.ref (k.cl x)) (.ref (k.cl c.1)) = some (subX t x (some c.1))) && decide (PySem.W.exmOne K (.ref (k.cl x)) (.ref (k.cl c.1)) = some (subX t x (some c.1))))))
theorem look_mem {β : Type} {x : Nat} : ∀ {t : List (Nat × β)}, (t.lookup x).isSome = true → ∃ l, (x, l) ∈ t
  | [], h => nomatch h
  | (y, l) :: t, h => by
    rw [List.lookup_cons] at h
    cases e : x == y with
    | true =>
      obtain rfl := beq_iff_eq.mp e
      exact ⟨l, List.mem_cons_self⟩
    | false =>
      rw [e] at h
      obtain ⟨m, hm⟩ := look_mem h
      exact ⟨m, List.mem_cons_of_mem _ hm⟩
theorem xcB_ok {K : PySem.W.Frag} {k : Kz} {t : Xt} {fl : List Str} (h : (t.all fun e => xcB K k t fl e.1) = true) : XcOk K k t fl := by
  have at_ : ∀ x, (t.lookup x).isSome = true → xcB K k t fl x = true := fun x hx => by
    obtain ⟨l, hm⟩ := look_mem hx
    exact List.all_eq_true.mp h _ hm
  have op : ∀ x, (t.lookup x).isSome = true → ExcC K (k.cl x) ∧ XfC K (k.cl x) ∧ (∀ f ∈ fl, PySem.W.findIn K (.ref (k.cl x)) f = some none) ∧ PySem.W.kitOne K (.ref (k.cl x)) (.type "ValueError") = some true ∧
      ∀ c ∈ t, PySem.W.kitOne K (.ref (k.cl x)) (.ref (k.cl c.1)) = some (subX t x (some c.1)) ∧ PySem.W.exmOne K (.ref (k.cl x)) (.ref (k.cl c.1)) = some (subX t x (some c.1)) := fun x hx => by
    have := at_ x hx
    unfold xcB at this
    simp only [Bool.and_eq_true, decide_eq_true_eq, List.all_eq_true] at this
    obtain ⟨h1, h2, h3, h4, h5⟩ := this
    exact ⟨excB_ok h1, xfB_ok h2, h3, h4, h5⟩
  refine ⟨fun x hx => (op x hx).1, fun x hx => (op x hx).2.1, fun x hx => (op x hx).2.2.1, fun x hx c hc => ?_, fun x hx c hc => ?_⟩
  · cases c with
    | none => exact (op x hx).2.2.2.1
    | some c =>
      obtain ⟨l, hm⟩ := look_mem (show (t.lookup c).isSome = true from hc)
      exact ((op x hx).2.2.2.2 _ hm).1
  · obtain ⟨l, hm⟩ := look_mem hc
    exact ((op x hx).2.2.2.2 _ hm).2
def xinB (Y : Sys) (K : PySem.W.Frag) (e : XinD) : Bool := (match Y.cls[e.c]? with
  | some x => decide (e.d.at_ = (x, some ("__init__" : Str))) && (oexB K (He.ga K x) && (decide (PySem.W.findIn K (.ref (He.ga K x)) "__init__" = some (some (.ref (He.fAd K e.d.at_)))) && (decide (PySem.W.typeIn K (.ref (He.fAd K e.d.at_)) = some (.type "function")) && decide (PySem.W.findIn K (.ref (He.ga K x)) e.f = some none))))
  | none => false) && (match initQ e.d.body with
  | some q => (He.Fa.glo q.b).ok K && (PySem.W.readsIn K (He.ga K q.b) (.type "type") && (decide (PySem.W.specialIn K (.ref (He.ga K q.b)) "__getattribute__" = some (some (.builtin "type.__getattribute__"))) && (match PySem.W.findCls K (.ref (He.ga K q.b)) (.type "type") "__init__" with
    | some (.val (.builtin n)) => n == "ValueError.__init__"
    | _ => false)))
  | none => false)
def Sys.ex (Y : Sys) (K : PySem.W.Frag) : Bool := (Y.G.xcs.all (fun e => xcB K (Y.ky K).toKz Y.G.xcs Y.G.xfl e.1) && Y.xd.all (xinB Y K)) && ((Y.defs.all fun d => d.at_.2.isSome || (He.Fa.glo d.at_.1).ok K) && ((Y.gl.all fun e => gdB Y K e.2.1 e.2.2) && ((Y.G.fld.all fun e => fldB Y K e.2.1 e.2.2) && (Y.G.mth.all fun e => mnB Y K e.2.1 e.2.2))))
def DefX.he (d : DefX) : He.DefD := ⟨d.at_, d.name, d.qual, d.params, d.body, d.C.sc, [], []⟩
def Sys.fn (Y : Sys) : List He.DefD := Y.defs.map DefX.he ++ Y.xd.map (·.d)
theorem FunD.at_ {K : PySem.W.Frag} {x qual : Str} {params : Arguments} {body : List Stmt} {scope : Scope} {dvs : List V} {kws : List (Str × V)} {f : Addr} {fd : FuncData} (F : L2.FunD K x qual params body scope dvs kws f fd) : ∃ oc od osl, K.lookup f = some ⟨oc, od, .func fd, osl⟩ := by
  obtain ⟨oc, od, dV, kV, doc, pm, an, cdv, ct, osl, _, lk, _⟩ := F.ex
  exact ⟨oc, od, osl, lk⟩
section
variable {Y : Sys} {P : Program} {w : World} {K : PySem.W.Frag} {mg : Str → Option Value} {h : Heap}
def Lev (Y : Sys) (P : Program) (w : World) (K : PySem.W.Frag) (mg : Str → Option Value) (base : Heap) (n : Nat) : Prop :=
  ∀ i d, Y.defs[i]? = some d → ∃ fd, (∃ oc od osl, K.lookup (He.fAd K d.at_) = some ⟨oc, od, .func fd, osl⟩) ∧ Binds K fd d.ps [] ∧ FnOk P w K mg base (L2.CX P w) (2 * n + 2) (He.fAd K d.at_) fd d.ps (spOf (Y.ky K) d.ps.length (psi Y n i))
theorem con_look (X : K.In h) (G : h.Ns mainGlobals mg) {x : Str} {d : D} (c : conB K x d = true) : ∃ v u, mg x = some u ∧ RelV v u ∧ ∀ w, Rep (Y.ky K) w d v := by
  cases d <;> simp only [conB] at c <;> try contradiction
  · obtain ⟨t, e⟩ := He.int_ok X G c
    exact ⟨.int _, _, e, ⟨t, rfl⟩, fun w => rfl⟩
  · obtain ⟨t, e⟩ := He.str_ok X G c
    exact ⟨.str _, _, e, ⟨t, rfl⟩, fun w => rfl⟩
  · obtain ⟨c1, c2⟩ := He.ba c
    split at c2
    · exact ⟨.ref (He.ga K x), _, He.glo_ok X G c1, rfl, fun w => ⟨_, _, rfl, He.lstB_ok c2 _, dvsOf_rep (by assumption)⟩⟩
    · cases c2
  · obtain ⟨c1, c2⟩ := He.ba c
    split at c2
    · exact ⟨.ref (He.ga K x), _, He.glo_ok X G c1, rfl, fun w => ⟨_, _, rfl, He.tupB_ok c2 _, dvsOf_rep (by assumption)⟩⟩
    · cases c2
theorem at_ok {i : Nat} {p : Str × Option Str} (c : atB Y i p = true) : ∃ d, Y.defs[i]? = some d ∧ d.at_ = p := by
  unfold atB at c
  split at c
  · exact ⟨_, by assumption, of_decide_eq_true c⟩
  · cases c
theorem Sys.okD (ok : Y.ok = true) : defsB Y 0 Y.defs = true := (He.ba ok).1
theorem ar_ok (ok : Y.ok = true) {i : Nat} {d : DefX} (e : Y.defs[i]? = some d) : Y.G.ar.getD i 0 = d.ps.length := by
  have := defsB_at (Sys.okD ok) i d e
  rw [Nat.zero_add] at this
  unfold defB at this
  simp only [Bool.and_eq_true, decide_eq_true_eq] at this
  exact this.2.2.2.1
theorem lev_ok (ok : Y.ok = true) (X : K.In h) (G : h.Ns mainGlobals mg) (c : He.SaysX [] Y.fn Y.ts [] Y.ex w h K) {base : Heap} : ∀ n, Lev Y P w K mg base n
  | 0 => fun i d e => by
    obtain ⟨fd, F⟩ := c.t.d.defs (d := d.he) (List.mem_append_left _ (List.mem_map.mpr ⟨d, List.mem_of_getElem? e, rfl⟩))
    have hb := defsB_at (Sys.okD ok) i d e
    unfold defB parB at hb
    simp only [Bool.and_eq_true, decide_eq_true_eq, List.isEmpty_iff, Option.isNone_iff_eq_none] at hb
    obtain ⟨b1, b2, ⟨b3, b4, b5, b6, b7, b8⟩, b9, b10⟩ := hb
    have F' : FunD K d.name d.qual d.params d.body d.C.sc [] [] (He.fAd K d.at_) fd := F
    refine ⟨fd, FunD.at_ F', F'.bindsN fun _ _ _ _ _ _ us hl => bind_gen b3 b4 b5 b6 b7 b8 hl, ⟨fun vs H Q E q => q.len, fun A outer s H args us vs Q E hr he hb hv q => ?_⟩⟩
    obtain ⟨_, _, _, _, _, _, _, q⟩ := q
    exact q.elim
  | n + 1 => fun i d e => by
    have ih : Lev Y P w K mg base n := lev_ok ok X G c n
    obtain ⟨fd, F⟩ := c.t.d.defs (d := d.he) (List.mem_append_left _ (List.mem_map.mpr ⟨d, List.mem_of_getElem? e, rfl⟩))
    have hb := defsB_at (Sys.okD ok) i d e
    unfold defB parB at hb
    simp only [Bool.and_eq_true, decide_eq_true_eq, List.isEmpty_iff, Option.isNone_iff_eq_none, List.all_eq_true] at hb
    obtain ⟨b1, b2, ⟨b3, b4, b5, b6, b7, b8⟩, b9, b10⟩ := hb
    have F' : FunD K d.name d.qual d.params d.body d.C.sc [] [] (He.fAd K d.at_) fd := F
    refine ⟨fd, FunD.at_ F', F'.bindsN fun _ _ _ _ _ _ us hl => bind_gen b3 b4 b5 b6 b7 b8 hl, ?_⟩
    have S := scopeB_ok b2
    have hpsi : psi Y (n + 1) i = runD d.m (bodyM Y.G (psi Y n) Y.fu d.m) := by
      show (match Y.defs[i]? with
        | some dm => runD dm.m (bodyM Y.G (psi Y n) Y.fu dm.m)
        | none => fun _ _ => .bad) = _
      rw [e]
    rw [hpsi]
    have exx := He.ba (He.ba c.more).1
    have exq := He.ba (He.ba (He.ba c.more).2).2
    have exq2 := He.ba exq.2
    have fnh : ∀ (X' : Cx) j p, X'.prog = P → X'.w = w → X'.K = K → X'.mg = mg → X'.base = base → Room (2 * n + 3) X'.A → atB Y j p = true → FnHas X' (Y.ky K) Y.G (psi Y n) j (He.fAd K p) := fun X' j p e1 e2 e3 e4 e5 hr ha => by
      obtain ⟨d', e', rfl⟩ := at_ok ha
      obtain ⟨fd', _, hb', F2⟩ := ih j d' e'
      subst e1 e2 e3 e4 e5
      exact ⟨fd', d'.ps, 2 * n + 2, by rw [ar_ok ok e']; exact F2, hr, hb'⟩
    refine def_ok (lv := 2 * n + 3) (dm := d.m) F' S rfl b1 fun cdv A outer s H E hr => ?_
    refine { hk := rfl, N := rfl, nd := S.nd, sc := rfl, kind := S.kind, fnd := fun _ _ => rfl, calm := fun _ => rfl, stk := fun _ => ⟨rfl, rfl⟩, su := fun i a cls dx e => (nomatch e), x0 := fun _ => rfl, xok := xcB_ok exx.1, xin := fun _ cc ff ef => ?_, tk := takes_of rfl rfl rfl rfl, hu := by have := hr.un; show (A.deeper _).units + 65 < cLine; omega, tab := fun hh x nd m => ?_, fld := fun hh f cs m cc hc => ?_, mth := fun hh m nm q => ?_ }
    · have hxin : Y.G.xin = Y.xd.map fun e => (e.c, e.f) := of_decide_eq_true (He.ba (He.ba ok).2).2
      have hme : ∃ ed ∈ Y.xd, ed.c = cc ∧ ed.f = ff := by
        rw [hxin] at ef
        have key : ∀ l : List XinD, (l.map fun e => (e.c, e.f)).lookup cc = some ff → ∃ ed ∈ l, ed.c = cc ∧ ed.f = ff := by
          intro l
          induction l with
          | nil => intro h; cases h
          | cons a r ih =>
            intro h
            rw [List.map_cons, List.lookup_cons] at h
            cases e : cc == a.c with
            | true =>
              rw [e] at h
              cases h
              exact ⟨a, List.mem_cons_self, (beq_iff_eq.mp e).symm, rfl⟩
            | false =>
              rw [e] at h
              obtain ⟨ed, h1, h2⟩ := ih h
              exact ⟨ed, List.mem_cons_of_mem _ h1, h2⟩
        exact key _ ef
      obtain ⟨ed, hed, rfl, rfl⟩ := hme
      have gx := He.ba (show xinB Y K ed = true from List.all_eq_true.mp exx.2 _ hed)
      have ox := He.ba (show xdB ed = true from List.all_eq_true.mp (He.ba (He.ba ok).2).1 _ hed)
      obtain ⟨fd2, F2⟩ := c.t.d.defs (d := ed.d) (List.mem_append_right _ (List.mem_map.mpr ⟨ed, hed, rfl⟩))
      obtain ⟨o2, o3⟩ := He.ba ox.2
      rw [List.isEmpty_iff] at o2 o3
      have F2' : FunD K ed.d.name ed.d.qual ed.d.params ed.d.body ed.d.scope [] [] (He.fAd K ed.d.at_) fd2 := by
        have h := F2
        unfold He.DefD.dvs He.DefD.kws at h
        rw [o2, o3] at h
        exact h
      obtain ⟨gx1, gx2⟩ := gx
      have ox1 := ox.1
      split at gx1
      · rename_i x ex
        obtain ⟨g1, gx1⟩ := He.ba gx1
        obtain ⟨g2, gx1⟩ := He.ba gx1
        obtain ⟨g3, gx1⟩ := He.ba gx1
        obtain ⟨g4, g5⟩ := He.ba gx1
        have ec : (Y.ky K).cl ed.c = He.ga K x := by
          show He.ga K (Y.cls.getD ed.c "") = _
          rw [List.getD_eq_getElem?_getD, ex]; rfl
        cases eq : initQ ed.d.body with
        | none => rw [eq] at ox1; cases ox1
        | some q =>
          rw [eq] at ox1 gx2
          obtain ⟨q1, q2⟩ := He.ba gx2
          obtain ⟨q2, q3⟩ := He.ba q2
          obtain ⟨q3, q4⟩ := He.ba q3
          obtain ⟨y1, y2⟩ := He.ba ox1
          obtain ⟨y2, y3⟩ := He.ba y2
          obtain ⟨y3, y4⟩ := He.ba y3
          obtain ⟨y4, y5⟩ := He.ba y4
          obtain ⟨y5, y6⟩ := He.ba y5
          have vV : PySem.W.findCls K (.ref (He.ga K q.b)) (.type "type") "__init__" = some (.val (.builtin "ValueError.__init__")) := by
            split at q4
            · rename_i nn en
              rw [en, beq_iff_eq.mp q4]
            · cases q4
          have y3' := y3
          unfold parB at y3'
          simp only [Bool.and_eq_true, decide_eq_true_eq, List.isEmpty_iff, Option.isNone_iff_eq_none] at y3'
          obtain ⟨z3, z4, z5, z6, z7, z8⟩ := y3'
          have yf : q.f = ed.f := of_decide_eq_true y1
          have FN := init_ok (P := P) (w := w) (mg := mg) (base := base) (C := He.ga K x) F2' eq (scopeB_ok y2) (fun z hz => by
            obtain ⟨n1, n2⟩ := He.ba (show nameB ed.d.scope z = true from List.all_eq_true.mp y4 z hz)
            refine ⟨?_, notBadB_ok n2⟩
            simp only [Bool.or_eq_true, beq_iff_eq] at n1
            exact n1) (beq_iff_eq.mp y5) (by simpa using y6) (He.glo_ok X G q1) q2 (of_decide_eq_true q3) vV (oexB_ok g2) (by rw [yf]; exact of_decide_eq_true g5)
          rw [yf] at FN
          refine ⟨He.fAd K ed.d.at_, fd2, [q.s, q.t, q.y], 1, ?_, ?_, of_decide_eq_true g4, ?_, hr.mono (by omega), F2'.bindsN fun _ _ _ _ _ _ us hl => bind_gen z3 z4 z5 z6 z7 z8 hl⟩
          · rw [ec]; exact oexB_ok g2
          · rw [ec]; exact of_decide_eq_true g3
          · rw [ec]; exact FN
      · cases gx1
    · have gd : ∀ g, (hh, x, g) ∈ Y.gl → GdOk (cxOf (L2.CX P w) P w K mg base d.m.C.N d.qual d.C.sc (He.fAd K d.at_) cdv A outer s H E) (Y.ky K) Y.G (psi Y n) x g := fun g hgl => by
        have gx := List.all_eq_true.mp exq.1 _ hgl
        cases g with
        | blt b =>
          obtain ⟨g1, g2⟩ := He.ba (show (decide (x = b.name) && (He.Fa.free x).ok K) = true from gx)
          exact ⟨of_decide_eq_true g1, He.free_ok X G g2⟩
        | con j =>
          have gx : (match Y.G.con[j]? with
            | some d => conB K x d
            | none => false) = true := gx
          split at gx
          · rename_i dd ed
            obtain ⟨v, u, q1, q2, q3⟩ := con_look (Y := Y) X G gx
            exact ⟨dd, v, u, ed, q1, q2, q3⟩
          · cases gx
        | tab j =>
          obtain ⟨g1, g2⟩ := He.ba (show ((He.Fa.glo x).ok K && (decide (Y.tn[j]? = some x) && (match Y.G.tb[j]? with
            | some t => tabB K x t
            | none => false))) = true from gx)
          obtain ⟨g2, g3⟩ := He.ba g2
          split at g3
          · rename_i t et
            have et2 : Y.ts[j]? = some ((fun K => He.ga K x), t.map (·.1)) := by
              unfold Sys.ts
              rw [List.getElem?_map, List.getElem?_zip_eq_some (z := (x, t)) |>.mpr ⟨of_decide_eq_true g2, et⟩]
              rfl
            have e1 : Y.ts.map (fun t => He.dicW K (t.1 K)) = Y.ts.map fun t => some (He.keysIn w.params t.2) := congrArg (fun z : He.AlT => z.2) c.t
            have e2 : (Y.ts.map fun t => He.dicW K (t.1 K))[j]? = (Y.ts.map fun t => some (He.keysIn w.params t.2))[j]? := by rw [e1]
            rw [List.getElem?_map, List.getElem?_map, et2] at e2
            have e3 : He.dicW K (He.ga K x) = some (He.keysIn w.params (t.map (·.1))) := Option.some.inj e2
            obtain ⟨es, nn, kd⟩ := He.dicW_ok e3
            refine ⟨t, et, He.ga K x, es, nn, He.glo_ok X G g1, kd, fun z => ?_⟩
            unfold tabB at g3
            split at g3
            · rename_i vs ev
              have hv := dvT_ok (K := K) (k := Y.ky K) ev z
              cases q : lkS t z with
              | none => rw [q] at hv; exact dicW_more e3 z hv
              | some d' =>
                rw [q] at hv
                obtain ⟨v, h1, h2⟩ := hv
                obtain ⟨u, h3, h4⟩ := He.valsB_ok g3 h1
                exact ⟨u, _, h3, h4, h2⟩
            · cases g3
          · cases g3
        | xcl cc =>
          obtain ⟨g1, g2⟩ := He.ba gx
          obtain ⟨g2, g3⟩ := He.ba g2
          obtain ⟨g3, g4⟩ := He.ba g3
          obtain ⟨g4, g5⟩ := He.ba g4
          obtain ⟨g5, g6⟩ := He.ba g5
          have ec : (Y.ky K).cl cc = He.ga K x := by
            show He.ga K (Y.cls.getD cc "") = _
            rw [List.getD_eq_getElem?_getD, of_decide_eq_true g2]; rfl
          refine ⟨by rw [ec]; exact He.glo_ok X G g1, by rw [ec]; exact g3, by rw [ec]; exact raises_own (of_decide_eq_true g4) (of_decide_eq_true g5), fun hn => ?_⟩
          rw [ec]
          rcases Bool.or_eq_true_iff.mp g6 with z | z
          · rw [Option.isNone_iff_eq_none] at hn
            rw [hn] at z; cases z
          · exact (He.exc_ok z).1
        | fn j =>
          obtain ⟨g1, g2⟩ := He.ba (show ((He.Fa.glo x).ok K && ((He.Fa.keep x).ok K && atB Y j (x, none))) = true from gx)
          obtain ⟨g2, g3⟩ := He.ba g2
          exact fun _ => ⟨He.ga K x, He.glo_ok X G g1, He.keep_ok g2, fnh _ j (x, none) rfl rfl rfl rfl rfl hr g3⟩
        | cls cc j =>
          obtain ⟨g1, g2⟩ := He.ba (show ((He.Fa.glo x).ok K && ((He.Fa.mkr x).ok K && (decide (Y.cls[cc]? = some x) && atB Y j (x, some "__init__")))) = true from gx)
          obtain ⟨g2, g3⟩ := He.ba g2
          obtain ⟨g3, g4⟩ := He.ba g3
          have ec : (Y.ky K).cl cc = He.ga K x := by
            show He.ga K (Y.cls.getD cc "") = _
            rw [List.getD_eq_getElem?_getD, of_decide_eq_true g3]; rfl
          refine fun _ => ⟨He.fAd K (x, some "__init__"), ?_, ?_, fnh _ j (x, some "__init__") rfl rfl rfl rfl rfl hr g4⟩
          · rw [ec]; exact He.glo_ok X G g1
          · rw [ec]; exact He.mkr_ok g2
      have hx := b10 (hh, x, nd) m
      cases nd with
      | loc j =>
        simp only [ndB, Bool.and_eq_true, decide_eq_true_eq, Bool.or_eq_true, beq_iff_eq] at hx
        exact ⟨hx.1, hx.2.1, .inl rfl, notBadB_ok hx.2.2⟩
      | frv j => cases hx
      | slo j =>
        simp only [ndB, Bool.and_eq_true, decide_eq_true_eq] at hx
        exact ⟨hx.1, notBadB_ok hx.2⟩
      | glo g =>
        simp only [ndB, Bool.and_eq_true, decide_eq_true_eq, beq_iff_eq] at hx
        exact ⟨hx.1, notBadB_ok hx.2.1, gd g hx.2.2⟩
      | bgl g =>
        simp only [ndB, Bool.and_eq_true, decide_eq_true_eq] at hx
        exact ⟨notBadB_ok hx.1, gd g hx.2⟩
    · have gx := List.all_eq_true.mp exq2.1 _ m
      have gx := List.all_eq_true.mp (show (cs.all fun c => match Y.cls[c]? with
        | some x => (He.Fa.cls x).ok K && (He.Fa.noat x f).ok K
        | none => false) = true from gx) cc hc
      split at gx
      · rename_i x ex
        obtain ⟨g1, g2⟩ := He.ba gx
        have ec : (Y.ky K).cl cc = He.ga K x := by
          show He.ga K (Y.cls.getD cc "") = _
          rw [List.getD_eq_getElem?_getD, ex]; rfl
        rw [ec]
        exact ⟨He.cls_ok g1, He.noat_ok g2⟩
      · cases gx
    · have gx := List.all_eq_true.mp exq2.2 _ q
      cases nm with
      | own l =>
        intro _ cc j el
        have hm : (cc, j) ∈ l := by
          clear gx q
          induction l with
          | nil => cases el
          | cons a r ih =>
            obtain ⟨a1, a2⟩ := a
            unfold lkc at el
            split at el
            · rename_i hq
              cases el
              rw [beq_iff_eq.mp hq]
              exact List.mem_cons_self
            · exact List.mem_cons_of_mem _ (ih el)
        have gx := List.all_eq_true.mp (show (l.all fun q => match Y.cls[q.1]? with
          | some x => (He.Fa.cls x).ok K && ((He.Fa.meth x m).ok K && atB Y q.2 (x, some m))
          | none => false) = true from gx) _ hm
        split at gx
        · rename_i x ex
          obtain ⟨g1, g2⟩ := He.ba gx
          obtain ⟨g2, g3⟩ := He.ba g2
          have ec : (Y.ky K).cl cc = He.ga K x := by
            show He.ga K (Y.cls.getD cc "") = _
            rw [List.getD_eq_getElem?_getD, ex]; rfl
          refine ⟨He.fAd K (x, some m), ?_, ?_, fnh _ j (x, some m) rfl rfl rfl rfl rfl hr g3⟩
          · rw [ec]; exact He.cls_ok g1
          · rw [ec]; exact He.meth_ok g2
        · cases gx
      | _ =>
        show m = Mn.name _
        exact of_decide_eq_true gx
theorem law_sp {K : PySem.W.Frag} {k : Ky} (hk : k.K = K) {f : Fn} {H : Hp} {a : Addr} {ns : List Int} {E : XK} {S' : Sto} (hS : SqL K H a (ns.map V.int)) (h : f [.rl (ns.map D.int)] [] = .ok (.bl true) S') : spOf k 1 f [.ref a] H (fun v _ => v = .bl true) E := by
  refine ⟨fun _ => none, ⟨fun b => if b = a then H a else none, fun _ => none⟩, [], [.rl (ns.map D.int)], ⟨fun b o e => ?_, fun n c e => by simp at e, fun n b e => by simp at e, fun n m b e => by simp at e, fun b o e => by simp at e⟩, ?_, rfl, ?_⟩
  · dsimp only at e
    split at e
    · rename_i hb; subst hb; exact e
    · cases e
  · refine ⟨_, [], rfl, ⟨a, _, rfl, ?_, reps_ints ns⟩, rfl⟩
    show SqL k.K (fun b => if b = a then H a else none) a (ns.map V.int)
    rw [hk]
    rcases hS with (q | ⟨o, q⟩) | q
    · exact .inl (.inl (by simpa using q))
    · exact .inl (.inr ⟨o, by simpa using q⟩)
    · exact .inr q
  · rw [h]
    exact fun w' v H' le I r => r
theorem cx_none {P : Program} {w : World} : ∀ (H : Hp) (s : Shared) (e : Value) (s' : Shared), L2.CX P w [] H s (fun _ _ _ => False) e s' → False := fun H s e s' h => by
  obtain ⟨_, _, _, _, _, _, _, _, _, _, _, _, z⟩ := h
  exact z
def asM (g : Addr → Option Obj) (n : Nat) : List Addr := He.asD g n ++ [cStatics]
def obsM (n : Nat) (fn : List He.DefD) (ts : List He.Tab) (ex : PySem.W.Frag → Bool) (g : Addr → Option Obj) : He.AlX := (He.obsT [] fn ts (He.frT g (asM g n)), ex (He.frT g (asM g n)))
def hookM (n : Nat) (fn : List He.DefD) (ts : List He.Tab) (ex : PySem.W.Frag → Bool) : PySem.W.Hook where
  α := He.AlX
  obs := fun s => obsM n fn ts ex s.heap.get?
  val := fun w => (He.valT fn ts w, true)
  says := fun w h => ∃ K : PySem.W.Frag, K.In h ∧ He.SaysX [] fn ts [] ex w h K
  of := fun _ _ e => ⟨_, He.frT_in, ⟨congrArg (fun z : He.AlX => z.1) e, congrArg (fun z : He.AlX => z.2) e, fun _ h => (nomatch h), fun _ h => (nomatch h), fun _ h => (nomatch h)⟩⟩
  keeps := fun _ _ _ ⟨K, hK, c⟩ k => ⟨K, PySem.W.Frag.In.keeps hK k, ⟨c.t, c.more, c.hd, c.out, fun _ h => (nomatch h)⟩⟩
theorem obsM_eq {n : Nat} {fn : List He.DefD} {ts : List He.Tab} {ex : PySem.W.Frag → Bool} {g : Addr → Option Obj} {s : Shared} (h : ∀ a, g a = s.heap.get? a) : obsM n fn ts ex g = (hookM n fn ts ex).obs s := by
  have e : g = s.heap.get? := funext h
  rw [e] <;> rfl
theorem walk_sys {l : PySem.W.OpenLaw} {Y : Sys} {n iL : Nat} {dL : DefX} {q : Program} {loose : List Str} {XP : (Str → Option Value) → Heap → Prop} {d : DefRec} {x : Str} (ok : Y.ok = true) (eL : Y.defs[iL]? = some dL) (ea : dL.at_ = (d.name, none)) (ep : dL.ps = [x])
    (hn : l.most = some 63) (hdf : d.params.defaults = []) (hr : Room (2 * n + 2) callerA) (good : ∀ ns : List Int, ns.length ≤ 63 → ∃ S', psi Y n iL [.rl (ns.map D.int)] [] = .ok (.bl true) S') :
    PySem.W.WalkO q loose XP (hookM 4 Y.fn Y.ts Y.ex).says l.row.toRowW d [] (fun f vs => PySem.call f vs) := by
  refine Att.attach_call hn hdf fun w t₀ t₁ mg mb fa oo pmm cdd docc aa vs ns GG YY o1 o2 o3 o4 o5 o6 o7 o8 => ?_
  obtain ⟨K, KX, c⟩ := YY
  have lev := fun base => lev_ok (P := l.prog) (base := base) ok KX GG.T.g c n iL dL eL
  obtain ⟨fd, F⟩ := c.t.d.defs (d := dL.he) (List.mem_append_left _ (List.mem_map.mpr ⟨dL, List.mem_of_getElem? eL, rfl⟩))
  have F' : FunD K dL.name dL.qual dL.params dL.body dL.C.sc [] [] (He.fAd K dL.at_) fd := F
  have hb := defsB_at (Sys.okD ok) iL dL eL
  unfold defB parB at hb
  simp only [Bool.and_eq_true, decide_eq_true_eq, List.isEmpty_iff, Option.isNone_iff_eq_none] at hb
  obtain ⟨b1, b2, ⟨b3, b4, b5, b6, b7, b8⟩, b9, b10⟩ := hb
  have hfa : He.fAd K dL.at_ = fa := by
    have g1 := List.all_eq_true.mp (He.ba (He.ba c.more).2).1 dL (List.mem_of_getElem? eL)
    rw [ea] at g1 ⊢
    have g2 := He.glo_ok KX GG.T.g (show (He.Fa.glo d.name).ok K = true from g1)
    rw [o4] at g2
    cases g2
    rfl
  have bn := fun (s : Shared) (u : Value) => FunD.bindsA (ps := dL.ps) F' (fun _ _ _ _ _ _ us hl => bind_gen b3 b4 b5 b6 b7 b8 hl) s [u] (by rw [ep]; rfl)
  rw [ep] at bn
  refine law_call (K := K) (fd := fd) (CX := L2.CX l.prog w) (sp := spOf (Y.ky K) dL.ps.length (psi Y n iL)) KX GG.T.g GG.T.b GG.T.builtins GG.T.nolimit o8 o5 o6 (Nat.le_trans o7 (by decide)) hr (fun base _ _ => ?_) bn (fun H hO hS => ?_) fun H e s' => cx_none H t₁ e s'
  · obtain ⟨fd2, ⟨oc, od, osl, l2⟩, _, F2⟩ := lev base
    obtain ⟨oc1, od1, osl1, l1⟩ := FunD.at_ F'
    rw [l1] at l2
    cases l2
    rw [hfa] at F2
    rw [ep] at F2 ⊢
    exact F2
  · rw [ep]
    obtain ⟨S', h⟩ := good ns o7
    exact law_sp rfl hS h
end
end L2.MP
end
section
set_option Elab.async false
set_option linter.all false
set_option maxRecDepth 100000
set_option maxHeartbeats 4000000
namespace L2.MP
open PySem PySem.Spec PyProof.Rows
end L2.MP
end
section
set_option Elab.async false
set_option linter.all false
set_option maxRecDepth 100000
set_option maxHeartbeats 0
namespace L2.K51
open PySem PySem.Spec PyProof.Rows L2.MP
def top (i : Nat) : Stmt := PySem.Challenge.pw_matepoint_k51_houses_that_are_none.main.body.getD i (.Pass ⟨0, 0, 0, 0⟩)
def GG : Gm where
  ar := [1, 1, 1, 1, 1, 2, 2, 2, 2, 3, 2, 1, 2, 1, 1, 1, 3, 1, 2, 1, 1, 2, 2, 3, 2, 1, 2, 1, 1, 4, 1, 1, 1, 1, 1, 1, 1, 2, 1, 2, 2, 1, 1, 1, 2, 3, 1, 1]
  con := [(D.str "abcdefghijklmnopqrstuvwxyz"), (D.rt [(D.str "any"), (D.str "is"), (D.str "by"), (D.str "not"), (D.str "and"), (D.str "or")]), (D.int 8), (D.int 1000000000), (D.rt [(D.str "heavy"), (D.str "great"), (D.str "small"), (D.str "soon")]), (D.int 3), (D.int 4), (D.int 8)]
  fld := [(433643176592085436, "borne", [13]), (725247648316637153, "ends", [13]), (1344514713442527844, "lefts", [13]), (732872695156140077, "lines", [13]), (2158269241765316603, "offers", [13]), (2047561399547504077, "quiet", [13]), (2196156602649167822, "rule", [13]), (1890319593418473820, "time", [13])]
  mth := [(580100734472995736, "append", .append), (31064657466331057, "book", .own [(13, 36)]), (1947088516982690191, "meetings", .own [(13, 34)]), (82643973318919778, "now", .own [(13, 32)]), (82645973330919789, "pop", .pop), (2196140602560167714, "rest", .own [(13, 35)]), (82647973342919814, "row", .own [(13, 33)]), (1558581461213400816, "waiters", .own [(13, 31)]), (1558585461233400828, "waiting", .own [(13, 30)])]
  fuel := 100000
  xcs := [(2, [2, 0]), (0, [0]), (7, [7, 0]), (11, [11, 0]), (9, [9, 0]), (3, [3, 0]), (4, [4, 0]), (8, [8, 0]), (5, [5, 0]), (12, [12, 0]), (6, [6, 0]), (10, [10, 0]), (1, [1, 0])]
  xfl := ["at", "last"]
  xin := [(4, "last"), (1, "at")]
  tb := []
def glt : List (Nat × Str × Gd) := [ge 82630973237919641 "all" (Gd.blt Blt.all), ge 2219307832723368451 "LETTERS" (Gd.con 0), ge 82616973118919390 "SIX" (Gd.con 1), ge 51754708455832430 "isinstance" (Gd.blt Blt.isinstance), ge 82648973353919833 "str" (Gd.blt Blt.str), ge 82641973296919721 "len" (Gd.blt Blt.len), ge 1855861644499957088 "MOST_LETTERS" (Gd.con 2), ge 2016207179946420794 "are_letters" (Gd.fn 0), ge 31064657466331058 "bool" (Gd.blt Blt.bool), ge 82638973287919727 "int" (Gd.blt Blt.int), ge 1421012134934749681 "MOST_NUMBER" (Gd.con 3), ge 861178335045525552 "is_whole" (Gd.fn 2), ge 831170832002865263 "is_number" (Gd.fn 3), ge 82630973239919660 "any" (Gd.blt Blt.any), ge 807772620826555456 "lets" (Gd.fn 8), ge 1660681576156039325 "lets_size" (Gd.fn 7), ge 1978180580801722547 "size_of" (Gd.fn 6), ge 1934145545149680372 "has_mark" (Gd.fn 5), ge 1345145890071212953 "enumerate" (Gd.blt Blt.enumerate), ge 1149786955776686727 "reason" (Gd.fn 10), ge 395480683690970897 "first_of" (Gd.fn 9), ge 248005840482310280 "tuple" (Gd.blt Blt.tuple), ge 82642973306919742 "min" (Gd.blt Blt.min), ge 202741798151031235 "least_left" (Gd.fn 11), ge 82648973338919790 "set" (Gd.blt Blt.set), ge 662890622782221876 "range" (Gd.blt Blt.range), ge 186137734918858805 "is_short" (Gd.fn 12), ge 826794583512299264 "pairs_of" (Gd.fn 15), ge 560692509907879545 "is_let" (Gd.fn 16), ge 2190731924575783181 "like_names" (Gd.fn 14), ge 422863056092629085 "unlike_kinds" (Gd.fn 13), ge 1709167894868438494 "RULES" (Gd.con 4), ge 1256748159521852734 "are_unlike_words" (Gd.fn 18), ge 318524173818505372 "MOST_RULES" (Gd.con 5), ge 265072943306656299 "is_word" (Gd.fn 1), ge 841685810025613961 "MOST_BORNE" (Gd.con 6), ge 2008953667815416794 "sorted" (Gd.blt Blt.sorted), ge 2196136602531167654 "rank" (Gd.fn 21), ge 1032000900728095689 "of_side" (Gd.fn 23), ge 963909495065795812 "sets_of" (Gd.fn 24), ge 285043376409400428 "why_none" (Gd.fn 17), ge 1094781435979624814 "placed" (Gd.fn 25), ge 1876725961612044052 "is_time" (Gd.fn 4), ge 1437529298206436834 "is_quiet_time" (Gd.fn 27), ge 149761023767338651 "MOST_QUIET" (Gd.con 7), ge 453599984728693853 "are_quiet" (Gd.fn 28), ge 1145524770986969163 "are_borne" (Gd.fn 20), ge 2182562970842738054 "is_rule" (Gd.fn 19), ge 1195376784852221222 "BadRule" (Gd.xcl 2), ge 1779136364445414573 "row_of" (Gd.fn 22), ge 315463276781863904 "rest_paper" (Gd.fn 26), ge 807776620849555490 "list" (Gd.blt Blt.list), ge 1217403969876236662 "_law_draw" (Gd.fn 39), ge 1688287924079767144 "_law_pick" (Gd.fn 40), ge 107116573000973345 "MateError" (Gd.xcl 0), ge 657568294180139310 "House" (Gd.cls 13 29), ge 1785074816347207924 "ValueError" (Gd.blt Blt.verr), ge 303787235586746000 "TooLate" (Gd.xcl 7), ge 1336127848883078408 "BadBook" (Gd.xcl 11), ge 806997803026608835 "BadMany" (Gd.xcl 9), ge 2013526691011801130 "BadOffer" (Gd.xcl 3), ge 889539775621527220 "BadTime" (Gd.xcl 4), ge 2006777776521351710 "Full" (Gd.xcl 8), ge 1000496651134677061 "HasName" (Gd.xcl 5), ge 1088773362708729434 "NoLine" (Gd.xcl 12), ge 782940353500035462 "NoName" (Gd.xcl 6), ge 1290904293861219190 "NoNumber" (Gd.xcl 10), ge 2171312335269647806 "NoText" (Gd.xcl 1), ge 1080591366044715448 "_law_cell_at" (Gd.fn 37), ge 1770827896678685572 "_law_word" (Gd.fn 45), ge 1230496445324055903 "_law_bad_quiet" (Gd.fn 44), ge 1505643813271025793 "_law_begins" (Gd.fn 46), ge 1382474915001073376 "_law_rule" (Gd.fn 41), ge 2186041347523230978 "_law_borne" (Gd.fn 42), ge 1494116561264955668 "_law_quiet" (Gd.fn 43), ge 1076629905725379311 "_law_tape" (Gd.fn 38)]
def s0 : Stmt := top 6
def c0 : Ct := ⟨["thing", "sign"], defScope s0, none, [te 1082939895373473580 "thing" (Nd.loc 0), te 890310593385473784 "sign" (Nd.slo 1), te 82630973237919641 "all" (Nd.glo (Gd.blt Blt.all)), te 2219307832723368451 "LETTERS" (Nd.bgl (Gd.con 0)), te 82616973118919390 "SIX" (Nd.glo (Gd.con 1)), te 51754708455832430 "isinstance" (Nd.glo (Gd.blt Blt.isinstance)), te 82648973353919833 "str" (Nd.glo (Gd.blt Blt.str))], [], [], false, false, false, false⟩
def x0 : DefX := ⟨("are_letters", none), "are_letters", "are_letters", defArgs s0, defBody s0, ["thing"], c0⟩
def s1 : Stmt := top 7
def c1 : Ct := ⟨["thing"], defScope s1, none, [te 1082939895373473580 "thing" (Nd.loc 0), te 82641973296919721 "len" (Nd.glo (Gd.blt Blt.len)), te 1855861644499957088 "MOST_LETTERS" (Nd.glo (Gd.con 2)), te 2016207179946420794 "are_letters" (Nd.glo (Gd.fn 0))], [], [], false, false, false, false⟩
def x1 : DefX := ⟨("is_word", none), "is_word", "is_word", defArgs s1, defBody s1, ["thing"], c1⟩
def s2 : Stmt := top 8
def c2 : Ct := ⟨["thing"], defScope s2, none, [te 1082939895373473580 "thing" (Nd.loc 0), te 51754708455832430 "isinstance" (Nd.glo (Gd.blt Blt.isinstance)), te 31064657466331058 "bool" (Nd.glo (Gd.blt Blt.bool)), te 82638973287919727 "int" (Nd.glo (Gd.blt Blt.int))], [], [], false, false, false, false⟩
def x2 : DefX := ⟨("is_whole", none), "is_whole", "is_whole", defArgs s2, defBody s2, ["thing"], c2⟩
def s3 : Stmt := top 9
def c3 : Ct := ⟨["thing"], defScope s3, none, [te 1082939895373473580 "thing" (Nd.loc 0), te 1421012134934749681 "MOST_NUMBER" (Nd.glo (Gd.con 3)), te 861178335045525552 "is_whole" (Nd.glo (Gd.fn 2))], [], [], false, false, false, false⟩
def x3 : DefX := ⟨("is_number", none), "is_number", "is_number", defArgs s3, defBody s3, ["thing"], c3⟩
def s4 : Stmt := top 10
def c4 : Ct := ⟨["thing"], defScope s4, none, [te 1082939895373473580 "thing" (Nd.loc 0), te 831170832002865263 "is_number" (Nd.glo (Gd.fn 3))], [], [], false, false, false, false⟩
def x4 : DefX := ⟨("is_time", none), "is_time", "is_time", defArgs s4, defBody s4, ["thing"], c4⟩
def s5 : Stmt := top 11
def c5 : Ct := ⟨["card", "word"], defScope s5, none, [te 1031059657412330960 "card" (Nd.loc 0), te 278666575113086067 "word" (Nd.loc 1)], [], [], false, false, false, false⟩
def x5 : DefX := ⟨("has_mark", none), "has_mark", "has_mark", defArgs s5, defBody s5, ["card", "word"], c5⟩
def s6 : Stmt := top 12
def c6 : Ct := ⟨["card", "word", "name", "number"], defScope s6, none, [te 1031059657412330960 "card" (Nd.loc 0), te 278666575113086067 "word" (Nd.loc 1), te 501943611635861488 "name" (Nd.loc 2), te 1848204170604427049 "number" (Nd.loc 3)], [], [], false, false, false, false⟩
def x6 : DefX := ⟨("size_of", none), "size_of", "size_of", defArgs s6, defBody s6, ["card", "word"], c6⟩
def s7 : Stmt := top 28
def c7 : Ct := ⟨["wish", "number"], defScope s7, none, [te 278660575078086020 "wish" (Nd.loc 0), te 1848204170604427049 "number" (Nd.loc 1)], [], [], false, false, false, false⟩
def x7 : DefX := ⟨("lets_size", none), "lets_size", "lets_size", defArgs s7, defBody s7, ["wish", "number"], c7⟩
def s8 : Stmt := top 29
def c8 : Ct := ⟨["wish", "card", "word", "one"], defScope s8, none, [te 278660575078086020 "wish" (Nd.loc 0), te 1031059657412330960 "card" (Nd.loc 1), te 278666575113086067 "word" (Nd.loc 2), te 82644973323919766 "one" (Nd.slo 3), te 82630973239919660 "any" (Nd.glo (Gd.blt Blt.any)), te 807772620826555456 "lets" (Nd.glo (Gd.fn 8)), te 82630973237919641 "all" (Nd.glo (Gd.blt Blt.all)), te 1660681576156039325 "lets_size" (Nd.glo (Gd.fn 7)), te 1978180580801722547 "size_of" (Nd.glo (Gd.fn 6)), te 1934145545149680372 "has_mark" (Nd.glo (Gd.fn 5))], [], [], false, false, false, false⟩
def x8 : DefX := ⟨("lets", none), "lets", "lets", defArgs s8, defBody s8, ["wish", "card"], c8⟩
def s9 : Stmt := top 31
def c9 : Ct := ⟨["wishes", "card", "truth", "k", "wish"], defScope s9, none, [te 2163167898204179795 "wishes" (Nd.loc 0), te 1031059657412330960 "card" (Nd.loc 1), te 1859669858866698173 "truth" (Nd.loc 2), te 7000128 "k" (Nd.loc 3), te 278660575078086020 "wish" (Nd.loc 4), te 1345145890071212953 "enumerate" (Nd.glo (Gd.blt Blt.enumerate)), te 807772620826555456 "lets" (Nd.glo (Gd.fn 8))], [], [], false, false, false, false⟩
def x9 : DefX := ⟨("first_of", none), "first_of", "first_of", defArgs s9, defBody s9, ["wishes", "card", "truth"], c9⟩
def s10 : Stmt := top 32
def c10 : Ct := ⟨["wish", "card", "truth", "k", "one"], defScope s10, none, [te 278660575078086020 "wish" (Nd.loc 0), te 1031059657412330960 "card" (Nd.loc 1), te 1859669858866698173 "truth" (Nd.loc 2), te 7000128 "k" (Nd.loc 3), te 82644973323919766 "one" (Nd.slo 4), te 1149786955776686727 "reason" (Nd.glo (Gd.fn 10)), te 395480683690970897 "first_of" (Nd.glo (Gd.fn 9)), te 248005840482310280 "tuple" (Nd.glo (Gd.blt Blt.tuple)), te 807772620826555456 "lets" (Nd.glo (Gd.fn 8))], [], [], false, false, false, false⟩
def x10 : DefX := ⟨("reason", none), "reason", "reason", defArgs s10, defBody s10, ["wish", "card"], c10⟩
def s11 : Stmt := top 34
def c11 : Ct := ⟨["some", "offer", "left"], defScope s11, none, [te 890316593427473847 "some" (Nd.loc 0), te 544961154340333959 "offer" (Nd.slo 1), te 807772620812555415 "left" (Nd.slo 2), te 82642973306919742 "min" (Nd.glo (Gd.blt Blt.min))], [], [], false, false, false, false⟩
def x11 : DefX := ⟨("least_left", none), "least_left", "least_left", defArgs s11, defBody s11, ["some"], c11⟩
def s12 : Stmt := top 35
def c12 : Ct := ⟨["some", "i", "offer", "left"], defScope s12, none, [te 890316593427473847 "some" (Nd.loc 0), te 7000126 "i" (Nd.loc 1), te 544961154340333959 "offer" (Nd.loc 2), te 807772620812555415 "left" (Nd.loc 3), te 202741798151031235 "least_left" (Nd.glo (Gd.fn 11)), te 82642973306919742 "min" (Nd.glo (Gd.blt Blt.min))], [], [], false, false, false, false⟩
def x12 : DefX := ⟨("is_short", none), "is_short", "is_short", defArgs s12, defBody s12, ["some", "i"], c12⟩
def s13 : Stmt := top 36
def c13 : Ct := ⟨["some", "offer", "left"], defScope s13, none, [te 890316593427473847 "some" (Nd.loc 0), te 544961154340333959 "offer" (Nd.slo 1), te 807772620812555415 "left" (Nd.slo 2), te 82641973296919721 "len" (Nd.glo (Gd.blt Blt.len)), te 82648973338919790 "set" (Nd.glo (Gd.blt Blt.set))], [], [], false, false, false, false⟩
def x13 : DefX := ⟨("unlike_kinds", none), "unlike_kinds", "unlike_kinds", defArgs s13, defBody s13, ["some"], c13⟩
def s14 : Stmt := top 37
def c14 : Ct := ⟨["some", "offer", "left"], defScope s14, none, [te 890316593427473847 "some" (Nd.loc 0), te 544961154340333959 "offer" (Nd.slo 1), te 807772620812555415 "left" (Nd.slo 2), te 82641973296919721 "len" (Nd.glo (Gd.blt Blt.len)), te 82648973338919790 "set" (Nd.glo (Gd.blt Blt.set))], [], [], false, false, false, false⟩
def x14 : DefX := ⟨("like_names", none), "like_names", "like_names", defArgs s14, defBody s14, ["some"], c14⟩
def s15 : Stmt := top 38
def c15 : Ct := ⟨["some", "found", "i", "j"], defScope s15, none, [te 890316593427473847 "some" (Nd.loc 0), te 1108686776742752242 "found" (Nd.loc 1), te 7000126 "i" (Nd.loc 2), te 7000127 "j" (Nd.slo 3), te 662890622782221876 "range" (Nd.glo (Gd.blt Blt.range)), te 82641973296919721 "len" (Nd.glo (Gd.blt Blt.len))], [], [], false, false, false, false⟩
def x15 : DefX := ⟨("pairs_of", none), "pairs_of", "pairs_of", defArgs s15, defBody s15, ["some"], c15⟩
def s16 : Stmt := top 39
def c16 : Ct := ⟨["some", "i", "j"], defScope s16, none, [te 890316593427473847 "some" (Nd.loc 0), te 7000126 "i" (Nd.loc 1), te 7000127 "j" (Nd.loc 2), te 807772620826555456 "lets" (Nd.glo (Gd.fn 8))], [], [], false, false, false, false⟩
def x16 : DefX := ⟨("is_let", none), "is_let", "is_let", defArgs s16, defBody s16, ["some", "i", "j"], c16⟩
def s17 : Stmt := top 41
def c17 : Ct := ⟨["some", "i", "j"], defScope s17, none, [te 890316593427473847 "some" (Nd.loc 0), te 7000126 "i" (Nd.loc 1), te 7000127 "j" (Nd.loc 2), te 662890622782221876 "range" (Nd.glo (Gd.blt Blt.range)), te 82641973296919721 "len" (Nd.glo (Gd.blt Blt.len)), te 186137734918858805 "is_short" (Nd.glo (Gd.fn 12)), te 826794583512299264 "pairs_of" (Nd.glo (Gd.fn 15)), te 560692509907879545 "is_let" (Nd.glo (Gd.fn 16)), te 1149786955776686727 "reason" (Nd.glo (Gd.fn 10)), te 2190731924575783181 "like_names" (Nd.glo (Gd.fn 14)), te 422863056092629085 "unlike_kinds" (Nd.glo (Gd.fn 13))], [], [], false, false, false, false⟩
def x17 : DefX := ⟨("why_none", none), "why_none", "why_none", defArgs s17, defBody s17, ["some"], c17⟩
def s18 : Stmt := top 46
def c18 : Ct := ⟨["thing", "most", "word"], defScope s18, none, [te 1082939895373473580 "thing" (Nd.loc 0), te 1807791620912555571 "most" (Nd.loc 1), te 278666575113086067 "word" (Nd.slo 2), te 82641973296919721 "len" (Nd.glo (Gd.blt Blt.len)), te 82648973338919790 "set" (Nd.glo (Gd.blt Blt.set)), te 82630973237919641 "all" (Nd.glo (Gd.blt Blt.all)), te 51754708455832430 "isinstance" (Nd.glo (Gd.blt Blt.isinstance)), te 82648973353919833 "str" (Nd.bgl (Gd.blt Blt.str)), te 248005840482310280 "tuple" (Nd.glo (Gd.blt Blt.tuple))], [], [], false, false, false, false⟩
def x18 : DefX := ⟨("are_unlike_words", none), "are_unlike_words", "are_unlike_words", defArgs s18, defBody s18, ["thing", "most"], c18⟩
def s19 : Stmt := top 47
def c19 : Ct := ⟨["thing", "word"], defScope s19, none, [te 1082939895373473580 "thing" (Nd.loc 0), te 278666575113086067 "word" (Nd.slo 1), te 82630973237919641 "all" (Nd.glo (Gd.blt Blt.all)), te 1709167894868438494 "RULES" (Nd.bgl (Gd.con 4)), te 1256748159521852734 "are_unlike_words" (Nd.glo (Gd.fn 18)), te 318524173818505372 "MOST_RULES" (Nd.glo (Gd.con 5))], [], [], false, false, false, false⟩
def x19 : DefX := ⟨("is_rule", none), "is_rule", "is_rule", defArgs s19, defBody s19, ["thing"], c19⟩
def s20 : Stmt := top 48
def c20 : Ct := ⟨["thing", "word"], defScope s20, none, [te 1082939895373473580 "thing" (Nd.loc 0), te 278666575113086067 "word" (Nd.slo 1), te 82630973237919641 "all" (Nd.glo (Gd.blt Blt.all)), te 265072943306656299 "is_word" (Nd.bgl (Gd.fn 1)), te 1256748159521852734 "are_unlike_words" (Nd.glo (Gd.fn 18)), te 841685810025613961 "MOST_BORNE" (Nd.glo (Gd.con 6))], [], [], false, false, false, false⟩
def x20 : DefX := ⟨("are_borne", none), "are_borne", "are_borne", defArgs s20, defBody s20, ["thing"], c20⟩
def s21 : Stmt := top 49
def c21 : Ct := ⟨["rule", "waiter", "number", "offer", "left", "found", "word"], defScope s21, none, [te 2196156602649167822 "rule" (Nd.loc 0), te 36380734595621876 "waiter" (Nd.loc 1), te 1848204170604427049 "number" (Nd.loc 2), te 544961154340333959 "offer" (Nd.loc 3), te 807772620812555415 "left" (Nd.loc 4), te 1108686776742752242 "found" (Nd.loc 5), te 278666575113086067 "word" (Nd.loc 6)], [5], [], false, false, false, false⟩
def x21 : DefX := ⟨("rank", none), "rank", "rank", defArgs s21, defBody s21, ["rule", "waiter"], c21⟩
def s22 : Stmt := top 50
def c22 : Ct := ⟨["rule", "waiters", "ranks", "waiter", "one"], defScope s22, none, [te 2196156602649167822 "rule" (Nd.loc 0), te 1558581461213400816 "waiters" (Nd.loc 1), te 662890622786221902 "ranks" (Nd.loc 2), te 36380734595621876 "waiter" (Nd.slo 3), te 82644973323919766 "one" (Nd.slo 4), te 2008953667815416794 "sorted" (Nd.glo (Gd.blt Blt.sorted)), te 2196136602531167654 "rank" (Nd.bgl (Gd.fn 21))], [], [], false, false, false, false⟩
def x22 : DefX := ⟨("row_of", none), "row_of", "row_of", defArgs s22, defBody s22, ["rule", "waiters"], c22⟩
def s23 : Stmt := top 51
def c23 : Ct := ⟨["waiters", "side", "kind", "number", "offer", "left"], defScope s23, none, [te 1558581461213400816 "waiters" (Nd.loc 0), te 890310593382473766 "side" (Nd.loc 1), te 2113610630031249383 "kind" (Nd.loc 2), te 1848204170604427049 "number" (Nd.slo 3), te 544961154340333959 "offer" (Nd.slo 4), te 807772620812555415 "left" (Nd.slo 5)], [], [], false, false, false, false⟩
def x23 : DefX := ⟨("of_side", none), "of_side", "of_side", defArgs s23, defBody s23, ["waiters", "side", "kind"], c23⟩
def s24 : Stmt := top 52
def c24 : Ct := ⟨["borne", "waiters", "found", "kind", "giver", "taker", "number", "offer", "left", "one"], defScope s24, none, [te 433643176592085436 "borne" (Nd.loc 0), te 1558581461213400816 "waiters" (Nd.loc 1), te 1108686776742752242 "found" (Nd.loc 2), te 2113610630031249383 "kind" (Nd.loc 3), te 2194922954252000624 "giver" (Nd.loc 4), te 1000407922828555246 "taker" (Nd.loc 5), te 1848204170604427049 "number" (Nd.slo 6), te 544961154340333959 "offer" (Nd.slo 7), te 807772620812555415 "left" (Nd.slo 8), te 82644973323919766 "one" (Nd.slo 9), te 2008953667815416794 "sorted" (Nd.glo (Gd.blt Blt.sorted)), te 82648973338919790 "set" (Nd.glo (Gd.blt Blt.set)), te 1032000900728095689 "of_side" (Nd.glo (Gd.fn 23))], [2], [], false, false, false, false⟩
def x24 : DefX := ⟨("sets_of", none), "sets_of", "sets_of", defArgs s24, defBody s24, ["borne", "waiters"], c24⟩
def s25 : Stmt := top 53
def c25 : Ct := ⟨["waiters", "found", "number", "offer", "left"], defScope s25, none, [te 1558581461213400816 "waiters" (Nd.loc 0), te 1108686776742752242 "found" (Nd.loc 1), te 1848204170604427049 "number" (Nd.loc 2), te 544961154340333959 "offer" (Nd.loc 3), te 807772620812555415 "left" (Nd.loc 4)], [1], [], false, false, false, false⟩
def x25 : DefX := ⟨("placed", none), "placed", "placed", defArgs s25, defBody s25, ["waiters"], c25⟩
def s26 : Stmt := top 55
def c26 : Ct := ⟨["borne", "waiters", "ones", "found", "numbers", "why", "number"], defScope s26, none, [te 433643176592085436 "borne" (Nd.loc 0), te 1558581461213400816 "waiters" (Nd.loc 1), te 1501965611732861622 "ones" (Nd.loc 2), te 1108686776742752242 "found" (Nd.loc 3), te 450512859108654379 "numbers" (Nd.loc 4), te 82652973365919840 "why" (Nd.loc 5), te 1848204170604427049 "number" (Nd.slo 6), te 963909495065795812 "sets_of" (Nd.glo (Gd.fn 24)), te 285043376409400428 "why_none" (Nd.glo (Gd.fn 17)), te 1094781435979624814 "placed" (Nd.glo (Gd.fn 25))], [3], [], false, false, false, false⟩
def x26 : DefX := ⟨("rest_paper", none), "rest_paper", "rest_paper", defArgs s26, defBody s26, ["borne", "waiters"], c26⟩
def s27 : Stmt := top 58
def c27 : Ct := ⟨["thing"], defScope s27, none, [te 1082939895373473580 "thing" (Nd.loc 0), te 1876725961612044052 "is_time" (Nd.glo (Gd.fn 4)), te 82641973296919721 "len" (Nd.glo (Gd.blt Blt.len)), te 51754708455832430 "isinstance" (Nd.glo (Gd.blt Blt.isinstance)), te 248005840482310280 "tuple" (Nd.glo (Gd.blt Blt.tuple))], [], [], false, false, false, false⟩
def x27 : DefX := ⟨("is_quiet_time", none), "is_quiet_time", "is_quiet_time", defArgs s27, defBody s27, ["thing"], c27⟩
def s28 : Stmt := top 59
def c28 : Ct := ⟨["thing", "one", "k"], defScope s28, none, [te 1082939895373473580 "thing" (Nd.loc 0), te 82644973323919766 "one" (Nd.slo 1), te 7000128 "k" (Nd.slo 2), te 82630973237919641 "all" (Nd.glo (Gd.blt Blt.all)), te 662890622782221876 "range" (Nd.glo (Gd.blt Blt.range)), te 82641973296919721 "len" (Nd.glo (Gd.blt Blt.len)), te 1437529298206436834 "is_quiet_time" (Nd.bgl (Gd.fn 27)), te 149761023767338651 "MOST_QUIET" (Nd.glo (Gd.con 7)), te 51754708455832430 "isinstance" (Nd.glo (Gd.blt Blt.isinstance)), te 248005840482310280 "tuple" (Nd.glo (Gd.blt Blt.tuple))], [], [], false, false, false, false⟩
def x28 : DefX := ⟨("are_quiet", none), "are_quiet", "are_quiet", defArgs s28, defBody s28, ["thing"], c28⟩
def s29 : Stmt := inClass (top 60) 0
def c29 : Ct := ⟨["self", "rule", "borne", "quiet"], defScope s29, none, [te 890306593366473755 "self" (Nd.loc 0), te 2196156602649167822 "rule" (Nd.loc 1), te 433643176592085436 "borne" (Nd.loc 2), te 2047561399547504077 "quiet" (Nd.loc 3), te 453599984728693853 "are_quiet" (Nd.glo (Gd.fn 28)), te 1145524770986969163 "are_borne" (Nd.glo (Gd.fn 20)), te 2182562970842738054 "is_rule" (Nd.glo (Gd.fn 19)), te 1195376784852221222 "BadRule" (Nd.glo (Gd.xcl 2))], [], [], false, false, false, false⟩
def x29 : DefX := ⟨("House", some "__init__"), "__init__", "House.__init__", defArgs s29, defBody s29, ["self", "rule", "borne", "quiet"], c29⟩
def s30 : Stmt := inClass (top 60) 2
def c30 : Ct := ⟨["self", "number", "end"], defScope s30, none, [te 890306593366473755 "self" (Nd.loc 0), te 1848204170604427049 "number" (Nd.slo 1), te 82634973263919675 "end" (Nd.slo 2), te 1345145890071212953 "enumerate" (Nd.glo (Gd.blt Blt.enumerate))], [], [], false, false, false, false⟩
def x30 : DefX := ⟨("House", some "waiting"), "waiting", "House.waiting", defArgs s30, defBody s30, ["self"], c30⟩
def s31 : Stmt := inClass (top 60) 3
def c31 : Ct := ⟨["self", "number"], defScope s31, none, [te 890306593366473755 "self" (Nd.loc 0), te 1848204170604427049 "number" (Nd.slo 1)], [], [], false, false, false, false⟩
def x31 : DefX := ⟨("House", some "waiters"), "waiters", "House.waiters", defArgs s31, defBody s31, ["self"], c31⟩
def s32 : Stmt := inClass (top 60) 19
def c32 : Ct := ⟨["self"], defScope s32, none, [te 890306593366473755 "self" (Nd.loc 0)], [], [], false, false, false, false⟩
def x32 : DefX := ⟨("House", some "now"), "now", "House.now", defArgs s32, defBody s32, ["self"], c32⟩
def s33 : Stmt := inClass (top 60) 20
def c33 : Ct := ⟨["self"], defScope s33, none, [te 890306593366473755 "self" (Nd.loc 0), te 1779136364445414573 "row_of" (Nd.glo (Gd.fn 22))], [], [], false, false, false, false⟩
def x33 : DefX := ⟨("House", some "row"), "row", "House.row", defArgs s33, defBody s33, ["self"], c33⟩
def s34 : Stmt := inClass (top 60) 25
def c34 : Ct := ⟨["self", "line"], defScope s34, none, [te 890306593366473755 "self" (Nd.loc 0), te 807776620844555460 "line" (Nd.slo 1)], [], [], false, false, false, false⟩
def x34 : DefX := ⟨("House", some "meetings"), "meetings", "House.meetings", defArgs s34, defBody s34, ["self"], c34⟩
def s35 : Stmt := inClass (top 60) 26
def c35 : Ct := ⟨["self"], defScope s35, none, [te 890306593366473755 "self" (Nd.loc 0), te 315463276781863904 "rest_paper" (Nd.glo (Gd.fn 26))], [], [], false, false, false, false⟩
def x35 : DefX := ⟨("House", some "rest"), "rest", "House.rest", defArgs s35, defBody s35, ["self"], c35⟩
def s36 : Stmt := inClass (top 60) 27
def c36 : Ct := ⟨["self"], defScope s36, none, [te 890306593366473755 "self" (Nd.loc 0), te 807776620849555490 "list" (Nd.glo (Gd.blt Blt.list))], [], [], false, false, false, false⟩
def x36 : DefX := ⟨("House", some "book"), "book", "House.book", defArgs s36, defBody s36, ["self"], c36⟩
def s37 : Stmt := top 62
def c37 : Ct := ⟨["_law_script", "_law_k"], defScope s37, none, [te 1924275274927890197 "_law_script" (Nd.loc 0), te 2115376637814651689 "_law_k" (Nd.loc 1), te 82641973296919721 "len" (Nd.glo (Gd.blt Blt.len))], [], [], false, false, false, false⟩
def x37 : DefX := ⟨("_law_cell_at", none), "_law_cell_at", "_law_cell_at", defArgs s37, defBody s37, ["_law_script", "_law_k"], c37⟩
def s38 : Stmt := top 63
def c38 : Ct := ⟨["_law_cell"], defScope s38, none, [te 217381969782236540 "_law_cell" (Nd.loc 0), te 82638973287919727 "int" (Nd.glo (Gd.blt Blt.int))], [], [], true, false, false, false⟩
def x38 : DefX := ⟨("_law_tape", none), "_law_tape", "_law_tape", defArgs s38, defBody s38, ["_law_cell"], c38⟩
def s39 : Stmt := top 64
def c39 : Ct := ⟨["_law_tape_here", "_law_many", "_law_found", "_law_number"], defScope s39, none, [te 1240929288059711338 "_law_tape_here" (Nd.loc 0), te 994095933175460989 "_law_many" (Nd.loc 1), te 555241938460203833 "_law_found" (Nd.loc 2), te 1482815568956206891 "_law_number" (Nd.loc 3)], [], [], false, false, false, false⟩
def x39 : DefX := ⟨("_law_draw", none), "_law_draw", "_law_draw", defArgs s39, defBody s39, ["_law_tape_here", "_law_many"], c39⟩
def s40 : Stmt := top 65
def c40 : Ct := ⟨["_law_tape_here", "_law_some"], defScope s40, none, [te 1240929288059711338 "_law_tape_here" (Nd.loc 0), te 76634905779379401 "_law_some" (Nd.loc 1), te 1217403969876236662 "_law_draw" (Nd.glo (Gd.fn 39)), te 82641973296919721 "len" (Nd.glo (Gd.blt Blt.len))], [], [], false, false, false, false⟩
def x40 : DefX := ⟨("_law_pick", none), "_law_pick", "_law_pick", defArgs s40, defBody s40, ["_law_tape_here", "_law_some"], c40⟩
def s41 : Stmt := top 66
def c41 : Ct := ⟨["_law_tape_here", "_law_words", "_law_found", "_law_k"], defScope s41, none, [te 1240929288059711338 "_law_tape_here" (Nd.loc 0), te 1118318479782343655 "_law_words" (Nd.loc 1), te 555241938460203833 "_law_found" (Nd.loc 2), te 2115376637814651689 "_law_k" (Nd.loc 3), te 248005840482310280 "tuple" (Nd.glo (Gd.blt Blt.tuple)), te 662890622782221876 "range" (Nd.glo (Gd.blt Blt.range)), te 1217403969876236662 "_law_draw" (Nd.glo (Gd.fn 39)), te 82641973296919721 "len" (Nd.glo (Gd.blt Blt.len))], [1, 2], [], false, false, false, false⟩
def x41 : DefX := ⟨("_law_rule", none), "_law_rule", "_law_rule", defArgs s41, defBody s41, ["_law_tape_here"], c41⟩
def s42 : Stmt := top 67
def c42 : Ct := ⟨["_law_tape_here"], defScope s42, none, [te 1240929288059711338 "_law_tape_here" (Nd.loc 0), te 1217403969876236662 "_law_draw" (Nd.glo (Gd.fn 39))], [], [], false, false, false, false⟩
def x42 : DefX := ⟨("_law_borne", none), "_law_borne", "_law_borne", defArgs s42, defBody s42, ["_law_tape_here"], c42⟩
def s43 : Stmt := top 68
def c43 : Ct := ⟨["_law_tape_here", "_law_found", "_law_time", "_law_k", "_law_begin"], defScope s43, none, [te 1240929288059711338 "_law_tape_here" (Nd.loc 0), te 555241938460203833 "_law_found" (Nd.loc 1), te 1076637905770379374 "_law_time" (Nd.loc 2), te 2115376637814651689 "_law_k" (Nd.loc 3), te 1409312384037006407 "_law_begin" (Nd.loc 4), te 248005840482310280 "tuple" (Nd.glo (Gd.blt Blt.tuple)), te 662890622782221876 "range" (Nd.glo (Gd.blt Blt.range)), te 1217403969876236662 "_law_draw" (Nd.glo (Gd.fn 39))], [1], [], false, false, false, false⟩
def x43 : DefX := ⟨("_law_quiet", none), "_law_quiet", "_law_quiet", defArgs s43, defBody s43, ["_law_tape_here"], c43⟩
def s44 : Stmt := top 69
def c44 : Ct := ⟨["_law_tape_here", "_law_quiet_here", "_law_last", "_law_begin", "_law_end", "_law_odd", "_law_found", "_law_touch", "_law_many", "_law_k"], defScope s44, none, [te 1240929288059711338 "_law_tape_here" (Nd.loc 0), te 2057871912067381839 "_law_quiet_here" (Nd.loc 1), te 2299929942367154923 "_law_last" (Nd.loc 2), te 1409312384037006407 "_law_begin" (Nd.loc 3), te 43305819204545441 "_law_end" (Nd.loc 4), te 43315819254545501 "_law_odd" (Nd.loc 5), te 555241938460203833 "_law_found" (Nd.loc 6), te 612041029699843583 "_law_touch" (Nd.loc 7), te 994095933175460989 "_law_many" (Nd.loc 8), te 2115376637814651689 "_law_k" (Nd.slo 9), te 1688287924079767144 "_law_pick" (Nd.glo (Gd.fn 40)), te 248005840482310280 "tuple" (Nd.glo (Gd.blt Blt.tuple)), te 662890622782221876 "range" (Nd.glo (Gd.blt Blt.range)), te 807776620849555490 "list" (Nd.glo (Gd.blt Blt.list))], [5, 6], [], false, false, false, false⟩
def x44 : DefX := ⟨("_law_bad_quiet", none), "_law_bad_quiet", "_law_bad_quiet", defArgs s44, defBody s44, ["_law_tape_here", "_law_quiet_here"], c44⟩
def s45 : Stmt := top 70
def c45 : Ct := ⟨["_law_rule_here", "_law_borne_here", "_law_quiet_here", "_law_kinds", "e", "_law_others"], defScope s45, none, [te 117949281377352494 "_law_rule_here" (Nd.loc 0), te 1703667283316206326 "_law_borne_here" (Nd.loc 1), te 2057871912067381839 "_law_quiet_here" (Nd.loc 2), te 10667706839424970 "_law_kinds" (Nd.loc 3), te 7000122 "e" (Nd.loc 4), te 1543854722208042327 "_law_others" (Nd.loc 5), te 107116573000973345 "MateError" (Nd.glo (Gd.xcl 0)), te 657568294180139310 "House" (Nd.glo (Gd.cls 13 29)), te 51754708455832430 "isinstance" (Nd.glo (Gd.blt Blt.isinstance)), te 1195376784852221222 "BadRule" (Nd.glo (Gd.xcl 2)), te 1785074816347207924 "ValueError" (Nd.glo (Gd.blt Blt.verr)), te 303787235586746000 "TooLate" (Nd.glo (Gd.xcl 7)), te 1336127848883078408 "BadBook" (Nd.glo (Gd.xcl 11)), te 806997803026608835 "BadMany" (Nd.glo (Gd.xcl 9)), te 2013526691011801130 "BadOffer" (Nd.glo (Gd.xcl 3)), te 889539775621527220 "BadTime" (Nd.glo (Gd.xcl 4)), te 2006777776521351710 "Full" (Nd.glo (Gd.xcl 8)), te 1000496651134677061 "HasName" (Nd.glo (Gd.xcl 5)), te 1088773362708729434 "NoLine" (Nd.glo (Gd.xcl 12)), te 782940353500035462 "NoName" (Nd.glo (Gd.xcl 6)), te 1290904293861219190 "NoNumber" (Nd.glo (Gd.xcl 10)), te 2171312335269647806 "NoText" (Nd.glo (Gd.xcl 1))], [], [], false, false, false, false⟩
def x45 : DefX := ⟨("_law_word", none), "_law_word", "_law_word", defArgs s45, defBody s45, ["_law_rule_here", "_law_borne_here", "_law_quiet_here"], c45⟩
def s46 : Stmt := top 71
def c46 : Ct := ⟨["_law_house"], defScope s46, none, [te 892762238531537239 "_law_house" (Nd.loc 0)], [], [], false, false, false, false⟩
def x46 : DefX := ⟨("_law_begins", none), "_law_begins", "_law_begins", defArgs s46, defBody s46, ["_law_house"], c46⟩
def s47 : Stmt := top 72
def c47 : Ct := ⟨["_law_script", "_law_cell", "_law_tape_here", "_law_right", "_law_rules", "_law_kinds", "_law_bad", "_law_at", "_law_other", "_law_asked", "_law_k"], defScope s47, none, [te 1924275274927890197 "_law_script" (Nd.loc 0), te 217381969782236540 "_law_cell" (Nd.loc 1), te 1240929288059711338 "_law_tape_here" (Nd.loc 2), te 1191981757033591785 "_law_right" (Nd.loc 3), te 1662879711316122389 "_law_rules" (Nd.loc 4), te 10667706839424970 "_law_kinds" (Nd.loc 5), te 43302819173545375 "_law_bad" (Nd.loc 6), te 301448913078613802 "_law_at" (Nd.loc 7), te 156586261165622240 "_law_other" (Nd.loc 8), te 1405624179119676398 "_law_asked" (Nd.loc 9), te 2115376637814651689 "_law_k" (Nd.slo 10), te 1080591366044715448 "_law_cell_at" (Nd.glo (Gd.fn 37)), te 1770827896678685572 "_law_word" (Nd.glo (Gd.fn 45)), te 662890622782221876 "range" (Nd.glo (Gd.blt Blt.range)), te 82638973287919727 "int" (Nd.bgl (Gd.blt Blt.int)), te 1217403969876236662 "_law_draw" (Nd.glo (Gd.fn 39)), te 453599984728693853 "are_quiet" (Nd.glo (Gd.fn 28)), te 1688287924079767144 "_law_pick" (Nd.glo (Gd.fn 40)), te 1230496445324055903 "_law_bad_quiet" (Nd.glo (Gd.fn 44)), te 1505643813271025793 "_law_begins" (Nd.glo (Gd.fn 46)), te 657568294180139310 "House" (Nd.glo (Gd.cls 13 29)), te 1382474915001073376 "_law_rule" (Nd.glo (Gd.fn 41)), te 2186041347523230978 "_law_borne" (Nd.glo (Gd.fn 42)), te 1494116561264955668 "_law_quiet" (Nd.glo (Gd.fn 43)), te 1076629905725379311 "_law_tape" (Nd.glo (Gd.fn 38))], [], [], false, false, false, false⟩
def x47 : DefX := ⟨("law", none), "law", "law", defArgs s47, defBody s47, ["_law_script"], c47⟩
def sx4 : Stmt := inClass (top 18) 0
def xd4 : XinD := ⟨4, "last", { at_ := ("BadTime", some "__init__"), name := "__init__", qual := "BadTime.__init__", params := defArgs sx4, body := defBody sx4, scope := defScope sx4 }⟩
def sx1 : Stmt := inClass (top 15) 0
def xd1 : XinD := ⟨1, "at", { at_ := ("NoText", some "__init__"), name := "__init__", qual := "NoText.__init__", params := defArgs sx1, body := defBody sx1, scope := defScope sx1 }⟩
def YY : Sys := ⟨GG, glt, ["MateError", "NoText", "BadRule", "BadOffer", "BadTime", "HasName", "NoName", "TooLate", "Full", "BadMany", "NoNumber", "BadBook", "NoLine", "House"], [x0, x1, x2, x3, x4, x5, x6, x7, x8, x9, x10, x11, x12, x13, x14, x15, x16, x17, x18, x19, x20, x21, x22, x23, x24, x25, x26, x27, x28, x29, x30, x31, x32, x33, x34, x35, x36, x37, x38, x39, x40, x41, x42, x43, x44, x45, x46, x47], 60, [xd4, xd1], []⟩
theorem ok : YY.ok = true := by kernel_rfl
def b0 (φ : Nat → Fn) : M Flo :=
  (dSeq (dIf (dOrT (dNotT (dTru (dOp1 (isiD "str") (dPeek 0)))) (dOrT (dBl (dOp2 (cmpEq false) (dPeek 0) (M.ret (D.str "")))) (dBl (dOp2 (inF false) (dPeek 0) (M.ret (D.rt [(D.str "any"), (D.str "is"), (D.str "by"), (D.str "not"), (D.str "and"), (D.str "or")])))))) (dRet (M.ret (D.bl false))) (M.ret .nx))
  (dRet (dOp1 allD (dFz (dComp (dWalk (dVar 0)) (gNm 1) (M.ret true) (dOp2 (inF false) (dPeek 1) (M.ret (D.str "abcdefghijklmnopqrstuvwxyz"))) [1])))))
theorem e0 (φ : Nat → Fn) : bodyM GG φ 60 x0.m = b0 φ := by kernel_rfl
theorem p0 (n : Nat) : psi YY (n + 1) 0 = runD x0.m (b0 (psi YY n)) := by
  show runD x0.m (bodyM GG (psi YY n) 60 x0.m) = _
  rw [e0]
def b1 (φ : Nat → Fn) : M Flo :=
  (dRet (dAnd (dFn φ 0 1 (dArgs [(dVar 0)])) (dOp2 leD (dOp1 lenD (dPeek 0)) (M.ret (D.int 8)))))
theorem e1 (φ : Nat → Fn) : bodyM GG φ 60 x1.m = b1 φ := by kernel_rfl
theorem p1 (n : Nat) : psi YY (n + 1) 1 = runD x1.m (b1 (psi YY n)) := by
  show runD x1.m (bodyM GG (psi YY n) 60 x1.m) = _
  rw [e1]
def b2 (φ : Nat → Fn) : M Flo :=
  (dRet (dAnd (dOp1 (isiD "int") (dPeek 0)) (dNot (dOp1 (isiD "bool") (dPeek 0)))))
theorem e2 (φ : Nat → Fn) : bodyM GG φ 60 x2.m = b2 φ := by kernel_rfl
theorem p2 (n : Nat) : psi YY (n + 1) 2 = runD x2.m (b2 (psi YY n)) := by
  show runD x2.m (bodyM GG (psi YY n) 60 x2.m) = _
  rw [e2]
def b3 (φ : Nat → Fn) : M Flo :=
  (dRet (dAnd (dFn φ 2 1 (dArgs [(dVar 0)])) (dChain leD leD (M.ret (D.int 0)) (dPeek 0) (M.ret (D.int 1000000000)))))
theorem e3 (φ : Nat → Fn) : bodyM GG φ 60 x3.m = b3 φ := by kernel_rfl
theorem p3 (n : Nat) : psi YY (n + 1) 3 = runD x3.m (b3 (psi YY n)) := by
  show runD x3.m (bodyM GG (psi YY n) 60 x3.m) = _
  rw [e3]
def b4 (φ : Nat → Fn) : M Flo :=
  (dRet (dFn φ 3 1 (dArgs [(dVar 0)])))
theorem e4 (φ : Nat → Fn) : bodyM GG φ 60 x4.m = b4 φ := by kernel_rfl
theorem p4 (n : Nat) : psi YY (n + 1) 4 = runD x4.m (b4 (psi YY n)) := by
  show runD x4.m (bodyM GG (psi YY n) 60 x4.m) = _
  rw [e4]
def b18 (φ : Nat → Fn) : M Flo :=
  (dSeq (dIf (dOrT (dNotT (dTru (dOp1 (isiD "tuple") (dPeek 0)))) (dBl (dOp2 gtD (dOp1 lenD (dPeek 0)) (dPeek 1)))) (dRet (M.ret (D.bl false))) (M.ret .nx))
  (dSeq (dIf (dNotT (dTru (dOp1 allD (dFz (dComp (dWalk (dVar 0)) (gNm 2) (M.ret true) (dOp1 (isiD "str") (dPeek 2)) [2]))))) (dRet (M.ret (D.bl false))) (M.ret .nx))
  (dRet (dOp2 (cmpEq false) (dOp1 lsetD (dPeek 0)) (dOp1 lenD (dPeek 0))))))
theorem e18 (φ : Nat → Fn) : bodyM GG φ 60 x18.m = b18 φ := by kernel_rfl
theorem p18 (n : Nat) : psi YY (n + 1) 18 = runD x18.m (b18 (psi YY n)) := by
  show runD x18.m (bodyM GG (psi YY n) 60 x18.m) = _
  rw [e18]
def b19 (φ : Nat → Fn) : M Flo :=
  (dRet (dAnd (dFn φ 18 2 (dArgs [(dVar 0), (M.ret (D.int 3))])) (dOp1 allD (dFz (dComp (dWalk (dVar 0)) (gNm 1) (M.ret true) (dOp2 (inF false) (dPeek 1) (M.ret (D.rt [(D.str "heavy"), (D.str "great"), (D.str "small"), (D.str "soon")]))) [1])))))
theorem e19 (φ : Nat → Fn) : bodyM GG φ 60 x19.m = b19 φ := by kernel_rfl
theorem p19 (n : Nat) : psi YY (n + 1) 19 = runD x19.m (b19 (psi YY n)) := by
  show runD x19.m (bodyM GG (psi YY n) 60 x19.m) = _
  rw [e19]
def b20 (φ : Nat → Fn) : M Flo :=
  (dRet (dAnd (dFn φ 18 2 (dArgs [(dVar 0), (M.ret (D.int 4))])) (dOp1 allD (dFz (dComp (dWalk (dVar 0)) (gNm 1) (M.ret true) (dFn φ 1 1 (dArgs [(dVar 1)])) [1])))))
theorem e20 (φ : Nat → Fn) : bodyM GG φ 60 x20.m = b20 φ := by kernel_rfl
theorem p20 (n : Nat) : psi YY (n + 1) 20 = runD x20.m (b20 (psi YY n)) := by
  show runD x20.m (bodyM GG (psi YY n) 60 x20.m) = _
  rw [e20]
def b21 (φ : Nat → Fn) : M Flo :=
  (dSeq (dAsg (gTp [(gNm 2), (gNm 3), (gNm 4)]) (dVar 1))
  (dSeq (dSetOwn 5 (dLst (dArgs [])))
  (dSeq (dFor (dWalk (dVar 0)) (gNm 6) (dIf (dBl (dOp2 (cmpEq false) (dPeek 6) (M.ret (D.str "heavy")))) (dExpr (dMut appF (dPeek 5) (dArgs [(dOp2 subD (M.ret (D.int 0)) (dOp2 ixD (dPeek 3) (M.ret (D.int 5))))]))) (dIf (dBl (dOp2 (cmpEq false) (dPeek 6) (M.ret (D.str "great")))) (dExpr (dMut appF (dPeek 5) (dArgs [(dOp2 subD (M.ret (D.int 0)) (dPeek 4))]))) (dIf (dBl (dOp2 (cmpEq false) (dPeek 6) (M.ret (D.str "small")))) (dExpr (dMut appF (dPeek 5) (dArgs [(dVar 4)]))) (dExpr (dMut appF (dPeek 5) (dArgs [(dOp2 ixD (dPeek 3) (M.ret (D.int 6)))])))))))
  (dRet (dOp2 addD (dPeek 5) (dFz (dLst (dArgs [(dVar 2)]))))))))
theorem e21 (φ : Nat → Fn) : bodyM GG φ 60 x21.m = b21 φ := by kernel_rfl
theorem p21 (n : Nat) : psi YY (n + 1) 21 = runD x21.m (b21 (psi YY n)) := by
  show runD x21.m (bodyM GG (psi YY n) 60 x21.m) = _
  rw [e21]
def b22 (φ : Nat → Fn) : M Flo :=
  (dSeq (dSet 2 (dFz (dOpF1 sortedF (dFz (dComp (dWalk (dVar 1)) (gNm 3) (M.ret true) (dFn φ 21 2 (dArgs [(dVar 0), (dVar 3)])) [3])))))
  (dRet (dFz (dComp (dWalk (dVar 2)) (gNm 4) (M.ret true) (dOp2 ixD (dPeek 4) (dOp1 negD (M.ret (D.int 1)))) [4]))))
theorem e22 (φ : Nat → Fn) : bodyM GG φ 60 x22.m = b22 φ := by kernel_rfl
theorem p22 (n : Nat) : psi YY (n + 1) 22 = runD x22.m (b22 (psi YY n)) := by
  show runD x22.m (bodyM GG (psi YY n) 60 x22.m) = _
  rw [e22]
def b23 (φ : Nat → Fn) : M Flo :=
  (dRet (dFz (dComp (dWalk (dVar 0)) (gTp [(gNm 3), (gNm 4), (gNm 5)]) (dAndT (dBl (dOp2 (cmpEq false) (dOp2 ixD (dPeek 4) (M.ret (D.int 0))) (dPeek 1))) (dBl (dOp2 (cmpEq false) (dOp2 ixD (dOp2 ixD (dPeek 4) (M.ret (D.int 1))) (M.ret (D.int 1))) (dPeek 2)))) (dVar 3) [3, 4, 5])))
theorem e23 (φ : Nat → Fn) : bodyM GG φ 60 x23.m = b23 φ := by kernel_rfl
theorem p23 (n : Nat) : psi YY (n + 1) 23 = runD x23.m (b23 (psi YY n)) := by
  show runD x23.m (bodyM GG (psi YY n) 60 x23.m) = _
  rw [e23]
def b24 (φ : Nat → Fn) : M Flo :=
  (dSeq (dSetOwn 2 (dLst (dArgs [])))
  (dSeq (dFor (dWalk (dFz (dOpF1 ssetF (dFz (dComp (dWalk (dVar 1)) (gTp [(gNm 6), (gNm 7), (gNm 8)]) (M.ret true) (dOp2 ixD (dOp2 ixD (dPeek 7) (M.ret (D.int 1))) (M.ret (D.int 1))) [6, 7, 8]))))) (gNm 3) (dFor (dWalk (dFn φ 23 3 (dArgs [(dVar 1), (M.ret (D.str "give")), (dVar 3)]))) (gNm 4) (dFor (dWalk (dFn φ 23 3 (dArgs [(dVar 1), (M.ret (D.str "take")), (dVar 3)]))) (gNm 5) (dIf (dBl (dOp2 (inF false) (dPeek 3) (dPeek 0))) (dSetOwn 2 (dOpF2 catF (dPeek 2) (dFz (dComp (dWalk (dFn φ 23 3 (dArgs [(dVar 1), (M.ret (D.str "bear")), (dVar 3)]))) (gNm 9) (M.ret true) (dTup (dArgs [(dVar 4), (dVar 5), (dVar 9)])) [9])))) (dExpr (dMut appF (dPeek 2) (dArgs [(dTup (dArgs [(dVar 4), (dVar 5)]))])))))))
  (dRet (dFz (dOpF1 sortedF (dPeek 2))))))
theorem e24 (φ : Nat → Fn) : bodyM GG φ 60 x24.m = b24 φ := by kernel_rfl
theorem p24 (n : Nat) : psi YY (n + 1) 24 = runD x24.m (b24 (psi YY n)) := by
  show runD x24.m (bodyM GG (psi YY n) 60 x24.m) = _
  rw [e24]
def b25 (φ : Nat → Fn) : M Flo :=
  (dSeq (dSetOwn 1 (M.ret (Cell.dk [] [])))
  (dSeq (dFor (dWalk (dVar 0)) (gTp [(gNm 2), (gNm 3), (gNm 4)]) (dSetIx (dTup (dArgs [(dVar 3), (dVar 4)])) (dPeek 1) (dPeek 2)))
  (dRet (dVar 1))))
theorem e25 (φ : Nat → Fn) : bodyM GG φ 60 x25.m = b25 φ := by kernel_rfl
theorem p25 (n : Nat) : psi YY (n + 1) 25 = runD x25.m (b25 (psi YY n)) := by
  show runD x25.m (bodyM GG (psi YY n) 60 x25.m) = _
  rw [e25]
def b26 (φ : Nat → Fn) : M Flo :=
  (dSeq (dSet 2 (dFn φ 25 1 (dArgs [(dVar 1)])))
  (dSeq (dSetOwn 3 (M.ret (Cell.dk [] [])))
  (dSeq (dFor (dWalk (dFn φ 24 2 (dArgs [(dVar 0), (dVar 1)]))) (gNm 4) (dSeq (dSet 5 (dFn φ 17 1 (dArgs [(dFz (dComp (dWalk (dVar 4)) (gNm 6) (M.ret true) (dOp2 ixD (dPeek 2) (dPeek 6)) [6]))])))
  (dSeq (dIf (dBl (dOp2 (isD false) (dPeek 5) (M.ret D.non))) (dRet (M.ret D.non)) (M.ret .nx))
  (dSetIx (dVar 5) (dPeek 3) (dPeek 4)))))
  (dRet (dVar 3)))))
theorem e26 (φ : Nat → Fn) : bodyM GG φ 60 x26.m = b26 φ := by kernel_rfl
theorem p26 (n : Nat) : psi YY (n + 1) 26 = runD x26.m (b26 (psi YY n)) := by
  show runD x26.m (bodyM GG (psi YY n) 60 x26.m) = _
  rw [e26]
def b27 (φ : Nat → Fn) : M Flo :=
  (dSeq (dIf (dOrT (dNotT (dTru (dOp1 (isiD "tuple") (dPeek 0)))) (dOrT (dBl (dOp2 (cmpEq true) (dOp1 lenD (dPeek 0)) (M.ret (D.int 2)))) (dOrT (dNotT (dTru (dFn φ 4 1 (dArgs [(dOp2 ixD (dPeek 0) (M.ret (D.int 0)))])))) (dNotT (dTru (dFn φ 4 1 (dArgs [(dOp2 ixD (dPeek 0) (M.ret (D.int 1)))]))))))) (dRet (M.ret (D.bl false))) (M.ret .nx))
  (dRet (dOp2 ltD (dOp2 ixD (dPeek 0) (M.ret (D.int 0))) (dOp2 ixD (dPeek 0) (M.ret (D.int 1))))))
theorem e27 (φ : Nat → Fn) : bodyM GG φ 60 x27.m = b27 φ := by kernel_rfl
theorem p27 (n : Nat) : psi YY (n + 1) 27 = runD x27.m (b27 (psi YY n)) := by
  show runD x27.m (bodyM GG (psi YY n) 60 x27.m) = _
  rw [e27]
def b28 (φ : Nat → Fn) : M Flo :=
  (dSeq (dIf (dOrT (dNotT (dTru (dOp1 (isiD "tuple") (dPeek 0)))) (dOrT (dBl (dOp2 gtD (dOp1 lenD (dPeek 0)) (M.ret (D.int 8)))) (dNotT (dTru (dOp1 allD (dFz (dComp (dWalk (dVar 0)) (gNm 1) (M.ret true) (dFn φ 27 1 (dArgs [(dVar 1)])) [1]))))))) (dRet (M.ret (D.bl false))) (M.ret .nx))
  (dRet (dOp1 allD (dFz (dComp (dRng1 (dOp2 subD (dOp1 lenD (dPeek 0)) (M.ret (D.int 1)))) (gNm 2) (M.ret true) (dOp2 ltD (dOp2 ixD (dOp2 ixD (dPeek 0) (dPeek 2)) (M.ret (D.int 1))) (dOp2 ixD (dOp2 ixD (dPeek 0) (dOp2 addD (dPeek 2) (M.ret (D.int 1)))) (M.ret (D.int 0)))) [2])))))
theorem e28 (φ : Nat → Fn) : bodyM GG φ 60 x28.m = b28 φ := by kernel_rfl
theorem p28 (n : Nat) : psi YY (n + 1) 28 = runD x28.m (b28 (psi YY n)) := by
  show runD x28.m (bodyM GG (psi YY n) 60 x28.m) = _
  rw [e28]
def b29 (φ : Nat → Fn) : M Flo :=
  (dSeq (dIf (dOrT (dNotT (dTru (dFn φ 19 1 (dArgs [(dVar 1)])))) (dOrT (dNotT (dTru (dFn φ 20 1 (dArgs [(dVar 2)])))) (dNotT (dTru (dFn φ 28 1 (dArgs [(dVar 3)])))))) (dRaise0 2) (M.ret .nx))
  (dSeq (dSetFld [13] "rule" (dVar 0) (dVar 1))
  (dSeq (dSetFld [13] "borne" (dVar 0) (dVar 2))
  (dSeq (dSetFld [13] "quiet" (dVar 0) (dVar 3))
  (dSeq (dSetFld [13] "time" (dVar 0) (M.ret D.non))
  (dSeq (dSetFldF [13] "offers" (dVar 0) (dLst (dArgs [])))
  (dSeq (dSetFldF [13] "lefts" (dVar 0) (dLst (dArgs [])))
  (dSeq (dSetFldF [13] "ends" (dVar 0) (dLst (dArgs [])))
  (dSetFldF [13] "lines" (dVar 0) (dLst (dArgs [])))))))))))
theorem e29 (φ : Nat → Fn) : bodyM GG φ 60 x29.m = b29 φ := by kernel_rfl
theorem p29 (n : Nat) : psi YY (n + 1) 29 = runD x29.m (b29 (psi YY n)) := by
  show runD x29.m (bodyM GG (psi YY n) 60 x29.m) = _
  rw [e29]
def b30 (φ : Nat → Fn) : M Flo :=
  (dRet (dFz (dComp (dEnum (dFld [13] "ends" (dVar 0))) (gTp [(gNm 1), (gNm 2)]) (dBl (dOp2 (isD false) (dPeek 2) (M.ret D.non))) (dVar 1) [1, 2])))
theorem e30 (φ : Nat → Fn) : bodyM GG φ 60 x30.m = b30 φ := by kernel_rfl
theorem p30 (n : Nat) : psi YY (n + 1) 30 = runD x30.m (b30 (psi YY n)) := by
  show runD x30.m (bodyM GG (psi YY n) 60 x30.m) = _
  rw [e30]
def b31 (φ : Nat → Fn) : M Flo :=
  (dRet (dFz (dComp (dWalk (dMeths GG φ [(13, 30)] "waiting" (dVar 0) (dArgs []))) (gNm 1) (M.ret true) (dTup (dArgs [(dVar 1), (dOp2 ixD (dFld [13] "offers" (dVar 0)) (dPeek 1)), (dOp2 ixD (dFld [13] "lefts" (dVar 0)) (dPeek 1))])) [1])))
theorem e31 (φ : Nat → Fn) : bodyM GG φ 60 x31.m = b31 φ := by kernel_rfl
theorem p31 (n : Nat) : psi YY (n + 1) 31 = runD x31.m (b31 (psi YY n)) := by
  show runD x31.m (bodyM GG (psi YY n) 60 x31.m) = _
  rw [e31]
def b32 (φ : Nat → Fn) : M Flo :=
  (dRet (dFld [13] "time" (dVar 0)))
theorem e32 (φ : Nat → Fn) : bodyM GG φ 60 x32.m = b32 φ := by kernel_rfl
theorem p32 (n : Nat) : psi YY (n + 1) 32 = runD x32.m (b32 (psi YY n)) := by
  show runD x32.m (bodyM GG (psi YY n) 60 x32.m) = _
  rw [e32]
def b33 (φ : Nat → Fn) : M Flo :=
  (dRet (dFn φ 22 2 (dArgs [(dFld [13] "rule" (dVar 0)), (dMeths GG φ [(13, 31)] "waiters" (dVar 0) (dArgs []))])))
theorem e33 (φ : Nat → Fn) : bodyM GG φ 60 x33.m = b33 φ := by kernel_rfl
theorem p33 (n : Nat) : psi YY (n + 1) 33 = runD x33.m (b33 (psi YY n)) := by
  show runD x33.m (bodyM GG (psi YY n) 60 x33.m) = _
  rw [e33]
def b34 (φ : Nat → Fn) : M Flo :=
  (dRet (dFz (dComp (dWalk (dFld [13] "lines" (dVar 0))) (gNm 1) (dBl (dOp2 (cmpEq false) (dOp2 ixD (dPeek 1) (M.ret (D.int 0))) (M.ret (D.str "meet")))) (dSl (dPeek 1) (some (M.ret (D.int 1))) none) [1])))
theorem e34 (φ : Nat → Fn) : bodyM GG φ 60 x34.m = b34 φ := by kernel_rfl
theorem p34 (n : Nat) : psi YY (n + 1) 34 = runD x34.m (b34 (psi YY n)) := by
  show runD x34.m (bodyM GG (psi YY n) 60 x34.m) = _
  rw [e34]
def b35 (φ : Nat → Fn) : M Flo :=
  (dRet (dFn φ 26 2 (dArgs [(dFld [13] "borne" (dVar 0)), (dMeths GG φ [(13, 31)] "waiters" (dVar 0) (dArgs []))])))
theorem e35 (φ : Nat → Fn) : bodyM GG φ 60 x35.m = b35 φ := by kernel_rfl
theorem p35 (n : Nat) : psi YY (n + 1) 35 = runD x35.m (b35 (psi YY n)) := by
  show runD x35.m (bodyM GG (psi YY n) 60 x35.m) = _
  rw [e35]
def b36 (φ : Nat → Fn) : M Flo :=
  (dRet (dFz (dOpF1 listF (dFld [13] "lines" (dVar 0)))))
theorem e36 (φ : Nat → Fn) : bodyM GG φ 60 x36.m = b36 φ := by kernel_rfl
theorem p36 (n : Nat) : psi YY (n + 1) 36 = runD x36.m (b36 (psi YY n)) := by
  show runD x36.m (bodyM GG (psi YY n) 60 x36.m) = _
  rw [e36]
def b37 (φ : Nat → Fn) : M Flo :=
  (dSeq (dIf (dBl (dOp2 ltD (dPeek 1) (dOp1 lenD (dPeek 0)))) (dRet (dOp2 ixD (dPeek 0) (dPeek 1))) (M.ret .nx))
  (dRet (M.ret (D.int 0))))
theorem e37 (φ : Nat → Fn) : bodyM GG φ 60 x37.m = b37 φ := by kernel_rfl
theorem p37 (n : Nat) : psi YY (n + 1) 37 = runD x37.m (b37 (psi YY n)) := by
  show runD x37.m (bodyM GG (psi YY n) 60 x37.m) = _
  rw [e37]
def b38 (φ : Nat → Fn) : M Flo :=
  (dRetHp (dLst (dArgs [(dOp2 mulD (dPeek 0) (dOp1 intD (dOp2 geD (dPeek 0) (dOp2 powD (M.ret (D.int 10)) (M.ret (D.int 18)))))), (dOp2 modD (dPeek 0) (M.ret (D.int 2147483647))), (M.ret (D.int 0))])))
theorem e38 (φ : Nat → Fn) : bodyM GG φ 60 x38.m = b38 φ := by kernel_rfl
theorem p38 (n : Nat) : psi YY (n + 1) 38 = runD x38.m (b38 (psi YY n)) := by
  show runD x38.m (bodyM GG (psi YY n) 60 x38.m) = _
  rw [e38]
def b39 (φ : Nat → Fn) : M Flo :=
  (dSeq (dIf (dBl (dOp2 gtD (dOp2 ixD (dPeek 0) (M.ret (D.int 0))) (M.ret (D.int 0)))) (dSeq (dSet 2 (dOp2 modD (dOp2 ixD (dPeek 0) (M.ret (D.int 0))) (dPeek 1)))
  (dSeq (dSetIx (dOp2 fdivD (dOp2 ixD (dPeek 0) (M.ret (D.int 0))) (dPeek 1)) (dPeek 0) (M.ret (D.int 0)))
  (dRet (dVar 2)))) (M.ret .nx))
  (dSeq (dSetIx (dOp2 addD (dOp2 ixD (dPeek 0) (M.ret (D.int 2))) (M.ret (D.int 1))) (dPeek 0) (M.ret (D.int 2)))
  (dSeq (dSet 3 (dOp2 modD (dOp2 mulD (dOp2 addD (dOp2 addD (dOp2 ixD (dPeek 0) (M.ret (D.int 1))) (dOp2 mulD (M.ret (D.int 7919)) (dOp2 ixD (dPeek 0) (M.ret (D.int 2))))) (M.ret (D.int 1))) (M.ret (D.int 48271))) (M.ret (D.int 2147483647))))
  (dSeq (dSet 3 (dOp2 modD (dOp2 mulD (dPeek 3) (dOp2 addD (dOp2 fdivD (dPeek 3) (M.ret (D.int 1009))) (M.ret (D.int 69621)))) (M.ret (D.int 2147483647))))
  (dRet (dOp2 modD (dOp2 modD (dOp2 mulD (dPeek 3) (dOp2 addD (dOp2 fdivD (dPeek 3) (M.ret (D.int 2003))) (M.ret (D.int 40692)))) (M.ret (D.int 2147483399))) (dPeek 1)))))))
theorem e39 (φ : Nat → Fn) : bodyM GG φ 60 x39.m = b39 φ := by kernel_rfl
theorem p39 (n : Nat) : psi YY (n + 1) 39 = runD x39.m (b39 (psi YY n)) := by
  show runD x39.m (bodyM GG (psi YY n) 60 x39.m) = _
  rw [e39]
def b40 (φ : Nat → Fn) : M Flo :=
  (dRet (dOp2 ixD (dPeek 1) (dFn φ 39 2 (dArgs [(dVar 0), (dOp1 lenD (dPeek 1))]))))
theorem e40 (φ : Nat → Fn) : bodyM GG φ 60 x40.m = b40 φ := by kernel_rfl
theorem p40 (n : Nat) : psi YY (n + 1) 40 = runD x40.m (b40 (psi YY n)) := by
  show runD x40.m (bodyM GG (psi YY n) 60 x40.m) = _
  rw [e40]
def b41 (φ : Nat → Fn) : M Flo :=
  (dSeq (dSetOwn 1 (dLst (dArgs [(M.ret (D.str "heavy")), (M.ret (D.str "great")), (M.ret (D.str "small")), (M.ret (D.str "soon"))])))
  (dSeq (dSetOwn 2 (dLst (dArgs [])))
  (dSeq (dFor (dRng1 (dOp2 ixD (dFz (dLst (dArgs [(M.ret (D.int 0)), (M.ret (D.int 1)), (M.ret (D.int 1)), (M.ret (D.int 2)), (M.ret (D.int 3))]))) (dFn φ 39 2 (dArgs [(dVar 0), (M.ret (D.int 5))])))) (gNm 3) (dExpr (dMut appF (dPeek 2) (dArgs [(dMut popAtF (dPeek 1) (dArgs [(dFn φ 39 2 (dArgs [(dVar 0), (dOp1 lenD (dPeek 1))]))]))]))))
  (dRet (dOp1 tupleD (dPeek 2))))))
theorem e41 (φ : Nat → Fn) : bodyM GG φ 60 x41.m = b41 φ := by kernel_rfl
theorem p41 (n : Nat) : psi YY (n + 1) 41 = runD x41.m (b41 (psi YY n)) := by
  show runD x41.m (bodyM GG (psi YY n) 60 x41.m) = _
  rw [e41]
def b42 (φ : Nat → Fn) : M Flo :=
  (dRet (dOp2 ixD (dFz (dLst (dArgs [(dTup (dArgs [])), (dTup (dArgs [])), (dTup (dArgs [(M.ret (D.str "rye"))])), (dTup (dArgs [(M.ret (D.str "o")), (M.ret (D.str "rye"))])), (dTup (dArgs [(M.ret (D.str "oat")), (M.ret (D.str "rye")), (M.ret (D.str "o")), (M.ret (D.str "wheat"))]))]))) (dFn φ 39 2 (dArgs [(dVar 0), (M.ret (D.int 5))]))))
theorem e42 (φ : Nat → Fn) : bodyM GG φ 60 x42.m = b42 φ := by kernel_rfl
theorem p42 (n : Nat) : psi YY (n + 1) 42 = runD x42.m (b42 (psi YY n)) := by
  show runD x42.m (bodyM GG (psi YY n) 60 x42.m) = _
  rw [e42]
def b43 (φ : Nat → Fn) : M Flo :=
  (dSeq (dSetOwn 1 (dLst (dArgs [])))
  (dSeq (dSet 2 (dOp1 negD (M.ret (D.int 1))))
  (dSeq (dFor (dRng1 (dOp2 ixD (dFz (dLst (dArgs [(dFn φ 39 2 (dArgs [(dVar 0), (M.ret (D.int 4))])), (M.ret (D.int 8)), (dFn φ 39 2 (dArgs [(dVar 0), (M.ret (D.int 9))]))]))) (dFn φ 39 2 (dArgs [(dVar 0), (M.ret (D.int 3))])))) (gNm 3) (dSeq (dSet 4 (dOp2 addD (dOp2 addD (dPeek 2) (M.ret (D.int 1))) (dOp2 ixD (dFz (dLst (dArgs [(dFn φ 39 2 (dArgs [(dVar 0), (M.ret (D.int 3))])), (dFn φ 39 2 (dArgs [(dVar 0), (dOp2 mulD (M.ret (D.int 5)) (dOp2 powD (M.ret (D.int 10)) (M.ret (D.int 7))))]))]))) (dFn φ 39 2 (dArgs [(dVar 0), (M.ret (D.int 2))])))))
  (dSeq (dSet 2 (dOp2 addD (dOp2 addD (dPeek 4) (M.ret (D.int 1))) (dOp2 ixD (dFz (dLst (dArgs [(dFn φ 39 2 (dArgs [(dVar 0), (M.ret (D.int 3))])), (dFn φ 39 2 (dArgs [(dVar 0), (dOp2 mulD (M.ret (D.int 5)) (dOp2 powD (M.ret (D.int 10)) (M.ret (D.int 7))))]))]))) (dFn φ 39 2 (dArgs [(dVar 0), (M.ret (D.int 2))])))))
  (dExpr (dMut appF (dPeek 1) (dArgs [(dTup (dArgs [(dVar 4), (dVar 2)]))]))))))
  (dRet (dOp1 tupleD (dPeek 1))))))
theorem e43 (φ : Nat → Fn) : bodyM GG φ 60 x43.m = b43 φ := by kernel_rfl
theorem p43 (n : Nat) : psi YY (n + 1) 43 = runD x43.m (b43 (psi YY n)) := by
  show runD x43.m (bodyM GG (psi YY n) 60 x43.m) = _
  rw [e43]
def b44 (φ : Nat → Fn) : M Flo :=
  (dSeq (dSet 2 (M.ret (D.int 0)))
  (dSeq (dFor (dWalk (dVar 1)) (gTp [(gNm 3), (gNm 4)]) (dSet 2 (dVar 4)))
  (dSeq (dSetOwn 5 (dLst (dArgs [(dTup (dArgs [(dOp2 addD (dPeek 2) (M.ret (D.int 5))), (dOp2 addD (dPeek 2) (M.ret (D.int 5)))])), (dTup (dArgs [(dOp2 addD (dPeek 2) (M.ret (D.int 9))), (dOp2 addD (dPeek 2) (M.ret (D.int 5)))])), (dTup (dArgs [(dOp2 addD (dPeek 2) (M.ret (D.int 1))), (dOp2 addD (dOp2 powD (M.ret (D.int 10)) (M.ret (D.int 9))) (M.ret (D.int 1)))])), (dTup (dArgs [(dOp1 negD (M.ret (D.int 1))), (M.ret (D.int 3))])), (dTup (dArgs [(dOp2 addD (dPeek 2) (M.ret (D.int 1))), (M.ret (D.bl true))]))])))
  (dSeq (dExpr (dMut appF (dPeek 5) (dArgs [(dTup (dArgs [(M.ret D.non), (dOp2 addD (dPeek 2) (M.ret (D.int 3)))]))])))
  (dSeq (dSetOwn 5 (dOpF2 catF (dPeek 5) (dFz (dLst (dArgs [(dTup (dArgs [(M.ret (D.str "1")), (M.ret (D.str "2"))])), (dTup (dArgs [(dOp2 addD (dPeek 2) (M.ret (D.int 1)))])), (dTup (dArgs [(dOp2 addD (dPeek 2) (M.ret (D.int 1))), (dOp2 addD (dPeek 2) (M.ret (D.int 2))), (dOp2 addD (dPeek 2) (M.ret (D.int 3)))])), (dFz (dLst (dArgs [(dOp2 addD (dPeek 2) (M.ret (D.int 1))), (dOp2 addD (dPeek 2) (M.ret (D.int 2)))]))), (M.ret D.non), (M.ret (D.int 7)), (M.ret (D.str "3-7"))])))))
  (dSeq (dSetOwn 5 (dOpF2 catF (dPeek 5) (dFz (dLst (dArgs [(dTup (dArgs [(dOp2 addD (dPeek 2) (M.ret (D.int 2))), (dFz (dLst (dArgs [(dOp2 addD (dPeek 2) (M.ret (D.int 5)))])))]))])))))
  (dSeq (dSetOwn 6 (dLst (dArgs [(dFz (dOpF1 listF (dPeek 1))), (M.ret D.non), (M.ret (D.str "")), (M.ret (D.int 5)), (M.ret (D.bl true)), (dFz (M.ret (Cell.dk [] []))), (M.ret (D.str "3-7")), (dOp2 addD (dPeek 1) (dTup (dArgs [(dFn φ 40 2 (dArgs [(dVar 0), (dVar 5)]))])))])))
  (dSeq (dExpr (dMut appF (dPeek 6) (dArgs [(dOp2 addD (dTup (dArgs [(dFn φ 40 2 (dArgs [(dVar 0), (dVar 5)]))])) (dPeek 1))])))
  (dSeq (dIf (dBl (dOp2 (cmpEq true) (dPeek 1) (dTup (dArgs [])))) (dSeq (dSet 7 (dTup (dArgs [(dOp2 ixD (dOp2 ixD (dPeek 1) (dOp1 negD (M.ret (D.int 1)))) (M.ret (D.int 1))), (dOp2 addD (dOp2 ixD (dOp2 ixD (dPeek 1) (dOp1 negD (M.ret (D.int 1)))) (M.ret (D.int 1))) (M.ret (D.int 4)))])))
  (dSeq (dSetOwn 6 (dOpF2 catF (dPeek 6) (dFz (dLst (dArgs [(dOp2 addD (dPeek 1) (dTup (dArgs [(dVar 7)]))), (dOp2 addD (dPeek 1) (dSl (dPeek 1) none (some (M.ret (D.int 1))))), (dOp2 addD (dPeek 1) (dTup (dArgs [(dTup (dArgs [(dOp2 ixD (dOp2 ixD (dPeek 1) (dOp1 negD (M.ret (D.int 1)))) (M.ret (D.int 0))), (dOp2 addD (dOp2 ixD (dOp2 ixD (dPeek 1) (dOp1 negD (M.ret (D.int 1)))) (M.ret (D.int 1))) (M.ret (D.int 1)))]))])))])))))
  (dExpr (dMut appF (dPeek 6) (dArgs [(dOp2 addD (dSl (dPeek 1) none (some (dOp1 negD (M.ret (D.int 1))))) (dTup (dArgs [(dOp1 revD (dOp2 ixD (dPeek 1) (dOp1 negD (M.ret (D.int 1)))))])))]))))) (M.ret .nx))
  (dSeq (dSet 8 (dOp1 tupleD (dFz (dComp (dRng1 (M.ret (D.int 9))) (gNm 9) (M.ret true) (dTup (dArgs [(dOp2 mulD (M.ret (D.int 10)) (dPeek 9)), (dOp2 addD (dOp2 mulD (M.ret (D.int 10)) (dPeek 9)) (M.ret (D.int 5)))])) [9]))))
  (dRet (dFn φ 40 2 (dArgs [(dVar 0), (dOp2 addD (dPeek 6) (dFz (dLst (dArgs [(dVar 8)]))))])))))))))))))
theorem e44 (φ : Nat → Fn) : bodyM GG φ 60 x44.m = b44 φ := by kernel_rfl
theorem p44 (n : Nat) : psi YY (n + 1) 44 = runD x44.m (b44 (psi YY n)) := by
  show runD x44.m (bodyM GG (psi YY n) 60 x44.m) = _
  rw [e44]
def b45 (φ : Nat → Fn) : M Flo :=
  (dSeq (dSet 3 (M.ret D.non))
  (dSeq (dTryE GG.xcs 0 4 (dExpr (dMake 13 4 (φ 29) (dArgs [(dVar 0), (dVar 1), (dVar 2)]))) (dSeq (dSet 5 (dIsX GG.xcs 4 [some 11, some 9, some 3, some 4, some 8, some 5, some 12, some 6, some 10, some 1]))
  (dSet 3 (dTup (dArgs [(dIsX GG.xcs 4 [some 2]), (dIsX GG.xcs 4 [none]), (dOr (dVar 5) (dIsX GG.xcs 4 [some 7]))])))))
  (dRet (dVar 3))))
theorem e45 (φ : Nat → Fn) : bodyM GG φ 60 x45.m = b45 φ := by kernel_rfl
theorem p45 (n : Nat) : psi YY (n + 1) 45 = runD x45.m (b45 (psi YY n)) := by
  show runD x45.m (bodyM GG (psi YY n) 60 x45.m) = _
  rw [e45]
def b46 (φ : Nat → Fn) : M Flo :=
  (dSeq (dIf (dOrT (dBl (dOp2 (isD true) (dMeths GG φ [(13, 32)] "now" (dVar 0) (dArgs [])) (M.ret D.non))) (dOrT (dBl (dOp2 (cmpEq true) (dMeths GG φ [(13, 33)] "row" (dVar 0) (dArgs [])) (dFz (dLst (dArgs []))))) (dOrT (dBl (dOp2 (cmpEq true) (dMeths GG φ [(13, 36)] "book" (dVar 0) (dArgs [])) (dFz (dLst (dArgs []))))) (dBl (dOp2 (cmpEq true) (dMeths GG φ [(13, 34)] "meetings" (dVar 0) (dArgs [])) (dFz (dLst (dArgs [])))))))) (dRet (M.ret (D.bl false))) (M.ret .nx))
  (dRet (dAnd (dOp2 (cmpEq false) (dMeths GG φ [(13, 31)] "waiters" (dVar 0) (dArgs [])) (dFz (dLst (dArgs [])))) (dOp2 (cmpEq false) (dMeths GG φ [(13, 35)] "rest" (dVar 0) (dArgs [])) (dFz (M.ret (Cell.dk [] [])))))))
theorem e46 (φ : Nat → Fn) : bodyM GG φ 60 x46.m = b46 φ := by kernel_rfl
theorem p46 (n : Nat) : psi YY (n + 1) 46 = runD x46.m (b46 (psi YY n)) := by
  show runD x46.m (bodyM GG (psi YY n) 60 x46.m) = _
  rw [e46]
def b47 (φ : Nat → Fn) : M Flo :=
  (dSeq (dFor (dWalk (dOp2 addD (dFz (dLst (dArgs [(dFn φ 37 2 (dArgs [(dVar 0), (M.ret (D.int 0))]))]))) (dSl (dPeek 0) (some (M.ret (D.int 1))) (some (M.ret (D.int 12)))))) (gNm 1) (dSeq (dSet 2 (dFn φ 38 1 (dArgs [(dVar 1)])))
  (dSeq (dSet 3 (dFz (dLst (dArgs [(dFn φ 41 1 (dArgs [(dVar 2)])), (dFn φ 42 1 (dArgs [(dVar 2)])), (dFn φ 43 1 (dArgs [(dVar 2)]))]))))
  (dSeq (dIf (dOrT (dBl (dOp2 (isD true) (dFn φ 28 1 (dArgs [(dOp2 ixD (dPeek 3) (M.ret (D.int 2)))])) (M.ret (D.bl true)))) (dBl (dOp2 (isD true) (dFn φ 45 3 (dArgs [(dOp2 ixD (dPeek 3) (M.ret (D.int 0))), (dOp2 ixD (dPeek 3) (M.ret (D.int 1))), (dOp2 ixD (dPeek 3) (M.ret (D.int 2)))])) (M.ret D.non)))) (dRet (M.ret (D.bl false))) (M.ret .nx))
  (dSeq (dIf (dNotT (dTru (dFn φ 46 1 (dArgs [(dMake 13 4 (φ 29) (dArgs [(dOp2 ixD (dPeek 3) (M.ret (D.int 0))), (dOp2 ixD (dPeek 3) (M.ret (D.int 1))), (dOp2 ixD (dPeek 3) (M.ret (D.int 2)))]))])))) (dRet (M.ret (D.bl false))) (M.ret .nx))
  (dSeq (dSet 4 (dFz (dLst (dArgs [(dTup (dArgs [(M.ret (D.str "heavy")), (M.ret (D.str "heavy"))])), (dTup (dArgs [(M.ret (D.str "light"))])), (dFz (dLst (dArgs [(M.ret (D.str "heavy"))]))), (M.ret D.non), (dTup (dArgs [(M.ret (D.str "heavy")), (M.ret (D.str "great")), (M.ret (D.str "small")), (M.ret (D.str "soon"))])), (M.ret (D.str "heavy"))]))))
  (dSeq (dSet 5 (dFz (dLst (dArgs [(dTup (dArgs [(M.ret (D.str "rye")), (M.ret (D.str "rye"))])), (dTup (dArgs [(M.ret (D.str "any"))])), (dFz (dLst (dArgs [(M.ret (D.str "rye"))]))), (M.ret D.non), (dTup (dArgs [(M.ret (D.str "a")), (M.ret (D.str "b")), (M.ret (D.str "c")), (M.ret (D.str "d")), (M.ret (D.str "e"))])), (M.ret (D.str "rye")), (dTup (dArgs [(M.ret (D.int 7))])), (dTup (dArgs [(M.ret (D.str "Rye"))]))]))))
  (dSeq (dSet 6 (dFz (dLst (dArgs [(dFn φ 40 2 (dArgs [(dVar 2), (dVar 4)])), (dFn φ 40 2 (dArgs [(dVar 2), (dVar 5)])), (dFn φ 44 2 (dArgs [(dVar 2), (dOp2 ixD (dPeek 3) (M.ret (D.int 2)))]))]))))
  (dSeq (dIf (dBl (dOp2 (isD true) (dFn φ 28 1 (dArgs [(dOp2 ixD (dPeek 6) (M.ret (D.int 2)))])) (M.ret (D.bl false)))) (dRet (M.ret (D.bl false))) (M.ret .nx))
  (dSeq (dSet 7 (dFn φ 39 2 (dArgs [(dVar 2), (M.ret (D.int 3))])))
  (dSeq (dSet 8 (dFn φ 39 2 (dArgs [(dVar 2), (M.ret (D.int 3))])))
  (dSeq (dSet 9 (dFz (dComp (dRng1 (M.ret (D.int 3))) (gNm 10) (M.ret true) (dOp2 ixD (dFz (dLst (dArgs [(dOp2 ixD (dPeek 3) (dPeek 10)), (dOp2 ixD (dPeek 6) (dPeek 10))]))) (dOp1 intD (dOp2 (inF false) (dPeek 10) (dTup (dArgs [(dVar 7), (dVar 8)]))))) [10])))
  (dIf (dBl (dOp2 (cmpEq true) (dFn φ 45 3 (dArgs [(dOp2 ixD (dPeek 9) (M.ret (D.int 0))), (dOp2 ixD (dPeek 9) (M.ret (D.int 1))), (dOp2 ixD (dPeek 9) (M.ret (D.int 2)))])) (dTup (dArgs [(M.ret (D.bl true)), (M.ret (D.bl true)), (M.ret (D.bl false))])))) (dRet (M.ret (D.bl false))) (M.ret .nx))))))))))))))
  (dRet (M.ret (D.bl true))))
theorem e47 (φ : Nat → Fn) : bodyM GG φ 60 x47.m = b47 φ := by kernel_rfl
theorem p47 (n : Nat) : psi YY (n + 1) 47 = runD x47.m (b47 (psi YY n)) := by
  show runD x47.m (bodyM GG (psi YY n) 60 x47.m) = _
  rw [e47]
end L2.K51
end
section
set_option Elab.async false
set_option linter.all false
set_option maxRecDepth 100000
set_option maxHeartbeats 0
namespace L2.K51
open PySem PySem.Spec PyProof.Rows L2.MP
abbrev RR : PySem.W.OpenRow := PySem.W.OpenLaw.row PySem.Challenge.rw_matepoint_k51_houses_that_are_none
abbrev hkk : PySem.W.Hook := hookM 4 YY.fn YY.ts YY.ex
def obb (s : PySem.W.SharedT) : He.AlX := obsM 4 YY.fn YY.ts YY.ex (HandSHeadRun.getT s)
theorem obb_eq (s : PySem.W.SharedT) : obb s = hkk.obs s.abs := obsM_eq (HandSHeadRun.getT_eq s)
def loose0 : List PySem.Str := ["_wall", "__name__", "LETTERS", "SIX", "MOST_LETTERS", "MOST_NUMBER", "are_letters", "is_word", "is_whole", "is_number", "is_time", "has_mark", "size_of", "MateError", "NoText", "BadRule", "BadOffer", "BadTime", "HasName", "NoName", "TooLate", "Full", "BadMany", "NoNumber", "BadBook", "NoLine", "lets_size", "lets", "first_of", "reason"]
def loose1 : List PySem.Str := ["least_left", "is_short", "unlike_kinds", "like_names", "pairs_of", "is_let", "part", "why_none", "RULES", "MOST_RULES", "MOST_BORNE", "are_unlike_words", "is_rule", "are_borne", "rank", "row_of", "of_side", "sets_of", "placed", "first_meeting", "rest_paper", "MOST_QUIET", "is_quiet_time", "are_quiet", "House", "_law_cell_at", "_law_tape", "_law_draw", "_law_pick", "_law_rule"]
def loose2 : List PySem.Str := ["_law_borne", "_law_quiet", "_law_bad_quiet", "_law_word", "_law_begins"]
abbrev looseA : List PySem.Str := loose0 ++ loose1 ++ loose2
theorem runs (w : World) : HandSHeadRun.RunEq RR (PySem.W.view RR.prog [72]) hkk obb 12000 looseA w := by
  intro os
  kernel_rfl
end L2.K51
open PySem PySem.W PySem.Calls PyProof.Rows
theorem L2.K51.holds (good : ∀ ns : List Int, ns.length ≤ 63 → ∃ S, L2.MP.psi L2.K51.YY 40 47 [.rl (ns.map L2.MP.D.int)] [] = .ok (.bl true) S) : PySem.Challenge.rw_matepoint_k51_houses_that_are_none.Holds := by
  w_on; o_law
  refine HandSHeadRun.head_any (r := L2.K51.RR) (q := view L2.K51.RR.prog [72]) (H := L2.K51.hkk) (ob := L2.K51.obb) (M := 12000) (loose := L2.K51.looseA) (d := HandSHeadRun.topDef L2.K51.RR.prog 72) (kwd := []) L2.K51.obb_eq
    (by kernel_rfl) (fun s => by kernel_rfl) L2.K51.runs (by kernel_rfl) (by kernel_rfl) (by kernel_rfl) (by rfl) (by first | assumption | decide +kernel) (by decide +kernel) ⟨rfl, rfl, rfl, rfl, rfl, by decide +kernel⟩ ?hw ?hc
  case hw => w_witness2
  case hc => exact L2.MP.walk_sys (iL := 47) (dL := L2.K51.x47) (x := "_law_script") L2.K51.ok rfl (by kernel_rfl) rfl rfl (by kernel_rfl) ⟨rfl, by decide, by decide⟩ good
end
section
set_option Elab.async false
set_option linter.all false
set_option maxRecDepth 100000
set_option maxHeartbeats 4000000
namespace L2.MP
open PySem PySem.Spec PyProof.Rows
def Vp {α : Type} (m : M α) (env : Envr) (S : Sto) (Q : α → Envr → Sto → Prop) (E : Exn → Envr → Sto → Prop) : Prop := match m env S with
  | .ok a e s => Q a e s
  | .exc x e s => E x e s
  | .bad => False
def Vc (r : FOut) (Q : D → Sto → Prop) (E : Exn → Sto → Prop) : Prop := match r with
  | .ok d s => Q d s
  | .exc x s => E x s
  | .bad => False
abbrev nE : Exn → Envr → Sto → Prop := fun _ _ _ => False
abbrev nX : Exn → Sto → Prop := fun _ _ => False
section
variable {α β : Type} {env : Envr} {S : Sto} {E : Exn → Envr → Sto → Prop}
theorem Vp.mono {m : M α} {Q Q' : α → Envr → Sto → Prop} {E' : Exn → Envr → Sto → Prop} (h : Vp m env S Q E) (hq : ∀ a e s, Q a e s → Q' a e s) (he : ∀ x e s, E x e s → E' x e s) : Vp m env S Q' E' := by
  unfold Vp at *
  cases e : m env S with
  | ok a e1 s1 => rw [e] at h; exact hq _ _ _ h
  | exc x e1 s1 => rw [e] at h; exact he _ _ _ h
  | bad => rw [e] at h; exact h
theorem Vc.mono {r : FOut} {Q Q' : D → Sto → Prop} {E E' : Exn → Sto → Prop} (h : Vc r Q E) (hq : ∀ a s, Q a s → Q' a s) (he : ∀ x s, E x s → E' x s) : Vc r Q' E' := by
  unfold Vc at *
  cases e : r with
  | ok a s1 => rw [e] at h; exact hq _ _ h
  | exc x s1 => rw [e] at h; exact he _ _ h
  | bad => rw [e] at h; exact h
theorem Vc.ok {r : FOut} {Q : D → Sto → Prop} (h : Vc r Q nX) : ∃ d s, r = .ok d s ∧ Q d s := by
  unfold Vc at h
  cases e : r with
  | ok a s1 => rw [e] at h; exact ⟨_, _, rfl, h⟩
  | exc x s1 => rw [e] at h; exact h.elim
  | bad => rw [e] at h; exact h.elim
theorem Vc.of {r : FOut} {d : D} {s : Sto} {Q : D → Sto → Prop} {E : Exn → Sto → Prop} (h : r = .ok d s) (q : Q d s) : Vc r Q E := by rw [h]; exact q
theorem v_bind {m : M α} {f : α → M β} {Q : β → Envr → Sto → Prop} (h : Vp m env S (fun a e s => Vp (f a) e s Q E) E) : Vp (M.bind m f) env S Q E := by
  unfold Vp M.bind at *
  cases e : m env S <;> (rw [e] at h; exact h)
theorem v_ret {a : α} {Q : α → Envr → Sto → Prop} (h : Q a env S) : Vp (M.ret a) env S Q E := h
theorem v_opt {o : Option α} {a : α} {Q : α → Envr → Sto → Prop} (e : o = some a) (h : Q a env S) : Vp (M.opt o) env S Q E := by subst e; exact h
theorem v_getS {Q : Envr × Sto → Envr → Sto → Prop} (h : Q (env, S) env S) : Vp getS env S Q E := h
theorem v_if {c : Prop} [Decidable c] {m m' : M α} {Q : α → Envr → Sto → Prop} (h : c) (q : Vp m env S Q E) : Vp (if c then m else m') env S Q E := by rw [if_pos h]; exact q
theorem v_var {i : Nat} {d : D} {Q : D → Envr → Sto → Prop} (e : env[i]? = some (.val d)) (h : Q d env S) : Vp (dVar i) env S Q E := by
  unfold Vp dVar; rw [e]; exact h
theorem v_varO {i : Nat} {c : Cell} {d : D} {Q : D → Envr → Sto → Prop} (e : env[i]? = some (.own c)) (f : frozen c = some d) (h : Q d (env.set i (.val d)) S) : Vp (dVar i) env S Q E := by
  unfold Vp dVar; rw [e]; dsimp only; rw [f]; exact h
theorem v_peek {i : Nat} {d : D} {Q : D → Envr → Sto → Prop} (e : env[i]? = some (.val d)) (h : Q d env S) : Vp (dPeek i) env S Q E := by
  unfold Vp dPeek; rw [e]; exact h
theorem v_peekO {i : Nat} {c : Cell} {Q : D → Envr → Sto → Prop} (e : env[i]? = some (.own c)) (h : Q (.own i) env S) : Vp (dPeek i) env S Q E := by
  unfold Vp dPeek; rw [e]; exact h
variable {a b c : M D} {Q : D → Envr → Sto → Prop}
theorem v_op2 {f : D → D → Option D} (h : Vp a env S (fun x e s => Vp b e s (fun y e s => ∃ z, f (view e s x) (view e s y) = some z ∧ Q z e s) E) E) : Vp (dOp2 f a b) env S Q E :=
  v_bind (h.mono (fun x e s h => v_bind (h.mono (fun y e s ⟨z, h1, h2⟩ => v_bind (v_getS (v_opt h1 h2))) fun _ _ _ q => q)) fun _ _ _ q => q)
theorem v_op1 {f : D → Option D} (h : Vp a env S (fun x e s => ∃ z, f (view e s x) = some z ∧ Q z e s) E) : Vp (dOp1 f a) env S Q E :=
  v_bind (h.mono (fun x e s ⟨z, h1, h2⟩ => v_bind (v_getS (v_opt h1 h2))) fun _ _ _ q => q)
theorem v_opF1 {f : D → Option Cell} {Q : Cell → Envr → Sto → Prop} (h : Vp a env S (fun x e s => ∃ z, f (view e s x) = some z ∧ Q z e s) E) : Vp (dOpF1 f a) env S Q E :=
  v_bind (h.mono (fun x e s ⟨z, h1, h2⟩ => v_bind (v_getS (v_opt h1 h2))) fun _ _ _ q => q)
theorem v_opF2 {f : D → D → Option Cell} {Q : Cell → Envr → Sto → Prop} (h : Vp a env S (fun x e s => Vp b e s (fun y e s => ∃ z, f (view e s x) (view e s y) = some z ∧ Q z e s) E) E) : Vp (dOpF2 f a b) env S Q E :=
  v_bind (h.mono (fun x e s h => v_bind (h.mono (fun y e s ⟨z, h1, h2⟩ => v_bind (v_getS (v_opt h1 h2))) fun _ _ _ q => q)) fun _ _ _ q => q)
theorem v_bl {Q : Bool → Envr → Sto → Prop} (h : Vp a env S (fun d e s => ∃ t, d = .bl t ∧ Q t e s) E) : Vp (dBl a) env S Q E :=
  v_bind (h.mono (fun d e s ⟨t, h1, h2⟩ => by subst h1; exact h2) fun _ _ _ q => q)
theorem v_and (h : Vp a env S (fun d e s => ∃ t, d = .bl t ∧ (t = true → Vp b e s Q E) ∧ (t = false → Q (.bl false) e s)) E) : Vp (dAnd a b) env S Q E :=
  v_bind (v_bl (h.mono (fun d e s ⟨t, h1, h2, h3⟩ => ⟨t, h1, by cases t <;> first | exact h3 rfl | exact h2 rfl⟩) fun _ _ _ q => q))
theorem v_or (h : Vp a env S (fun d e s => ∃ t, d = .bl t ∧ (t = false → Vp b e s Q E) ∧ (t = true → Q (.bl true) e s)) E) : Vp (dOr a b) env S Q E :=
  v_bind (v_bl (h.mono (fun d e s ⟨t, h1, h2, h3⟩ => ⟨t, h1, by cases t <;> first | exact h2 rfl | exact h3 rfl⟩) fun _ _ _ q => q))
theorem v_not (h : Vp a env S (fun d e s => ∃ t, d = .bl t ∧ Q (.bl (!t)) e s) E) : Vp (dNot a) env S Q E :=
  v_bind (v_bl (h.mono (fun d e s ⟨t, h1, h2⟩ => ⟨t, h1, h2⟩) fun _ _ _ q => q))
theorem v_chain {f g : D → D → Option D} (h : Vp a env S (fun x e s => Vp b e s (fun y e s => ∃ t, f (view e s x) (view e s y) = some (.bl t) ∧ (t = true → Vp c e s (fun u e s => ∃ z, g (view e s y) (view e s u) = some z ∧ Q z e s) E) ∧ (t = false → Q (.bl false) e s)) E) E) : Vp (dChain f g a b c) env S Q E :=
  v_bind (h.mono (fun x e s h => v_bind (h.mono (fun y e s ⟨t, h1, h2, h3⟩ => v_bind (v_getS (v_bind (v_opt h1 (by
    cases t with
    | true => exact v_bind ((h2 rfl).mono (fun u e s ⟨z, h4, h5⟩ => v_bind (v_getS (v_opt h4 h5))) fun _ _ _ q => q)
    | false => exact h3 rfl))))) fun _ _ _ q => q)) fun _ _ _ q => q)
theorem v_chainP {f g : D → D → Option D} (h : Vp a env S (fun x e s => Vp b e s (fun y e s => ∃ t, f (view e s x) (view e s y) = some (.bl t) ∧ Vp c e s (fun u e' s' => e' = e ∧ s' = s ∧ ∃ t2, g (view e s y) (view e s u) = some (.bl t2) ∧ Q (.bl (t && t2)) e s) nE) E) E) : Vp (dChain f g a b c) env S Q E :=
  v_chain (h.mono (fun x e s h => h.mono (fun y e s ⟨t, h1, h2⟩ => ⟨t, h1, fun ht => h2.mono (fun u e' s' ⟨z1, z2, t2, z3, z4⟩ => by subst z1 z2 ht; exact ⟨.bl t2, z3, z4⟩) fun _ _ _ q => q.elim, fun ht => by
    subst ht
    unfold Vp at h2
    cases ec : c e s with
    | bad => rw [ec] at h2; exact h2.elim
    | exc x e1 s1 => rw [ec] at h2; exact h2.elim
    | ok u e1 s1 => rw [ec] at h2; obtain ⟨_, _, t2, _, z⟩ := h2; exact z⟩) fun _ _ _ q => q) fun _ _ _ q => q)
theorem v_ite {m : M Bool} {p q : M α} {Q : α → Envr → Sto → Prop} (h : Vp m env S (fun t e s => (t = true → Vp p e s Q E) ∧ (t = false → Vp q e s Q E)) E) : Vp (dIf m p q) env S Q E :=
  v_bind (h.mono (fun t e s ⟨h1, h2⟩ => by cases t <;> first | exact h2 rfl | exact h1 rfl) fun _ _ _ q => q)
theorem v_notT {m : M Bool} {Q : Bool → Envr → Sto → Prop} (h : Vp m env S (fun t e s => Q (!t) e s) E) : Vp (dNotT m) env S Q E := v_bind h
theorem v_andT {m p : M Bool} {Q : Bool → Envr → Sto → Prop} (h : Vp m env S (fun t e s => (t = true → Vp p e s Q E) ∧ (t = false → Q false e s)) E) : Vp (dAndT m p) env S Q E :=
  v_bind (h.mono (fun t e s ⟨h1, h2⟩ => by cases t <;> first | exact h2 rfl | exact h1 rfl) fun _ _ _ q => q)
theorem v_orT {m p : M Bool} {Q : Bool → Envr → Sto → Prop} (h : Vp m env S (fun t e s => (t = true → Q true e s) ∧ (t = false → Vp p e s Q E)) E) : Vp (dOrT m p) env S Q E :=
  v_bind (h.mono (fun t e s ⟨h1, h2⟩ => by cases t <;> first | exact h2 rfl | exact h1 rfl) fun _ _ _ q => q)
theorem v_tru {Q : Bool → Envr → Sto → Prop} (h : Vp a env S (fun d e s => ∃ t, truD (view e s d) = some t ∧ Q t e s) E) : Vp (dTru a) env S Q E :=
  v_bind (h.mono (fun d e s ⟨t, h1, h2⟩ => v_bind (v_getS (v_opt h1 h2))) fun _ _ _ q => q)
theorem v_nil {Q : List D → Envr → Sto → Prop} (h : Q [] env S) : Vp (dArgs []) env S Q E := h
theorem v_cons {m : M D} {r : List (M D)} {Q : List D → Envr → Sto → Prop} (h : Vp m env S (fun d e s => Vp (dArgs r) e s (fun ds e s => Q (d :: ds) e s) E) E) : Vp (dArgs (m :: r)) env S Q E :=
  v_bind (h.mono (fun d e s h => v_bind (h.mono (fun ds e s h => h) fun _ _ _ q => q)) fun _ _ _ q => q)
theorem v_tup {m : M (List D)} (h : Vp m env S (fun ds e s => ds.length ≤ sizeLine ∧ Q (.tup ds) e s) E) : Vp (dTup m) env S Q E :=
  v_bind (h.mono (fun d e s ⟨h1, h2⟩ => by rw [if_pos h1]; exact h2) fun _ _ _ q => q)
theorem v_lst {m : M (List D)} {Q : Cell → Envr → Sto → Prop} (h : Vp m env S (fun ds e s => ds.length ≤ sizeLine ∧ Q (.lst ds) e s) E) : Vp (dLst m) env S Q E :=
  v_bind (h.mono (fun d e s ⟨h1, h2⟩ => by rw [if_pos h1]; exact h2) fun _ _ _ q => q)
theorem v_fz {m : M Cell} (h : Vp m env S (fun c e s => ∃ d, frozen c = some d ∧ Q d e s) E) : Vp (dFz m) env S Q E :=
  v_bind (h.mono (fun c e s ⟨d, h1, h2⟩ => v_opt h1 h2) fun _ _ _ q => q)
theorem v_part0 {Q : Option Int → Envr → Sto → Prop} (h : Q none env S) : Vp (dPart none) env S Q E := h
theorem v_part {m : M D} {Q : Option Int → Envr → Sto → Prop} (h : Vp m env S (fun d e s => ∃ i, d = .int i ∧ Q (some i) e s) E) : Vp (dPart (some m)) env S Q E :=
  v_bind (h.mono (fun d e s ⟨i, h1, h2⟩ => by subst h1; exact h2) fun _ _ _ q => q)
theorem v_sl {lo hi : Option (M D)} (h : Vp a env S (fun x e s => Vp (dPart lo) e s (fun l e s => Vp (dPart hi) e s (fun u e s => ∃ z, slD (view e s x) l u = some z ∧ Q z e s) E) E) E) : Vp (dSl a lo hi) env S Q E :=
  v_bind (h.mono (fun x e s h => v_bind (h.mono (fun l e s h => v_bind (h.mono (fun u e s ⟨z, h1, h2⟩ => v_bind (v_getS (v_opt h1 h2))) fun _ _ _ q => q)) fun _ _ _ q => q)) fun _ _ _ q => q)
theorem v_slF {lo hi : Option (M D)} {Q : Cell → Envr → Sto → Prop} (h : Vp a env S (fun x e s => Vp (dPart lo) e s (fun l e s => Vp (dPart hi) e s (fun u e s => ∃ z, slF (view e s x) l u = some z ∧ Q z e s) E) E) E) : Vp (dSlF a lo hi) env S Q E :=
  v_bind (h.mono (fun x e s h => v_bind (h.mono (fun l e s h => v_bind (h.mono (fun u e s ⟨z, h1, h2⟩ => v_bind (v_getS (v_opt h1 h2))) fun _ _ _ q => q)) fun _ _ _ q => q)) fun _ _ _ q => q)
theorem v_sm0 {f : Str → Option D} (h : Vp a env S (fun x e s => ∃ z d, x = .str z ∧ f z = some d ∧ Q d e s) E) : Vp (dSm0 f a) env S Q E :=
  v_bind (h.mono (fun x e s ⟨z, d, h1, h2, h3⟩ => by subst h1; exact v_opt h2 h3) fun _ _ _ q => q)
theorem v_sm1 {f : Str → D → Option D} (h : Vp a env S (fun x e s => ∃ z, x = .str z ∧ Vp b e s (fun y e s => ∃ d, f z (view e s y) = some d ∧ Q d e s) E) E) : Vp (dSm1 f a b) env S Q E :=
  v_bind (h.mono (fun x e s ⟨z, h1, h2⟩ => by subst h1; exact v_bind (h2.mono (fun y e s ⟨d, h3, h4⟩ => v_bind (v_getS (v_opt h3 h4))) fun _ _ _ q => q)) fun _ _ _ q => q)
theorem v_pr0 {Q : List (D × D) → Envr → Sto → Prop} (h : Q [] env S) : Vp (dPairs []) env S Q E := h
theorem v_pr {p q : M D} {r : List (M D × M D)} {Q : List (D × D) → Envr → Sto → Prop} (h : Vp p env S (fun x e s => Vp q e s (fun y e s => Vp (dPairs r) e s (fun l e s => Q ((x, y) :: l) e s) E) E) E) : Vp (dPairs ((p, q) :: r)) env S Q E :=
  v_bind (h.mono (fun x e s h => v_bind (h.mono (fun y e s h => v_bind (h.mono (fun l e s h => h) fun _ _ _ q => q)) fun _ _ _ q => q)) fun _ _ _ q => q)
theorem v_disp {ps : List (M D × M D)} {Q : Cell → Envr → Sto → Prop} (h : Vp (dPairs ps) env S (fun l e s => ∃ l', keyPairs l = some l' ∧ l'.length ≤ 15 ∧ Q (.dk (mergeD [] [] l').1 (mergeD [] [] l').2) e s) E) : Vp (dDisp ps) env S Q E :=
  v_bind (h.mono (fun l e s ⟨l', h1, h2, h3⟩ => by rw [h1]; dsimp only; rw [if_pos h2]; exact h3) fun _ _ _ q => q)
theorem v_fn {φ : Nat → Fn} {i n : Nat} {args : M (List D)} (h : Vp args env S (fun ds e s => ds.length = n ∧ Vc (φ i ds s) (fun d s' => Q d e s') (fun x s' => E x e s')) E) : Vp (dFn φ i n args) env S Q E :=
  v_bind (h.mono (fun ds e s ⟨h1, h2⟩ => by
    refine v_if h1 ?_
    unfold Vc at h2
    unfold Vp
    dsimp only
    cases q : φ i ds s <;> (rw [q] at h2; exact h2)) fun _ _ _ q => q)
variable {R : Flo → Envr → Sto → Prop}
theorem v_seq {s t : M Flo} (h : Vp s env S (fun f e s => match f with
    | .nx => Vp t e s R E
    | f => R f e s) E) : Vp (dSeq s t) env S R E :=
  v_bind (h.mono (fun f e s h => by cases f <;> exact h) fun _ _ _ q => q)
theorem v_set {i : Nat} {m : M D} (h : Vp m env S (fun d e s => R .nx (e.set i (.val d)) s) E) : Vp (dSet i m) env S R E :=
  v_bind (h.mono (fun d e s h => h) fun _ _ _ q => q)
theorem v_setOwn {i : Nat} {m : M Cell} (h : Vp m env S (fun d e s => R .nx (e.set i (.own d)) s) E) : Vp (dSetOwn i m) env S R E :=
  v_bind (h.mono (fun d e s h => h) fun _ _ _ q => q)
theorem v_setHp {i : Nat} {m : M Cell} (h : Vp m env S (fun c e s => R .nx (e.set i (.val (.ref s.length))) (s ++ [c])) E) : Vp (dSetHp i m) env S R E :=
  v_bind (h.mono (fun d e s h => h) fun _ _ _ q => q)
theorem v_asg {g : Tgt} {m : M D} (h : Vp m env S (fun d e s => ∃ e', g d e = some e' ∧ R .nx e' s) E) : Vp (dAsg g m) env S R E :=
  v_bind (h.mono (fun d e s ⟨e', h1, h2⟩ => by
    show Vp (M.bind (setTg g d) fun _ => M.ret .nx) e s R E
    unfold Vp M.bind setTg
    rw [h1]; exact h2) fun _ _ _ q => q)
theorem v_expr {m : M D} (h : Vp m env S (fun d e s => R .nx e s) E) : Vp (dExpr m) env S R E := v_bind h
theorem v_retS {m : M D} (h : Vp m env S (fun d e s => R (.rt d) e s) E) : Vp (dRet m) env S R E := v_bind h
theorem v_retHp {m : M Cell} (h : Vp m env S (fun c e s => R (.rt (.ref s.length)) e (s ++ [c])) E) : Vp (dRetHp m) env S R E :=
  v_bind (h.mono (fun d e s h => h) fun _ _ _ q => q)
theorem v_mut {f : Cell → List D → Option (Cell × D)} {o : M D} {args : M (List D)} (h : Vp o env S (fun x e s => (∃ l, cellOf e s x = some (.lst l)) ∧ Vp args e s (fun ds e s => ∃ c p e' s', cellOf e s x = some c ∧ f c ds = some p ∧ setCell x p.1 e s = .ok () e' s' ∧ Q p.2 e' s') E) E) : Vp (dMut f o args) env S Q E :=
  v_bind (h.mono (fun x e s ⟨⟨l, h1⟩, h2⟩ => v_bind (v_getS (by
    rw [h1]
    exact v_bind (h2.mono (fun ds e s ⟨c, p, e', s', h3, h4, h5, h6⟩ => v_bind (v_getS (v_bind (v_opt (a := p) (show (cellOf e s x).bind (fun c => f c ds) = some p by rw [h3]; exact h4) (v_bind (by unfold Vp; rw [h5]; exact h6)))))) fun _ _ _ q => q)))) fun _ _ _ q => q)
theorem v_setIx {v o i : M D} (h : Vp v env S (fun d e s => Vp o e s (fun x e s => Vp i e s (fun j e s => ∃ c c' e' s', cellOf e s x = some c ∧ setIxF c (view e s j) d = some c' ∧ setCell x c' e s = .ok () e' s' ∧ R .nx e' s') E) E) E) : Vp (dSetIx v o i) env S R E :=
  v_bind (h.mono (fun d e s h => v_bind (h.mono (fun x e s h => v_bind (h.mono (fun j e s ⟨c, c', e', s', h1, h2, h3, h4⟩ => v_bind (v_getS (v_bind (v_opt (a := c') (by rw [h1]; exact h2) (v_bind (by unfold Vp; rw [h3]; exact h4)))))) fun _ _ _ q => q)) fun _ _ _ q => q)) fun _ _ _ q => q)
theorem v_walk {Q : Src → Envr → Sto → Prop} (h : Vp a env S (fun d e s => ∃ z, srcOf d s = some z ∧ Q z e s) E) : Vp (dWalk a) env S Q E :=
  v_bind (h.mono (fun d e s ⟨z, h1, h2⟩ => v_bind (v_getS (v_opt h1 h2))) fun _ _ _ q => q)
theorem v_rng1 {Q : Src → Envr → Sto → Prop} (h : Vp a env S (fun d e s => ∃ j, d = .int j ∧ rgB j = true ∧ Q (upto 0 j, none) e s) E) : Vp (dRng1 a) env S Q E :=
  v_bind (h.mono (fun d e s ⟨j, h1, h2, h3⟩ => by subst h1; dsimp only; rw [if_pos h2]; exact h3) fun _ _ _ q => q)
theorem v_rng2 {Q : Src → Envr → Sto → Prop} (h : Vp a env S (fun c e s => Vp b e s (fun d e s => ∃ i j, c = .int i ∧ d = .int j ∧ (rgB i && rgB j) = true ∧ Q (upto i j, none) e s) E) E) : Vp (dRng2 a b) env S Q E :=
  v_bind (h.mono (fun c e s h => v_bind (h.mono (fun d e s ⟨i, j, h1, h2, h3, h4⟩ => by subst h1 h2; dsimp only; rw [if_pos h3]; exact h4) fun _ _ _ q => q)) fun _ _ _ q => q)
theorem enumOf_val {x : D} {s : Sto} {l : List D} (h : enumSrc x = some l) : enumOf x s = some (enumFrom 0 l, none) := by
  unfold enumOf
  split
  · cases h
  · rw [h]; rfl
theorem v_enumO {Q : Src → Envr → Sto → Prop} (h : Vp a env S (fun x e s => ∃ z, enumOf x s = some z ∧ Q z e s) E) : Vp (dEnum a) env S Q E :=
  v_bind (h.mono (fun x e s ⟨l, h1, h2⟩ => v_bind (v_getS (v_opt h1 h2))) fun _ _ _ q => q)
theorem v_enum {Q : Src → Envr → Sto → Prop} (h : Vp a env S (fun x e s => ∃ l, enumSrc x = some l ∧ Q (enumFrom 0 l, none) e s) E) : Vp (dEnum a) env S Q E :=
  v_enumO (h.mono (fun x e s ⟨l, h1, h2⟩ => ⟨_, enumOf_val h1, h2⟩) fun _ _ _ q => q)
theorem v_zip {Q : Src → Envr → Sto → Prop} (h : Vp a env S (fun x e s => Vp b e s (fun y e s => ∃ l, seqOf2 x y = some l ∧ Q (l, none) e s) E) E) : Vp (dZip a b) env S Q E :=
  v_bind (h.mono (fun x e s h => v_bind (h.mono (fun y e s ⟨l, h1, h2⟩ => v_opt (by rw [h1]; rfl) h2) fun _ _ _ q => q)) fun _ _ _ q => q)
theorem v_loop {src : Src} {g : Tgt} {m : M Flo} (I : List D → Envr → Sto → Prop) (hn : src.2 = none) (step : ∀ d r e s, I (d :: r) e s → ∃ e1, g d e = some e1 ∧ Vp m e1 s (fun f e s => match f with
    | .nx => I r e s
    | .ct => I r e s
    | .bk => R .nx e s
    | .rt v => R (.rt v) e s) E) (fin : ∀ e s, I [] e s → R .nx e s) : ∀ (l : List D) (env : Envr) (S : Sto), I l env S → Vp (loopL src g m l) env S R E
  | [], env, S, h => by
    unfold Vp loopL
    rw [hn]
    exact fin _ _ h
  | d :: r, env, S, h => by
    obtain ⟨e1, h1, h2⟩ := step d r env S h
    unfold Vp at h2
    unfold Vp loopL
    rw [hn, if_pos (show gOk none src.1 S = true from rfl), h1]
    dsimp only
    cases em : m e1 S with
    | bad => rw [em] at h2; exact h2
    | exc x e s => rw [em] at h2; exact h2
    | ok f e s =>
      rw [em] at h2
      cases f with
      | nx => exact v_loop I hn step fin r e s h2
      | ct => exact v_loop I hn step fin r e s h2
      | bk => exact h2
      | rt v => exact h2
theorem v_for {it : M Src} {g : Tgt} {m : M Flo} (h : Vp it env S (fun src e s => Vp (loopL src g m src.1) e s R E) E) : Vp (dFor it g m) env S R E := v_bind h
theorem v_compL {src : Src} {g : Tgt} {tt : M Bool} {te : M D} {vs : List Nat} (hn : src.2 = none) (I : List D → List D → Envr → Sto → Prop) (Q : List D → Envr → Sto → Prop) (step : ∀ d r acc e s, I (d :: r) acc e s → ∃ e1, g d e = some e1 ∧ Vp tt e1 s (fun t e s => (t = true → Vp te e s (fun x e s => I r (acc ++ [x]) (wipeE e vs) s) nE) ∧ (t = false → I r acc (wipeE e vs) s)) nE)
    (fin : ∀ acc e s, I [] acc e s → Q acc e s) : ∀ (l acc : List D) (env : Envr) (S : Sto), I l acc env S → ∃ acc' e s, compL src g tt te vs l acc env S = .ok acc' e s ∧ Q acc' e s
  | [], acc, env, S, h => ⟨acc, env, S, by unfold compL; rw [hn]; rfl, fin _ _ _ h⟩
  | d :: r, acc, env, S, h => by
    obtain ⟨e1, h1, h2⟩ := step d r acc env S h
    unfold compL
    rw [hn, if_pos (show gOk none src.1 S = true from rfl), h1]
    dsimp only
    unfold Vp at h2
    cases em : tt e1 S with
    | bad => rw [em] at h2; exact h2.elim
    | exc x e s => rw [em] at h2; exact h2.elim
    | ok t e s =>
      rw [em] at h2
      cases t with
      | false => exact v_compL hn I Q step fin r acc _ _ (h2.2 rfl)
      | true =>
        have h3 := h2.1 rfl
        unfold Vp at h3
        dsimp only
        cases ee : te e s with
        | bad => rw [ee] at h3; exact h3.elim
        | exc x e s => rw [ee] at h3; exact h3.elim
        | ok x e2 s2 => rw [ee] at h3; exact v_compL hn I Q step fin r _ _ _ h3
theorem v_comp {it : M Src} {g : Tgt} {tt : M Bool} {te : M D} {vs : List Nat} {Q : Cell → Envr → Sto → Prop} (h : Vp it env S (fun src e s => src.1.length ≤ sizeLine ∧ ∃ acc e' s', compL src g tt te vs src.1 [] (wipeE e vs) s = .ok acc e' s' ∧ Q (.lst acc) e' s') E) : Vp (dComp it g tt te vs) env S Q E :=
  v_bind (h.mono (fun src e s ⟨h1, acc, e', s', h2, h3⟩ => by
    refine v_if h1 ?_
    unfold Vp
    dsimp only
    rw [h2]; exact h3) fun _ _ _ q => q)
theorem v_def {dm : DefM} {m : M Flo} {ds : List D} {Q : D → Sto → Prop} {E : Exn → Sto → Prop} (hl : ds.length = dm.ps.length) (env : Envr) (he : ds.map Slot.val ++ List.replicate (dm.C.N.length - ds.length) Slot.no = env) (h : Vp m env S (fun f e s => match f with
    | .nx => Q .non s
    | .rt d => Q d s
    | _ => False) (fun x e s => E x s)) : Vc (runD dm m ds S) Q E := by
  subst he
  unfold Vp at h
  unfold runD Vc
  rw [if_pos hl]
  cases em : m (ds.map Slot.val ++ List.replicate (dm.C.N.length - ds.length) Slot.no) S with
  | bad => rw [em] at h; exact h
  | exc x e s => rw [em] at h; exact h
  | ok f e s => rw [em] at h; cases f <;> exact h
end
theorem add_ll {a b : List D} (h : a.length + b.length ≤ sizeLine) : addD (.lst a) (.lst b) = some (.lst (a ++ b)) := if_pos h
theorem add_tt {a b : List D} (h : a.length + b.length ≤ sizeLine) : addD (.tup a) (.tup b) = some (.tup (a ++ b)) := if_pos h
theorem mul_ir {i j : Int} (h : j.natAbs.log2 < 63) : mulD (.int i) (.int j) = some (.int (i * j)) := if_pos (by unfold mulB; rw [decide_eq_true h, Bool.true_or, Bool.or_true])
theorem fdiv_ii {i j : Int} (h : 0 < j) (h2 : j.natAbs.log2 < 9000) : fdivD (.int i) (.int j) = some (.int (i / j)) := if_pos (by simp [divB, h, h2])
theorem mod_ii {i j : Int} (h : 0 < j) : modD (.int i) (.int j) = some (.int (i % j)) := if_pos (decide_eq_true h)
theorem log2_le {n m : Nat} (h : n < 2 ^ m) (hm : 0 < m) : n.log2 < m := by
  by_cases hn : n = 0
  · subst hn; simpa using hm
  · exact (Nat.log2_lt hn).mpr h
end L2.MP
namespace L2.MP
open PySem PySem.Spec PyProof.Rows
section
theorem vcompP {src : Src} {g : Tgt} {tt : M Bool} {te : M D} {vs : List Nat} (hn : src.2 = none) (P : D → Bool) (f : D → D) (env : Envr) (S : Sto) : ∀ (l acc : List D), (∀ d ∈ l, ∃ e1, g d env = some e1 ∧ Vp tt e1 S (fun t e s => t = P d ∧ s = S ∧ (t = true → Vp te e s (fun x e s => x = f d ∧ s = S ∧ wipeE e vs = env) nE) ∧ (t = false → wipeE e vs = env)) nE) →
    compL src g tt te vs l acc env S = .ok (acc ++ (l.filter P).map f) env S
  | [], acc, _ => by unfold compL; rw [hn]; simp [gOk]
  | d :: r, acc, h => by
    obtain ⟨e1, h1, h2⟩ := h d List.mem_cons_self
    have ih := fun acc => vcompP (src := src) hn P f env S r acc fun x hx => h x (List.mem_cons_of_mem _ hx)
    unfold compL
    rw [hn, if_pos (show gOk none src.1 S = true from rfl), h1]
    dsimp only
    unfold Vp at h2
    cases em : tt e1 S with
    | bad => rw [em] at h2; exact h2.elim
    | exc x e s => rw [em] at h2; exact h2.elim
    | ok t e s =>
      rw [em] at h2
      obtain ⟨q1, q2, q3, q4⟩ := h2
      subst q2
      cases t with
      | false =>
        dsimp only
        rw [q4 rfl, ih, List.filter_cons, ← q1]; rfl
      | true =>
        have h3 := q3 rfl
        unfold Vp at h3
        dsimp only
        cases ee : te e s with
        | bad => rw [ee] at h3; exact h3.elim
        | exc x e s => rw [ee] at h3; exact h3.elim
        | ok x e2 s2 =>
          rw [ee] at h3
          obtain ⟨z1, z2, z3⟩ := h3
          dsimp only
          rw [z3, z2, ih, List.filter_cons, ← q1, z1]
          simp
end
@[irreducible] def Wp {α : Type} (m : M α) (env : Envr) (S : Sto) (Q : α → Envr → Sto → Prop) (E : Exn → Envr → Sto → Prop) : Prop := Vp m env S Q E
@[irreducible] def Wc (r : FOut) (Q : D → Sto → Prop) (E : Exn → Sto → Prop) : Prop := Vc r Q E
section
variable {α β : Type} {env : Envr} {S : Sto} {E : Exn → Envr → Sto → Prop}
theorem Wp.mono {m : M α} {Q Q' : α → Envr → Sto → Prop} {E' : Exn → Envr → Sto → Prop} (h : Wp m env S Q E) (hq : ∀ a e s, Q a e s → Q' a e s) (he : ∀ x e s, E x e s → E' x e s) : Wp m env S Q' E' := by
  delta Wp Wc at *
  exact Vp.mono h hq he
theorem Wc.mono {r : FOut} {Q Q' : D → Sto → Prop} {E E' : Exn → Sto → Prop} (h : Wc r Q E) (hq : ∀ a s, Q a s → Q' a s) (he : ∀ x s, E x s → E' x s) : Wc r Q' E' := by
  delta Wp Wc at *
  exact Vc.mono h hq he
theorem Wc.ok {r : FOut} {Q : D → Sto → Prop} (h : Wc r Q nX) : ∃ d s, r = .ok d s ∧ Q d s := by
  delta Wp Wc at *
  exact Vc.ok h
theorem Wc.of {r : FOut} {d : D} {s : Sto} {Q : D → Sto → Prop} {E : Exn → Sto → Prop} (h : r = .ok d s) (q : Q d s) : Wc r Q E := by
  delta Wp Wc at *
  exact Vc.of h q
theorem w_bind {m : M α} {f : α → M β} {Q : β → Envr → Sto → Prop} (h : Wp m env S (fun a e s => Wp (f a) e s Q E) E) : Wp (M.bind m f) env S Q E := by
  delta Wp Wc at *
  exact v_bind h
theorem w_ret {a : α} {Q : α → Envr → Sto → Prop} (h : Q a env S) : Wp (M.ret a) env S Q E := by
  delta Wp Wc at *
  exact v_ret h
theorem w_var {i : Nat} {d : D} {Q : D → Envr → Sto → Prop} (e : env[i]? = some (.val d)) (h : Q d env S) : Wp (dVar i) env S Q E := by
  delta Wp Wc at *
  exact v_var e h
theorem w_varO {i : Nat} {c : Cell} {d : D} {Q : D → Envr → Sto → Prop} (e : env[i]? = some (.own c)) (f : frozen c = some d) (h : Q d (env.set i (.val d)) S) : Wp (dVar i) env S Q E := by
  delta Wp Wc at *
  exact v_varO e f h
theorem w_peek {i : Nat} {d : D} {Q : D → Envr → Sto → Prop} (e : env[i]? = some (.val d)) (h : Q d env S) : Wp (dPeek i) env S Q E := by
  delta Wp Wc at *
  exact v_peek e h
theorem w_peekO {i : Nat} {c : Cell} {Q : D → Envr → Sto → Prop} (e : env[i]? = some (.own c)) (h : Q (.own i) env S) : Wp (dPeek i) env S Q E := by
  delta Wp Wc at *
  exact v_peekO e h
variable {a b c : M D} {Q : D → Envr → Sto → Prop}
theorem w_op2 {f : D → D → Option D} (h : Wp a env S (fun x e s => Wp b e s (fun y e s => ∃ z, f (view e s x) (view e s y) = some z ∧ Q z e s) E) E) : Wp (dOp2 f a b) env S Q E := by
  delta Wp Wc at *
  exact v_op2 h
theorem w_op1 {f : D → Option D} (h : Wp a env S (fun x e s => ∃ z, f (view e s x) = some z ∧ Q z e s) E) : Wp (dOp1 f a) env S Q E := by
  delta Wp Wc at *
  exact v_op1 h
theorem w_opF1 {f : D → Option Cell} {Q : Cell → Envr → Sto → Prop} (h : Wp a env S (fun x e s => ∃ z, f (view e s x) = some z ∧ Q z e s) E) : Wp (dOpF1 f a) env S Q E := by
  delta Wp Wc at *
  exact v_opF1 h
theorem w_opF2 {f : D → D → Option Cell} {Q : Cell → Envr → Sto → Prop} (h : Wp a env S (fun x e s => Wp b e s (fun y e s => ∃ z, f (view e s x) (view e s y) = some z ∧ Q z e s) E) E) : Wp (dOpF2 f a b) env S Q E := by
  delta Wp Wc at *
  exact v_opF2 h
theorem w_bl {Q : Bool → Envr → Sto → Prop} (h : Wp a env S (fun d e s => ∃ t, d = .bl t ∧ Q t e s) E) : Wp (dBl a) env S Q E := by
  delta Wp Wc at *
  exact v_bl h
theorem w_and (h : Wp a env S (fun d e s => ∃ t, d = .bl t ∧ (t = true → Wp b e s Q E) ∧ (t = false → Q (.bl false) e s)) E) : Wp (dAnd a b) env S Q E := by
  delta Wp Wc at *
  exact v_and h
theorem w_or (h : Wp a env S (fun d e s => ∃ t, d = .bl t ∧ (t = false → Wp b e s Q E) ∧ (t = true → Q (.bl true) e s)) E) : Wp (dOr a b) env S Q E := by
  delta Wp Wc at *
  exact v_or h
theorem w_not (h : Wp a env S (fun d e s => ∃ t, d = .bl t ∧ Q (.bl (!t)) e s) E) : Wp (dNot a) env S Q E := by
  delta Wp Wc at *
  exact v_not h
theorem w_chainP {f g : D → D → Option D} (h : Wp a env S (fun x e s => Wp b e s (fun y e s => ∃ t, f (view e s x) (view e s y) = some (.bl t) ∧ Wp c e s (fun u e' s' => e' = e ∧ s' = s ∧ ∃ t2, g (view e s y) (view e s u) = some (.bl t2) ∧ Q (.bl (t && t2)) e s) nE) E) E) : Wp (dChain f g a b c) env S Q E := by
  delta Wp Wc at *
  exact v_chainP h
theorem w_ite {m : M Bool} {p q : M α} {Q : α → Envr → Sto → Prop} (h : Wp m env S (fun t e s => (t = true → Wp p e s Q E) ∧ (t = false → Wp q e s Q E)) E) : Wp (dIf m p q) env S Q E := by
  delta Wp Wc at *
  exact v_ite h
theorem w_notT {m : M Bool} {Q : Bool → Envr → Sto → Prop} (h : Wp m env S (fun t e s => Q (!t) e s) E) : Wp (dNotT m) env S Q E := by
  delta Wp Wc at *
  exact v_notT h
theorem w_andT {m p : M Bool} {Q : Bool → Envr → Sto → Prop} (h : Wp m env S (fun t e s => (t = true → Wp p e s Q E) ∧ (t = false → Q false e s)) E) : Wp (dAndT m p) env S Q E := by
  delta Wp Wc at *
  exact v_andT h
theorem w_orT {m p : M Bool} {Q : Bool → Envr → Sto → Prop} (h : Wp m env S (fun t e s => (t = true → Q true e s) ∧ (t = false → Wp p e s Q E)) E) : Wp (dOrT m p) env S Q E := by
  delta Wp Wc at *
  exact v_orT h
theorem w_tru {Q : Bool → Envr → Sto → Prop} (h : Wp a env S (fun d e s => ∃ t, truD (view e s d) = some t ∧ Q t e s) E) : Wp (dTru a) env S Q E := by
  delta Wp Wc at *
  exact v_tru h
theorem w_nil {Q : List D → Envr → Sto → Prop} (h : Q [] env S) : Wp (dArgs []) env S Q E := by
  delta Wp Wc at *
  exact v_nil h
theorem w_cons {m : M D} {r : List (M D)} {Q : List D → Envr → Sto → Prop} (h : Wp m env S (fun d e s => Wp (dArgs r) e s (fun ds e s => Q (d :: ds) e s) E) E) : Wp (dArgs (m :: r)) env S Q E := by
  delta Wp Wc at *
  exact v_cons h
theorem w_tup {m : M (List D)} (h : Wp m env S (fun ds e s => ds.length ≤ sizeLine ∧ Q (.tup ds) e s) E) : Wp (dTup m) env S Q E := by
  delta Wp Wc at *
  exact v_tup h
theorem w_lst {m : M (List D)} {Q : Cell → Envr → Sto → Prop} (h : Wp m env S (fun ds e s => ds.length ≤ sizeLine ∧ Q (.lst ds) e s) E) : Wp (dLst m) env S Q E := by
  delta Wp Wc at *
  exact v_lst h
theorem w_fz {m : M Cell} (h : Wp m env S (fun c e s => ∃ d, frozen c = some d ∧ Q d e s) E) : Wp (dFz m) env S Q E := by
  delta Wp Wc at *
  exact v_fz h
theorem w_part0 {Q : Option Int → Envr → Sto → Prop} (h : Q none env S) : Wp (dPart none) env S Q E := by
  delta Wp Wc at *
  exact v_part0 h
theorem w_part {m : M D} {Q : Option Int → Envr → Sto → Prop} (h : Wp m env S (fun d e s => ∃ i, d = .int i ∧ Q (some i) e s) E) : Wp (dPart (some m)) env S Q E := by
  delta Wp Wc at *
  exact v_part h
theorem w_sl {lo hi : Option (M D)} (h : Wp a env S (fun x e s => Wp (dPart lo) e s (fun l e s => Wp (dPart hi) e s (fun u e s => ∃ z, slD (view e s x) l u = some z ∧ Q z e s) E) E) E) : Wp (dSl a lo hi) env S Q E := by
  delta Wp Wc at *
  exact v_sl h
theorem w_slF {lo hi : Option (M D)} {Q : Cell → Envr → Sto → Prop} (h : Wp a env S (fun x e s => Wp (dPart lo) e s (fun l e s => Wp (dPart hi) e s (fun u e s => ∃ z, slF (view e s x) l u = some z ∧ Q z e s) E) E) E) : Wp (dSlF a lo hi) env S Q E := by
  delta Wp Wc at *
  exact v_slF h
theorem w_sm0 {f : Str → Option D} (h : Wp a env S (fun x e s => ∃ z d, x = .str z ∧ f z = some d ∧ Q d e s) E) : Wp (dSm0 f a) env S Q E := by
  delta Wp Wc at *
  exact v_sm0 h
theorem w_sm1 {f : Str → D → Option D} (h : Wp a env S (fun x e s => ∃ z, x = .str z ∧ Wp b e s (fun y e s => ∃ d, f z (view e s y) = some d ∧ Q d e s) E) E) : Wp (dSm1 f a b) env S Q E := by
  delta Wp Wc at *
  exact v_sm1 h
theorem w_pr0 {Q : List (D × D) → Envr → Sto → Prop} (h : Q [] env S) : Wp (dPairs []) env S Q E := by
  delta Wp Wc at *
  exact v_pr0 h
theorem w_pr {p q : M D} {r : List (M D × M D)} {Q : List (D × D) → Envr → Sto → Prop} (h : Wp p env S (fun x e s => Wp q e s (fun y e s => Wp (dPairs r) e s (fun l e s => Q ((x, y) :: l) e s) E) E) E) : Wp (dPairs ((p, q) :: r)) env S Q E := by
  delta Wp Wc at *
  exact v_pr h
theorem w_disp {ps : List (M D × M D)} {Q : Cell → Envr → Sto → Prop} (h : Wp (dPairs ps) env S (fun l e s => ∃ l', keyPairs l = some l' ∧ l'.length ≤ 15 ∧ Q (.dk (mergeD [] [] l').1 (mergeD [] [] l').2) e s) E) : Wp (dDisp ps) env S Q E := by
  delta Wp Wc at *
  exact v_disp h
theorem w_fn {φ : Nat → Fn} {i n : Nat} {args : M (List D)} (h : Wp args env S (fun ds e s => ds.length = n ∧ Wc (φ i ds s) (fun d s' => Q d e s') (fun x s' => E x e s')) E) : Wp (dFn φ i n args) env S Q E := by
  delta Wp Wc at *
  exact v_fn h
variable {R : Flo → Envr → Sto → Prop}
theorem w_seq {s t : M Flo} (h : Wp s env S (fun f e s => match f with
    | .nx => Wp t e s R E
    | f => R f e s) E) : Wp (dSeq s t) env S R E := by
  delta Wp Wc at *
  exact v_seq h
theorem w_set {i : Nat} {m : M D} (h : Wp m env S (fun d e s => R .nx (e.set i (.val d)) s) E) : Wp (dSet i m) env S R E := by
  delta Wp Wc at *
  exact v_set h
theorem w_setOwn {i : Nat} {m : M Cell} (h : Wp m env S (fun d e s => R .nx (e.set i (.own d)) s) E) : Wp (dSetOwn i m) env S R E := by
  delta Wp Wc at *
  exact v_setOwn h
theorem w_setHp {i : Nat} {m : M Cell} (h : Wp m env S (fun c e s => R .nx (e.set i (.val (.ref s.length))) (s ++ [c])) E) : Wp (dSetHp i m) env S R E := by
  delta Wp Wc at *
  exact v_setHp h
theorem w_asg {g : Tgt} {m : M D} (h : Wp m env S (fun d e s => ∃ e', g d e = some e' ∧ R .nx e' s) E) : Wp (dAsg g m) env S R E := by
  delta Wp Wc at *
  exact v_asg h
theorem w_expr {m : M D} (h : Wp m env S (fun d e s => R .nx e s) E) : Wp (dExpr m) env S R E := by
  delta Wp Wc at *
  exact v_expr h
theorem w_retS {m : M D} (h : Wp m env S (fun d e s => R (.rt d) e s) E) : Wp (dRet m) env S R E := by
  delta Wp Wc at *
  exact v_retS h
theorem w_retHp {m : M Cell} (h : Wp m env S (fun c e s => R (.rt (.ref s.length)) e (s ++ [c])) E) : Wp (dRetHp m) env S R E := by
  delta Wp Wc at *
  exact v_retHp h
theorem w_mut {f : Cell → List D → Option (Cell × D)} {o : M D} {args : M (List D)} (h : Wp o env S (fun x e s => (∃ l, cellOf e s x = some (.lst l)) ∧ Wp args e s (fun ds e s => ∃ c p e' s', cellOf e s x = some c ∧ f c ds = some p ∧ setCell x p.1 e s = .ok () e' s' ∧ Q p.2 e' s') E) E) : Wp (dMut f o args) env S Q E := by
  delta Wp Wc at *
  exact v_mut h
theorem w_setIx {v o i : M D} (h : Wp v env S (fun d e s => Wp o e s (fun x e s => Wp i e s (fun j e s => ∃ c c' e' s', cellOf e s x = some c ∧ setIxF c (view e s j) d = some c' ∧ setCell x c' e s = .ok () e' s' ∧ R .nx e' s') E) E) E) : Wp (dSetIx v o i) env S R E := by
  delta Wp Wc at *
  exact v_setIx h
theorem w_walk {Q : Src → Envr → Sto → Prop} (h : Wp a env S (fun d e s => ∃ z, srcOf d s = some z ∧ Q z e s) E) : Wp (dWalk a) env S Q E := by
  delta Wp Wc at *
  exact v_walk h
theorem w_rng1 {Q : Src → Envr → Sto → Prop} (h : Wp a env S (fun d e s => ∃ j, d = .int j ∧ rgB j = true ∧ Q (upto 0 j, none) e s) E) : Wp (dRng1 a) env S Q E := by
  delta Wp Wc at *
  exact v_rng1 h
theorem w_rng2 {Q : Src → Envr → Sto → Prop} (h : Wp a env S (fun c e s => Wp b e s (fun d e s => ∃ i j, c = .int i ∧ d = .int j ∧ (rgB i && rgB j) = true ∧ Q (upto i j, none) e s) E) E) : Wp (dRng2 a b) env S Q E := by
  delta Wp Wc at *
  exact v_rng2 h
theorem w_enum {Q : Src → Envr → Sto → Prop} (h : Wp a env S (fun x e s => ∃ l, enumSrc x = some l ∧ Q (enumFrom 0 l, none) e s) E) : Wp (dEnum a) env S Q E := by
  delta Wp Wc at *
  exact v_enum h
theorem w_enumO {Q : Src → Envr → Sto → Prop} (h : Wp a env S (fun x e s => ∃ z, enumOf x s = some z ∧ Q z e s) E) : Wp (dEnum a) env S Q E := by
  delta Wp Wc at *
  exact v_enumO h
theorem w_zip {Q : Src → Envr → Sto → Prop} (h : Wp a env S (fun x e s => Wp b e s (fun y e s => ∃ l, seqOf2 x y = some l ∧ Q (l, none) e s) E) E) : Wp (dZip a b) env S Q E := by
  delta Wp Wc at *
  exact v_zip h
theorem w_loop {src : Src} {g : Tgt} {m : M Flo} (I : List D → Envr → Sto → Prop) (hn : src.2 = none) (step : ∀ d r e s, I (d :: r) e s → ∃ e1, g d e = some e1 ∧ Wp m e1 s (fun f e s => match f with
    | .nx => I r e s
    | .ct => I r e s
    | .bk => R .nx e s
    | .rt v => R (.rt v) e s) E) (fin : ∀ e s, I [] e s → R .nx e s) : ∀ (l : List D) (env : Envr) (S : Sto), I l env S → Wp (loopL src g m l) env S R E := by
  delta Wp Wc at *
  exact v_loop I hn step fin
theorem w_for {it : M Src} {g : Tgt} {m : M Flo} (h : Wp it env S (fun src e s => Wp (loopL src g m src.1) e s R E) E) : Wp (dFor it g m) env S R E := by
  delta Wp Wc at *
  exact v_for h
theorem w_compL {src : Src} {g : Tgt} {tt : M Bool} {te : M D} {vs : List Nat} (hn : src.2 = none) (I : List D → List D → Envr → Sto → Prop) (Q : List D → Envr → Sto → Prop) (step : ∀ d r acc e s, I (d :: r) acc e s → ∃ e1, g d e = some e1 ∧ Wp tt e1 s (fun t e s => (t = true → Wp te e s (fun x e s => I r (acc ++ [x]) (wipeE e vs) s) nE) ∧ (t = false → I r acc (wipeE e vs) s)) nE)
    (fin : ∀ acc e s, I [] acc e s → Q acc e s) : ∀ (l acc : List D) (env : Envr) (S : Sto), I l acc env S → ∃ acc' e s, compL src g tt te vs l acc env S = .ok acc' e s ∧ Q acc' e s := by
  delta Wp Wc at *
  exact v_compL hn I Q step fin
theorem w_comp {it : M Src} {g : Tgt} {tt : M Bool} {te : M D} {vs : List Nat} {Q : Cell → Envr → Sto → Prop} (h : Wp it env S (fun src e s => src.1.length ≤ sizeLine ∧ ∃ acc e' s', compL src g tt te vs src.1 [] (wipeE e vs) s = .ok acc e' s' ∧ Q (.lst acc) e' s') E) : Wp (dComp it g tt te vs) env S Q E := by
  delta Wp Wc at *
  exact v_comp h
theorem w_def {dm : DefM} {m : M Flo} {ds : List D} {Q : D → Sto → Prop} {E : Exn → Sto → Prop} (hl : ds.length = dm.ps.length) (env : Envr) (he : ds.map Slot.val ++ List.replicate (dm.C.N.length - ds.length) Slot.no = env) (h : Wp m env S (fun f e s => match f with
    | .nx => Q .non s
    | .rt d => Q d s
    | _ => False) (fun x e s => E x s)) : Wc (runD dm m ds S) Q E := by
  delta Wp Wc at *
  exact v_def hl env he h
end
section
theorem compP {src : Src} {g : Tgt} {tt : M Bool} {te : M D} {vs : List Nat} (hn : src.2 = none) (P : D → Bool) (f : D → D) (env : Envr) (S : Sto) : ∀ (l acc : List D), (∀ d ∈ l, ∃ e1, g d env = some e1 ∧ Wp tt e1 S (fun t e s => t = P d ∧ s = S ∧ (t = true → Wp te e s (fun x e s => x = f d ∧ s = S ∧ wipeE e vs = env) nE) ∧ (t = false → wipeE e vs = env)) nE) →
    compL src g tt te vs l acc env S = .ok (acc ++ (l.filter P).map f) env S := by
  delta Wp Wc at *
  exact vcompP hn P f env S
end
def stc (a b c : Int) : Cell := .lst [.int a, .int b, .int c]
structure Val (a b c : Int) (n : Nat) : Prop where
  a0 : 0 ≤ a
  b0 : 0 ≤ b
  b1 : b < 2147483647
  c0 : 0 ≤ c
  c1 : c + n ≤ 1000000000
theorem Val.less {a b c : Int} {n m : Nat} (h : Val a b c n) (l : m ≤ n) : Val a b c m := ⟨h.a0, h.b0, h.b1, h.c0, by have := h.c1; omega⟩
theorem log2_int {i : Int} {m : Nat} (h1 : 0 ≤ i) (h : i < 2 ^ m) (hm : 0 < m) : i.natAbs.log2 < m := log2_le (by
  have : (i.natAbs : Int) = i := Int.natAbs_of_nonneg h1
  have h2 : (i.natAbs : Int) < ((2 ^ m : Nat) : Int) := by rw [this]; simpa using h
  exact Int.ofNat_lt.mp h2) hm
theorem atI_nat {α : Type} {l : List α} {i : Nat} {d : α} (e : l[i]? = some d) : atI l (i : Int) = some d := by
  have h := (List.getElem?_eq_some_iff.mp e).1
  have hx : ixN l.length (i : Int) = some i := by
    unfold ixN
    rw [if_pos (by omega), if_pos (by omega)]
    simp
  unfold atI
  rw [hx]
  exact e
theorem at_some {l : List D} {r : Int} (h0 : 0 ≤ r) (h1 : r < l.length) : ∃ d, ixD (.lst l) (.int r) = some d ∧ d ∈ l := by
  obtain ⟨i, rfl⟩ := Int.eq_ofNat_of_zero_le h0
  have hi : i < l.length := by omega
  exact ⟨l[i], atI_nat (by rw [List.getElem?_eq_getElem hi]), List.getElem_mem hi⟩
theorem upto_len {j : Int} : (upto 0 j).length = j.toNat := by unfold upto; simp
theorem ix0 {x : D} {l : List D} : ixD (.tup (x :: l)) (.int 0) = some x := atI_nat (i := 0) (l := x :: l) rfl
theorem ix1 {x y : D} {l : List D} : ixD (.tup (x :: y :: l)) (.int 1) = some y := atI_nat (i := 1) (l := x :: y :: l) rfl
theorem ix2 {x y z : D} {l : List D} : ixD (.tup (x :: y :: z :: l)) (.int 2) = some z := atI_nat (i := 2) (l := x :: y :: z :: l) rfl
theorem ix3 {x y z u : D} {l : List D} : ixD (.tup (x :: y :: z :: u :: l)) (.int 3) = some u := atI_nat (i := 3) (l := x :: y :: z :: u :: l) rfl
def PF (F : Fn) (dom : D → Prop) (f : D → D) : Prop := ∀ d S (Q : D → Sto → Prop) (E : Exn → Sto → Prop), dom d → Q (f d) S → Wc (F [d] S) Q E
structure Flat (d : D) : Prop where
  t : (typeD d).isSome = true
  s : ∀ s, d = .str s → s.length ≤ sizeLine
theorem Flat.view {d : D} (h : Flat d) (e : Envr) (S : Sto) : view e S d = d := by
  cases d <;> first | rfl | exact absurd h.t (by simp [typeD])
theorem view_of {d : D} (h : (typeD d).isSome = true) (e : Envr) (S : Sto) : L2.MP.view e S d = d := by
  cases d <;> first | rfl | exact absurd h (by simp [typeD])
theorem isi_eq {d : D} {t T : String} (ht : typeD d = some t) : isiD T d = some (.bl (t == T || (t == "bool" && T == "int"))) := by unfold isiD; rw [ht]; rfl
end L2.MP
end
section
set_option Elab.async false
set_option linter.all false
set_option maxRecDepth 100000
set_option maxHeartbeats 4000000
namespace L2.MP
open PySem PySem.Spec PyProof.Rows
local macro_rules
  | `(tactic| trivial) => `(tactic| first
    | refine w_seq ?_ | refine w_set ?_ | refine w_setOwn ?_ | refine w_setHp ?_ | refine w_retS ?_ | refine w_retHp ?_ | refine w_ite ?_ | refine w_expr ?_ | refine w_asg ?_ | refine w_setIx ?_ | refine w_mut ?_
    | refine w_bl ?_ | refine w_op2 ?_ | refine w_op1 ?_ | refine w_opF1 ?_ | refine w_chainP ?_ | refine w_and ?_ | refine w_or ?_ | refine w_not ?_ | refine w_notT ?_ | refine w_andT ?_ | refine w_orT ?_ | refine w_tru ?_
    | refine w_fz ?_ | refine w_lst ?_ | refine w_tup ?_ | refine w_cons ?_ | refine w_nil ?_ | refine w_sl ?_ | refine w_slF ?_ | refine w_part ?_ | refine w_part0 ?_ | refine w_sm0 ?_ | refine w_sm1 ?_ | refine w_disp ?_ | refine w_pr ?_ | refine w_pr0 ?_
    | refine w_for ?_ | refine w_walk ?_ | refine w_rng1 ?_ | refine w_rng2 ?_ | refine w_enum ?_ | refine w_zip ?_ | refine w_fn ?_ | refine w_comp ?_
    | refine w_var rfl ?_ | refine w_peek rfl ?_ | refine w_peekO rfl ?_ | refine w_varO rfl rfl ?_ | refine w_ret ?_
    | refine ⟨_, ix0, ?_⟩ | refine ⟨_, ix1, ?_⟩ | refine ⟨_, ix2, ?_⟩ | refine ⟨_, ix3, ?_⟩
    | refine ⟨_, rfl, ?_⟩ | refine ⟨rfl, ?_⟩ | refine ⟨Nat.le_of_ble_eq_true rfl, ?_⟩
    | refine ⟨fun _ => ?_, fun h => Bool.noConfusion (show true = false from h)⟩ | refine ⟨fun h => Bool.noConfusion (show false = true from h), fun _ => ?_⟩)
def cellB : M Flo :=
  (dSeq (dIf (dBl (dOp2 ltD (dPeek 1) (dOp1 lenD (dPeek 0)))) (dRet (dOp2 ixD (dPeek 0) (dPeek 1))) (M.ret .nx))
  (dRet (M.ret (.int 0))))
theorem lcell_ok {dm : DefM} (h1 : dm.ps.length = 2) (h2 : dm.C.N.length = 2) {ns : List Int} {i : Nat} {S : Sto} {Q : D → Sto → Prop} {E : Exn → Sto → Prop} (q : Q (.int (ns.getD i 0)) S) : Wc (runD dm cellB [.rl (ns.map D.int), .int i] S) Q E := by
  refine w_def (by rw [h1]; rfl) [.val (.rl (ns.map D.int)), .val (.int i)] (by rw [h2]; rfl) ?_
  unfold cellB
  repeat trivial
  rw [List.length_map]
  refine ⟨fun h => ?_, fun h => ?_⟩
  · have h : i < ns.length := by have := of_decide_eq_true h; omega
    repeat trivial
    refine ⟨_, (show atI (ns.map D.int) (i : Int) = some (.int (ns.getD i 0)) from atI_nat (by rw [List.getElem?_map, List.getElem?_eq_getElem h, List.getD_eq_getElem?_getD, List.getElem?_eq_getElem h]; rfl)), ?_⟩
    exact q
  · have h : ¬ i < ns.length := by have := of_decide_eq_false h; omega
    repeat trivial
    rw [List.getD_eq_getElem?_getD, List.getElem?_eq_none (by omega)] at q
    exact q
end L2.MP
end
section
set_option Elab.async false
set_option linter.all false
set_option maxRecDepth 100000
set_option maxHeartbeats 4000000
namespace L2.MP
open PySem PySem.Spec PyProof.Rows L2.MP
local macro_rules
  | `(tactic| trivial) => `(tactic| first
    | refine w_seq ?_ | refine w_set ?_ | refine w_setOwn ?_ | refine w_setHp ?_ | refine w_retS ?_ | refine w_retHp ?_ | refine w_ite ?_ | refine w_expr ?_ | refine w_asg ?_ | refine w_setIx ?_ | refine w_mut ?_ | refine w_hp ?_ | refine w_lm1 ?_
    | refine w_bl ?_ | refine w_op2 ?_ | refine w_op1 ?_ | refine w_opF1 ?_ | refine w_opF2 ?_ | refine w_chainP ?_ | refine w_and ?_ | refine w_or ?_ | refine w_not ?_ | refine w_notT ?_ | refine w_andT ?_ | refine w_orT ?_ | refine w_tru ?_
    | refine w_fz ?_ | refine w_lst ?_ | refine w_tup ?_ | refine w_cons ?_ | refine w_nil ?_ | refine w_sl ?_ | refine w_slF ?_ | refine w_part ?_ | refine w_part0 ?_ | refine w_sm0 ?_ | refine w_sm1 ?_ | refine w_disp ?_ | refine w_pr ?_ | refine w_pr0 ?_
    | refine w_for ?_ | refine w_walk ?_ | refine w_rng1 ?_ | refine w_rng2 ?_ | refine w_enum ?_ | refine w_zip ?_ | refine w_fn ?_ | refine w_comp ?_
    | refine w_var rfl ?_ | refine w_peek rfl ?_ | refine w_peekO rfl ?_ | refine w_varO rfl rfl ?_ | refine w_ret ?_
    | refine ⟨_, ix0, ?_⟩ | refine ⟨_, ix1, ?_⟩ | refine ⟨_, ix2, ?_⟩ | refine ⟨_, ix3, ?_⟩
    | refine ⟨_, rfl, ?_⟩ | refine ⟨rfl, ?_⟩ | refine ⟨Nat.le_of_ble_eq_true rfl, ?_⟩
    | refine ⟨fun _ => ?_, fun h => Bool.noConfusion (show true = false from h)⟩ | refine ⟨fun h => Bool.noConfusion (show false = true from h), fun _ => ?_⟩)
section
variable {A B : Prop}
theorem br_dec {p : Prop} [Decidable p] (h1 : p → A) (h2 : ¬ p → B) : (decide p = true → A) ∧ (decide p = false → B) := ⟨fun h => h1 (of_decide_eq_true h), fun h => h2 (of_decide_eq_false h)⟩
theorem br_fdec {p : Prop} [Decidable p] (h1 : p → A) (h2 : ¬ p → B) : ((false != decide p) = true → A) ∧ ((false != decide p) = false → B) := by
  have e : (false != decide p) = decide p := by cases decide p <;> rfl
  rw [e]; exact br_dec h1 h2
end
theorem cut_to {α : Type} {l : List α} {i : Nat} : cutD l none (some (i : Int)) = l.take i := by
  unfold cutD
  rw [HT.sIx_nat, HT.sIx_none, List.drop_zero, Nat.sub_zero]
  rcases Nat.le_total i l.length with h | h
  · rw [Nat.min_eq_left h]
  · rw [Nat.min_eq_right h, List.take_of_length_le (Nat.le_refl _), List.take_of_length_le h]
theorem cut_len' {α : Type} {l : List α} {lo hi : Option Int} : (cutD l lo hi).length ≤ l.length := by
  unfold cutD
  rw [List.length_take, List.length_drop]; omega
theorem cut_mem' {α : Type} {l : List α} {lo hi : Option Int} {d : α} (h : d ∈ cutD l lo hi) : d ∈ l := by
  unfold cutD at h
  exact List.mem_of_mem_drop (List.mem_of_mem_take h)
section
variable {g : Tgt} {te : M D} {vs : List Nat} {env : Envr} {S : Sto} {Q : List D → Envr → Sto → Prop}
theorem w_compM {l : List D} (f : D → D) (hl : l.length ≤ sizeLine)
    (step : ∀ d ∈ l, ∃ e1, g d (wipeE env vs) = some e1 ∧ Wp te e1 S (fun x e s => x = f d ∧ s = S ∧ wipeE e vs = wipeE env vs) nE)
    (q : Q (l.map f) (wipeE env vs) S) : l.length ≤ sizeLine ∧ ∃ acc e' s', compL (l, none) g (M.ret true) te vs l [] (wipeE env vs) S = .ok acc e' s' ∧ Q acc e' s' := by
  refine ⟨hl, _, _, _, compP (src := (l, none)) rfl (fun _ => true) f (wipeE env vs) S l [] (fun d hd => ?_), ?_⟩
  · obtain ⟨e1, h1, h2⟩ := step d hd
    exact ⟨e1, h1, w_ret ⟨rfl, rfl, fun _ => h2, fun h => nomatch h⟩⟩
  · rw [List.nil_append, List.filter_eq_self.mpr (fun _ _ => rfl)]; exact q
theorem upto_mem {lo hi : Int} {d : D} (h : d ∈ upto lo hi) : ∃ i : Int, d = .int i ∧ lo ≤ i ∧ i < hi := by
  unfold upto at h
  obtain ⟨i, hi', rfl⟩ := List.mem_map.mp h
  have := List.mem_range.mp hi'
  exact ⟨lo + i, rfl, by omega, by omega⟩
end
theorem pf_at {F : Fn} {dom : D → Prop} {f : D → D} {d r : D} {S : Sto} {Q : D → Sto → Prop} {E : Exn → Sto → Prop} (h : PF F dom f) (hd : dom d) (e : f d = r) (q : Q r S) : Wc (F [d] S) Q E := h d S Q E hd (by subst e; exact q)
section
variable {E : Exn → Envr → Sto → Prop} {env : Envr} {S : Sto} {Q : D → Envr → Sto → Prop} {a b : M D}
theorem v_hp {m : M Cell} (h : Vp m env S (fun c e s => Q (.ref s.length) e (s ++ [c])) E) : Vp (dHp m) env S Q E := v_bind (h.mono (fun c e s h => h) fun _ _ _ q => q)
theorem w_hp {m : M Cell} (h : Wp m env S (fun c e s => Q (.ref s.length) e (s ++ [c])) E) : Wp (dHp m) env S Q E := by
  delta Wp at *
  exact v_hp h
theorem v_lm1 {f : List D → D → Option D} (h : Vp a env S (fun x e s => (∃ l, lstOf (view e s x) = some l) ∧ Vp b e s (fun y e s => ∃ l d, lstOf (view e s x) = some l ∧ f l (view e s y) = some d ∧ Q d e s) E) E) : Vp (dLm1 f a b) env S Q E :=
  v_bind (h.mono (fun x e s ⟨⟨l, h1⟩, h2⟩ => v_bind (v_getS (by
    dsimp only
    rw [h1]
    exact v_bind (h2.mono (fun y e s ⟨l, d, h3, h4, h5⟩ => v_bind (v_getS (v_opt (a := d) (by dsimp only; rw [h3]; exact h4) h5))) fun _ _ _ q => q)))) fun _ _ _ q => q)
theorem w_lm1 {f : List D → D → Option D} (h : Wp a env S (fun x e s => (∃ l, lstOf (view e s x) = some l) ∧ Wp b e s (fun y e s => ∃ l d, lstOf (view e s x) = some l ∧ f l (view e s y) = some d ∧ Q d e s) E) E) : Wp (dLm1 f a b) env S Q E := by
  delta Wp at *
  exact v_lm1 h
end
end L2.MP
end
section
set_option Elab.async false
set_option linter.all false
set_option maxRecDepth 100000
set_option maxHeartbeats 4000000
namespace L2.MP
open PySem PySem.Spec PyProof.Rows L2.MP
local macro_rules
  | `(tactic| trivial) => `(tactic| first
    | refine w_seq ?_ | refine w_set ?_ | refine w_setOwn ?_ | refine w_setHp ?_ | refine w_retS ?_ | refine w_retHp ?_ | refine w_ite ?_ | refine w_expr ?_ | refine w_asg ?_ | refine w_setIx ?_ | refine w_mut ?_ | refine w_hp ?_ | refine w_lm1 ?_
    | refine w_bl ?_ | refine w_op2 ?_ | refine w_op1 ?_ | refine w_opF1 ?_ | refine w_opF2 ?_ | refine w_chainP ?_ | refine w_and ?_ | refine w_or ?_ | refine w_not ?_ | refine w_notT ?_ | refine w_andT ?_ | refine w_orT ?_ | refine w_tru ?_
    | refine w_fz ?_ | refine w_lst ?_ | refine w_tup ?_ | refine w_cons ?_ | refine w_nil ?_ | refine w_sl ?_ | refine w_slF ?_ | refine w_part ?_ | refine w_part0 ?_ | refine w_sm0 ?_ | refine w_sm1 ?_ | refine w_disp ?_ | refine w_pr ?_ | refine w_pr0 ?_
    | refine w_for ?_ | refine w_walk ?_ | refine w_rng1 ?_ | refine w_rng2 ?_ | refine w_enum ?_ | refine w_zip ?_ | refine w_fn ?_ | refine w_comp ?_
    | refine w_var rfl ?_ | refine w_peek rfl ?_ | refine w_peekO rfl ?_ | refine w_varO rfl rfl ?_ | refine w_ret ?_
    | refine ⟨_, ix0, ?_⟩ | refine ⟨_, ix1, ?_⟩ | refine ⟨_, ix2, ?_⟩ | refine ⟨_, ix3, ?_⟩
    | refine ⟨_, rfl, ?_⟩ | refine ⟨rfl, ?_⟩ | refine ⟨Nat.le_of_ble_eq_true rfl, ?_⟩
    | refine ⟨fun _ => ?_, fun h => Bool.noConfusion (show true = false from h)⟩ | refine ⟨fun h => Bool.noConfusion (show false = true from h), fun _ => ?_⟩)
variable {S : Sto} {Q : D → Sto → Prop} {E : Exn → Sto → Prop} {φ : Nat → Fn} {dm : DefM}
def six : List D := [.str "any", .str "is", .str "by", .str "not", .str "and", .str "or"]
def LET : Str := "abcdefghijklmnopqrstuvwxyz"
def isL (s : Str) : Bool := !(decide (s = "")) && (!(memD (.str s) six) && s.cps.toList.all fun c => decide (c ∈ LET.cps.toList))
def isLD : D → Bool
  | .str s => isL s
  | _ => false
def lettersB (φ : Nat → Fn) : M Flo :=
  (dSeq (dIf (dOrT (dNotT (dTru (dOp1 (isiD "str") (dPeek 0)))) (dOrT (dBl (dOp2 (cmpEq false) (dPeek 0) (M.ret (D.str "")))) (dBl (dOp2 (inF false) (dPeek 0) (M.ret (D.rt [(D.str "any"), (D.str "is"), (D.str "by"), (D.str "not"), (D.str "and"), (D.str "or")])))))) (dRet (M.ret (D.bl false))) (M.ret .nx))
  (dRet (dOp1 allD (dFz (dComp (dWalk (dVar 0)) (gNm 1) (M.ret true) (dOp2 (inF false) (dPeek 1) (M.ret (D.str "abcdefghijklmnopqrstuvwxyz"))) [1])))))
theorem letters_s (h1 : dm.ps.length = 1) (h2 : dm.C.N.length = 2) {s : Str} (hs : s.length ≤ sizeLine) (q : Q (.bl (isL s)) S) : Wc (runD dm (lettersB φ) [.str s] S) Q E := by
  refine w_def (by rw [h1]; rfl) [.val (.str s), .no] (by rw [h2]; rfl) ?_
  unfold lettersB
  have go : ∀ (h1 : decide (s = "") = false) (h2 : memD (.str s) six = false), Wp (dRet (dOp1 allD (dFz (dComp (dWalk (dVar 0)) (gNm 1) (M.ret true) (dOp2 (inF false) (dPeek 1) (M.ret (.str "abcdefghijklmnopqrstuvwxyz"))) [1])))) [.val (.str s), .no] S (fun f e s => match f with
    | .nx => Q .non s
    | .rt d => Q d s
    | _ => False) (fun x e s => E x s) := fun h1 h2 => by
    repeat trivial
    have step : ∀ d ∈ MP.signs s, ∃ e1, gNm 1 d (wipeE [.val (.str s), .no] [1]) = some e1 ∧ Wp (M.ret true) e1 S (fun t e s' => t = (fun _ => true) d ∧ s' = S ∧ (t = true → Wp (dOp2 (inF false) (dPeek 1) (M.ret (.str "abcdefghijklmnopqrstuvwxyz"))) e s' (fun x e s' => x = (fun d => D.bl ((inD d (.str LET)).getD false)) d ∧ s' = S ∧ wipeE e [1] = wipeE [.val (.str s), .no] [1]) nE) ∧ (t = false → wipeE e [1] = wipeE [.val (.str s), .no] [1])) nE := fun d hd => by
      obtain ⟨c, hc, rfl⟩ := List.mem_map.mp (show d ∈ s.cps.toList.map fun c => D.str ⟨#[c]⟩ from hd)
      refine ⟨_, rfl, ?_⟩
      repeat trivial
      exact ⟨by show D.bl (false != decide _) = D.bl (decide _); simp; rfl, rfl, rfl⟩
    refine ⟨by show (MP.signs s).length ≤ _; unfold MP.signs; rw [List.length_map]; exact hs, _, _, _, compP rfl (fun _ => true) (fun d => .bl ((inD d (.str LET)).getD false)) _ _ _ _ step, ?_⟩
    repeat trivial
    refine ⟨.bl ((s.cps.toList.map fun c => decide (c ∈ LET.cps.toList)).all id), ?_, ?_⟩
    · show allD (.lst ([] ++ (((MP.signs s).filter fun _ => true).map fun d => D.bl ((inD d (.str LET)).getD false)))) = _
      have e : ([] ++ (((MP.signs s).filter fun _ => true).map fun d => D.bl ((inD d (.str LET)).getD false))) = (s.cps.toList.map fun c => decide (c ∈ LET.cps.toList)).map D.bl := by
        rw [List.nil_append, List.filter_eq_self.mpr (fun _ _ => rfl)]
        unfold MP.signs
        rw [List.map_map, List.map_map]
        rfl
      rw [e]
      show Option.map _ (getBools (List.map D.bl _)) = _
      rw [bools_map]; rfl
    · have : isL s = (s.cps.toList.map fun c => decide (c ∈ LET.cps.toList)).all id := by
        unfold isL
        rw [h1, h2]
        simp
      rw [← this]
      exact q
  have bad1 : decide (s = "") = true → Q (.bl false) S := fun h => by
    unfold isL at q; rw [h] at q; exact q
  have bad2 : memD (.str s) six = true → Q (.bl false) S := fun h => by
    unfold isL at q; rw [h] at q; simpa using q
  repeat trivial
  refine ⟨fun h => ?_, fun h => ?_⟩
  · repeat trivial
    exact bad1 (by simpa using h)
  · have h1 : decide (s = "") = false := by simpa using h
    repeat trivial
    refine ⟨fun h => ?_, fun h => ?_⟩
    · repeat trivial
      exact bad2 (by simpa [six] using h)
    · refine w_ret ?_
      exact go h1 (by simpa [six] using h)
theorem letters_n (h1 : dm.ps.length = 1) (h2 : dm.C.N.length = 2) {d : D} {t : String} (ht : typeD d = some t) (hn : (t == "str") = false) (q : Q (.bl false) S) : Wc (runD dm (lettersB φ) [d] S) Q E := by
  have hv := view_of (d := d) (by rw [ht]; rfl)
  refine w_def (by rw [h1]; rfl) [.val d, .no] (by rw [h2]; rfl) ?_
  unfold lettersB
  repeat trivial
  refine ⟨.bl false, by rw [hv, isi_eq ht, hn]; simp, false, rfl, ?_⟩
  repeat trivial
theorem letters_ok (h1 : dm.ps.length = 1) (h2 : dm.C.N.length = 2) : PF (runD dm (lettersB φ)) Flat (fun d => .bl (isLD d)) := fun d S Q E hd q => by
  cases d with
  | str s => exact letters_s h1 h2 (hd.s s rfl) q
  | ref n => exact absurd hd.t (by simp [typeD])
  | own n => exact absurd hd.t (by simp [typeD])
  | _ => exact letters_n h1 h2 rfl rfl q
def isW (s : Str) : Bool := isL s && decide ((s.length : Int) ≤ 8)
def isWD : D → Bool
  | .str s => isW s
  | _ => false
def wordB (φ : Nat → Fn) (i : Nat) : M Flo :=
  (dRet (dAnd (dFn φ i 1 (dArgs [(dVar 0)])) (dOp2 leD (dOp1 lenD (dPeek 0)) (M.ret (D.int 8)))))
theorem word_ok (h1 : dm.ps.length = 1) (h2 : dm.C.N.length = 1) {i : Nat} (hi : PF (φ i) Flat (fun d => .bl (isLD d))) : PF (runD dm (wordB φ i)) Flat (fun d => .bl (isWD d)) := fun d S Q E hd q => by
  have q : Q (.bl (isWD d)) S := q
  refine w_def (by rw [h1]; rfl) [.val d] (by rw [h2]; rfl) ?_
  unfold wordB
  repeat trivial
  refine hi d S _ _ hd ?_
  refine ⟨_, rfl, fun h => ?_, fun h => ?_⟩
  · obtain ⟨s, rfl⟩ : ∃ s, d = .str s := by
      cases d with
      | str s => exact ⟨s, rfl⟩
      | _ => cases h
    have h : isL s = true := h
    repeat trivial
    refine ⟨.int s.length, if_pos (hd.s s rfl), ?_⟩
    repeat trivial
    have e : isWD (.str s) = decide ((s.length : Int) ≤ 8) := by show (isL s && _) = _; rw [h]; rfl
    rw [e] at q
    exact q
  · have e : isWD d = false := by
      cases d <;> try rfl
      simp only [isLD] at h
      simp only [isWD, isW, h]; rfl
    rw [e] at q
    repeat trivial
def isInt : D → Bool
  | .int _ => true
  | _ => false
def wholeB (φ : Nat → Fn) : M Flo :=
  (dRet (dAnd (dOp1 (isiD "int") (dPeek 0)) (dNot (dOp1 (isiD "bool") (dPeek 0)))))
theorem whole_ok (h1 : dm.ps.length = 1) (h2 : dm.C.N.length = 1) : PF (runD dm (wholeB φ)) Flat (fun d => .bl (isInt d)) := fun d S Q E hd q => by
  refine w_def (by rw [h1]; rfl) [.val d] (by rw [h2]; rfl) ?_
  unfold wholeB
  cases d with
  | ref n => exact absurd hd.t (by simp [typeD])
  | own n => exact absurd hd.t (by simp [typeD])
  | _ => repeat trivial
def isN (i : Int) : Bool := decide (0 ≤ i) && decide (i ≤ 1000000000)
def isND : D → Bool
  | .int i => isN i
  | _ => false
def numberB (φ : Nat → Fn) (i : Nat) : M Flo :=
  (dRet (dAnd (dFn φ i 1 (dArgs [(dVar 0)])) (dChain leD leD (M.ret (D.int 0)) (dPeek 0) (M.ret (D.int 1000000000)))))
theorem number_ok (h1 : dm.ps.length = 1) (h2 : dm.C.N.length = 1) {i : Nat} (hi : PF (φ i) Flat (fun d => .bl (isInt d))) : PF (runD dm (numberB φ i)) Flat (fun d => .bl (isND d)) := fun d S Q E hd q => by
  refine w_def (by rw [h1]; rfl) [.val d] (by rw [h2]; rfl) ?_
  unfold numberB
  repeat trivial
  refine hi d S _ _ hd ?_
  cases d with
  | ref n => exact absurd hd.t (by simp [typeD])
  | own n => exact absurd hd.t (by simp [typeD])
  | _ => repeat trivial
end L2.MP
end
section
set_option Elab.async false
set_option linter.all false
set_option maxRecDepth 100000
set_option maxHeartbeats 4000000
namespace L2.MP
open PySem PySem.Spec PyProof.Rows L2.MP
local macro_rules
  | `(tactic| trivial) => `(tactic| first
    | refine w_seq ?_ | refine w_set ?_ | refine w_setOwn ?_ | refine w_setHp ?_ | refine w_retS ?_ | refine w_retHp ?_ | refine w_ite ?_ | refine w_expr ?_ | refine w_asg ?_ | refine w_setIx ?_ | refine w_mut ?_ | refine w_hp ?_ | refine w_lm1 ?_
    | refine w_bl ?_ | refine w_op2 ?_ | refine w_op1 ?_ | refine w_opF1 ?_ | refine w_opF2 ?_ | refine w_chainP ?_ | refine w_and ?_ | refine w_or ?_ | refine w_not ?_ | refine w_notT ?_ | refine w_andT ?_ | refine w_orT ?_ | refine w_tru ?_
    | refine w_fz ?_ | refine w_lst ?_ | refine w_tup ?_ | refine w_cons ?_ | refine w_nil ?_ | refine w_sl ?_ | refine w_slF ?_ | refine w_part ?_ | refine w_part0 ?_ | refine w_sm0 ?_ | refine w_sm1 ?_ | refine w_disp ?_ | refine w_pr ?_ | refine w_pr0 ?_
    | refine w_for ?_ | refine w_walk ?_ | refine w_rng1 ?_ | refine w_rng2 ?_ | refine w_enum ?_ | refine w_zip ?_ | refine w_fn ?_ | refine w_comp ?_
    | refine w_var rfl ?_ | refine w_peek rfl ?_ | refine w_peekO rfl ?_ | refine w_varO rfl rfl ?_ | refine w_ret ?_
    | refine ⟨_, ix0, ?_⟩ | refine ⟨_, ix1, ?_⟩ | refine ⟨_, ix2, ?_⟩ | refine ⟨_, ix3, ?_⟩
    | refine ⟨_, rfl, ?_⟩ | refine ⟨rfl, ?_⟩ | refine ⟨Nat.le_of_ble_eq_true rfl, ?_⟩
    | refine ⟨fun _ => ?_, fun h => Bool.noConfusion (show true = false from h)⟩ | refine ⟨fun h => Bool.noConfusion (show false = true from h), fun _ => ?_⟩)
mutual
def plD : Nat → D → Bool
  | _, .non => true
  | _, .bl _ => true
  | _, .int _ => true
  | _, .str s => PyData.strOk s && decide (s.length ≤ 1000000)
  | n + 1, .lst l => plDs n l
  | n + 1, .tup l => plDs n l
  | _, .dk _ _ => true
  | _, .dt _ _ => true
  | _, _ => false
def plDs : Nat → List D → Bool
  | _, [] => true
  | n, x :: xs => plD n x && plDs n xs
end
theorem plDs_mem {n : Nat} : ∀ {l : List D}, plDs n l = true → ∀ x ∈ l, plD n x = true
  | [], _, x, h => nomatch h
  | y :: ys, h, x, hx => by
    unfold plDs at h
    rw [Bool.and_eq_true] at h
    rcases List.mem_cons.mp hx with rfl | hx
    · exact h.1
    · exact plDs_mem h.2 x hx
theorem plDs_of {n : Nat} : ∀ {l : List D}, (∀ x ∈ l, plD n x = true) → plDs n l = true
  | [], _ => rfl
  | y :: ys, h => by
    unfold plDs
    rw [h y List.mem_cons_self, plDs_of fun x hx => h x (List.mem_cons_of_mem _ hx)]; rfl
theorem plD_flat {n : Nat} {d : D} (h : plD n d = true) : Flat d := by
  cases d with
  | ref m => cases n <;> cases h
  | own m => cases n <;> cases h
  | str s =>
    have h : (PyData.strOk s && decide (s.length ≤ 1000000)) = true := by cases n <;> exact h
    rw [Bool.and_eq_true] at h
    refine ⟨rfl, fun t e => ?_⟩
    cases e
    exact Nat.le_trans (of_decide_eq_true h.2) (by decide)
  | _ => exact ⟨rfl, fun s e => by cases e⟩
end L2.MP
end
section
set_option Elab.async false
set_option linter.all false
set_option maxRecDepth 100000
set_option maxHeartbeats 4000000
namespace L2.MP
open PySem PySem.Spec PyProof.Rows L2.MP
local macro_rules
  | `(tactic| trivial) => `(tactic| first
    | refine w_seq ?_ | refine w_set ?_ | refine w_setOwn ?_ | refine w_setHp ?_ | refine w_retS ?_ | refine w_retHp ?_ | refine w_ite ?_ | refine w_expr ?_ | refine w_asg ?_ | refine w_setIx ?_ | refine w_mut ?_ | refine w_hp ?_ | refine w_lm1 ?_
    | refine w_bl ?_ | refine w_op2 ?_ | refine w_op1 ?_ | refine w_opF1 ?_ | refine w_opF2 ?_ | refine w_chainP ?_ | refine w_and ?_ | refine w_or ?_ | refine w_not ?_ | refine w_notT ?_ | refine w_andT ?_ | refine w_orT ?_ | refine w_tru ?_
    | refine w_fz ?_ | refine w_lst ?_ | refine w_tup ?_ | refine w_cons ?_ | refine w_nil ?_ | refine w_sl ?_ | refine w_slF ?_ | refine w_part ?_ | refine w_part0 ?_ | refine w_sm0 ?_ | refine w_sm1 ?_ | refine w_disp ?_ | refine w_pr ?_ | refine w_pr0 ?_
    | refine w_for ?_ | refine w_walk ?_ | refine w_rng1 ?_ | refine w_rng2 ?_ | refine w_enum ?_ | refine w_zip ?_ | refine w_fn ?_ | refine w_comp ?_
    | refine w_var rfl ?_ | refine w_peek rfl ?_ | refine w_peekO rfl ?_ | refine w_varO rfl rfl ?_ | refine w_ret ?_
    | refine ⟨_, ix0, ?_⟩ | refine ⟨_, ix1, ?_⟩ | refine ⟨_, ix2, ?_⟩ | refine ⟨_, ix3, ?_⟩
    | refine ⟨_, rfl, ?_⟩ | refine ⟨rfl, ?_⟩ | refine ⟨Nat.le_of_ble_eq_true rfl, ?_⟩
    | refine ⟨fun _ => ?_, fun h => Bool.noConfusion (show true = false from h)⟩ | refine ⟨fun h => Bool.noConfusion (show false = true from h), fun _ => ?_⟩)
variable {S : Sto} {Q : D → Sto → Prop} {E : Exn → Sto → Prop} {φ : Nat → Fn} {dm : DefM}
def enc (p : D × Nat) : D := .tup [p.1, .int p.2]
end L2.MP
end
section
set_option Elab.async false
set_option linter.all false
set_option maxRecDepth 100000
set_option maxHeartbeats 4000000
namespace L2.MP
open PySem PySem.Spec PyProof.Rows L2.MP
local macro_rules
  | `(tactic| trivial) => `(tactic| first
    | refine w_seq ?_ | refine w_set ?_ | refine w_setOwn ?_ | refine w_setHp ?_ | refine w_retS ?_ | refine w_retHp ?_ | refine w_ite ?_ | refine w_expr ?_ | refine w_asg ?_ | refine w_setIx ?_ | refine w_mut ?_ | refine w_hp ?_ | refine w_lm1 ?_
    | refine w_bl ?_ | refine w_op2 ?_ | refine w_op1 ?_ | refine w_opF1 ?_ | refine w_opF2 ?_ | refine w_chainP ?_ | refine w_and ?_ | refine w_or ?_ | refine w_not ?_ | refine w_notT ?_ | refine w_andT ?_ | refine w_orT ?_ | refine w_tru ?_
    | refine w_fz ?_ | refine w_lst ?_ | refine w_tup ?_ | refine w_cons ?_ | refine w_nil ?_ | refine w_sl ?_ | refine w_slF ?_ | refine w_part ?_ | refine w_part0 ?_ | refine w_sm0 ?_ | refine w_sm1 ?_ | refine w_disp ?_ | refine w_pr ?_ | refine w_pr0 ?_
    | refine w_for ?_ | refine w_walk ?_ | refine w_rng1 ?_ | refine w_rng2 ?_ | refine w_enum ?_ | refine w_zip ?_ | refine w_fn ?_ | refine w_comp ?_
    | refine w_var rfl ?_ | refine w_peek rfl ?_ | refine w_peekO rfl ?_ | refine w_varO rfl rfl ?_ | refine w_ret ?_
    | refine ⟨_, ix0, ?_⟩ | refine ⟨_, ix1, ?_⟩ | refine ⟨_, ix2, ?_⟩ | refine ⟨_, ix3, ?_⟩
    | refine ⟨_, rfl, ?_⟩ | refine ⟨rfl, ?_⟩ | refine ⟨Nat.le_of_ble_eq_true rfl, ?_⟩
    | refine ⟨fun _ => ?_, fun h => Bool.noConfusion (show true = false from h)⟩ | refine ⟨fun h => Bool.noConfusion (show false = true from h), fun _ => ?_⟩)
variable {S : Sto} {Q : D → Sto → Prop} {E : Exn → Sto → Prop} {φ : Nat → Fn} {dm : DefM}
def WordD (d : D) : Prop := ∃ w, d = .str w ∧ isW w = true
theorem isW_len {w : Str} (h : isW w = true) : w.length ≤ 8 := by
  unfold isW at h
  rw [Bool.and_eq_true] at h
  have := of_decide_eq_true h.2
  omega
theorem isW_ok {w : Str} (h : isW w = true) : PyData.strOk w = true := by
  unfold isW isL at h
  simp only [Bool.and_eq_true, List.all_eq_true, decide_eq_true_eq] at h
  unfold PyData.strOk
  rw [Array.all_eq_true_iff_forall_mem]
  intro c hc
  have h1 := h.1.2.2 c (Array.mem_toList_iff.mpr hc)
  have key : ∀ c ∈ LET.cps.toList, c < 0x110000 := by decide +kernel
  exact decide_eq_true (key c h1)
def NumD (d : D) : Prop := ∃ i, d = .int i ∧ isN i = true
end L2.MP
end
section
set_option Elab.async false
set_option linter.all false
set_option maxRecDepth 100000
set_option maxHeartbeats 4000000
namespace L2.MP
open PySem PySem.Spec PyProof.Rows L2.MP
local macro_rules
  | `(tactic| trivial) => `(tactic| first
    | refine w_seq ?_ | refine w_set ?_ | refine w_setOwn ?_ | refine w_setHp ?_ | refine w_retS ?_ | refine w_retHp ?_ | refine w_ite ?_ | refine w_expr ?_ | refine w_asg ?_ | refine w_setIx ?_ | refine w_mut ?_ | refine w_hp ?_ | refine w_lm1 ?_
    | refine w_bl ?_ | refine w_op2 ?_ | refine w_op1 ?_ | refine w_opF1 ?_ | refine w_opF2 ?_ | refine w_chainP ?_ | refine w_and ?_ | refine w_or ?_ | refine w_not ?_ | refine w_notT ?_ | refine w_andT ?_ | refine w_orT ?_ | refine w_tru ?_
    | refine w_fz ?_ | refine w_lst ?_ | refine w_tup ?_ | refine w_cons ?_ | refine w_nil ?_ | refine w_sl ?_ | refine w_slF ?_ | refine w_part ?_ | refine w_part0 ?_ | refine w_sm0 ?_ | refine w_sm1 ?_ | refine w_disp ?_ | refine w_pr ?_ | refine w_pr0 ?_
    | refine w_for ?_ | refine w_walk ?_ | refine w_rng1 ?_ | refine w_rng2 ?_ | refine w_enum ?_ | refine w_zip ?_ | refine w_fn ?_ | refine w_comp ?_
    | refine w_var rfl ?_ | refine w_peek rfl ?_ | refine w_peekO rfl ?_ | refine w_varO rfl rfl ?_ | refine w_ret ?_
    | refine ⟨_, ix0, ?_⟩ | refine ⟨_, ix1, ?_⟩ | refine ⟨_, ix2, ?_⟩ | refine ⟨_, ix3, ?_⟩
    | refine ⟨_, rfl, ?_⟩ | refine ⟨rfl, ?_⟩ | refine ⟨Nat.le_of_ble_eq_true rfl, ?_⟩
    | refine ⟨fun _ => ?_, fun h => Bool.noConfusion (show true = false from h)⟩ | refine ⟨fun h => Bool.noConfusion (show false = true from h), fun _ => ?_⟩)
variable {S : Sto} {Q : D → Sto → Prop} {E : Exn → Sto → Prop} {φ : Nat → Fn} {dm : DefM}
def LeafP (a : Str) (l : List D) : Prop := (a = "any" ∧ l = []) ∨ ((a = "is" ∨ a = "by") ∧ ∃ w, l = [w] ∧ WordD w) ∨ ((a = "least" ∨ a = "most") ∧ ∃ w n, l = [w, n] ∧ WordD w ∧ NumD n)
inductive Wsh : Nat → D → Prop where
  | leaf {n : Nat} {a : Str} {l : List D} : LeafP a l → Wsh (n + 1) (.tup (.str a :: l))
  | nt {n : Nat} {x : D} : Wsh n x → Wsh (n + 1) (.tup [.str "not", x])
  | an {n : Nat} {a : Str} {l : List D} : (a = "and" ∨ a = "or") → 2 ≤ l.length → l.length ≤ 6 → (∀ x ∈ l, Wsh n x) → Wsh (n + 1) (.tup [.str a, .tup l])
end L2.MP
end
section
set_option Elab.async false
set_option linter.all false
set_option maxRecDepth 100000
set_option maxHeartbeats 4000000
namespace L2.MP
open PySem PySem.Spec PyProof.Rows L2.MP
local macro_rules
  | `(tactic| trivial) => `(tactic| first
    | refine w_seq ?_ | refine w_set ?_ | refine w_setOwn ?_ | refine w_setHp ?_ | refine w_retS ?_ | refine w_retHp ?_ | refine w_ite ?_ | refine w_expr ?_ | refine w_asg ?_ | refine w_setIx ?_ | refine w_mut ?_ | refine w_hp ?_ | refine w_lm1 ?_
    | refine w_bl ?_ | refine w_op2 ?_ | refine w_op1 ?_ | refine w_opF1 ?_ | refine w_opF2 ?_ | refine w_chainP ?_ | refine w_and ?_ | refine w_or ?_ | refine w_not ?_ | refine w_notT ?_ | refine w_andT ?_ | refine w_orT ?_ | refine w_tru ?_
    | refine w_fz ?_ | refine w_lst ?_ | refine w_tup ?_ | refine w_cons ?_ | refine w_nil ?_ | refine w_sl ?_ | refine w_slF ?_ | refine w_part ?_ | refine w_part0 ?_ | refine w_sm0 ?_ | refine w_sm1 ?_ | refine w_disp ?_ | refine w_pr ?_ | refine w_pr0 ?_
    | refine w_for ?_ | refine w_walk ?_ | refine w_rng1 ?_ | refine w_rng2 ?_ | refine w_enum ?_ | refine w_zip ?_ | refine w_fn ?_ | refine w_comp ?_
    | refine w_var rfl ?_ | refine w_peek rfl ?_ | refine w_peekO rfl ?_ | refine w_varO rfl rfl ?_ | refine w_ret ?_
    | refine ⟨_, ix0, ?_⟩ | refine ⟨_, ix1, ?_⟩ | refine ⟨_, ix2, ?_⟩ | refine ⟨_, ix3, ?_⟩
    | refine ⟨_, rfl, ?_⟩ | refine ⟨rfl, ?_⟩ | refine ⟨Nat.le_of_ble_eq_true rfl, ?_⟩
    | refine ⟨fun _ => ?_, fun h => Bool.noConfusion (show true = false from h)⟩ | refine ⟨fun h => Bool.noConfusion (show false = true from h), fun _ => ?_⟩)
variable {S : Sto} {Q : D → Sto → Prop} {E : Exn → Sto → Prop} {φ : Nat → Fn} {dm : DefM}
end L2.MP
end
section
set_option Elab.async false
set_option linter.all false
set_option maxRecDepth 100000
set_option maxHeartbeats 4000000
namespace L2.MP
open PySem PySem.Spec PyProof.Rows L2.MP
local macro_rules
  | `(tactic| trivial) => `(tactic| first
    | refine w_seq ?_ | refine w_set ?_ | refine w_setOwn ?_ | refine w_setHp ?_ | refine w_retS ?_ | refine w_retHp ?_ | refine w_ite ?_ | refine w_expr ?_ | refine w_asg ?_ | refine w_setIx ?_ | refine w_mut ?_ | refine w_hp ?_ | refine w_lm1 ?_
    | refine w_bl ?_ | refine w_op2 ?_ | refine w_op1 ?_ | refine w_opF1 ?_ | refine w_opF2 ?_ | refine w_chainP ?_ | refine w_and ?_ | refine w_or ?_ | refine w_not ?_ | refine w_notT ?_ | refine w_andT ?_ | refine w_orT ?_ | refine w_tru ?_
    | refine w_fz ?_ | refine w_lst ?_ | refine w_tup ?_ | refine w_cons ?_ | refine w_nil ?_ | refine w_sl ?_ | refine w_slF ?_ | refine w_part ?_ | refine w_part0 ?_ | refine w_sm0 ?_ | refine w_sm1 ?_ | refine w_disp ?_ | refine w_pr ?_ | refine w_pr0 ?_
    | refine w_for ?_ | refine w_walk ?_ | refine w_rng1 ?_ | refine w_rng2 ?_ | refine w_enum ?_ | refine w_zip ?_ | refine w_fn ?_ | refine w_comp ?_
    | refine w_var rfl ?_ | refine w_peek rfl ?_ | refine w_peekO rfl ?_ | refine w_varO rfl rfl ?_ | refine w_ret ?_
    | refine ⟨_, ix0, ?_⟩ | refine ⟨_, ix1, ?_⟩ | refine ⟨_, ix2, ?_⟩ | refine ⟨_, ix3, ?_⟩
    | refine ⟨_, rfl, ?_⟩ | refine ⟨rfl, ?_⟩ | refine ⟨Nat.le_of_ble_eq_true rfl, ?_⟩
    | refine ⟨fun _ => ?_, fun h => Bool.noConfusion (show true = false from h)⟩ | refine ⟨fun h => Bool.noConfusion (show false = true from h), fun _ => ?_⟩)
variable {S : Sto} {Q : D → Sto → Prop} {E : Exn → Sto → Prop} {φ : Nat → Fn} {dm : DefM}
mutual
theorem plD_up : ∀ (n : Nat) (d : D), plD n d = true → plD (n + 1) d = true
  | n, .non, _ => by cases n <;> rfl
  | n, .bl _, _ => by cases n <;> rfl
  | n, .int _, _ => by cases n <;> rfl
  | n, .str s, h => by cases n <;> exact h
  | 0, .lst l, h => by cases h
  | n + 1, .lst l, h => plDs_up n l h
  | 0, .tup l, h => by cases h
  | n + 1, .tup l, h => plDs_up n l h
  | n, .rl _, h => by cases n <;> cases h
  | n, .rt _, h => by cases n <;> cases h
  | n, .dk _ _, h => by cases n <;> rfl
  | n, .dt _ _, h => by cases n <;> rfl
  | n, .ref _, h => by cases n <;> cases h
  | n, .own _, h => by cases n <;> cases h
theorem plDs_up : ∀ (n : Nat) (l : List D), plDs n l = true → plDs (n + 1) l = true
  | n, [], _ => rfl
  | n, x :: l, h => by
    unfold plDs at h ⊢
    rw [Bool.and_eq_true] at h ⊢
    exact ⟨plD_up n x h.1, plDs_up n l h.2⟩
end
theorem plD_le {n m : Nat} {d : D} (h : plD n d = true) (l : n ≤ m) : plD m d = true := by
  induction l with
  | refl => exact h
  | step _ ih => exact plD_up _ _ ih
theorem plD_str {n : Nat} {s : Str} (h : PyData.strOk s = true) (hl : s.length ≤ 1000000) : plD n (.str s) = true := by
  have : (PyData.strOk s && decide (s.length ≤ 1000000)) = true := by rw [h, decide_eq_true hl]; rfl
  cases n <;> exact this
theorem word_pl {n : Nat} {d : D} (h : WordD d) : plD n d = true := by
  obtain ⟨w, rfl, hw⟩ := h
  exact plD_str (isW_ok hw) (Nat.le_trans (isW_len hw) (by decide))
theorem num_pl {n : Nat} {d : D} (h : NumD d) : plD n d = true := by
  obtain ⟨i, rfl, _⟩ := h
  cases n <;> rfl
theorem leafP_pl {n : Nat} {a : Str} {l : List D} (h : LeafP a l) : plDs n (.str a :: l) = true := by
  rcases h with ⟨rfl, rfl⟩ | ⟨h, w, rfl, hw⟩ | ⟨h, w, m, rfl, hw, hn⟩
  · refine plDs_of fun x hx => ?_
    simp at hx; subst hx
    exact plD_str (by decide +kernel) (by decide +kernel)
  · refine plDs_of fun x hx => ?_
    simp only [List.mem_cons, List.not_mem_nil, or_false] at hx
    rcases hx with rfl | rfl
    · rcases h with rfl | rfl <;> exact plD_str (by decide +kernel) (by decide +kernel)
    · exact word_pl hw
  · refine plDs_of fun x hx => ?_
    simp only [List.mem_cons, List.not_mem_nil, or_false] at hx
    rcases hx with rfl | rfl | rfl
    · rcases h with rfl | rfl <;> exact plD_str (by decide +kernel) (by decide +kernel)
    · exact word_pl hw
    · exact num_pl hn
theorem wsh_pl : ∀ {n : Nat} {d : D}, Wsh n d → plD (2 * n) d = true := by
  intro n d h
  induction h with
  | leaf h => exact leafP_pl (n := 2 * _ + 1) h
  | @nt n x h ih =>
    show plDs (2 * n + 1) [.str "not", x] = true
    refine plDs_of fun y hy => ?_
    simp only [List.mem_cons, List.not_mem_nil, or_false] at hy
    rcases hy with rfl | rfl
    · exact plD_str (by decide +kernel) (by decide +kernel)
    · exact plD_up _ _ ih
  | @an n a l ha h2 h6 h ih =>
    show plDs (2 * n + 1) [.str a, .tup l] = true
    refine plDs_of fun y hy => ?_
    simp only [List.mem_cons, List.not_mem_nil, or_false] at hy
    rcases hy with rfl | rfl
    · rcases ha with rfl | rfl <;> exact plD_str (by decide +kernel) (by decide +kernel)
    · exact plDs_of fun x hx => ih x hx
end L2.MP
end
section
set_option Elab.async false
set_option linter.all false
set_option maxRecDepth 100000
set_option maxHeartbeats 4000000
namespace L2.MP
open PySem PySem.Spec PyProof.Rows L2.MP
local macro_rules
  | `(tactic| trivial) => `(tactic| first
    | refine w_seq ?_ | refine w_set ?_ | refine w_setOwn ?_ | refine w_setHp ?_ | refine w_retS ?_ | refine w_retHp ?_ | refine w_ite ?_ | refine w_expr ?_ | refine w_asg ?_ | refine w_setIx ?_ | refine w_mut ?_ | refine w_hp ?_ | refine w_lm1 ?_
    | refine w_bl ?_ | refine w_op2 ?_ | refine w_op1 ?_ | refine w_opF1 ?_ | refine w_opF2 ?_ | refine w_chainP ?_ | refine w_and ?_ | refine w_or ?_ | refine w_not ?_ | refine w_notT ?_ | refine w_andT ?_ | refine w_orT ?_ | refine w_tru ?_
    | refine w_fz ?_ | refine w_lst ?_ | refine w_tup ?_ | refine w_cons ?_ | refine w_nil ?_ | refine w_sl ?_ | refine w_slF ?_ | refine w_part ?_ | refine w_part0 ?_ | refine w_sm0 ?_ | refine w_sm1 ?_ | refine w_disp ?_ | refine w_pr ?_ | refine w_pr0 ?_
    | refine w_for ?_ | refine w_walk ?_ | refine w_rng1 ?_ | refine w_rng2 ?_ | refine w_enum ?_ | refine w_zip ?_ | refine w_fn ?_ | refine w_comp ?_
    | refine w_var rfl ?_ | refine w_peek rfl ?_ | refine w_peekO rfl ?_ | refine w_varO rfl rfl ?_ | refine w_ret ?_
    | refine ⟨_, ix0, ?_⟩ | refine ⟨_, ix1, ?_⟩ | refine ⟨_, ix2, ?_⟩ | refine ⟨_, ix3, ?_⟩
    | refine ⟨_, rfl, ?_⟩ | refine ⟨rfl, ?_⟩ | refine ⟨Nat.le_of_ble_eq_true rfl, ?_⟩
    | refine ⟨fun _ => ?_, fun h => Bool.noConfusion (show true = false from h)⟩ | refine ⟨fun h => Bool.noConfusion (show false = true from h), fun _ => ?_⟩)
variable {S : Sto} {Q : D → Sto → Prop} {E : Exn → Sto → Prop} {φ : Nat → Fn} {dm : DefM}
end L2.MP
end
section
set_option Elab.async false
set_option linter.all false
set_option maxRecDepth 100000
set_option maxHeartbeats 4000000
namespace L2.MP
open PySem PySem.Spec PyProof.Rows L2.MP
local macro_rules
  | `(tactic| trivial) => `(tactic| first
    | refine w_seq ?_ | refine w_set ?_ | refine w_setOwn ?_ | refine w_setHp ?_ | refine w_retS ?_ | refine w_retHp ?_ | refine w_ite ?_ | refine w_expr ?_ | refine w_asg ?_ | refine w_setIx ?_ | refine w_mut ?_ | refine w_hp ?_ | refine w_lm1 ?_
    | refine w_bl ?_ | refine w_op2 ?_ | refine w_op1 ?_ | refine w_opF1 ?_ | refine w_opF2 ?_ | refine w_chainP ?_ | refine w_and ?_ | refine w_or ?_ | refine w_not ?_ | refine w_notT ?_ | refine w_andT ?_ | refine w_orT ?_ | refine w_tru ?_
    | refine w_fz ?_ | refine w_lst ?_ | refine w_tup ?_ | refine w_cons ?_ | refine w_nil ?_ | refine w_sl ?_ | refine w_slF ?_ | refine w_part ?_ | refine w_part0 ?_ | refine w_sm0 ?_ | refine w_sm1 ?_ | refine w_disp ?_ | refine w_pr ?_ | refine w_pr0 ?_
    | refine w_for ?_ | refine w_walk ?_ | refine w_rng1 ?_ | refine w_rng2 ?_ | refine w_enum ?_ | refine w_zip ?_ | refine w_fn ?_ | refine w_comp ?_
    | refine w_var rfl ?_ | refine w_peek rfl ?_ | refine w_peekO rfl ?_ | refine w_varO rfl rfl ?_ | refine w_ret ?_
    | refine ⟨_, ix0, ?_⟩ | refine ⟨_, ix1, ?_⟩ | refine ⟨_, ix2, ?_⟩ | refine ⟨_, ix3, ?_⟩
    | refine ⟨_, rfl, ?_⟩ | refine ⟨rfl, ?_⟩ | refine ⟨Nat.le_of_ble_eq_true rfl, ?_⟩
    | refine ⟨fun _ => ?_, fun h => Bool.noConfusion (show true = false from h)⟩ | refine ⟨fun h => Bool.noConfusion (show false = true from h), fun _ => ?_⟩)
variable {S : Sto} {Q : D → Sto → Prop} {E : Exn → Sto → Prop} {φ : Nat → Fn} {dm : DefM}
theorem wsh_up {n : Nat} {d : D} (h : Wsh n d) : Wsh (n + 1) d := by
  induction h with
  | leaf h => exact .leaf h
  | nt _ ih => exact .nt ih
  | an ha h2 h6 _ ih => exact .an ha h2 h6 ih
theorem wsh_le {n m : Nat} {d : D} (h : Wsh n d) (l : n ≤ m) : Wsh m d := by
  induction l with
  | refl => exact h
  | step _ ih => exact wsh_up ih
end L2.MP
end
section
set_option Elab.async false
set_option linter.all false
set_option maxRecDepth 100000
set_option maxHeartbeats 4000000
namespace L2.MP
open PySem PySem.Spec PyProof.Rows L2.MP
local macro_rules
  | `(tactic| trivial) => `(tactic| first
    | refine w_seq ?_ | refine w_set ?_ | refine w_setOwn ?_ | refine w_setHp ?_ | refine w_retS ?_ | refine w_retHp ?_ | refine w_ite ?_ | refine w_expr ?_ | refine w_asg ?_ | refine w_setIx ?_ | refine w_mut ?_ | refine w_hp ?_ | refine w_lm1 ?_
    | refine w_bl ?_ | refine w_op2 ?_ | refine w_op1 ?_ | refine w_opF1 ?_ | refine w_opF2 ?_ | refine w_chainP ?_ | refine w_and ?_ | refine w_or ?_ | refine w_not ?_ | refine w_notT ?_ | refine w_andT ?_ | refine w_orT ?_ | refine w_tru ?_
    | refine w_fz ?_ | refine w_lst ?_ | refine w_tup ?_ | refine w_cons ?_ | refine w_nil ?_ | refine w_sl ?_ | refine w_slF ?_ | refine w_part ?_ | refine w_part0 ?_ | refine w_sm0 ?_ | refine w_sm1 ?_ | refine w_disp ?_ | refine w_pr ?_ | refine w_pr0 ?_
    | refine w_for ?_ | refine w_walk ?_ | refine w_rng1 ?_ | refine w_rng2 ?_ | refine w_enum ?_ | refine w_zip ?_ | refine w_fn ?_ | refine w_comp ?_
    | refine w_var rfl ?_ | refine w_peek rfl ?_ | refine w_peekO rfl ?_ | refine w_varO rfl rfl ?_ | refine w_ret ?_
    | refine ⟨_, ix0, ?_⟩ | refine ⟨_, ix1, ?_⟩ | refine ⟨_, ix2, ?_⟩ | refine ⟨_, ix3, ?_⟩
    | refine ⟨_, rfl, ?_⟩ | refine ⟨rfl, ?_⟩ | refine ⟨Nat.le_of_ble_eq_true rfl, ?_⟩
    | refine ⟨fun _ => ?_, fun h => Bool.noConfusion (show true = false from h)⟩ | refine ⟨fun h => Bool.noConfusion (show false = true from h), fun _ => ?_⟩)
variable {S : Sto} {Q : D → Sto → Prop} {E : Exn → Sto → Prop} {φ : Nat → Fn} {dm : DefM}
end L2.MP
end
section
set_option Elab.async false
set_option linter.all false
set_option maxRecDepth 100000
set_option maxHeartbeats 4000000
namespace L2.MP
open PySem PySem.Spec PyProof.Rows L2.MP
local macro_rules
  | `(tactic| trivial) => `(tactic| first
    | refine w_seq ?_ | refine w_set ?_ | refine w_setOwn ?_ | refine w_setHp ?_ | refine w_retS ?_ | refine w_retHp ?_ | refine w_ite ?_ | refine w_expr ?_ | refine w_asg ?_ | refine w_setIx ?_ | refine w_mut ?_ | refine w_hp ?_ | refine w_lm1 ?_
    | refine w_bl ?_ | refine w_op2 ?_ | refine w_op1 ?_ | refine w_opF1 ?_ | refine w_opF2 ?_ | refine w_chainP ?_ | refine w_and ?_ | refine w_or ?_ | refine w_not ?_ | refine w_notT ?_ | refine w_andT ?_ | refine w_orT ?_ | refine w_tru ?_
    | refine w_fz ?_ | refine w_lst ?_ | refine w_tup ?_ | refine w_cons ?_ | refine w_nil ?_ | refine w_sl ?_ | refine w_slF ?_ | refine w_part ?_ | refine w_part0 ?_ | refine w_sm0 ?_ | refine w_sm1 ?_ | refine w_disp ?_ | refine w_pr ?_ | refine w_pr0 ?_
    | refine w_for ?_ | refine w_walk ?_ | refine w_rng1 ?_ | refine w_rng2 ?_ | refine w_enum ?_ | refine w_zip ?_ | refine w_fn ?_ | refine w_comp ?_
    | refine w_var rfl ?_ | refine w_peek rfl ?_ | refine w_peekO rfl ?_ | refine w_varO rfl rfl ?_ | refine w_ret ?_
    | refine ⟨_, ix0, ?_⟩ | refine ⟨_, ix1, ?_⟩ | refine ⟨_, ix2, ?_⟩ | refine ⟨_, ix3, ?_⟩
    | refine ⟨_, rfl, ?_⟩ | refine ⟨rfl, ?_⟩ | refine ⟨Nat.le_of_ble_eq_true rfl, ?_⟩
    | refine ⟨fun _ => ?_, fun h => Bool.noConfusion (show true = false from h)⟩ | refine ⟨fun h => Bool.noConfusion (show false = true from h), fun _ => ?_⟩)
variable {S : Sto} {Q : D → Sto → Prop} {E : Exn → Sto → Prop} {φ : Nat → Fn} {dm : DefM}
def PlX (d : D) : Prop := ∃ n, plD n d = true
end L2.MP
end
section
set_option Elab.async false
set_option linter.all false
set_option maxRecDepth 100000
set_option maxHeartbeats 4000000
namespace L2.MP
open PySem PySem.Spec PyProof.Rows L2.MP
local macro_rules
  | `(tactic| trivial) => `(tactic| first
    | refine w_seq ?_ | refine w_set ?_ | refine w_setOwn ?_ | refine w_setHp ?_ | refine w_retS ?_ | refine w_retHp ?_ | refine w_ite ?_ | refine w_expr ?_ | refine w_asg ?_ | refine w_setIx ?_ | refine w_mut ?_ | refine w_hp ?_ | refine w_lm1 ?_
    | refine w_bl ?_ | refine w_op2 ?_ | refine w_op1 ?_ | refine w_opF1 ?_ | refine w_opF2 ?_ | refine w_chainP ?_ | refine w_and ?_ | refine w_or ?_ | refine w_not ?_ | refine w_notT ?_ | refine w_andT ?_ | refine w_orT ?_ | refine w_tru ?_
    | refine w_fz ?_ | refine w_lst ?_ | refine w_tup ?_ | refine w_cons ?_ | refine w_nil ?_ | refine w_sl ?_ | refine w_slF ?_ | refine w_part ?_ | refine w_part0 ?_ | refine w_sm0 ?_ | refine w_sm1 ?_ | refine w_disp ?_ | refine w_pr ?_ | refine w_pr0 ?_
    | refine w_for ?_ | refine w_walk ?_ | refine w_rng1 ?_ | refine w_rng2 ?_ | refine w_enum ?_ | refine w_zip ?_ | refine w_fn ?_ | refine w_comp ?_
    | refine w_var rfl ?_ | refine w_peek rfl ?_ | refine w_peekO rfl ?_ | refine w_varO rfl rfl ?_ | refine w_ret ?_
    | refine ⟨_, ix0, ?_⟩ | refine ⟨_, ix1, ?_⟩ | refine ⟨_, ix2, ?_⟩ | refine ⟨_, ix3, ?_⟩
    | refine ⟨_, rfl, ?_⟩ | refine ⟨rfl, ?_⟩ | refine ⟨Nat.le_of_ble_eq_true rfl, ?_⟩
    | refine ⟨fun _ => ?_, fun h => Bool.noConfusion (show true = false from h)⟩ | refine ⟨fun h => Bool.noConfusion (show false = true from h), fun _ => ?_⟩)
variable {S : Sto} {Q : D → Sto → Prop} {E : Exn → Sto → Prop} {φ : Nat → Fn} {dm : DefM}
theorem pl_cons {n : Nat} {x : D} {l : List D} (h : plD n x = true) (g : plDs n l = true) : plDs n (x :: l) = true := by unfold plDs; rw [h, g]; rfl
end L2.MP
end
section
set_option Elab.async false
set_option linter.all false
set_option maxRecDepth 100000
set_option maxHeartbeats 4000000
namespace L2.MP
open PySem PySem.Spec PyProof.Rows L2.MP
local macro_rules
  | `(tactic| trivial) => `(tactic| first
    | refine w_seq ?_ | refine w_set ?_ | refine w_setOwn ?_ | refine w_setHp ?_ | refine w_retS ?_ | refine w_retHp ?_ | refine w_ite ?_ | refine w_expr ?_ | refine w_asg ?_ | refine w_setIx ?_ | refine w_mut ?_ | refine w_hp ?_ | refine w_lm1 ?_
    | refine w_bl ?_ | refine w_op2 ?_ | refine w_op1 ?_ | refine w_opF1 ?_ | refine w_opF2 ?_ | refine w_chainP ?_ | refine w_and ?_ | refine w_or ?_ | refine w_not ?_ | refine w_notT ?_ | refine w_andT ?_ | refine w_orT ?_ | refine w_tru ?_
    | refine w_fz ?_ | refine w_lst ?_ | refine w_tup ?_ | refine w_cons ?_ | refine w_nil ?_ | refine w_sl ?_ | refine w_slF ?_ | refine w_part ?_ | refine w_part0 ?_ | refine w_sm0 ?_ | refine w_sm1 ?_ | refine w_disp ?_ | refine w_pr ?_ | refine w_pr0 ?_
    | refine w_for ?_ | refine w_walk ?_ | refine w_rng1 ?_ | refine w_rng2 ?_ | refine w_enum ?_ | refine w_zip ?_ | refine w_fn ?_ | refine w_comp ?_
    | refine w_var rfl ?_ | refine w_peek rfl ?_ | refine w_peekO rfl ?_ | refine w_varO rfl rfl ?_ | refine w_ret ?_
    | refine ⟨_, ix0, ?_⟩ | refine ⟨_, ix1, ?_⟩ | refine ⟨_, ix2, ?_⟩ | refine ⟨_, ix3, ?_⟩
    | refine ⟨_, rfl, ?_⟩ | refine ⟨rfl, ?_⟩ | refine ⟨Nat.le_of_ble_eq_true rfl, ?_⟩
    | refine ⟨fun _ => ?_, fun h => Bool.noConfusion (show true = false from h)⟩ | refine ⟨fun h => Bool.noConfusion (show false = true from h), fun _ => ?_⟩)
variable {S : Sto} {Q : D → Sto → Prop} {E : Exn → Sto → Prop} {φ : Nat → Fn} {dm : DefM}
end L2.MP
end
section
set_option Elab.async false
set_option linter.all false
set_option maxRecDepth 100000
set_option maxHeartbeats 4000000
namespace L2.MP
open PySem PySem.Spec PyProof.Rows L2.MP
local macro_rules
  | `(tactic| trivial) => `(tactic| first
    | refine w_seq ?_ | refine w_set ?_ | refine w_setOwn ?_ | refine w_setHp ?_ | refine w_retS ?_ | refine w_retHp ?_ | refine w_ite ?_ | refine w_expr ?_ | refine w_asg ?_ | refine w_setIx ?_ | refine w_mut ?_ | refine w_hp ?_ | refine w_lm1 ?_
    | refine w_bl ?_ | refine w_op2 ?_ | refine w_op1 ?_ | refine w_opF1 ?_ | refine w_opF2 ?_ | refine w_chainP ?_ | refine w_and ?_ | refine w_or ?_ | refine w_not ?_ | refine w_notT ?_ | refine w_andT ?_ | refine w_orT ?_ | refine w_tru ?_
    | refine w_fz ?_ | refine w_lst ?_ | refine w_tup ?_ | refine w_cons ?_ | refine w_nil ?_ | refine w_sl ?_ | refine w_slF ?_ | refine w_part ?_ | refine w_part0 ?_ | refine w_sm0 ?_ | refine w_sm1 ?_ | refine w_disp ?_ | refine w_pr ?_ | refine w_pr0 ?_
    | refine w_for ?_ | refine w_walk ?_ | refine w_rng1 ?_ | refine w_rng2 ?_ | refine w_enum ?_ | refine w_zip ?_ | refine w_fn ?_ | refine w_comp ?_
    | refine w_var rfl ?_ | refine w_peek rfl ?_ | refine w_peekO rfl ?_ | refine w_varO rfl rfl ?_ | refine w_ret ?_
    | refine ⟨_, ix0, ?_⟩ | refine ⟨_, ix1, ?_⟩ | refine ⟨_, ix2, ?_⟩ | refine ⟨_, ix3, ?_⟩
    | refine ⟨_, rfl, ?_⟩ | refine ⟨rfl, ?_⟩ | refine ⟨Nat.le_of_ble_eq_true rfl, ?_⟩
    | refine ⟨fun _ => ?_, fun h => Bool.noConfusion (show true = false from h)⟩ | refine ⟨fun h => Bool.noConfusion (show false = true from h), fun _ => ?_⟩)
variable {S : Sto} {Q : D → Sto → Prop} {E : Exn → Sto → Prop} {φ : Nat → Fn} {dm : DefM}
theorem px_all : ∀ {l : List D}, (∀ x ∈ l, PlX x) → ∃ n, plDs n l = true
  | [], _ => ⟨0, rfl⟩
  | x :: l, h => by
    obtain ⟨n, hn⟩ := h x List.mem_cons_self
    obtain ⟨m, hm⟩ := px_all fun y hy => h y (List.mem_cons_of_mem _ hy)
    refine ⟨max n m, pl_cons (plD_le hn (Nat.le_max_left _ _)) (plDs_of fun y hy => plD_le (plDs_mem hm y hy) (Nat.le_max_right _ _))⟩
theorem px_tup {l : List D} (h : ∀ x ∈ l, PlX x) : PlX (.tup l) := by
  obtain ⟨n, hn⟩ := px_all h
  exact ⟨n + 1, hn⟩
theorem px_str {s : Str} (h : (PyData.strOk s && decide (s.length ≤ 1000000)) = true) : PlX (.str s) := ⟨0, h⟩
theorem wsh_px {n : Nat} {d : D} (h : Wsh n d) : PlX d := ⟨_, wsh_pl h⟩
end L2.MP
end
section
set_option Elab.async false
set_option linter.all false
set_option maxRecDepth 100000
set_option maxHeartbeats 4000000
namespace L2.MP
open PySem PySem.Spec PyProof.Rows L2.MP
local macro_rules
  | `(tactic| trivial) => `(tactic| first
    | refine w_seq ?_ | refine w_set ?_ | refine w_setOwn ?_ | refine w_setHp ?_ | refine w_retS ?_ | refine w_retHp ?_ | refine w_ite ?_ | refine w_expr ?_ | refine w_asg ?_ | refine w_setIx ?_ | refine w_mut ?_ | refine w_hp ?_ | refine w_lm1 ?_
    | refine w_bl ?_ | refine w_op2 ?_ | refine w_op1 ?_ | refine w_opF1 ?_ | refine w_opF2 ?_ | refine w_chainP ?_ | refine w_and ?_ | refine w_or ?_ | refine w_not ?_ | refine w_notT ?_ | refine w_andT ?_ | refine w_orT ?_ | refine w_tru ?_
    | refine w_fz ?_ | refine w_lst ?_ | refine w_tup ?_ | refine w_cons ?_ | refine w_nil ?_ | refine w_sl ?_ | refine w_slF ?_ | refine w_part ?_ | refine w_part0 ?_ | refine w_sm0 ?_ | refine w_sm1 ?_ | refine w_disp ?_ | refine w_pr ?_ | refine w_pr0 ?_
    | refine w_for ?_ | refine w_walk ?_ | refine w_rng1 ?_ | refine w_rng2 ?_ | refine w_enum ?_ | refine w_zip ?_ | refine w_fn ?_ | refine w_comp ?_
    | refine w_var rfl ?_ | refine w_peek rfl ?_ | refine w_peekO rfl ?_ | refine w_varO rfl rfl ?_ | refine w_ret ?_
    | refine ⟨_, ix0, ?_⟩ | refine ⟨_, ix1, ?_⟩ | refine ⟨_, ix2, ?_⟩ | refine ⟨_, ix3, ?_⟩
    | refine ⟨_, rfl, ?_⟩ | refine ⟨rfl, ?_⟩ | refine ⟨Nat.le_of_ble_eq_true rfl, ?_⟩
    | refine ⟨fun _ => ?_, fun h => Bool.noConfusion (show true = false from h)⟩ | refine ⟨fun h => Bool.noConfusion (show false = true from h), fun _ => ?_⟩)
inductive W where
  | any | is (w : Str) | by (w : Str) | least (w : Str) (i : Int) | most (w : Str) (i : Int) | not (x : W) | and (l : List W) | or (l : List W)
mutual
def W.toD : W → D
  | .any => .tup [.str "any"]
  | .is w => .tup [.str "is", .str w]
  | .by w => .tup [.str "by", .str w]
  | .least w i => .tup [.str "least", .str w, .int i]
  | .most w i => .tup [.str "most", .str w, .int i]
  | .not x => .tup [.str "not", x.toD]
  | .and l => .tup [.str "and", .tup (W.toDs l)]
  | .or l => .tup [.str "or", .tup (W.toDs l)]
def W.toDs : List W → List D
  | [] => []
  | x :: l => x.toD :: W.toDs l
end
mutual
def W.deep : W → Nat
  | .not x => x.deep + 1
  | .and l => W.deeps l + 1
  | .or l => W.deeps l + 1
  | .any => 1
  | .is _ => 1
  | .by _ => 1
  | .least _ _ => 1
  | .most _ _ => 1
def W.deeps : List W → Nat
  | [] => 0
  | x :: l => max x.deep (W.deeps l)
end
mutual
def W.parts : W → Nat
  | .not x => x.parts + 1
  | .and l => W.partss l + 1
  | .or l => W.partss l + 1
  | .any => 1
  | .is _ => 1
  | .by _ => 1
  | .least _ _ => 1
  | .most _ _ => 1
def W.partss : List W → Nat
  | [] => 0
  | x :: l => x.parts + W.partss l
end
mutual
def W.fine : W → Bool
  | .any => true
  | .is w => isW w
  | .by w => isW w
  | .least w i => isW w && isN i
  | .most w i => isW w && isN i
  | .not x => x.fine
  | .and l => decide (2 ≤ l.length ∧ l.length ≤ 6) && W.fines l
  | .or l => decide (2 ≤ l.length ∧ l.length ≤ 6) && W.fines l
def W.fines : List W → Bool
  | [] => true
  | x :: l => x.fine && W.fines l
end
theorem W.toDs_map : ∀ l : List W, W.toDs l = l.map W.toD
  | [] => rfl
  | x :: l => by rw [W.toDs, W.toDs_map l]; rfl
theorem W.toDs_len {l : List W} : (W.toDs l).length = l.length := by rw [W.toDs_map, List.length_map]
mutual
theorem W.wsh : ∀ (w : W), w.fine = true → Wsh w.deep w.toD
  | .any, h => .leaf (.inl ⟨rfl, rfl⟩)
  | .is w, h => .leaf (.inr (.inl ⟨.inl rfl, _, rfl, _, rfl, h⟩))
  | .by w, h => .leaf (.inr (.inl ⟨.inr rfl, _, rfl, _, rfl, h⟩))
  | .least w i, h => by
    have h : (isW w && isN i) = true := h
    rw [Bool.and_eq_true] at h
    exact .leaf (.inr (.inr ⟨.inl rfl, _, _, rfl, ⟨_, rfl, h.1⟩, _, rfl, h.2⟩))
  | .most w i, h => by
    have h : (isW w && isN i) = true := h
    rw [Bool.and_eq_true] at h
    exact .leaf (.inr (.inr ⟨.inr rfl, _, _, rfl, ⟨_, rfl, h.1⟩, _, rfl, h.2⟩))
  | .not x, h => .nt (W.wsh x h)
  | .and l, h => by
    rw [W.fine, Bool.and_eq_true, decide_eq_true_eq] at h
    exact .an (.inl rfl) (by rw [W.toDs_len]; exact h.1.1) (by rw [W.toDs_len]; exact h.1.2) fun y hy => (W.wshs l h.2 y hy)
  | .or l, h => by
    rw [W.fine, Bool.and_eq_true, decide_eq_true_eq] at h
    exact .an (.inr rfl) (by rw [W.toDs_len]; exact h.1.1) (by rw [W.toDs_len]; exact h.1.2) fun y hy => (W.wshs l h.2 y hy)
theorem W.wshs : ∀ (l : List W), W.fines l = true → ∀ y ∈ W.toDs l, Wsh (W.deeps l) y
  | [], _, y, hy => nomatch hy
  | x :: l, h, y, hy => by
    rw [W.fines, Bool.and_eq_true] at h
    rw [W.toDs] at hy
    rw [W.deeps]
    rcases List.mem_cons.mp hy with rfl | hy
    · exact wsh_le (W.wsh x h.1) (Nat.le_max_left _ _)
    · exact wsh_le (W.wshs l h.2 y hy) (Nat.le_max_right _ _)
end
theorem W.px {w : W} (h : w.fine = true) : PlX w.toD := wsh_px (W.wsh w h)
end L2.MP
end
section
set_option Elab.async false
set_option linter.all false
set_option maxRecDepth 100000
set_option maxHeartbeats 4000000
namespace L2.MP
open PySem PySem.Spec PyProof.Rows L2.MP
local macro_rules
  | `(tactic| trivial) => `(tactic| first
    | refine w_seq ?_ | refine w_set ?_ | refine w_setOwn ?_ | refine w_setHp ?_ | refine w_retS ?_ | refine w_retHp ?_ | refine w_ite ?_ | refine w_expr ?_ | refine w_asg ?_ | refine w_setIx ?_ | refine w_mut ?_ | refine w_hp ?_ | refine w_lm1 ?_
    | refine w_bl ?_ | refine w_op2 ?_ | refine w_op1 ?_ | refine w_opF1 ?_ | refine w_opF2 ?_ | refine w_chainP ?_ | refine w_and ?_ | refine w_or ?_ | refine w_not ?_ | refine w_notT ?_ | refine w_andT ?_ | refine w_orT ?_ | refine w_tru ?_
    | refine w_fz ?_ | refine w_lst ?_ | refine w_tup ?_ | refine w_cons ?_ | refine w_nil ?_ | refine w_sl ?_ | refine w_slF ?_ | refine w_part ?_ | refine w_part0 ?_ | refine w_sm0 ?_ | refine w_sm1 ?_ | refine w_disp ?_ | refine w_pr ?_ | refine w_pr0 ?_
    | refine w_for ?_ | refine w_walk ?_ | refine w_rng1 ?_ | refine w_rng2 ?_ | refine w_enum ?_ | refine w_zip ?_ | refine w_fn ?_ | refine w_comp ?_
    | refine w_var rfl ?_ | refine w_peek rfl ?_ | refine w_peekO rfl ?_ | refine w_varO rfl rfl ?_ | refine w_ret ?_
    | refine ⟨_, ix0, ?_⟩ | refine ⟨_, ix1, ?_⟩ | refine ⟨_, ix2, ?_⟩ | refine ⟨_, ix3, ?_⟩
    | refine ⟨_, rfl, ?_⟩ | refine ⟨rfl, ?_⟩ | refine ⟨Nat.le_of_ble_eq_true rfl, ?_⟩
    | refine ⟨fun _ => ?_, fun h => Bool.noConfusion (show true = false from h)⟩ | refine ⟨fun h => Bool.noConfusion (show false = true from h), fun _ => ?_⟩)
structure Crd where
  name : Str
  kind : Str
  marks : List Str
  sizes : List (Str × Int)
def szD (p : Str × Int) : D := .tup [.str p.1, .int p.2]
def Crd.toD (c : Crd) : D := .tup [.str c.name, .str c.kind, .tup (c.marks.map D.str), .tup (c.sizes.map szD)]
def Crd.few (c : Crd) : Prop := c.marks.length ≤ 100 ∧ c.sizes.length ≤ 100
def sizeOf (w : Str) : List (Str × Int) → Option Int
  | [] => none
  | p :: r => if p.1 = w then some p.2 else sizeOf w r
mutual
def W.lets (c : Crd) : W → Bool
  | .any => true
  | .is w => decide (w ∈ c.marks)
  | .by w => decide (c.name = w)
  | .least w i => match sizeOf w c.sizes with
    | some j => decide (i ≤ j)
    | none => false
  | .most w i => match sizeOf w c.sizes with
    | some j => decide (j ≤ i)
    | none => false
  | .not x => !x.lets c
  | .and l => W.all c l
  | .or l => W.ex c l
def W.all (c : Crd) : List W → Bool
  | [] => true
  | x :: l => x.lets c && W.all c l
def W.ex (c : Crd) : List W → Bool
  | [] => false
  | x :: l => x.lets c || W.ex c l
end
variable {S : Sto} {Q : D → Sto → Prop} {E : Exn → Sto → Prop} {φ : Nat → Fn} {dm : DefM}
theorem mem_strs (w : Str) (l : List Str) : memD (.str w) (l.map D.str) = decide (w ∈ l) := by
  unfold memD
  induction l with
  | nil => rfl
  | cons x l ih =>
    rw [List.map_cons, List.any_cons, ih]
    have e : eqD (.str x) (.str w) = decide (w = x) := by
      show (x == w) = _
      by_cases h : w = x
      · subst h; simp
      · rw [decide_eq_false h]; simpa using fun z => h z.symm
    rw [e]
    by_cases h : w = x
    · rw [decide_eq_true h, Bool.true_or, decide_eq_true (by rw [h]; exact List.mem_cons_self)]
    · rw [decide_eq_false h, Bool.false_or]
      congr 1
      rw [eq_iff_iff, List.mem_cons]
      exact ⟨.inr, fun z => z.resolve_left h⟩
theorem flat_strs' (l : List Str) : (l.map D.str).all flatD = true := by rw [List.all_map]; exact List.all_eq_true.mpr fun _ _ => rfl
theorem in_strs (w : Str) (l : List Str) (g : Bool) : inF g (.str w) (.tup (l.map D.str)) = some (.bl (g != decide (w ∈ l))) := by
  unfold inF
  have : inD (.str w) (.tup (l.map D.str)) = some (decide (w ∈ l)) := by
    show (if flatD (.str w) && (l.map D.str).all flatD then some (memD (.str w) (l.map D.str)) else none) = _
    rw [flat_strs', mem_strs]; rfl
  rw [this]; rfl
theorem few_line {n : Nat} (h : n ≤ 100) : n ≤ sizeLine := Nat.le_trans h (by decide)
end L2.MP
end
section
set_option Elab.async false
set_option linter.all false
set_option maxRecDepth 100000
set_option maxHeartbeats 4000000
namespace L2.MP
open PySem PySem.Spec PyProof.Rows L2.MP
local macro_rules
  | `(tactic| trivial) => `(tactic| first
    | refine w_seq ?_ | refine w_set ?_ | refine w_setOwn ?_ | refine w_setHp ?_ | refine w_retS ?_ | refine w_retHp ?_ | refine w_ite ?_ | refine w_expr ?_ | refine w_asg ?_ | refine w_setIx ?_ | refine w_mut ?_ | refine w_hp ?_ | refine w_lm1 ?_
    | refine w_bl ?_ | refine w_op2 ?_ | refine w_op1 ?_ | refine w_opF1 ?_ | refine w_opF2 ?_ | refine w_chainP ?_ | refine w_and ?_ | refine w_or ?_ | refine w_not ?_ | refine w_notT ?_ | refine w_andT ?_ | refine w_orT ?_ | refine w_tru ?_
    | refine w_fz ?_ | refine w_lst ?_ | refine w_tup ?_ | refine w_cons ?_ | refine w_nil ?_ | refine w_sl ?_ | refine w_slF ?_ | refine w_part ?_ | refine w_part0 ?_ | refine w_sm0 ?_ | refine w_sm1 ?_ | refine w_disp ?_ | refine w_pr ?_ | refine w_pr0 ?_
    | refine w_for ?_ | refine w_walk ?_ | refine w_rng1 ?_ | refine w_rng2 ?_ | refine w_enum ?_ | refine w_zip ?_ | refine w_fn ?_ | refine w_comp ?_
    | refine w_var rfl ?_ | refine w_peek rfl ?_ | refine w_peekO rfl ?_ | refine w_varO rfl rfl ?_ | refine w_ret ?_
    | refine ⟨_, ix0, ?_⟩ | refine ⟨_, ix1, ?_⟩ | refine ⟨_, ix2, ?_⟩ | refine ⟨_, ix3, ?_⟩
    | refine ⟨_, rfl, ?_⟩ | refine ⟨rfl, ?_⟩ | refine ⟨Nat.le_of_ble_eq_true rfl, ?_⟩
    | refine ⟨fun _ => ?_, fun h => Bool.noConfusion (show true = false from h)⟩ | refine ⟨fun h => Bool.noConfusion (show false = true from h), fun _ => ?_⟩)
theorem br_eq {A B : Prop} {t : Bool} {p : Prop} [Decidable p] (e : t = decide p) (h1 : p → A) (h2 : ¬ p → B) : (t = true → A) ∧ (t = false → B) := by subst e; exact br_dec h1 h2
variable {S : Sto} {Q : D → Sto → Prop} {E : Exn → Sto → Prop} {φ : Nat → Fn} {dm : DefM}
end L2.MP
end
section
set_option Elab.async false
set_option linter.all false
set_option maxRecDepth 100000
set_option maxHeartbeats 4000000
namespace L2.MP
open PySem PySem.Spec PyProof.Rows L2.MP
local macro_rules
  | `(tactic| trivial) => `(tactic| first
    | refine w_seq ?_ | refine w_set ?_ | refine w_setOwn ?_ | refine w_setHp ?_ | refine w_retS ?_ | refine w_retHp ?_ | refine w_ite ?_ | refine w_expr ?_ | refine w_asg ?_ | refine w_setIx ?_ | refine w_mut ?_ | refine w_hp ?_ | refine w_lm1 ?_
    | refine w_bl ?_ | refine w_op2 ?_ | refine w_op1 ?_ | refine w_opF1 ?_ | refine w_opF2 ?_ | refine w_chainP ?_ | refine w_and ?_ | refine w_or ?_ | refine w_not ?_ | refine w_notT ?_ | refine w_andT ?_ | refine w_orT ?_ | refine w_tru ?_
    | refine w_fz ?_ | refine w_lst ?_ | refine w_tup ?_ | refine w_cons ?_ | refine w_nil ?_ | refine w_sl ?_ | refine w_slF ?_ | refine w_part ?_ | refine w_part0 ?_ | refine w_sm0 ?_ | refine w_sm1 ?_ | refine w_disp ?_ | refine w_pr ?_ | refine w_pr0 ?_
    | refine w_for ?_ | refine w_walk ?_ | refine w_rng1 ?_ | refine w_rng2 ?_ | refine w_enum ?_ | refine w_zip ?_ | refine w_fn ?_ | refine w_comp ?_
    | refine w_var rfl ?_ | refine w_peek rfl ?_ | refine w_peekO rfl ?_ | refine w_varO rfl rfl ?_ | refine w_ret ?_
    | refine ⟨_, ix0, ?_⟩ | refine ⟨_, ix1, ?_⟩ | refine ⟨_, ix2, ?_⟩ | refine ⟨_, ix3, ?_⟩
    | refine ⟨_, rfl, ?_⟩ | refine ⟨rfl, ?_⟩ | refine ⟨Nat.le_of_ble_eq_true rfl, ?_⟩
    | refine ⟨fun _ => ?_, fun h => Bool.noConfusion (show true = false from h)⟩ | refine ⟨fun h => Bool.noConfusion (show false = true from h), fun _ => ?_⟩)
theorem set_same {α : Type} {l : List α} {i : Nat} {x : α} (h : i < l.length) : (l.set i x)[i]? = some x := List.getElem?_set_self h
theorem set_set' {α : Type} (l : List α) (i : Nat) (x y : α) : (l.set i x).set i y = l.set i y := set_set_same l i x y
def Well (i : Nat) (S0 S : Sto) : Prop := i < S0.length ∧ ∃ a b c, 0 ≤ a ∧ S = S0.set i (stc a b c)
theorem Well.len {i : Nat} {S0 S : Sto} (h : Well i S0 S) : S.length = S0.length := by
  obtain ⟨_, a, b, c, _, rfl⟩ := h
  simp
theorem Well.set {i j : Nat} {S0 S : Sto} {x : Cell} (h : Well i S0 S) (hj : j ≠ i) : Well i (S0.set j x) (S.set j x) := by
  obtain ⟨hl, a, b, c, h0, rfl⟩ := h
  exact ⟨by simpa using hl, a, b, c, h0, List.set_comm _ _ (Ne.symm hj)⟩
theorem Well.new {S : Sto} {a b c : Int} (h : 0 ≤ a) : Well S.length (S ++ [stc a b c]) (S ++ [stc a b c]) := ⟨by simp, a, b, c, h, by simp⟩
theorem Well.trans {i : Nat} {S0 S S' : Sto} (h : Well i S0 S) (g : Well i S S') : Well i S0 S' := by
  obtain ⟨hl, a, b, c, h0, rfl⟩ := h
  obtain ⟨_, a', b', c', h0', rfl⟩ := g
  exact ⟨hl, a', b', c', h0', set_set' _ _ _ _⟩
theorem Well.refl {i : Nat} {S0 S : Sto} (h : Well i S0 S) : Well i S S := by
  obtain ⟨hl, a, b, c, h0, rfl⟩ := h
  exact ⟨by simpa using hl, a, b, c, h0, (set_set' _ _ _ _).symm⟩
variable {S : Sto} {Q : D → Sto → Prop} {E : Exn → Sto → Prop} {φ : Nat → Fn} {dm : DefM}
def PkW (F : Fn) : Prop := ∀ (i : Nat) (m : Int) (S0 S : Sto) (Q : D → Sto → Prop) (E : Exn → Sto → Prop), Well i S0 S → 0 < m → m < 1000000000000000000 → (∀ r S', 0 ≤ r → r < m → Well i S0 S' → Q (.int r) S') → Wc (F [.ref i, .int m] S) Q E
theorem log2_63 {i : Int} (h : i.natAbs < 2 ^ 40) : i.natAbs.log2 < 63 := by
  have := log2_le (m := 40) h (by decide)
  omega
theorem mul_il {i j : Int} (h : i.natAbs.log2 < 63) : mulD (.int i) (.int j) = some (.int (i * j)) := if_pos (by unfold mulB; rw [decide_eq_true h, Bool.or_true, Bool.or_true])
theorem stc_ix {e : Envr} {S : Sto} {i : Nat} {a b c : Int} (h : S[i]? = some (stc a b c)) : ixD (view e S (.ref i)) (.int 0) = some (.int a) ∧ ixD (view e S (.ref i)) (.int 1) = some (.int b) ∧ ixD (view e S (.ref i)) (.int 2) = some (.int c) := by
  unfold view
  dsimp only
  rw [h]
  exact ⟨rfl, rfl, rfl⟩
theorem stc_cell {e : Envr} {S : Sto} {i : Nat} {x : Cell} (h : S[i]? = some x) : cellOf e S (.ref i) = some x := h
end L2.MP
end
section
set_option Elab.async false
set_option linter.all false
set_option maxRecDepth 100000
set_option maxHeartbeats 4000000
namespace L2.MP
open PySem PySem.Spec PyProof.Rows L2.MP
local macro_rules
  | `(tactic| trivial) => `(tactic| first
    | refine w_seq ?_ | refine w_set ?_ | refine w_setOwn ?_ | refine w_setHp ?_ | refine w_retS ?_ | refine w_retHp ?_ | refine w_ite ?_ | refine w_expr ?_ | refine w_asg ?_ | refine w_setIx ?_ | refine w_mut ?_ | refine w_hp ?_ | refine w_lm1 ?_
    | refine w_bl ?_ | refine w_op2 ?_ | refine w_op1 ?_ | refine w_opF1 ?_ | refine w_opF2 ?_ | refine w_chainP ?_ | refine w_and ?_ | refine w_or ?_ | refine w_not ?_ | refine w_notT ?_ | refine w_andT ?_ | refine w_orT ?_ | refine w_tru ?_
    | refine w_fz ?_ | refine w_lst ?_ | refine w_tup ?_ | refine w_cons ?_ | refine w_nil ?_ | refine w_sl ?_ | refine w_slF ?_ | refine w_part ?_ | refine w_part0 ?_ | refine w_sm0 ?_ | refine w_sm1 ?_ | refine w_disp ?_ | refine w_pr ?_ | refine w_pr0 ?_
    | refine w_for ?_ | refine w_walk ?_ | refine w_rng1 ?_ | refine w_rng2 ?_ | refine w_enum ?_ | refine w_zip ?_ | refine w_fn ?_ | refine w_comp ?_
    | refine w_var rfl ?_ | refine w_peek rfl ?_ | refine w_peekO rfl ?_ | refine w_varO rfl rfl ?_ | refine w_ret ?_
    | refine ⟨_, ix0, ?_⟩ | refine ⟨_, ix1, ?_⟩ | refine ⟨_, ix2, ?_⟩ | refine ⟨_, ix3, ?_⟩
    | refine ⟨_, rfl, ?_⟩ | refine ⟨rfl, ?_⟩ | refine ⟨Nat.le_of_ble_eq_true rfl, ?_⟩
    | refine ⟨fun _ => ?_, fun h => Bool.noConfusion (show true = false from h)⟩ | refine ⟨fun h => Bool.noConfusion (show false = true from h), fun _ => ?_⟩)
variable {S : Sto} {Q : D → Sto → Prop} {E : Exn → Sto → Prop} {φ : Nat → Fn} {dm : DefM}
end L2.MP
end
section
set_option Elab.async false
set_option linter.all false
set_option maxRecDepth 100000
set_option maxHeartbeats 4000000
namespace L2.MP
open PySem PySem.Spec PyProof.Rows L2.MP
local macro_rules
  | `(tactic| trivial) => `(tactic| first
    | refine w_seq ?_ | refine w_set ?_ | refine w_setOwn ?_ | refine w_setHp ?_ | refine w_retS ?_ | refine w_retHp ?_ | refine w_ite ?_ | refine w_expr ?_ | refine w_asg ?_ | refine w_setIx ?_ | refine w_mut ?_ | refine w_hp ?_ | refine w_lm1 ?_
    | refine w_bl ?_ | refine w_op2 ?_ | refine w_op1 ?_ | refine w_opF1 ?_ | refine w_opF2 ?_ | refine w_chainP ?_ | refine w_and ?_ | refine w_or ?_ | refine w_not ?_ | refine w_notT ?_ | refine w_andT ?_ | refine w_orT ?_ | refine w_tru ?_
    | refine w_fz ?_ | refine w_lst ?_ | refine w_tup ?_ | refine w_cons ?_ | refine w_nil ?_ | refine w_sl ?_ | refine w_slF ?_ | refine w_part ?_ | refine w_part0 ?_ | refine w_sm0 ?_ | refine w_sm1 ?_ | refine w_disp ?_ | refine w_pr ?_ | refine w_pr0 ?_
    | refine w_for ?_ | refine w_walk ?_ | refine w_rng1 ?_ | refine w_rng2 ?_ | refine w_enum ?_ | refine w_zip ?_ | refine w_fn ?_ | refine w_comp ?_
    | refine w_var rfl ?_ | refine w_peek rfl ?_ | refine w_peekO rfl ?_ | refine w_varO rfl rfl ?_ | refine w_ret ?_
    | refine ⟨_, ix0, ?_⟩ | refine ⟨_, ix1, ?_⟩ | refine ⟨_, ix2, ?_⟩ | refine ⟨_, ix3, ?_⟩
    | refine ⟨_, rfl, ?_⟩ | refine ⟨rfl, ?_⟩ | refine ⟨Nat.le_of_ble_eq_true rfl, ?_⟩
    | refine ⟨fun _ => ?_, fun h => Bool.noConfusion (show true = false from h)⟩ | refine ⟨fun h => Bool.noConfusion (show false = true from h), fun _ => ?_⟩)
variable {S : Sto} {Q : D → Sto → Prop} {E : Exn → Sto → Prop} {φ : Nat → Fn} {dm : DefM}
def Crd.fine (c : Crd) : Prop := isW c.name = true ∧ isW c.kind = true ∧ (∀ x ∈ c.marks, isW x = true) ∧ c.marks.Nodup ∧ c.marks.length ≤ 6 ∧ (∀ p ∈ c.sizes, isW p.1 = true ∧ isN p.2 = true) ∧ (c.sizes.map (·.1)).Nodup ∧ c.sizes.length ≤ 4
theorem Crd.fine.few {c : Crd} (h : c.fine) : c.few := ⟨by have := h.2.2.2.2.1; omega, by have := h.2.2.2.2.2.2.2; omega⟩
theorem isW_all {ws : List Str} (h : ws.all isW = true) : ∀ w ∈ ws, isW w = true := List.all_eq_true.mp h
def Rel (P : D → D → Prop) : List D → List D → Prop
  | [], [] => True
  | a :: l, b :: m => P a b ∧ Rel P l m
  | _, _ => False
theorem Rel.len {P : D → D → Prop} : ∀ {l m : List D}, Rel P l m → l.length = m.length
  | [], [], _ => rfl
  | _ :: _, _ :: _, ⟨_, h2⟩ => by simpa using h2.len
  | [], _ :: _, h => h.elim
  | _ :: _, [], h => h.elim
theorem sortS_mem {xs : List Str} {x : Str} : x ∈ sortS xs ↔ x ∈ xs := List.mem_mergeSort
theorem sortS_len (xs : List Str) : (sortS xs).length = xs.length := List.length_mergeSort _
end L2.MP
end
section
set_option Elab.async false
set_option linter.all false
set_option maxRecDepth 100000
set_option maxHeartbeats 4000000
namespace L2.MP
open PySem PySem.Spec PyProof.Rows L2.MP
local macro_rules
  | `(tactic| trivial) => `(tactic| first
    | refine w_seq ?_ | refine w_set ?_ | refine w_setOwn ?_ | refine w_setHp ?_ | refine w_retS ?_ | refine w_retHp ?_ | refine w_ite ?_ | refine w_expr ?_ | refine w_asg ?_ | refine w_setIx ?_ | refine w_mut ?_ | refine w_hp ?_ | refine w_lm1 ?_
    | refine w_bl ?_ | refine w_op2 ?_ | refine w_op1 ?_ | refine w_opF1 ?_ | refine w_opF2 ?_ | refine w_chainP ?_ | refine w_and ?_ | refine w_or ?_ | refine w_not ?_ | refine w_notT ?_ | refine w_andT ?_ | refine w_orT ?_ | refine w_tru ?_
    | refine w_fz ?_ | refine w_lst ?_ | refine w_tup ?_ | refine w_cons ?_ | refine w_nil ?_ | refine w_sl ?_ | refine w_slF ?_ | refine w_part ?_ | refine w_part0 ?_ | refine w_sm0 ?_ | refine w_sm1 ?_ | refine w_disp ?_ | refine w_pr ?_ | refine w_pr0 ?_
    | refine w_for ?_ | refine w_walk ?_ | refine w_rng1 ?_ | refine w_rng2 ?_ | refine w_enum ?_ | refine w_zip ?_ | refine w_fn ?_ | refine w_comp ?_
    | refine w_var rfl ?_ | refine w_peek rfl ?_ | refine w_peekO rfl ?_ | refine w_varO rfl rfl ?_ | refine w_ret ?_
    | refine ⟨_, ix0, ?_⟩ | refine ⟨_, ix1, ?_⟩ | refine ⟨_, ix2, ?_⟩ | refine ⟨_, ix3, ?_⟩
    | refine ⟨_, rfl, ?_⟩ | refine ⟨rfl, ?_⟩ | refine ⟨Nat.le_of_ble_eq_true rfl, ?_⟩
    | refine ⟨fun _ => ?_, fun h => Bool.noConfusion (show true = false from h)⟩ | refine ⟨fun h => Bool.noConfusion (show false = true from h), fun _ => ?_⟩)
variable {S : Sto} {Q : D → Sto → Prop} {E : Exn → Sto → Prop} {φ : Nat → Fn} {dm : DefM}
def Rise (xs : List Str) : Prop := xs.Pairwise fun a b => a.cps.toList < b.cps.toList
structure Crd.good (c : Crd) : Prop where
  name : isW c.name = true
  kind : isW c.kind = true
  marks : ∀ x ∈ c.marks, isW x = true
  rise : Rise c.marks
  len : c.marks.length ≤ 6
  sizes : ∀ p ∈ c.sizes, isW p.1 = true ∧ isN p.2 = true
  riseS : Rise (c.sizes.map (·.1))
  lenS : c.sizes.length ≤ 6
theorem Crd.good.few {c : Crd} (h : c.good) : c.few := ⟨by have := h.len; omega, by have := h.lenS; omega⟩
end L2.MP
end
section
set_option Elab.async false
set_option linter.all false
set_option maxRecDepth 100000
set_option maxHeartbeats 4000000
namespace L2.MP
open PySem PySem.Spec PyProof.Rows L2.MP
local macro_rules
  | `(tactic| trivial) => `(tactic| first
    | refine w_seq ?_ | refine w_set ?_ | refine w_setOwn ?_ | refine w_setHp ?_ | refine w_retS ?_ | refine w_retHp ?_ | refine w_ite ?_ | refine w_expr ?_ | refine w_asg ?_ | refine w_setIx ?_ | refine w_mut ?_ | refine w_hp ?_ | refine w_lm1 ?_
    | refine w_bl ?_ | refine w_op2 ?_ | refine w_op1 ?_ | refine w_opF1 ?_ | refine w_opF2 ?_ | refine w_chainP ?_ | refine w_and ?_ | refine w_or ?_ | refine w_not ?_ | refine w_notT ?_ | refine w_andT ?_ | refine w_orT ?_ | refine w_tru ?_
    | refine w_fz ?_ | refine w_lst ?_ | refine w_tup ?_ | refine w_cons ?_ | refine w_nil ?_ | refine w_sl ?_ | refine w_slF ?_ | refine w_part ?_ | refine w_part0 ?_ | refine w_sm0 ?_ | refine w_sm1 ?_ | refine w_disp ?_ | refine w_pr ?_ | refine w_pr0 ?_
    | refine w_for ?_ | refine w_walk ?_ | refine w_rng1 ?_ | refine w_rng2 ?_ | refine w_enum ?_ | refine w_zip ?_ | refine w_fn ?_ | refine w_comp ?_
    | refine w_var rfl ?_ | refine w_peek rfl ?_ | refine w_peekO rfl ?_ | refine w_varO rfl rfl ?_ | refine w_ret ?_
    | refine ⟨_, ix0, ?_⟩ | refine ⟨_, ix1, ?_⟩ | refine ⟨_, ix2, ?_⟩ | refine ⟨_, ix3, ?_⟩
    | refine ⟨_, rfl, ?_⟩ | refine ⟨rfl, ?_⟩ | refine ⟨Nat.le_of_ble_eq_true rfl, ?_⟩
    | refine ⟨fun _ => ?_, fun h => Bool.noConfusion (show true = false from h)⟩ | refine ⟨fun h => Bool.noConfusion (show false = true from h), fun _ => ?_⟩)
variable {S : Sto} {Q : D → Sto → Prop} {E : Exn → Sto → Prop} {φ : Nat → Fn} {dm : DefM}
def tapeB : M Flo :=
  (dRetHp (dLst (dArgs [(dOp2 mulD (dPeek 0) (dOp1 intD (dOp2 geD (dPeek 0) (dOp2 powD (M.ret (D.int 10)) (M.ret (D.int 18)))))), (dOp2 modD (dPeek 0) (M.ret (D.int 2147483647))), (M.ret (D.int 0))])))
theorem tape_ok (h1 : dm.ps.length = 1) (h2 : dm.C.N.length = 1) {x : Int} (q : ∀ S', (∃ y, S' = S ++ [y]) → Well S.length S' S' → Q (.ref S.length) S') : Wc (runD dm tapeB [.int x] S) Q E := by
  refine w_def (by rw [h1]; rfl) [.val (.int x)] (by rw [h2]; rfl) ?_
  unfold tapeB
  have e18 : (10 : Int) ^ Int.toNat 18 = 1000000000000000000 := by decide +kernel
  have key : ∃ a : Int, 0 ≤ a ∧ mulD (.int x) (.int (if decide ((10 : Int) ^ Int.toNat 18 ≤ x) = true then 1 else 0)) = some (.int a) := by
    by_cases h : (10 : Int) ^ Int.toNat 18 ≤ x
    · rw [decide_eq_true h]
      exact ⟨x * 1, by omega, mul_ir (j := 1) (by decide)⟩
    · rw [decide_eq_false h]
      exact ⟨x * 0, by omega, mul_ir (j := 0) (by decide)⟩
  obtain ⟨a, a0, ea⟩ := key
  repeat trivial
  refine ⟨_, ea, ?_⟩
  repeat trivial
  exact q _ ⟨_, rfl⟩ (Well.new a0)
def drawTB (φ : Nat → Fn) : M Flo :=
  (dSeq (dIf (dBl (dOp2 gtD (dOp2 ixD (dPeek 0) (M.ret (D.int 0))) (M.ret (D.int 0)))) (dSeq (dSet 2 (dOp2 modD (dOp2 ixD (dPeek 0) (M.ret (D.int 0))) (dPeek 1)))
  (dSeq (dSetIx (dOp2 fdivD (dOp2 ixD (dPeek 0) (M.ret (D.int 0))) (dPeek 1)) (dPeek 0) (M.ret (D.int 0)))
  (dRet (dVar 2)))) (M.ret .nx))
  (dSeq (dSetIx (dOp2 addD (dOp2 ixD (dPeek 0) (M.ret (D.int 2))) (M.ret (D.int 1))) (dPeek 0) (M.ret (D.int 2)))
  (dSeq (dSet 3 (dOp2 modD (dOp2 mulD (dOp2 addD (dOp2 addD (dOp2 ixD (dPeek 0) (M.ret (D.int 1))) (dOp2 mulD (M.ret (D.int 7919)) (dOp2 ixD (dPeek 0) (M.ret (D.int 2))))) (M.ret (D.int 1))) (M.ret (D.int 48271))) (M.ret (D.int 2147483647))))
  (dSeq (dSet 3 (dOp2 modD (dOp2 mulD (dPeek 3) (dOp2 addD (dOp2 fdivD (dPeek 3) (M.ret (D.int 1009))) (M.ret (D.int 69621)))) (M.ret (D.int 2147483647))))
  (dRet (dOp2 modD (dOp2 modD (dOp2 mulD (dPeek 3) (dOp2 addD (dOp2 fdivD (dPeek 3) (M.ret (D.int 2003))) (M.ret (D.int 40692)))) (M.ret (D.int 2147483399))) (dPeek 1)))))))
theorem drawT_ok (h1 : dm.ps.length = 2) (h2 : dm.C.N.length = 4) : PkW (runD dm (drawTB φ)) := fun i m S0 S Q E hw hm hm2 q => by
  have lm : m.natAbs.log2 < 9000 := log2_int (m := 8999) (by omega) (Int.lt_of_lt_of_le hm2 (by decide +kernel)) (by decide) |> fun h => by omega
  obtain ⟨hl, a, b, c, a0, rfl⟩ := hw
  have g0 : (S0.set i (stc a b c))[i]? = some (stc a b c) := set_same hl
  refine w_def (by rw [h1]; rfl) [.val (.ref i), .val (.int m), .no, .no] (by rw [h2]; rfl) ?_
  unfold drawTB
  repeat trivial
  refine ⟨_, (stc_ix g0).1, ?_⟩
  repeat trivial
  refine br_dec (fun h => ?_) (fun h => ?_)
  · repeat trivial
    refine ⟨_, (stc_ix g0).1, ?_⟩
    repeat trivial
    refine ⟨_, mod_ii hm, ?_⟩
    repeat trivial
    refine ⟨_, (stc_ix g0).1, ?_⟩
    repeat trivial
    refine ⟨_, fdiv_ii hm lm, ?_⟩
    repeat trivial
    refine ⟨_, _, _, _, stc_cell g0, rfl, rfl, ?_⟩
    rw [set_set']
    repeat trivial
    exact q _ _ (Int.emod_nonneg _ (by omega)) (Int.emod_lt_of_pos _ hm) ⟨hl, a / m, b, c, Int.ediv_nonneg a0 (by omega), rfl⟩
  · repeat trivial
    refine ⟨_, (stc_ix g0).2.2, ?_⟩
    repeat trivial
    refine ⟨_, _, _, _, stc_cell g0, rfl, rfl, ?_⟩
    rw [set_set']
    have g1 : (S0.set i (stc a b (c + 1)))[i]? = some (stc a b (c + 1)) := set_same hl
    show Wp _ _ (S0.set i (stc a b (c + 1))) _ _
    repeat trivial
    refine ⟨_, (stc_ix g1).2.1, ?_⟩
    repeat trivial
    refine ⟨_, (stc_ix g1).2.2, ?_⟩
    repeat trivial
    refine ⟨_, mul_il (i := 7919) (log2_63 (by decide)), ?_⟩
    repeat trivial
    refine ⟨_, mul_ir (j := 48271) (log2_63 (by decide)), ?_⟩
    repeat trivial
    dsimp only
    generalize hz : (b + 7919 * (c + 1) + 1) * 48271 % 2147483647 = z
    have z0 : 0 ≤ z ∧ z < 2147483647 := by omega
    repeat trivial
    refine ⟨_, mul_il (i := z) (log2_63 (by omega)), ?_⟩
    repeat trivial
    dsimp only
    generalize hy : z * (z / 1009 + 69621) % 2147483647 = y
    have y0 : 0 ≤ y ∧ y < 2147483647 := by subst hy; exact ⟨Int.emod_nonneg _ (by decide), Int.emod_lt_of_pos _ (by decide)⟩
    repeat trivial
    refine ⟨_, mul_il (i := y) (log2_63 (by omega)), ?_⟩
    repeat trivial
    refine ⟨_, mod_ii hm, ?_⟩
    repeat trivial
    exact q _ _ (Int.emod_nonneg _ (by omega)) (Int.emod_lt_of_pos _ hm) ⟨hl, a, b, c + 1, a0, rfl⟩
def pickTB (φ : Nat → Fn) (dr : Nat) : M Flo :=
  (dRet (dOp2 ixD (dPeek 1) (dFn φ dr 2 (dArgs [(dVar 0), (dOp1 lenD (dPeek 1))]))))
def PkL (F : Fn) : Prop := ∀ (l : List D) (i : Nat) (S0 S : Sto) (Q : D → Sto → Prop) (E : Exn → Sto → Prop), 0 < l.length → l.length ≤ 1000 → Well i S0 S → (∀ d S', d ∈ l → Well i S0 S' → Q d S') → Wc (F [.ref i, .lst l] S) Q E
theorem pickT_ok (h1 : dm.ps.length = 2) (h2 : dm.C.N.length = 2) {dr : Nat} (hd : PkW (φ dr)) : PkL (runD dm (pickTB φ dr)) := fun l i S0 S Q E h0 h3 hw q => by
  refine w_def (by rw [h1]; rfl) [.val (.ref i), .val (.lst l)] (by rw [h2]; rfl) ?_
  unfold pickTB
  repeat trivial
  refine hd i _ S0 _ _ _ hw (by omega) (by omega) fun r S1 r0 r1 hw => ?_
  obtain ⟨d, e, hd⟩ := at_some (l := l) r0 r1
  refine ⟨_, e, ?_⟩
  exact q d S1 hd hw
end L2.MP
end
section
set_option Elab.async false
set_option linter.all false
set_option maxRecDepth 100000
set_option maxHeartbeats 4000000
namespace L2.MP
open PySem PySem.Spec PyProof.Rows L2.MP
local macro_rules
  | `(tactic| trivial) => `(tactic| first
    | refine w_seq ?_ | refine w_set ?_ | refine w_setOwn ?_ | refine w_setHp ?_ | refine w_retS ?_ | refine w_retHp ?_ | refine w_ite ?_ | refine w_expr ?_ | refine w_asg ?_ | refine w_setIx ?_ | refine w_mut ?_ | refine w_hp ?_ | refine w_lm1 ?_
    | refine w_bl ?_ | refine w_op2 ?_ | refine w_op1 ?_ | refine w_opF1 ?_ | refine w_opF2 ?_ | refine w_chainP ?_ | refine w_and ?_ | refine w_or ?_ | refine w_not ?_ | refine w_notT ?_ | refine w_andT ?_ | refine w_orT ?_ | refine w_tru ?_
    | refine w_fz ?_ | refine w_lst ?_ | refine w_tup ?_ | refine w_cons ?_ | refine w_nil ?_ | refine w_sl ?_ | refine w_slF ?_ | refine w_part ?_ | refine w_part0 ?_ | refine w_sm0 ?_ | refine w_sm1 ?_ | refine w_disp ?_ | refine w_pr ?_ | refine w_pr0 ?_
    | refine w_for ?_ | refine w_walk ?_ | refine w_rng1 ?_ | refine w_rng2 ?_ | refine w_enum ?_ | refine w_zip ?_ | refine w_fn ?_ | refine w_comp ?_
    | refine w_var rfl ?_ | refine w_peek rfl ?_ | refine w_peekO rfl ?_ | refine w_varO rfl rfl ?_ | refine w_ret ?_
    | refine ⟨_, ix0, ?_⟩ | refine ⟨_, ix1, ?_⟩ | refine ⟨_, ix2, ?_⟩ | refine ⟨_, ix3, ?_⟩
    | refine ⟨_, rfl, ?_⟩ | refine ⟨rfl, ?_⟩ | refine ⟨Nat.le_of_ble_eq_true rfl, ?_⟩
    | refine ⟨fun _ => ?_, fun h => Bool.noConfusion (show true = false from h)⟩ | refine ⟨fun h => Bool.noConfusion (show false = true from h), fun _ => ?_⟩)
variable {S : Sto} {Q : D → Sto → Prop} {E : Exn → Sto → Prop} {φ : Nat → Fn} {dm : DefM}
end L2.MP
end
section
set_option Elab.async false
set_option linter.all false
set_option maxRecDepth 100000
set_option maxHeartbeats 4000000
namespace L2.MP
open PySem PySem.Spec PyProof.Rows L2.MP
local macro_rules
  | `(tactic| trivial) => `(tactic| first
    | refine w_seq ?_ | refine w_set ?_ | refine w_setOwn ?_ | refine w_setHp ?_ | refine w_retS ?_ | refine w_retHp ?_ | refine w_ite ?_ | refine w_expr ?_ | refine w_asg ?_ | refine w_setIx ?_ | refine w_mut ?_ | refine w_hp ?_ | refine w_lm1 ?_
    | refine w_bl ?_ | refine w_op2 ?_ | refine w_op1 ?_ | refine w_opF1 ?_ | refine w_opF2 ?_ | refine w_chainP ?_ | refine w_and ?_ | refine w_or ?_ | refine w_not ?_ | refine w_notT ?_ | refine w_andT ?_ | refine w_orT ?_ | refine w_tru ?_
    | refine w_fz ?_ | refine w_lst ?_ | refine w_tup ?_ | refine w_cons ?_ | refine w_nil ?_ | refine w_sl ?_ | refine w_slF ?_ | refine w_part ?_ | refine w_part0 ?_ | refine w_sm0 ?_ | refine w_sm1 ?_ | refine w_disp ?_ | refine w_pr ?_ | refine w_pr0 ?_
    | refine w_for ?_ | refine w_walk ?_ | refine w_rng1 ?_ | refine w_rng2 ?_ | refine w_enum ?_ | refine w_zip ?_ | refine w_fn ?_ | refine w_comp ?_
    | refine w_var rfl ?_ | refine w_peek rfl ?_ | refine w_peekO rfl ?_ | refine w_varO rfl rfl ?_ | refine w_ret ?_
    | refine ⟨_, ix0, ?_⟩ | refine ⟨_, ix1, ?_⟩ | refine ⟨_, ix2, ?_⟩ | refine ⟨_, ix3, ?_⟩
    | refine ⟨_, rfl, ?_⟩ | refine ⟨rfl, ?_⟩ | refine ⟨Nat.le_of_ble_eq_true rfl, ?_⟩
    | refine ⟨fun _ => ?_, fun h => Bool.noConfusion (show true = false from h)⟩ | refine ⟨fun h => Bool.noConfusion (show false = true from h), fun _ => ?_⟩)
variable {S : Sto} {Q : D → Sto → Prop} {E : Exn → Sto → Prop} {φ : Nat → Fn} {dm : DefM}
end L2.MP
end
section
set_option Elab.async false
set_option linter.all false
set_option maxRecDepth 100000
set_option maxHeartbeats 4000000
namespace L2.MP
open PySem PySem.Spec PyProof.Rows L2.MP
local macro_rules
  | `(tactic| trivial) => `(tactic| first
    | refine w_seq ?_ | refine w_set ?_ | refine w_setOwn ?_ | refine w_setHp ?_ | refine w_retS ?_ | refine w_retHp ?_ | refine w_ite ?_ | refine w_expr ?_ | refine w_asg ?_ | refine w_setIx ?_ | refine w_mut ?_ | refine w_hp ?_ | refine w_lm1 ?_
    | refine w_bl ?_ | refine w_op2 ?_ | refine w_op1 ?_ | refine w_opF1 ?_ | refine w_opF2 ?_ | refine w_chainP ?_ | refine w_and ?_ | refine w_or ?_ | refine w_not ?_ | refine w_notT ?_ | refine w_andT ?_ | refine w_orT ?_ | refine w_tru ?_
    | refine w_fz ?_ | refine w_lst ?_ | refine w_tup ?_ | refine w_cons ?_ | refine w_nil ?_ | refine w_sl ?_ | refine w_slF ?_ | refine w_part ?_ | refine w_part0 ?_ | refine w_sm0 ?_ | refine w_sm1 ?_ | refine w_disp ?_ | refine w_pr ?_ | refine w_pr0 ?_
    | refine w_for ?_ | refine w_walk ?_ | refine w_rng1 ?_ | refine w_rng2 ?_ | refine w_enum ?_ | refine w_zip ?_ | refine w_fn ?_ | refine w_comp ?_
    | refine w_var rfl ?_ | refine w_peek rfl ?_ | refine w_peekO rfl ?_ | refine w_varO rfl rfl ?_ | refine w_ret ?_
    | refine ⟨_, ix0, ?_⟩ | refine ⟨_, ix1, ?_⟩ | refine ⟨_, ix2, ?_⟩ | refine ⟨_, ix3, ?_⟩
    | refine ⟨_, rfl, ?_⟩ | refine ⟨rfl, ?_⟩ | refine ⟨Nat.le_of_ble_eq_true rfl, ?_⟩
    | refine ⟨fun _ => ?_, fun h => Bool.noConfusion (show true = false from h)⟩ | refine ⟨fun h => Bool.noConfusion (show false = true from h), fun _ => ?_⟩)
variable {S : Sto} {Q : D → Sto → Prop} {E : Exn → Sto → Prop} {φ : Nat → Fn} {dm : DefM}
structure Ofr where
  side : Str
  card : Crd
  wish : W
  many : Int
  least : Int
  weight : Int
  till : Int
def Ofr.toD (o : Ofr) : D := .tup [.str o.side, o.card.toD, o.wish.toD, .int o.many, .int o.least, .int o.weight, .int o.till]
structure Ofr.good (o : Ofr) : Prop where
  card : o.card.good
  fine : o.wish.fine = true
  deep : o.wish.deep ≤ 3
  parts : o.wish.parts ≤ 13
  m1 : 1 ≤ o.many
  m2 : o.many ≤ 1000000
  l1 : 1 ≤ o.least
  l2 : o.least ≤ o.many
  w1 : 0 ≤ o.weight
  w2 : o.weight ≤ 1000
end L2.MP
end
section
set_option Elab.async false
set_option linter.all false
set_option maxRecDepth 100000
set_option maxHeartbeats 4000000
namespace L2.MP
open PySem PySem.Spec PyProof.Rows L2.MP
class RgB (j : Int) : Prop where
  ok : rgB j = true
theorem rg_and {j : Int} {A : Prop} [h : RgB j] (a : A) : rgB j = true ∧ A := ⟨h.ok, a⟩
end L2.MP
end
section
set_option Elab.async false
set_option linter.all false
set_option maxRecDepth 100000
namespace L2.MP
open PySem PySem.Spec PyProof.Rows
section
variable {env : Envr} {S : Sto} {E : Exn → Envr → Sto → Prop} {t : Xt}
theorem w_raise0 {c : Nat} {Q : Flo → Envr → Sto → Prop} (h : E ⟨c, []⟩ env S) : Wp (dRaise0 c) env S Q E := by
  delta Wp
  exact h
theorem w_raise1 {c : Nat} {f : Str} {m : M D} {Q : Flo → Envr → Sto → Prop} (h : Wp m env S (fun d e s => E ⟨c, [(f, d)]⟩ e s) E) : Wp (dRaise1 c f m) env S Q E := by
  delta Wp at *
  unfold Vp dRaise1 M.bind at *
  cases e : m env S with
  | ok a e1 s1 => rw [e] at h; exact h
  | exc x e1 s1 => rw [e] at h; exact h
  | bad => rw [e] at h; exact h
theorem w_tryE {c i : Nat} {b s : M Flo} {Q : Flo → Envr → Sto → Prop}
    (h : Wp b env S Q (fun x e S1 => ((t.lookup x.cls).isSome && (t.lookup c).isSome) = true ∧ (subX t x.cls (some c) = true → Wp s (e.set i (.exn x)) S1 (fun f e s => Q f (e.set i .no) s) (fun _ _ _ => False)) ∧ (subX t x.cls (some c) = false → E x e S1))) : Wp (dTryE t c i b s) env S Q E := by
  delta Wp at *
  unfold Vp dTryE at *
  cases e : b env S with
  | ok a e1 s1 => rw [e] at h; exact h
  | bad => rw [e] at h; exact h
  | exc x e1 s1 =>
    rw [e] at h
    obtain ⟨h1, h2, h3⟩ := h
    dsimp only
    rw [if_pos h1]
    cases hs : subX t x.cls (some c) with
    | true =>
      have h2 := h2 hs
      rw [if_pos rfl]
      cases es : s (e1.set i (.exn x)) s1 with
      | ok a e2 s2 => rw [es] at h2; exact h2
      | bad => rw [es] at h2; exact h2
      | exc x e2 s2 => rw [es] at h2; exact h2.elim
    | false =>
      rw [if_neg Bool.false_ne_true]
      exact h3 hs
theorem w_isX {i : Nat} {cs : List (Option Nat)} {x : Exn} {Q : D → Envr → Sto → Prop} (e : env[i]? = some (.exn x)) (h1 : ((t.lookup x.cls).isSome && cs.all (knX t)) = true) (h : Q (.bl (cs.any (subX t x.cls))) env S) : Wp (dIsX t i cs) env S Q E := by
  delta Wp
  unfold Vp dIsX
  rw [e]
  dsimp only
  rw [if_pos h1]
  exact h
end
end L2.MP
end
section
set_option Elab.async false
set_option linter.all false
set_option maxRecDepth 100000
set_option maxHeartbeats 4000000
namespace L2.MP
open PySem PySem.Spec PyProof.Rows L2.MP
def Fr (env : Envr) : List Nat → Envr → Prop
  | [], e => e = env
  | v :: vs, e => ∃ s, Fr (env.set v s) vs e
section
variable {R : Flo → Envr → Sto → Prop} {E : Exn → Envr → Sto → Prop} {env : Envr} {S : Sto}
theorem w_loopA {α : Type} {src : Src} {g : Tgt} {m : M Flo} (mk : α → Envr) (vs : List Nat) (I : List D → α → Sto → Prop) (a0 : α) (hn : src.2 = none) {l : List D} (h0 : I l a0 S) (hf : Fr (mk a0) vs env)
    (step : ∀ d r a s e, I (d :: r) a s → Fr (mk a) vs e → ∃ e1, g d e = some e1 ∧ Wp m e1 s (fun f e s => match f with
      | .nx => ∃ a', Fr (mk a') vs e ∧ I r a' s
      | .ct => ∃ a', Fr (mk a') vs e ∧ I r a' s
      | .bk => R .nx e s
      | .rt v => R (.rt v) e s) E)
    (fin : ∀ a s e, I [] a s → Fr (mk a) vs e → R .nx e s) : Wp (loopL src g m l) env S R E :=
  w_loop (fun r e s => ∃ a, Fr (mk a) vs e ∧ I r a s) hn (fun d r e s ⟨a, h1, h2⟩ => step d r a s e h2 h1) (fun e s ⟨a, h1, h2⟩ => fin a s e h2 h1) l env S ⟨a0, hf, h0⟩
theorem w_loopF {src : Src} {g : Tgt} {m : M Flo} (env0 : Envr) (vs : List Nat) (I : List D → Sto → Prop) (hn : src.2 = none) {l : List D} (h0 : I l S) (hf : Fr env0 vs env)
    (step : ∀ d r s e, I (d :: r) s → Fr env0 vs e → ∃ e1, g d e = some e1 ∧ Wp m e1 s (fun f e s => match f with
      | .nx => Fr env0 vs e ∧ I r s
      | .ct => Fr env0 vs e ∧ I r s
      | .bk => R .nx e s
      | .rt v => R (.rt v) e s) E)
    (fin : ∀ s e, I [] s → Fr env0 vs e → R .nx e s) : Wp (loopL src g m l) env S R E :=
  w_loop (fun r e s => Fr env0 vs e ∧ I r s) hn (fun d r e s ⟨h1, h2⟩ => step d r s e h2 h1) (fun e s ⟨h1, h2⟩ => fin s e h2 h1) l env S ⟨hf, h0⟩
end
section
variable {R : Flo → Envr → Sto → Prop} {E : Exn → Envr → Sto → Prop} {env : Envr} {S : Sto}
theorem w_fld {cs : List Nat} {f : Str} {o : M D} {Q : D → Envr → Sto → Prop} (h : Wp o env S (fun x e s => ∃ n c fs d, x = .ref n ∧ s[n]? = some (.ins c fs) ∧ c ∈ cs ∧ lookF f fs = some d ∧ Q d e s) E) : Wp (dFld cs f o) env S Q E := by
  refine w_bind ?_
  delta Wp at *
  refine h.mono (fun x e s ⟨n, c, fs, d, h1, h2, h3, h4, h5⟩ => ?_) fun _ _ _ q => q
  subst h1
  unfold Vp
  dsimp only
  rw [h2]
  dsimp only
  rw [if_pos h3, h4]
  exact h5
theorem w_setFld {cs : List Nat} {f : Str} {o v : M D} (h : Wp v env S (fun d e s => Wp o e s (fun x e s => ∃ n c fs, x = .ref n ∧ s[n]? = some (.ins c fs) ∧ (c ∈ cs ∧ fs.length < 1000) ∧ R .nx e (s.set n (.ins c (putG f d fs)))) E) E) : Wp (dSetFld cs f o v) env S R E := by
  refine w_bind ?_
  delta Wp at *
  refine h.mono (fun d e s h => ?_) fun _ _ _ q => q
  refine v_bind (h.mono (fun x e s ⟨n, c, fs, h1, h2, h3, h4⟩ => ?_) fun _ _ _ q => q)
  subst h1
  refine v_bind (v_getS (v_bind (v_opt (a := s.set n (.ins c (putG f d fs))) ?_ ?_)))
  · unfold putS
    dsimp only
    rw [h2]
    dsimp only
    rw [if_pos h3]
  · exact h4
theorem w_setFldF {cs : List Nat} {f : Str} {o : M D} {v : M Cell} (h : Wp v env S (fun d e s => Wp o e s (fun x e s => ∃ n c fs, x = .ref n ∧ (s ++ [d])[n]? = some (.ins c fs) ∧ (c ∈ cs ∧ fs.length < 1000) ∧ R .nx e ((s ++ [d]).set n (.ins c (putG f (.ref s.length) fs)))) E) E) : Wp (dSetFldF cs f o v) env S R E := by
  refine w_bind ?_
  delta Wp at *
  refine h.mono (fun d e s h => ?_) fun _ _ _ q => q
  refine v_bind (h.mono (fun x e s ⟨n, c, fs, h1, h2, h3, h4⟩ => ?_) fun _ _ _ q => q)
  subst h1
  refine v_bind (v_getS (v_bind (v_opt (a := (s ++ [d]).set n (.ins c (putG f (.ref s.length) fs))) ?_ ?_)))
  · unfold putS
    dsimp only
    rw [h2]
    dsimp only
    rw [if_pos h3]
  · exact h4
theorem w_make {c n : Nat} {F : Fn} {args : M (List D)} {Q : D → Envr → Sto → Prop} (h : Wp args env S (fun ds e s => ds.length + 1 = n ∧ Wc (F (.ref s.length :: ds) (s ++ [.ins c []])) (fun d s' => d = .non ∧ Q (.ref s.length) e s') (fun x s' => E x e s')) E) : Wp (dMake c n F args) env S Q E := by
  refine w_bind ?_
  delta Wp Wc at *
  refine h.mono (fun ds e s ⟨h1, h2⟩ => ?_) fun _ _ _ q => q
  refine v_if (by rw [List.length_cons]; exact h1) ?_
  unfold Vc at h2
  unfold Vp
  dsimp only
  cases q : F (.ref s.length :: ds) (s ++ [.ins c []]) with
  | ok d s' =>
    rw [q] at h2
    obtain ⟨e1, h3⟩ := h2
    subst e1
    exact h3
  | exc x s' => rw [q] at h2; exact h2
  | bad => rw [q] at h2; exact h2
theorem w_meths {G : Gm} {φ : Nat → Fn} {l : List (Nat × Nat)} {m : Str} {o : M D} {args : M (List D)} {Q : D → Envr → Sto → Prop} (h : Wp o env S (fun x e s => ∃ n c fs i, x = .ref n ∧ s[n]? = some (.ins c fs) ∧ lkc l c = some i ∧ lookF m fs = none ∧
    Wp args e s (fun ds e s => ds.length + 1 = G.ar.getD i 0 ∧ Wc (φ i (.ref n :: ds) s) (fun d s' => Q d e s') (fun x s' => E x e s')) E) E) : Wp (dMeths G φ l m o args) env S Q E := by
  refine w_bind ?_
  delta Wp Wc at *
  refine h.mono (fun x e s ⟨n, c, fs, i, h1, h2, h3, h4, h5⟩ => ?_) fun _ _ _ q => q
  subst h1
  unfold Vp
  have e1 : insAny s (.ref n) = some (c, fs) := by
    unfold insAny
    dsimp only
    rw [h2]
  dsimp only
  rw [e1]
  dsimp only
  rw [h3]
  dsimp only
  rw [if_pos h4]
  refine v_bind (h5.mono (fun ds e s ⟨k1, k2⟩ => ?_) fun _ _ _ q => q)
  refine v_if (by rw [List.length_cons]; exact k1) ?_
  unfold Vc at k2
  unfold Vp
  dsimp only
  cases q : φ i (.ref n :: ds) s <;> (rw [q] at k2; exact k2)
theorem w_augIx {f : Int → Int → Int} {o i v : M D} (h : Wp o env S (fun x e s => Wp i e s (fun j e s => ∃ n, (cellOf e s x).bind (augAt j) = some n ∧ Wp v e s (fun d e s => ∃ m c e' s', d = .int m ∧ (cellOf e s x).bind (augSet j (f n m)) = some c ∧ setCell x c e s = .ok () e' s' ∧ R .nx e' s') E) E) E) : Wp (dAugIx f o i v) env S R E := by
  refine w_bind ?_
  delta Wp at *
  refine h.mono (fun x e s h => ?_) fun _ _ _ q => q
  refine v_bind (h.mono (fun j e s ⟨n, h1, h2⟩ => ?_) fun _ _ _ q => q)
  refine v_bind (v_getS (v_bind (v_opt h1 (v_bind (h2.mono (fun d e s ⟨m, c, e', s', k1, k2, k3, k4⟩ => ?_) fun _ _ _ q => q)))))
  subst k1
  refine v_bind (v_opt (a := m) rfl (v_bind (v_getS (v_bind (v_opt k2 (v_bind ?_))))))
  unfold Vp
  rw [k3]
  exact k4
end
section
variable {E : Exn → Envr → Sto → Prop} {env : Envr} {S : Sto} {Q : D → Envr → Sto → Prop} {a b : M D}
theorem w_count (h : Wp a env S (fun x e s => ∃ l, lstOf (view e s x) = some l ∧ Wp b e s (fun y e s => ∃ l d, lstOf (view e s x) = some l ∧ cntF l (view e s y) = some d ∧ Q d e s) E) E) : Wp (dCount a b) env S Q E := by
  have h2 : Wp (dLm1 cntF a b) env S Q E := by
    refine w_lm1 ?_
    delta Wp at *
    exact h.mono (fun x e s ⟨l, k1, k2⟩ => ⟨⟨l, k1⟩, k2⟩) fun _ _ _ q => q
  delta Wp at *
  unfold Vp dCount at *
  cases e : a env S with
  | ok x e1 s1 =>
    rw [e] at h
    obtain ⟨l, k1, _⟩ := h
    cases x <;> first | exact h2 | skip
    unfold view lstOf at k1
    cases k1
  | exc x e1 s1 => exact h2
  | bad => exact h2
end
end L2.MP
end
section
set_option Elab.async false
set_option linter.all false
set_option maxRecDepth 100000
set_option maxHeartbeats 4000000
namespace L2.MP
open PySem PySem.Spec PyProof.Rows L2.MP
local macro_rules
  | `(tactic| trivial) => `(tactic| first
    | refine w_seq ?_ | refine w_set ?_ | refine w_setOwn ?_ | refine w_setHp ?_ | refine w_retS ?_ | refine w_retHp ?_ | refine w_ite ?_ | refine w_expr ?_ | refine w_asg ?_ | refine w_setIx ?_ | refine w_mut ?_ | refine w_hp ?_ | refine w_lm1 ?_
    | refine w_bl ?_ | refine w_op2 ?_ | refine w_op1 ?_ | refine w_opF1 ?_ | refine w_opF2 ?_ | refine w_chainP ?_ | refine w_and ?_ | refine w_or ?_ | refine w_not ?_ | refine w_notT ?_ | refine w_andT ?_ | refine w_orT ?_ | refine w_tru ?_
    | refine w_fz ?_ | refine w_lst ?_ | refine w_tup ?_ | refine w_cons ?_ | refine w_nil ?_ | refine w_sl ?_ | refine w_slF ?_ | refine w_part ?_ | refine w_part0 ?_ | refine w_sm0 ?_ | refine w_sm1 ?_ | refine w_disp ?_ | refine w_pr ?_ | refine w_pr0 ?_
    | refine w_for ?_ | refine w_walk ?_ | refine w_rng1 ?_ | refine w_rng2 ?_ | refine w_enum ?_ | refine w_zip ?_ | refine w_fn ?_ | refine w_comp ?_
    | refine w_var rfl ?_ | refine w_peek rfl ?_ | refine w_peekO rfl ?_ | refine w_varO rfl rfl ?_ | refine w_ret ?_
    | refine ⟨_, ix0, ?_⟩ | refine ⟨_, ix1, ?_⟩ | refine ⟨_, ix2, ?_⟩ | refine ⟨_, ix3, ?_⟩
    | refine ⟨_, rfl, ?_⟩ | refine ⟨rfl, ?_⟩ | refine ⟨Nat.le_of_ble_eq_true rfl, ?_⟩
    | refine ⟨fun _ => ?_, fun h => Bool.noConfusion (show true = false from h)⟩ | refine ⟨fun h => Bool.noConfusion (show false = true from h), fun _ => ?_⟩)
variable {S : Sto} {Q : D → Sto → Prop} {E : Exn → Sto → Prop} {φ : Nat → Fn} {dm : DefM}
end L2.MP
end
section
set_option Elab.async false
set_option linter.all false
set_option maxRecDepth 100000
set_option maxHeartbeats 4000000
namespace L2.MP
open PySem PySem.Spec PyProof.Rows L2.MP
local macro_rules
  | `(tactic| trivial) => `(tactic| first
    | refine w_seq ?_ | refine w_set ?_ | refine w_setOwn ?_ | refine w_setHp ?_ | refine w_retS ?_ | refine w_retHp ?_ | refine w_ite ?_ | refine w_expr ?_ | refine w_asg ?_ | refine w_setIx ?_ | refine w_mut ?_ | refine w_hp ?_ | refine w_lm1 ?_
    | refine w_bl ?_ | refine w_op2 ?_ | refine w_op1 ?_ | refine w_opF1 ?_ | refine w_opF2 ?_ | refine w_chainP ?_ | refine w_and ?_ | refine w_or ?_ | refine w_not ?_ | refine w_notT ?_ | refine w_andT ?_ | refine w_orT ?_ | refine w_tru ?_
    | refine w_fz ?_ | refine w_lst ?_ | refine w_tup ?_ | refine w_cons ?_ | refine w_nil ?_ | refine w_sl ?_ | refine w_slF ?_ | refine w_part ?_ | refine w_part0 ?_ | refine w_sm0 ?_ | refine w_sm1 ?_ | refine w_disp ?_ | refine w_pr ?_ | refine w_pr0 ?_
    | refine w_for ?_ | refine w_walk ?_ | refine w_rng1 ?_ | refine w_rng2 ?_ | refine w_enum ?_ | refine w_zip ?_ | refine w_fn ?_ | refine w_comp ?_
    | refine w_var rfl ?_ | refine w_peek rfl ?_ | refine w_peekO rfl ?_ | refine w_varO rfl rfl ?_ | refine w_ret ?_
    | refine ⟨_, ix0, ?_⟩ | refine ⟨_, ix1, ?_⟩ | refine ⟨_, ix2, ?_⟩ | refine ⟨_, ix3, ?_⟩
    | refine ⟨_, rfl, ?_⟩ | refine ⟨rfl, ?_⟩ | refine ⟨Nat.le_of_ble_eq_true rfl, ?_⟩
    | refine ⟨fun _ => ?_, fun h => Bool.noConfusion (show true = false from h)⟩ | refine ⟨fun h => Bool.noConfusion (show false = true from h), fun _ => ?_⟩)
variable {S : Sto} {Q : D → Sto → Prop} {E : Exn → Sto → Prop} {φ : Nat → Fn} {dm : DefM}
end L2.MP
end
section
set_option Elab.async false
set_option linter.all false
set_option maxRecDepth 100000
set_option maxHeartbeats 4000000
namespace L2.MP
open PySem PySem.Spec PyProof.Rows L2.MP
local macro_rules
  | `(tactic| trivial) => `(tactic| first
    | refine w_seq ?_ | refine w_set ?_ | refine w_setOwn ?_ | refine w_setHp ?_ | refine w_retS ?_ | refine w_retHp ?_ | refine w_ite ?_ | refine w_expr ?_ | refine w_asg ?_ | refine w_setIx ?_ | refine w_mut ?_ | refine w_hp ?_ | refine w_lm1 ?_
    | refine w_bl ?_ | refine w_op2 ?_ | refine w_op1 ?_ | refine w_opF1 ?_ | refine w_opF2 ?_ | refine w_chainP ?_ | refine w_and ?_ | refine w_or ?_ | refine w_not ?_ | refine w_notT ?_ | refine w_andT ?_ | refine w_orT ?_ | refine w_tru ?_
    | refine w_fz ?_ | refine w_lst ?_ | refine w_tup ?_ | refine w_cons ?_ | refine w_nil ?_ | refine w_sl ?_ | refine w_slF ?_ | refine w_part ?_ | refine w_part0 ?_ | refine w_sm0 ?_ | refine w_sm1 ?_ | refine w_disp ?_ | refine w_pr ?_ | refine w_pr0 ?_
    | refine w_for ?_ | refine w_walk ?_ | refine w_rng1 ?_ | refine w_rng2 ?_ | refine w_enum ?_ | refine w_zip ?_ | refine w_fn ?_ | refine w_comp ?_
    | refine w_var rfl ?_ | refine w_peek rfl ?_ | refine w_peekO rfl ?_ | refine w_varO rfl rfl ?_ | refine w_ret ?_
    | refine ⟨_, ix0, ?_⟩ | refine ⟨_, ix1, ?_⟩ | refine ⟨_, ix2, ?_⟩ | refine ⟨_, ix3, ?_⟩
    | refine ⟨_, rfl, ?_⟩ | refine ⟨rfl, ?_⟩ | refine ⟨Nat.le_of_ble_eq_true rfl, ?_⟩
    | refine ⟨fun _ => ?_, fun h => Bool.noConfusion (show true = false from h)⟩ | refine ⟨fun h => Bool.noConfusion (show false = true from h), fun _ => ?_⟩)
variable {S : Sto} {Q : D → Sto → Prop} {E : Exn → Sto → Prop} {φ : Nat → Fn} {dm : DefM}
end L2.MP
end
section
set_option Elab.async false
set_option linter.all false
set_option maxRecDepth 100000
set_option maxHeartbeats 4000000
namespace L2.MP
open PySem PySem.Spec PyProof.Rows L2.MP
local macro_rules
  | `(tactic| trivial) => `(tactic| first
    | refine w_seq ?_ | refine w_set ?_ | refine w_setOwn ?_ | refine w_setHp ?_ | refine w_retS ?_ | refine w_retHp ?_ | refine w_ite ?_ | refine w_expr ?_ | refine w_asg ?_ | refine w_setIx ?_ | refine w_mut ?_ | refine w_hp ?_ | refine w_lm1 ?_
    | refine w_bl ?_ | refine w_op2 ?_ | refine w_op1 ?_ | refine w_opF1 ?_ | refine w_opF2 ?_ | refine w_chainP ?_ | refine w_and ?_ | refine w_or ?_ | refine w_not ?_ | refine w_notT ?_ | refine w_andT ?_ | refine w_orT ?_ | refine w_tru ?_
    | refine w_fz ?_ | refine w_lst ?_ | refine w_tup ?_ | refine w_cons ?_ | refine w_nil ?_ | refine w_sl ?_ | refine w_slF ?_ | refine w_part ?_ | refine w_part0 ?_ | refine w_sm0 ?_ | refine w_sm1 ?_ | refine w_disp ?_ | refine w_pr ?_ | refine w_pr0 ?_
    | refine w_for ?_ | refine w_walk ?_ | refine w_rng1 ?_ | refine w_rng2 ?_ | refine w_enum ?_ | refine w_zip ?_ | refine w_fn ?_ | refine w_comp ?_
    | refine w_var rfl ?_ | refine w_peek rfl ?_ | refine w_peekO rfl ?_ | refine w_varO rfl rfl ?_ | refine w_ret ?_
    | refine ⟨_, ix0, ?_⟩ | refine ⟨_, ix1, ?_⟩ | refine ⟨_, ix2, ?_⟩ | refine ⟨_, ix3, ?_⟩
    | refine ⟨_, rfl, ?_⟩ | refine ⟨rfl, ?_⟩ | refine ⟨Nat.le_of_ble_eq_true rfl, ?_⟩
    | refine ⟨fun _ => ?_, fun h => Bool.noConfusion (show true = false from h)⟩ | refine ⟨fun h => Bool.noConfusion (show false = true from h), fun _ => ?_⟩)
variable {S : Sto} {Q : D → Sto → Prop} {E : Exn → Sto → Prop} {φ : Nat → Fn} {dm : DefM}
def Sm : Nat → D → Prop
  | 0, _ => False
  | n + 1, d => d = .non ∨ (∃ b, d = .bl b) ∨ (∃ i, d = .int i) ∨ ∃ l, d = .tup l ∧ l.length ≤ 100 ∧ ∀ x ∈ l, Sm n x
theorem Sm.up : ∀ {n : Nat} {d : D}, Sm n d → Sm (n + 1) d
  | n + 1, d, h => by
    unfold Sm at *
    rcases h with h | h | h | ⟨l, h1, h2, h3⟩
    · exact .inl h
    · exact .inr (.inl h)
    · exact .inr (.inr (.inl h))
    · exact .inr (.inr (.inr ⟨l, h1, h2, fun x hx => (h3 x hx).up⟩))
theorem Sm.tup {n : Nat} {l : List D} (h1 : l.length ≤ 100) (h2 : ∀ x ∈ l, Sm n x) : Sm (n + 1) (.tup l) := by unfold Sm; exact .inr (.inr (.inr ⟨l, rfl, h1, h2⟩))
theorem Sm.bl {n : Nat} {b : Bool} : Sm (n + 1) (.bl b) := by unfold Sm; exact .inr (.inl ⟨b, rfl⟩)
theorem Sm.int {n : Nat} {i : Int} : Sm (n + 1) (.int i) := by unfold Sm; exact .inr (.inr (.inl ⟨i, rfl⟩))
theorem Sm.non {n : Nat} : Sm (n + 1) .non := by unfold Sm; exact .inl rfl
end L2.MP
end
section
set_option Elab.async false
set_option linter.all false
set_option maxRecDepth 100000
set_option maxHeartbeats 4000000
namespace L2.MP
open PySem PySem.Spec PyProof.Rows L2.MP
local macro_rules
  | `(tactic| trivial) => `(tactic| first
    | refine w_seq ?_ | refine w_set ?_ | refine w_setOwn ?_ | refine w_setHp ?_ | refine w_retS ?_ | refine w_retHp ?_ | refine w_ite ?_ | refine w_expr ?_ | refine w_asg ?_ | refine w_setIx ?_ | refine w_mut ?_ | refine w_hp ?_ | refine w_lm1 ?_
    | refine w_bl ?_ | refine w_op2 ?_ | refine w_op1 ?_ | refine w_opF1 ?_ | refine w_opF2 ?_ | refine w_chainP ?_ | refine w_and ?_ | refine w_or ?_ | refine w_not ?_ | refine w_notT ?_ | refine w_andT ?_ | refine w_orT ?_ | refine w_tru ?_
    | refine w_fz ?_ | refine w_lst ?_ | refine w_tup ?_ | refine w_cons ?_ | refine w_nil ?_ | refine w_sl ?_ | refine w_slF ?_ | refine w_part ?_ | refine w_part0 ?_ | refine w_sm0 ?_ | refine w_sm1 ?_ | refine w_disp ?_ | refine w_pr ?_ | refine w_pr0 ?_
    | refine w_for ?_ | refine w_walk ?_ | refine w_rng1 ?_ | refine w_rng2 ?_ | refine w_enum ?_ | refine w_zip ?_ | refine w_fn ?_ | refine w_comp ?_
    | refine w_var rfl ?_ | refine w_peek rfl ?_ | refine w_peekO rfl ?_ | refine w_varO rfl rfl ?_ | refine w_ret ?_
    | refine ⟨_, ix0, ?_⟩ | refine ⟨_, ix1, ?_⟩ | refine ⟨_, ix2, ?_⟩ | refine ⟨_, ix3, ?_⟩
    | refine ⟨_, rfl, ?_⟩ | refine ⟨rfl, ?_⟩ | refine ⟨Nat.le_of_ble_eq_true rfl, ?_⟩
    | refine ⟨fun _ => ?_, fun h => Bool.noConfusion (show true = false from h)⟩ | refine ⟨fun h => Bool.noConfusion (show false = true from h), fun _ => ?_⟩)
variable {S : Sto} {Q : D → Sto → Prop} {E : Exn → Sto → Prop} {φ : Nat → Fn} {dm : DefM}
theorem px_mem {l : List D} (h : PlX (.tup l)) : ∀ x ∈ l, PlX x := fun x hx => by
  obtain ⟨n, h⟩ := h
  cases n with
  | zero => cases h
  | succ n => exact ⟨n, plDs_mem h x hx⟩
end L2.MP
end
section
set_option Elab.async false
set_option linter.all false
set_option maxRecDepth 100000
set_option maxHeartbeats 4000000
namespace L2.MP
open PySem PySem.Spec PyProof.Rows L2.MP
local macro_rules
  | `(tactic| trivial) => `(tactic| first
    | refine w_seq ?_ | refine w_set ?_ | refine w_setOwn ?_ | refine w_setHp ?_ | refine w_retS ?_ | refine w_retHp ?_ | refine w_ite ?_ | refine w_expr ?_ | refine w_asg ?_ | refine w_setIx ?_ | refine w_mut ?_ | refine w_hp ?_ | refine w_lm1 ?_
    | refine w_bl ?_ | refine w_op2 ?_ | refine w_op1 ?_ | refine w_opF1 ?_ | refine w_opF2 ?_ | refine w_chainP ?_ | refine w_and ?_ | refine w_or ?_ | refine w_not ?_ | refine w_notT ?_ | refine w_andT ?_ | refine w_orT ?_ | refine w_tru ?_
    | refine w_fz ?_ | refine w_lst ?_ | refine w_tup ?_ | refine w_cons ?_ | refine w_nil ?_ | refine w_sl ?_ | refine w_slF ?_ | refine w_part ?_ | refine w_part0 ?_ | refine w_sm0 ?_ | refine w_sm1 ?_ | refine w_disp ?_ | refine w_pr ?_ | refine w_pr0 ?_
    | refine w_for ?_ | refine w_walk ?_ | refine w_rng1 ?_ | refine w_rng2 ?_ | refine w_enum ?_ | refine w_zip ?_ | refine w_fn ?_ | refine w_comp ?_
    | refine w_var rfl ?_ | refine w_peek rfl ?_ | refine w_peekO rfl ?_ | refine w_varO rfl rfl ?_ | refine w_ret ?_
    | refine ⟨_, ix0, ?_⟩ | refine ⟨_, ix1, ?_⟩ | refine ⟨_, ix2, ?_⟩ | refine ⟨_, ix3, ?_⟩
    | refine ⟨_, rfl, ?_⟩ | refine ⟨rfl, ?_⟩ | refine ⟨Nat.le_of_ble_eq_true rfl, ?_⟩
    | refine ⟨fun _ => ?_, fun h => Bool.noConfusion (show true = false from h)⟩ | refine ⟨fun h => Bool.noConfusion (show false = true from h), fun _ => ?_⟩)
variable {S : Sto} {Q : D → Sto → Prop} {E : Exn → Sto → Prop} {φ : Nat → Fn} {dm : DefM}
end L2.MP
end
section
set_option Elab.async false
set_option linter.all false
set_option maxRecDepth 100000
set_option maxHeartbeats 4000000
namespace L2.MP
open PySem PySem.Spec PyProof.Rows L2.MP
local macro_rules
  | `(tactic| trivial) => `(tactic| first
    | refine w_seq ?_ | refine w_set ?_ | refine w_setOwn ?_ | refine w_setHp ?_ | refine w_retS ?_ | refine w_retHp ?_ | refine w_ite ?_ | refine w_expr ?_ | refine w_asg ?_ | refine w_setIx ?_ | refine w_mut ?_ | refine w_hp ?_ | refine w_lm1 ?_
    | refine w_bl ?_ | refine w_op2 ?_ | refine w_op1 ?_ | refine w_opF1 ?_ | refine w_opF2 ?_ | refine w_chainP ?_ | refine w_and ?_ | refine w_or ?_ | refine w_not ?_ | refine w_notT ?_ | refine w_andT ?_ | refine w_orT ?_ | refine w_tru ?_
    | refine w_fz ?_ | refine w_lst ?_ | refine w_tup ?_ | refine w_cons ?_ | refine w_nil ?_ | refine w_sl ?_ | refine w_slF ?_ | refine w_part ?_ | refine w_part0 ?_ | refine w_sm0 ?_ | refine w_sm1 ?_ | refine w_disp ?_ | refine w_pr ?_ | refine w_pr0 ?_
    | refine w_for ?_ | refine w_walk ?_ | refine w_rng1 ?_ | refine w_rng2 ?_ | refine w_enum ?_ | refine w_zip ?_ | refine w_fn ?_ | refine w_comp ?_
    | refine w_var rfl ?_ | refine w_peek rfl ?_ | refine w_peekO rfl ?_ | refine w_varO rfl rfl ?_ | refine w_ret ?_
    | refine ⟨_, ix0, ?_⟩ | refine ⟨_, ix1, ?_⟩ | refine ⟨_, ix2, ?_⟩ | refine ⟨_, ix3, ?_⟩
    | refine ⟨_, rfl, ?_⟩ | refine ⟨rfl, ?_⟩ | refine ⟨Nat.le_of_ble_eq_true rfl, ?_⟩
    | refine ⟨fun _ => ?_, fun h => Bool.noConfusion (show true = false from h)⟩ | refine ⟨fun h => Bool.noConfusion (show false = true from h), fun _ => ?_⟩)
variable {S : Sto} {Q : D → Sto → Prop} {E : Exn → Sto → Prop} {φ : Nat → Fn} {dm : DefM}
inductive IsR : D → Prop where
  | leaf {b : Bool} : IsR (.tup [.bl b, .non])
  | sub {b : Bool} {r : D} : IsR r → IsR (.tup [.bl b, r])
  | all {b : Bool} {l : List D} : 1 ≤ l.length → l.length ≤ 6 → (∀ x ∈ l, IsR x) → IsR (.tup [.bl b, .tup l])
  | one {b : Bool} {k : Nat} {r : D} : IsR r → IsR (.tup [.bl b, .tup [.int k, r]])
theorem px_pair {a b : D} (h1 : PlX a) (h2 : PlX b) : PlX (.tup [a, b]) := px_tup fun x hx => by
  simp only [List.mem_cons, List.not_mem_nil, or_false] at hx
  rcases hx with rfl | rfl
  · exact h1
  · exact h2
theorem px_bl {b : Bool} : PlX (.bl b) := ⟨0, rfl⟩
theorem px_int {i : Int} : PlX (.int i) := ⟨0, rfl⟩
theorem px_non : PlX .non := ⟨0, rfl⟩
theorem IsR.px {d : D} (h : IsR d) : PlX d := by
  induction h with
  | leaf => exact px_pair px_bl px_non
  | sub _ ih => exact px_pair px_bl ih
  | all _ _ _ ih => exact px_pair px_bl (px_tup ih)
  | one _ ih => exact px_pair px_bl (px_pair px_int ih)
end L2.MP
end
section
set_option Elab.async false
set_option linter.all false
set_option maxRecDepth 100000
set_option maxHeartbeats 4000000
namespace L2.MP
open PySem PySem.Spec PyProof.Rows L2.MP
local macro_rules
  | `(tactic| trivial) => `(tactic| first
    | refine w_seq ?_ | refine w_set ?_ | refine w_setOwn ?_ | refine w_setHp ?_ | refine w_retS ?_ | refine w_retHp ?_ | refine w_ite ?_ | refine w_expr ?_ | refine w_asg ?_ | refine w_setIx ?_ | refine w_mut ?_ | refine w_hp ?_ | refine w_lm1 ?_
    | refine w_bl ?_ | refine w_op2 ?_ | refine w_op1 ?_ | refine w_opF1 ?_ | refine w_opF2 ?_ | refine w_chainP ?_ | refine w_and ?_ | refine w_or ?_ | refine w_not ?_ | refine w_notT ?_ | refine w_andT ?_ | refine w_orT ?_ | refine w_tru ?_
    | refine w_fz ?_ | refine w_lst ?_ | refine w_tup ?_ | refine w_cons ?_ | refine w_nil ?_ | refine w_sl ?_ | refine w_slF ?_ | refine w_part ?_ | refine w_part0 ?_ | refine w_sm0 ?_ | refine w_sm1 ?_ | refine w_disp ?_ | refine w_pr ?_ | refine w_pr0 ?_
    | refine w_for ?_ | refine w_walk ?_ | refine w_rng1 ?_ | refine w_rng2 ?_ | refine w_enum ?_ | refine w_zip ?_ | refine w_fn ?_ | refine w_comp ?_
    | refine w_var rfl ?_ | refine w_peek rfl ?_ | refine w_peekO rfl ?_ | refine w_varO rfl rfl ?_ | refine w_ret ?_
    | refine ⟨_, ix0, ?_⟩ | refine ⟨_, ix1, ?_⟩ | refine ⟨_, ix2, ?_⟩ | refine ⟨_, ix3, ?_⟩
    | refine ⟨_, rfl, ?_⟩ | refine ⟨rfl, ?_⟩ | refine ⟨Nat.le_of_ble_eq_true rfl, ?_⟩
    | refine ⟨fun _ => ?_, fun h => Bool.noConfusion (show true = false from h)⟩ | refine ⟨fun h => Bool.noConfusion (show false = true from h), fun _ => ?_⟩)
variable {S : Sto} {Q : D → Sto → Prop} {E : Exn → Sto → Prop} {φ : Nat → Fn} {dm : DefM}
end L2.MP
end
section
set_option Elab.async false
set_option linter.all false
set_option maxRecDepth 100000
set_option maxHeartbeats 4000000
namespace L2.MP
open PySem PySem.Spec PyProof.Rows L2.MP
local macro_rules
  | `(tactic| trivial) => `(tactic| first
    | refine w_seq ?_ | refine w_set ?_ | refine w_setOwn ?_ | refine w_setHp ?_ | refine w_retS ?_ | refine w_retHp ?_ | refine w_ite ?_ | refine w_expr ?_ | refine w_asg ?_ | refine w_setIx ?_ | refine w_mut ?_ | refine w_hp ?_ | refine w_lm1 ?_
    | refine w_bl ?_ | refine w_op2 ?_ | refine w_op1 ?_ | refine w_opF1 ?_ | refine w_opF2 ?_ | refine w_chainP ?_ | refine w_and ?_ | refine w_or ?_ | refine w_not ?_ | refine w_notT ?_ | refine w_andT ?_ | refine w_orT ?_ | refine w_tru ?_
    | refine w_fz ?_ | refine w_lst ?_ | refine w_tup ?_ | refine w_cons ?_ | refine w_nil ?_ | refine w_sl ?_ | refine w_slF ?_ | refine w_part ?_ | refine w_part0 ?_ | refine w_sm0 ?_ | refine w_sm1 ?_ | refine w_disp ?_ | refine w_pr ?_ | refine w_pr0 ?_
    | refine w_for ?_ | refine w_walk ?_ | refine w_rng1 ?_ | refine w_rng2 ?_ | refine w_enum ?_ | refine w_zip ?_ | refine w_fn ?_ | refine w_comp ?_
    | refine w_var rfl ?_ | refine w_peek rfl ?_ | refine w_peekO rfl ?_ | refine w_varO rfl rfl ?_ | refine w_ret ?_
    | refine ⟨_, ix0, ?_⟩ | refine ⟨_, ix1, ?_⟩ | refine ⟨_, ix2, ?_⟩ | refine ⟨_, ix3, ?_⟩
    | refine ⟨_, rfl, ?_⟩ | refine ⟨rfl, ?_⟩ | refine ⟨Nat.le_of_ble_eq_true rfl, ?_⟩
    | refine ⟨fun _ => ?_, fun h => Bool.noConfusion (show true = false from h)⟩ | refine ⟨fun h => Bool.noConfusion (show false = true from h), fun _ => ?_⟩)
variable {S : Sto} {Q : D → Sto → Prop} {E : Exn → Sto → Prop} {φ : Nat → Fn} {dm : DefM}
end L2.MP
end
section
set_option Elab.async false
set_option linter.all false
set_option maxRecDepth 100000
set_option maxHeartbeats 4000000
namespace L2.MP
open PySem PySem.Spec PyProof.Rows L2.MP
local macro_rules
  | `(tactic| trivial) => `(tactic| first
    | refine w_seq ?_ | refine w_set ?_ | refine w_setOwn ?_ | refine w_setHp ?_ | refine w_retS ?_ | refine w_retHp ?_ | refine w_ite ?_ | refine w_expr ?_ | refine w_asg ?_ | refine w_setIx ?_ | refine w_mut ?_ | refine w_hp ?_ | refine w_lm1 ?_
    | refine w_bl ?_ | refine w_op2 ?_ | refine w_op1 ?_ | refine w_opF1 ?_ | refine w_opF2 ?_ | refine w_chainP ?_ | refine w_and ?_ | refine w_or ?_ | refine w_not ?_ | refine w_notT ?_ | refine w_andT ?_ | refine w_orT ?_ | refine w_tru ?_
    | refine w_fz ?_ | refine w_lst ?_ | refine w_tup ?_ | refine w_cons ?_ | refine w_nil ?_ | refine w_sl ?_ | refine w_slF ?_ | refine w_part ?_ | refine w_part0 ?_ | refine w_sm0 ?_ | refine w_sm1 ?_ | refine w_disp ?_ | refine w_pr ?_ | refine w_pr0 ?_
    | refine w_for ?_ | refine w_walk ?_ | refine w_rng1 ?_ | refine w_rng2 ?_ | refine w_enum ?_ | refine w_zip ?_ | refine w_fn ?_ | refine w_comp ?_
    | refine w_var rfl ?_ | refine w_peek rfl ?_ | refine w_peekO rfl ?_ | refine w_varO rfl rfl ?_ | refine w_ret ?_
    | refine ⟨_, ix0, ?_⟩ | refine ⟨_, ix1, ?_⟩ | refine ⟨_, ix2, ?_⟩ | refine ⟨_, ix3, ?_⟩
    | refine ⟨_, rfl, ?_⟩ | refine ⟨rfl, ?_⟩ | refine ⟨Nat.le_of_ble_eq_true rfl, ?_⟩
    | refine ⟨fun _ => ?_, fun h => Bool.noConfusion (show true = false from h)⟩ | refine ⟨fun h => Bool.noConfusion (show false = true from h), fun _ => ?_⟩)
variable {S : Sto} {Q : D → Sto → Prop} {E : Exn → Sto → Prop} {φ : Nat → Fn} {dm : DefM}
theorem len_ne (a b : Nat) : (true != eqD (.int (a : Nat)) (.int (b : Nat))) = decide (a ≠ b) := by
  show (true != ((a : Int) == (b : Int))) = _
  by_cases h : a = b
  · subst h; simp
  · have : ((a : Int) == (b : Int)) = false := by simpa using (by omega : ¬ (a : Int) = b)
    rw [this, decide_eq_true h]; rfl
end L2.MP
end
section
set_option Elab.async false
set_option linter.all false
set_option maxRecDepth 100000
set_option maxHeartbeats 4000000
namespace L2.MP
open PySem PySem.Spec PyProof.Rows L2.MP
local macro_rules
  | `(tactic| trivial) => `(tactic| first
    | refine w_seq ?_ | refine w_set ?_ | refine w_setOwn ?_ | refine w_setHp ?_ | refine w_retS ?_ | refine w_retHp ?_ | refine w_ite ?_ | refine w_expr ?_ | refine w_asg ?_ | refine w_setIx ?_ | refine w_mut ?_ | refine w_hp ?_ | refine w_lm1 ?_
    | refine w_bl ?_ | refine w_op2 ?_ | refine w_op1 ?_ | refine w_opF1 ?_ | refine w_opF2 ?_ | refine w_chainP ?_ | refine w_and ?_ | refine w_or ?_ | refine w_not ?_ | refine w_notT ?_ | refine w_andT ?_ | refine w_orT ?_ | refine w_tru ?_
    | refine w_fz ?_ | refine w_lst ?_ | refine w_tup ?_ | refine w_cons ?_ | refine w_nil ?_ | refine w_sl ?_ | refine w_slF ?_ | refine w_part ?_ | refine w_part0 ?_ | refine w_sm0 ?_ | refine w_sm1 ?_ | refine w_disp ?_ | refine w_pr ?_ | refine w_pr0 ?_
    | refine w_for ?_ | refine w_walk ?_ | refine w_rng1 ?_ | refine w_rng2 ?_ | refine w_enum ?_ | refine w_zip ?_ | refine w_fn ?_ | refine w_comp ?_
    | refine w_var rfl ?_ | refine w_peek rfl ?_ | refine w_peekO rfl ?_ | refine w_varO rfl rfl ?_ | refine w_ret ?_
    | refine ⟨_, ix0, ?_⟩ | refine ⟨_, ix1, ?_⟩ | refine ⟨_, ix2, ?_⟩ | refine ⟨_, ix3, ?_⟩
    | refine ⟨_, rfl, ?_⟩ | refine ⟨rfl, ?_⟩ | refine ⟨Nat.le_of_ble_eq_true rfl, ?_⟩
    | refine ⟨fun _ => ?_, fun h => Bool.noConfusion (show true = false from h)⟩ | refine ⟨fun h => Bool.noConfusion (show false = true from h), fun _ => ?_⟩)
theorem sameDs_of : ∀ {l : List D}, (∀ x ∈ l, sameD x x = true) → sameDs l l = true
  | [], _ => rfl
  | x :: l, h => by
    show (sameD x x && sameDs l l) = true
    rw [h x List.mem_cons_self, sameDs_of fun y hy => h y (List.mem_cons_of_mem _ hy)]; rfl
theorem same_int (i : Int) : sameD (.int i) (.int i) = true := beq_self_eq_true i
theorem same_tup {l : List D} (h : ∀ x ∈ l, sameD x x = true) : sameD (.tup l) (.tup l) = true := sameDs_of h
theorem in1 {P : D → Prop} {a : D} (h : P a) : ∀ x ∈ [a], P x := fun x hx => by simp at hx; exact hx ▸ h
theorem in2 {P : D → Prop} {a b : D} (h1 : P a) (h2 : P b) : ∀ x ∈ [a, b], P x := fun x hx => by
  simp only [List.mem_cons, List.not_mem_nil, or_false] at hx
  rcases hx with rfl | rfl
  · exact h1
  · exact h2
theorem in3 {P : D → Prop} {a b c : D} (h1 : P a) (h2 : P b) (h3 : P c) : ∀ x ∈ [a, b, c], P x := fun x hx => by
  simp only [List.mem_cons, List.not_mem_nil, or_false] at hx
  rcases hx with rfl | rfl | rfl
  · exact h1
  · exact h2
  · exact h3
theorem gOk_of {n : Nat} {l : List D} {S : Sto} (h : S[n]? = some (.lst l)) (hs : ∀ x ∈ l, sameD x x = true) : gOk (some (2 * n)) l S = true := by
  unfold gOk
  dsimp only
  rw [show 2 * n / 2 = n by omega, h]
  dsimp only
  rw [if_pos (by omega)]
  exact sameDs_of hs
theorem same_enum : ∀ {k : Nat} {l : List D}, (∀ x ∈ l, sameD x x = true) → ∀ y ∈ enumFrom k l, sameD y y = true
  | k, [], _, y, h => nomatch h
  | k, d :: r, hs, y, h => by
    have h : y ∈ D.tup [.int k, d] :: enumFrom (k + 1) r := h
    rcases List.mem_cons.mp h with rfl | h
    · exact same_tup (in2 (same_int _) (hs d List.mem_cons_self))
    · exact same_enum (fun x hx => hs x (List.mem_cons_of_mem _ hx)) y h
theorem gOk_en {n : Nat} {l : List D} {S : Sto} (h : S[n]? = some (.lst l)) (hs : ∀ x ∈ l, sameD x x = true) : gOk (some (2 * n + 1)) (enumFrom 0 l) S = true := by
  unfold gOk
  dsimp only
  rw [show (2 * n + 1) / 2 = n by omega, h]
  dsimp only
  rw [if_neg (by omega)]
  exact sameDs_of (same_enum hs)
theorem enum_ref {S : Sto} {n : Nat} {l : List D} (h : S[n]? = some (.lst l)) : enumOf (.ref n) S = some (enumFrom 0 l, some (2 * n + 1)) := by
  unfold enumOf
  dsimp only
  rw [h]
theorem app_len {l : List D} {d : D} (h : l.length < 1000) : appF (.lst l) [d] = some (.lst (l ++ [d]), .non) := by
  have z9 : (1000 : Nat) ≤ sizeLine := by decide
  have h1 : l.length < sizeLine := Nat.lt_of_lt_of_le h z9
  unfold appF
  dsimp only
  rw [if_pos h1]
theorem src_ref {S : Sto} {n : Nat} {l : List D} (h : S[n]? = some (.lst l)) : srcOf (.ref n) S = some (l, some (2 * n)) := by
  unfold srcOf
  dsimp only
  rw [h]
end L2.MP
end
section
set_option Elab.async false
set_option linter.all false
set_option maxRecDepth 100000
set_option maxHeartbeats 4000000
namespace L2.MP
open PySem PySem.Spec PyProof.Rows L2.MP
local macro_rules
  | `(tactic| trivial) => `(tactic| first
    | refine w_seq ?_ | refine w_set ?_ | refine w_setOwn ?_ | refine w_setHp ?_ | refine w_retS ?_ | refine w_retHp ?_ | refine w_ite ?_ | refine w_expr ?_ | refine w_asg ?_ | refine w_setIx ?_ | refine w_mut ?_ | refine w_hp ?_ | refine w_lm1 ?_
    | refine w_bl ?_ | refine w_op2 ?_ | refine w_op1 ?_ | refine w_opF1 ?_ | refine w_opF2 ?_ | refine w_chainP ?_ | refine w_and ?_ | refine w_or ?_ | refine w_not ?_ | refine w_notT ?_ | refine w_andT ?_ | refine w_orT ?_ | refine w_tru ?_
    | refine w_fz ?_ | refine w_lst ?_ | refine w_tup ?_ | refine w_cons ?_ | refine w_nil ?_ | refine w_sl ?_ | refine w_slF ?_ | refine w_part ?_ | refine w_part0 ?_ | refine w_sm0 ?_ | refine w_sm1 ?_ | refine w_disp ?_ | refine w_pr ?_ | refine w_pr0 ?_
    | refine w_for ?_ | refine w_walk ?_ | refine w_rng1 ?_ | refine w_rng2 ?_ | refine w_enum ?_ | refine w_zip ?_ | refine w_fn ?_ | refine w_comp ?_
    | refine w_var rfl ?_ | refine w_peek rfl ?_ | refine w_peekO rfl ?_ | refine w_varO rfl rfl ?_ | refine w_ret ?_
    | refine ⟨_, ix0, ?_⟩ | refine ⟨_, ix1, ?_⟩ | refine ⟨_, ix2, ?_⟩ | refine ⟨_, ix3, ?_⟩
    | refine ⟨_, rfl, ?_⟩ | refine ⟨rfl, ?_⟩ | refine ⟨Nat.le_of_ble_eq_true rfl, ?_⟩
    | refine ⟨fun _ => ?_, fun h => Bool.noConfusion (show true = false from h)⟩ | refine ⟨fun h => Bool.noConfusion (show false = true from h), fun _ => ?_⟩)
variable {S : Sto} {Q : D → Sto → Prop} {E : Exn → Sto → Prop} {φ : Nat → Fn} {dm : DefM}
end L2.MP
end
section
set_option Elab.async false
set_option linter.all false
set_option maxRecDepth 100000
set_option maxHeartbeats 4000000
namespace L2.MP
open PySem PySem.Spec PyProof.Rows L2.MP
local macro_rules
  | `(tactic| trivial) => `(tactic| first
    | refine w_seq ?_ | refine w_set ?_ | refine w_setOwn ?_ | refine w_setHp ?_ | refine w_retS ?_ | refine w_retHp ?_ | refine w_ite ?_ | refine w_expr ?_ | refine w_asg ?_ | refine w_setIx ?_ | refine w_mut ?_ | refine w_hp ?_ | refine w_lm1 ?_
    | refine w_bl ?_ | refine w_op2 ?_ | refine w_op1 ?_ | refine w_opF1 ?_ | refine w_opF2 ?_ | refine w_chainP ?_ | refine w_and ?_ | refine w_or ?_ | refine w_not ?_ | refine w_notT ?_ | refine w_andT ?_ | refine w_orT ?_ | refine w_tru ?_
    | refine w_fz ?_ | refine w_lst ?_ | refine w_tup ?_ | refine w_cons ?_ | refine w_nil ?_ | refine w_sl ?_ | refine w_slF ?_ | refine w_part ?_ | refine w_part0 ?_ | refine w_sm0 ?_ | refine w_sm1 ?_ | refine w_disp ?_ | refine w_pr ?_ | refine w_pr0 ?_
    | refine w_for ?_ | refine w_walk ?_ | refine w_rng1 ?_ | refine w_rng2 ?_ | refine w_enum ?_ | refine w_zip ?_ | refine w_fn ?_ | refine w_comp ?_
    | refine w_var rfl ?_ | refine w_peek rfl ?_ | refine w_peekO rfl ?_ | refine w_varO rfl rfl ?_ | refine w_ret ?_
    | refine ⟨_, ix0, ?_⟩ | refine ⟨_, ix1, ?_⟩ | refine ⟨_, ix2, ?_⟩ | refine ⟨_, ix3, ?_⟩
    | refine ⟨_, rfl, ?_⟩ | refine ⟨rfl, ?_⟩ | refine ⟨Nat.le_of_ble_eq_true rfl, ?_⟩
    | refine ⟨fun _ => ?_, fun h => Bool.noConfusion (show true = false from h)⟩ | refine ⟨fun h => Bool.noConfusion (show false = true from h), fun _ => ?_⟩)
variable {S : Sto} {Q : D → Sto → Prop} {E : Exn → Sto → Prop} {φ : Nat → Fn} {dm : DefM}
theorem Sm.px : ∀ {n : Nat} {d : D}, Sm n d → PlX d
  | n + 1, d, h => by
    unfold Sm at h
    rcases h with rfl | ⟨b, rfl⟩ | ⟨i, rfl⟩ | ⟨l, rfl, _, h⟩
    · exact px_non
    · exact px_bl
    · exact px_int
    · exact px_tup fun x hx => (h x hx).px
theorem px_lst {l : List D} (h : ∀ x ∈ l, PlX x) : PlX (.lst l) := by
  obtain ⟨n, hn⟩ := px_all h
  exact ⟨n + 1, hn⟩
theorem px_dk {a : List Key} {b : List D} : PlX (.dk a b) := ⟨0, rfl⟩
end L2.MP
end
section
set_option Elab.async false
set_option linter.all false
set_option maxRecDepth 100000
set_option maxHeartbeats 4000000
namespace L2.MP
open PySem PySem.Spec PyProof.Rows L2.MP
local macro_rules
  | `(tactic| trivial) => `(tactic| first
    | refine w_seq ?_ | refine w_set ?_ | refine w_setOwn ?_ | refine w_setHp ?_ | refine w_retS ?_ | refine w_retHp ?_ | refine w_ite ?_ | refine w_expr ?_ | refine w_asg ?_ | refine w_setIx ?_ | refine w_mut ?_ | refine w_hp ?_ | refine w_lm1 ?_
    | refine w_bl ?_ | refine w_op2 ?_ | refine w_op1 ?_ | refine w_opF1 ?_ | refine w_opF2 ?_ | refine w_chainP ?_ | refine w_and ?_ | refine w_or ?_ | refine w_not ?_ | refine w_notT ?_ | refine w_andT ?_ | refine w_orT ?_ | refine w_tru ?_
    | refine w_fz ?_ | refine w_lst ?_ | refine w_tup ?_ | refine w_cons ?_ | refine w_nil ?_ | refine w_sl ?_ | refine w_slF ?_ | refine w_part ?_ | refine w_part0 ?_ | refine w_sm0 ?_ | refine w_sm1 ?_ | refine w_disp ?_ | refine w_pr ?_ | refine w_pr0 ?_
    | refine w_for ?_ | refine w_walk ?_ | refine w_rng1 ?_ | refine w_rng2 ?_ | refine w_enum ?_ | refine w_zip ?_ | refine w_fn ?_ | refine w_comp ?_
    | refine w_var rfl ?_ | refine w_peek rfl ?_ | refine w_peekO rfl ?_ | refine w_varO rfl rfl ?_ | refine w_ret ?_
    | refine ⟨_, ix0, ?_⟩ | refine ⟨_, ix1, ?_⟩ | refine ⟨_, ix2, ?_⟩ | refine ⟨_, ix3, ?_⟩
    | refine ⟨_, rfl, ?_⟩ | refine ⟨rfl, ?_⟩ | refine ⟨Nat.le_of_ble_eq_true rfl, ?_⟩
    | refine ⟨fun _ => ?_, fun h => Bool.noConfusion (show true = false from h)⟩ | refine ⟨fun h => Bool.noConfusion (show false = true from h), fun _ => ?_⟩)
variable {S : Sto} {Q : D → Sto → Prop} {E : Exn → Sto → Prop} {φ : Nat → Fn} {dm : DefM}
def adj (xs : List Str) (k : Nat) : Bool := match xs[k]?, xs[k + 1]? with
  | some a, some b => decide (a.cps.toList < b.cps.toList)
  | _, _ => false
def riseS (xs : List Str) : Bool := (List.range (xs.length - 1)).all (adj xs)
def strsOf : List D → List Str
  | .str s :: r => s :: strsOf r
  | _ :: r => strsOf r
  | [] => []
theorem strsOf_map (xs : List Str) : strsOf (xs.map D.str) = xs := by
  induction xs with
  | nil => rfl
  | cons x xs ih => show x :: strsOf (xs.map D.str) = _; rw [ih]
theorem all_map (p : D → Bool) (l : List D) : allD (.lst (l.map fun d => D.bl (p d))) = some (.bl (l.all p)) := by
  have e : (l.map fun d => D.bl (p d)) = (l.map p).map D.bl := by rw [List.map_map]; rfl
  rw [e]
  show Option.map _ (getBools _) = _
  rw [bools_map]
  show some (D.bl ((l.map p).all id)) = _
  rw [List.all_map]; rfl
theorem PlX.flat {d : D} (h : PlX d) : Flat d := plD_flat h.choose_spec
end L2.MP
end
section
set_option Elab.async false
set_option linter.all false
set_option maxRecDepth 100000
set_option maxHeartbeats 4000000
namespace L2.MP
open PySem PySem.Spec PyProof.Rows L2.MP
local macro_rules
  | `(tactic| trivial) => `(tactic| first
    | refine w_seq ?_ | refine w_set ?_ | refine w_setOwn ?_ | refine w_setHp ?_ | refine w_retS ?_ | refine w_retHp ?_ | refine w_ite ?_ | refine w_expr ?_ | refine w_asg ?_ | refine w_setIx ?_ | refine w_mut ?_ | refine w_hp ?_ | refine w_lm1 ?_
    | refine w_bl ?_ | refine w_op2 ?_ | refine w_op1 ?_ | refine w_opF1 ?_ | refine w_opF2 ?_ | refine w_chainP ?_ | refine w_and ?_ | refine w_or ?_ | refine w_not ?_ | refine w_notT ?_ | refine w_andT ?_ | refine w_orT ?_ | refine w_tru ?_
    | refine w_fz ?_ | refine w_lst ?_ | refine w_tup ?_ | refine w_cons ?_ | refine w_nil ?_ | refine w_sl ?_ | refine w_slF ?_ | refine w_part ?_ | refine w_part0 ?_ | refine w_sm0 ?_ | refine w_sm1 ?_ | refine w_disp ?_ | refine w_pr ?_ | refine w_pr0 ?_
    | refine w_for ?_ | refine w_walk ?_ | refine w_rng1 ?_ | refine w_rng2 ?_ | refine w_enum ?_ | refine w_zip ?_ | refine w_fn ?_ | refine w_comp ?_ | refine w_count ?_ | refine w_raise0 ?_ | refine w_raise1 ?_ | refine w_augIx ?_
    | refine w_var rfl ?_ | refine w_peek rfl ?_ | refine w_peekO rfl ?_ | refine w_varO rfl rfl ?_ | refine w_ret ?_
    | refine ⟨_, ix0, ?_⟩ | refine ⟨_, ix1, ?_⟩ | refine ⟨_, ix2, ?_⟩ | refine ⟨_, ix3, ?_⟩
    | refine rg_and ?_ | refine ⟨_, rfl, ?_⟩ | refine ⟨rfl, ?_⟩ | refine ⟨Nat.le_of_ble_eq_true rfl, ?_⟩
    | refine ⟨fun _ => ?_, fun h => Bool.noConfusion (show true = false from h)⟩ | refine ⟨fun h => Bool.noConfusion (show false = true from h), fun _ => ?_⟩)
def ltN : D → D → Bool
  | .int i, .int j => decide (i < j)
  | _, _ => false
def qtD : D → Bool
  | .tup [a, b] => isND a && (isND b && ltN a b)
  | _ => false
def quietTB (φ : Nat → Fn) (c_is_time : Nat) : M Flo :=
  (dSeq (dIf (dOrT (dNotT (dTru (dOp1 (isiD "tuple") (dPeek 0)))) (dOrT (dBl (dOp2 (cmpEq true) (dOp1 lenD (dPeek 0)) (M.ret (D.int 2)))) (dOrT (dNotT (dTru (dFn φ c_is_time 1 (dArgs [(dOp2 ixD (dPeek 0) (M.ret (D.int 0)))])))) (dNotT (dTru (dFn φ c_is_time 1 (dArgs [(dOp2 ixD (dPeek 0) (M.ret (D.int 1)))]))))))) (dRet (M.ret (D.bl false))) (M.ret .nx))
  (dRet (dOp2 ltD (dOp2 ixD (dPeek 0) (M.ret (D.int 0))) (dOp2 ixD (dPeek 0) (M.ret (D.int 1))))))
theorem ND_int {d : D} (h : isND d = true) : ∃ i, d = .int i ∧ isN i = true := by
  cases d <;> simp only [isND] at h <;> try (exact absurd h (by decide))
  exact ⟨_, rfl, h⟩
theorem qt_np {l : List D} (h : l.length ≠ 2) : qtD (.tup l) = false := by
  unfold qtD
  split
  · rename_i e; injection e with e; subst e; exact absurd rfl h
  · rfl
theorem quietT_ok (h1 : dm.ps.length = 1) (h2 : dm.C.N.length = 1) {ct : Nat} (ht : PF (φ ct) Flat (fun d => .bl (isND d))) : PF (runD dm (quietTB φ ct)) PlX (fun d => .bl (qtD d)) := fun d S Q E hd q => by
  have q : Q (.bl (qtD d)) S := q
  refine w_def (by rw [h1]; rfl) [.val d] (by rw [h2]; rfl) ?_
  unfold quietTB
  obtain ⟨n, h⟩ := id hd
  cases d with
  | tup l =>
    repeat trivial
    refine br_eq (p := l.length ≠ 2) (len_ne l.length 2) (fun h => ?_) (fun h => ?_)
    · rw [qt_np h] at q
      repeat trivial
    · have h : l.length = 2 := by omega
      match l, h with
      | [a, b], _ =>
      have e : qtD (.tup [a, b]) = (isND a && (isND b && ltN a b)) := rfl
      rw [e] at q
      repeat trivial
      refine pf_at ht (px_mem hd a (by simp)).flat rfl ?_
      cases ea : isND a with
      | false => rw [ea] at q; repeat trivial
      | true =>
        rw [ea, Bool.true_and] at q
        repeat trivial
        refine pf_at ht (px_mem hd b (by simp)).flat rfl ?_
        cases eb : isND b with
        | false => rw [eb] at q; repeat trivial
        | true =>
          rw [eb, Bool.true_and] at q
          obtain ⟨i, rfl, _⟩ := ND_int ea
          obtain ⟨j, rfl, _⟩ := ND_int eb
          repeat trivial
  | non => repeat trivial
  | bl b => repeat trivial
  | int i => repeat trivial
  | str s => repeat trivial
  | lst l => repeat trivial
  | dk a b => repeat trivial
  | dt a b => repeat trivial
  | _ => cases n <;> cases h
abbrev Qt := Int × Int
def qtE (p : Qt) : D := .tup [.int p.1, .int p.2]
def gapAt (ps : List Qt) (k : Nat) : Bool := match ps[k]?, ps[k + 1]? with
  | some p, some q => decide (p.2 < q.1)
  | _, _ => false
def gapB (ps : List Qt) : Bool := (List.range (ps.length - 1)).all (gapAt ps)
def gapD (ps : List Qt) : D → D
  | .int k => .bl (gapAt ps k.toNat)
  | _ => .non
def qtP : D → Qt
  | .tup [.int a, .int b] => (a, b)
  | _ => (0, 0)
theorem qtP_map (ps : List Qt) : (ps.map qtE).map qtP = ps := by
  rw [List.map_map]
  conv => rhs; rw [← List.map_id ps]
  rfl
theorem all_qt : ∀ {l : List D}, l.all qtD = true → ∃ ps : List Qt, l = ps.map qtE ∧ ∀ p ∈ ps, isN p.1 = true ∧ isN p.2 = true ∧ p.1 < p.2
  | [], _ => ⟨[], rfl, fun _ h => nomatch h⟩
  | x :: l, h => by
    rw [List.all_cons, Bool.and_eq_true] at h
    obtain ⟨ps, rfl, hp⟩ := all_qt h.2
    have hx := h.1
    unfold qtD at hx
    split at hx
    · rename_i a b
      rw [Bool.and_eq_true, Bool.and_eq_true] at hx
      obtain ⟨i, rfl, k1⟩ := ND_int hx.1
      obtain ⟨j, rfl, k2⟩ := ND_int hx.2.1
      refine ⟨(i, j) :: ps, rfl, fun p hp' => ?_⟩
      rcases List.mem_cons.mp hp' with rfl | hp'
      · exact ⟨k1, k2, of_decide_eq_true hx.2.2⟩
      · exact hp p hp'
    · cases hx
def quietD : D → Bool
  | .tup l => !(decide ((8 : Int) < (l.length : Nat))) && (l.all qtD && gapB (l.map qtP))
  | _ => false
def quietB (φ : Nat → Fn) (c_qt : Nat) : M Flo :=
  (dSeq (dIf (dOrT (dNotT (dTru (dOp1 (isiD "tuple") (dPeek 0)))) (dOrT (dBl (dOp2 gtD (dOp1 lenD (dPeek 0)) (M.ret (D.int 8)))) (dNotT (dTru (dOp1 allD (dFz (dComp (dWalk (dVar 0)) (gNm 1) (M.ret true) (dFn φ c_qt 1 (dArgs [(dVar 1)])) [1]))))))) (dRet (M.ret (D.bl false))) (M.ret .nx))
  (dRet (dOp1 allD (dFz (dComp (dRng1 (dOp2 subD (dOp1 lenD (dPeek 0)) (M.ret (D.int 1)))) (gNm 2) (M.ret true) (dOp2 ltD (dOp2 ixD (dOp2 ixD (dPeek 0) (dPeek 2)) (M.ret (D.int 1))) (dOp2 ixD (dOp2 ixD (dPeek 0) (dOp2 addD (dPeek 2) (M.ret (D.int 1)))) (M.ret (D.int 0)))) [2])))))
theorem upto_gap (xs : List Qt) : (upto 0 ((xs.length : Int) - 1)).map (gapD xs) = ((List.range (xs.length - 1)).map (gapAt xs)).map D.bl := by
  have e : ((xs.length : Int) - 1 - 0).toNat = xs.length - 1 := by omega
  unfold upto
  rw [e, List.map_map, List.map_map]
  refine List.map_congr_left fun k hk => ?_
  show D.bl (gapAt xs (0 + (k : Int)).toNat) = _
  rw [show ((0 : Int) + (k : Int)).toNat = k by omega]
  rfl
theorem quiet_ok (h1 : dm.ps.length = 1) (h2 : dm.C.N.length = 3) {cq : Nat} (hq : PF (φ cq) PlX (fun d => .bl (qtD d))) : PF (runD dm (quietB φ cq)) PlX (fun d => .bl (quietD d)) := fun d S Q E hd q => by
  have z9 : (200 : Nat) ≤ sizeLine := by decide
  have q : Q (.bl (quietD d)) S := q
  refine w_def (by rw [h1]; rfl) [.val d, .no, .no] (by rw [h2]; rfl) ?_
  unfold quietB
  obtain ⟨n, h⟩ := id hd
  cases d with
  | tup l =>
    have e : quietD (.tup l) = (!(decide ((8 : Int) < (l.length : Nat))) && (l.all qtD && gapB (l.map qtP))) := rfl
    repeat trivial
    refine br_dec (fun h6 => ?_) (fun h6 => ?_)
    · rw [e, decide_eq_true h6] at q
      repeat trivial
    · rw [e, decide_eq_false h6, Bool.not_false, Bool.true_and] at q
      repeat trivial
      refine w_compM (l := l) (fun d => .bl (qtD d)) (few_line (by omega)) (fun d hd' => ?_) ?_
      · refine ⟨_, rfl, ?_⟩
        repeat trivial
        refine pf_at hq (px_mem hd d hd') rfl ?_
        repeat trivial
      · repeat trivial
        refine ⟨_, all_map qtD l, _, rfl, ?_⟩
        cases ea : l.all qtD with
        | false =>
          rw [ea] at q
          repeat trivial
        | true =>
          rw [ea, Bool.true_and] at q
          obtain ⟨ps, rfl, hx⟩ := all_qt ea
          rw [qtP_map] at q
          rw [List.length_map] at h6
          have el : (ps.map qtE).length = ps.length := List.length_map _
          have hall : allD (.lst (((List.range (ps.length - 1)).map (gapAt ps)).map D.bl)) = some (.bl (gapB ps)) := by
            show Option.map _ (getBools _) = _
            rw [bools_map]
            show some (D.bl (((List.range (ps.length - 1)).map (gapAt ps)).all id)) = _
            rw [List.all_map]; rfl
          repeat trivial
          rw [el]
          refine ⟨by simp [rgB]; omega, ?_⟩
          refine w_compM (l := upto 0 ((ps.length : Int) - 1)) (gapD ps) (by rw [upto_len]; omega) (fun d hd => ?_) ?_
          · obtain ⟨k, rfl, k0, k1⟩ := upto_mem hd
            obtain ⟨k, rfl⟩ := Int.eq_ofNat_of_zero_le k0
            have e1 := List.getElem?_eq_getElem (by omega : k < ps.length)
            have e2 := List.getElem?_eq_getElem (by omega : k + 1 < ps.length)
            have i1 : ixD (.tup (ps.map qtE)) (.int (k : Nat)) = some (qtE ps[k]) := atI_nat (by rw [List.getElem?_map, e1]; rfl)
            have i2 : ixD (.tup (ps.map qtE)) (.int (((k + 1 : Nat)) : Int)) = some (qtE ps[k + 1]) := atI_nat (by rw [List.getElem?_map, e2]; rfl)
            have e4 : (((k + 1 : Nat)) : Int) = (k : Int) + 1 := by omega
            rw [e4] at i2
            have e3 : gapD ps (.int (k : Nat)) = .bl (decide (ps[k].2 < ps[k + 1].1)) := by
              show D.bl (gapAt ps ((k : Nat) : Int).toNat) = _
              rw [Int.toNat_natCast]
              unfold gapAt
              rw [e1, e2]
            rw [e3]
            refine ⟨_, rfl, ?_⟩
            repeat trivial
            refine ⟨_, i1, ?_⟩
            unfold qtE
            repeat trivial
            refine ⟨_, i2, ?_⟩
            repeat trivial
          · rw [upto_gap]
            repeat trivial
            refine ⟨_, hall, ?_⟩
            exact q
  | non => repeat trivial
  | bl b => repeat trivial
  | int i => repeat trivial
  | str s => repeat trivial
  | lst l => repeat trivial
  | dk a b => repeat trivial
  | dt a b => repeat trivial
  | _ => cases n <;> cases h
end L2.MP
end
section
set_option Elab.async false
set_option linter.all false
set_option maxRecDepth 100000
set_option maxHeartbeats 4000000
namespace L2.MP
open PySem PySem.Spec PyProof.Rows L2.MP
local macro_rules
  | `(tactic| trivial) => `(tactic| first
    | refine w_seq ?_ | refine w_set ?_ | refine w_setOwn ?_ | refine w_setHp ?_ | refine w_retS ?_ | refine w_retHp ?_ | refine w_ite ?_ | refine w_expr ?_ | refine w_asg ?_ | refine w_setIx ?_ | refine w_mut ?_ | refine w_hp ?_ | refine w_lm1 ?_
    | refine w_bl ?_ | refine w_op2 ?_ | refine w_op1 ?_ | refine w_opF1 ?_ | refine w_opF2 ?_ | refine w_chainP ?_ | refine w_and ?_ | refine w_or ?_ | refine w_not ?_ | refine w_notT ?_ | refine w_andT ?_ | refine w_orT ?_ | refine w_tru ?_
    | refine w_fz ?_ | refine w_lst ?_ | refine w_tup ?_ | refine w_cons ?_ | refine w_nil ?_ | refine w_sl ?_ | refine w_slF ?_ | refine w_part ?_ | refine w_part0 ?_ | refine w_sm0 ?_ | refine w_sm1 ?_ | refine w_disp ?_ | refine w_pr ?_ | refine w_pr0 ?_
    | refine w_for ?_ | refine w_walk ?_ | refine w_rng1 ?_ | refine w_rng2 ?_ | refine w_enum ?_ | refine w_zip ?_ | refine w_fn ?_ | refine w_comp ?_
    | refine w_var rfl ?_ | refine w_peek rfl ?_ | refine w_peekO rfl ?_ | refine w_varO rfl rfl ?_ | refine w_ret ?_
    | refine ⟨_, ix0, ?_⟩ | refine ⟨_, ix1, ?_⟩ | refine ⟨_, ix2, ?_⟩ | refine ⟨_, ix3, ?_⟩
    | refine rg_and ?_ | refine ⟨_, rfl, ?_⟩ | refine ⟨rfl, ?_⟩ | refine ⟨Nat.le_of_ble_eq_true rfl, ?_⟩
    | refine ⟨fun _ => ?_, fun h => Bool.noConfusion (show true = false from h)⟩ | refine ⟨fun h => Bool.noConfusion (show false = true from h), fun _ => ?_⟩)
variable {S : Sto} {Q : D → Sto → Prop} {E : Exn → Sto → Prop} {φ : Nat → Fn} {dm : DefM}
abbrev Sof := List (Ofr × Int)
def onD (p : Ofr × Int) : D := .tup [p.1.toD, .int p.2]
def setD (s : Sof) : List D := s.map onD
structure SetOk (n : Nat) (s : Sof) : Prop where
  two : s.length = 2 ∨ s.length = 3
  wish : ∀ p ∈ s, p.1.wish.fine = true ∧ p.1.wish.deep ≤ n
  card : ∀ p ∈ s, p.1.card.few
theorem SetOk.line {n : Nat} {s : Sof} (h : SetOk n s) : (setD s).length ≤ sizeLine := few_line (by rw [setD, List.length_map]; have := h.two; omega)
def SF (F : Fn) (n : Nat) (f : Sof → D) : Prop := ∀ (s : Sof) (S : Sto) (Q : D → Sto → Prop) (E : Exn → Sto → Prop), SetOk n s → Q (f s) S → Wc (F [.lst (setD s)] S) Q E
def leastL (s : Sof) : Int := minI (s.map (·.2))
def kindOf : D → D
  | .tup [.tup (_ :: .tup (_ :: k :: _) :: _), _] => k
  | _ => .non
def namesS (s : Sof) : List Str := s.map fun p => p.1.card.name
theorem getStrs_map : ∀ l : List Str, getStrs (l.map D.str) = some l
  | [] => rfl
  | a :: l => by rw [List.map_cons]; unfold getStrs; rw [getStrs_map l]; rfl
def alikeS (s : Sof) : Bool := decide (((onto (namesS s) []).length : Int) < s.length)
end L2.MP
end
section
set_option Elab.async false
set_option linter.all false
set_option maxRecDepth 100000
set_option maxHeartbeats 4000000
namespace L2.MP
open PySem PySem.Spec PyProof.Rows L2.MP
local macro_rules
  | `(tactic| trivial) => `(tactic| first
    | refine w_seq ?_ | refine w_set ?_ | refine w_setOwn ?_ | refine w_setHp ?_ | refine w_retS ?_ | refine w_retHp ?_ | refine w_ite ?_ | refine w_expr ?_ | refine w_asg ?_ | refine w_setIx ?_ | refine w_mut ?_ | refine w_hp ?_ | refine w_lm1 ?_
    | refine w_bl ?_ | refine w_op2 ?_ | refine w_op1 ?_ | refine w_opF1 ?_ | refine w_opF2 ?_ | refine w_chainP ?_ | refine w_and ?_ | refine w_or ?_ | refine w_not ?_ | refine w_notT ?_ | refine w_andT ?_ | refine w_orT ?_ | refine w_tru ?_
    | refine w_fz ?_ | refine w_lst ?_ | refine w_tup ?_ | refine w_cons ?_ | refine w_nil ?_ | refine w_sl ?_ | refine w_slF ?_ | refine w_part ?_ | refine w_part0 ?_ | refine w_sm0 ?_ | refine w_sm1 ?_ | refine w_disp ?_ | refine w_pr ?_ | refine w_pr0 ?_
    | refine w_for ?_ | refine w_walk ?_ | refine w_rng1 ?_ | refine w_rng2 ?_ | refine w_enum ?_ | refine w_zip ?_ | refine w_fn ?_ | refine w_comp ?_
    | refine w_var rfl ?_ | refine w_peek rfl ?_ | refine w_peekO rfl ?_ | refine w_varO rfl rfl ?_ | refine w_ret ?_
    | refine ⟨_, ix0, ?_⟩ | refine ⟨_, ix1, ?_⟩ | refine ⟨_, ix2, ?_⟩ | refine ⟨_, ix3, ?_⟩
    | refine rg_and ?_ | refine ⟨_, rfl, ?_⟩ | refine ⟨rfl, ?_⟩ | refine ⟨Nat.le_of_ble_eq_true rfl, ?_⟩
    | refine ⟨fun _ => ?_, fun h => Bool.noConfusion (show true = false from h)⟩ | refine ⟨fun h => Bool.noConfusion (show false = true from h), fun _ => ?_⟩)
variable {S : Sto} {Q : D → Sto → Prop} {E : Exn → Sto → Prop} {φ : Nat → Fn} {dm : DefM}
structure Near (s : Sof) : Prop where
  two : s.length = 2 ∨ s.length = 3
  good : ∀ p ∈ s, p.1.good ∧ p.1.card.kind = "rye" ∧ p.1.wish = .any ∧ 1 ≤ p.2
  names : (namesS s).Nodup
theorem Near.ok {s : Sof} (h : Near s) (n : Nat) : SetOk (n + 1) s := ⟨h.two, fun p hp => by rw [(h.good p hp).2.2.1]; exact ⟨rfl, by simp [W.deep]⟩, fun p hp => (h.good p hp).1.card.few⟩
theorem onto_nodup : ∀ {l L : List Str}, l.Nodup → (∀ x ∈ l, x ∉ L) → (onto l L).length = l.length + L.length
  | [], L, _, _ => by simp [onto]
  | x :: l, L, h, hL => by
    show (onto l (if x ∈ L then L else x :: L)).length = _
    rw [if_neg (hL x List.mem_cons_self)]
    rw [List.nodup_cons] at h
    rw [onto_nodup h.2 fun y hy => by
      rw [List.mem_cons]
      rintro (rfl | hz)
      · exact h.1 hy
      · exact hL y (List.mem_cons_of_mem _ hy) hz]
    simp; omega
theorem Near.alike {s : Sof} (h : Near s) : alikeS s = false := by
  unfold alikeS
  have := onto_nodup (L := []) h.names fun _ _ z => nomatch z
  have e : (namesS s).length = s.length := List.length_map _
  exact decide_eq_false (by rw [this, e]; simp)
theorem minI_ge {b : Int} : ∀ {l : List Int}, 0 < l.length → (∀ x ∈ l, b ≤ x) → b ≤ minI l
  | [], h, _ => absurd h (by simp)
  | [a], _, h => h a List.mem_cons_self
  | a :: c :: l, _, h => by
    show b ≤ min a (minI (c :: l))
    have := h a List.mem_cons_self
    have := minI_ge (l := c :: l) (by simp) fun x hx => h x (List.mem_cons_of_mem _ hx)
    omega
theorem Near.least {s : Sof} (h : Near s) : 1 ≤ leastL s := minI_ge (by have := h.two; rw [List.length_map]; omega) fun x hx => by
  obtain ⟨p, hp, rfl⟩ := List.mem_map.mp hx
  exact (h.good p hp).2.2.2
abbrev sides2 : List Str := ["give", "take"]
abbrev sides3 : List Str := ["give", "take", "bear"]
end L2.MP
end
section
set_option Elab.async false
set_option linter.all false
set_option maxRecDepth 100000
set_option maxHeartbeats 4000000
namespace L2.MP
open PySem PySem.Spec PyProof.Rows L2.MP
local macro_rules
  | `(tactic| trivial) => `(tactic| first
    | refine w_seq ?_ | refine w_set ?_ | refine w_setOwn ?_ | refine w_setHp ?_ | refine w_retS ?_ | refine w_retHp ?_ | refine w_ite ?_ | refine w_expr ?_ | refine w_asg ?_ | refine w_setIx ?_ | refine w_mut ?_ | refine w_hp ?_ | refine w_lm1 ?_
    | refine w_bl ?_ | refine w_op2 ?_ | refine w_op1 ?_ | refine w_opF1 ?_ | refine w_opF2 ?_ | refine w_chainP ?_ | refine w_and ?_ | refine w_or ?_ | refine w_not ?_ | refine w_notT ?_ | refine w_andT ?_ | refine w_orT ?_ | refine w_tru ?_
    | refine w_fz ?_ | refine w_lst ?_ | refine w_tup ?_ | refine w_cons ?_ | refine w_nil ?_ | refine w_sl ?_ | refine w_slF ?_ | refine w_part ?_ | refine w_part0 ?_ | refine w_sm0 ?_ | refine w_sm1 ?_ | refine w_disp ?_ | refine w_pr ?_ | refine w_pr0 ?_
    | refine w_for ?_ | refine w_walk ?_ | refine w_rng1 ?_ | refine w_rng2 ?_ | refine w_enum ?_ | refine w_zip ?_ | refine w_fn ?_ | refine w_comp ?_ | refine w_count ?_ | refine w_raise0 ?_ | refine w_raise1 ?_ | refine w_augIx ?_
    | refine w_var rfl ?_ | refine w_peek rfl ?_ | refine w_peekO rfl ?_ | refine w_varO rfl rfl ?_ | refine w_ret ?_
    | refine ⟨_, ix0, ?_⟩ | refine ⟨_, ix1, ?_⟩ | refine ⟨_, ix2, ?_⟩ | refine ⟨_, ix3, ?_⟩
    | refine rg_and ?_ | refine ⟨_, rfl, ?_⟩ | refine ⟨rfl, ?_⟩ | refine ⟨Nat.le_of_ble_eq_true rfl, ?_⟩
    | refine ⟨fun _ => ?_, fun h => Bool.noConfusion (show true = false from h)⟩ | refine ⟨fun h => Bool.noConfusion (show false = true from h), fun _ => ?_⟩)
def isStrD : D → Bool
  | .str _ => true
  | _ => false
theorem isi_str' {d : D} (h : Flat d) : isiD "str" d = some (.bl (isStrD d)) := by
  have h := h.t
  cases d <;> first | (cases h; done) | rfl | kernel_rfl
theorem all_strs : ∀ {l : List D}, l.all isStrD = true → ∃ xs : List Str, l = xs.map D.str
  | [], _ => ⟨[], rfl⟩
  | x :: l, h => by
    rw [List.all_cons, Bool.and_eq_true] at h
    obtain ⟨xs, rfl⟩ := all_strs h.2
    cases x <;> simp only [isStrD] at h <;> try (exact absurd h.1 (by decide))
    rename_i s
    exact ⟨s :: xs, rfl⟩
theorem lset_tup {l : List Str} (h : l.length < 64) : lsetD (.tup (l.map D.str)) = some (.int (onto l []).length) := by
  show (if (l.map D.str).length < 64 then _ else none) = _
  rw [if_pos (by rw [List.length_map]; exact h), getStrs_map]
theorem len_eqb (a b : Nat) : (false != eqD (.int (a : Nat)) (.int (b : Nat))) = decide (a = b) := by
  show (false != ((a : Int) == (b : Int))) = _
  by_cases h : a = b
  · subst h; simp
  · have : ((a : Int) == (b : Int)) = false := by
      apply beq_eq_false_iff_ne.mpr
      omega
    rw [this, decide_eq_false h]; rfl
def unlikeD (m : Int) : D → Bool
  | .tup l => !(decide (m < (l.length : Nat))) && (l.all isStrD && decide ((onto (strsOf l) []).length = l.length))
  | _ => false
def unlikeWB (φ : Nat → Fn) : M Flo :=
  (dSeq (dIf (dOrT (dNotT (dTru (dOp1 (isiD "tuple") (dPeek 0)))) (dBl (dOp2 gtD (dOp1 lenD (dPeek 0)) (dPeek 1)))) (dRet (M.ret (D.bl false))) (M.ret .nx))
  (dSeq (dIf (dNotT (dTru (dOp1 allD (dFz (dComp (dWalk (dVar 0)) (gNm 2) (M.ret true) (dOp1 (isiD "str") (dPeek 2)) [2]))))) (dRet (M.ret (D.bl false))) (M.ret .nx))
  (dRet (dOp2 (cmpEq false) (dOp1 lsetD (dPeek 0)) (dOp1 lenD (dPeek 0))))))
def UwOk (F : Fn) : Prop := ∀ (d : D) (m : Int) (S : Sto) (Q : D → Sto → Prop) (E : Exn → Sto → Prop), PlX d → m ≤ 50 → Q (.bl (unlikeD m d)) S → Wc (F [d, .int m] S) Q E
theorem unlikeW_ok (h1 : dm.ps.length = 2) (h2 : dm.C.N.length = 3) : UwOk (runD dm (unlikeWB φ)) := fun d m S Q E hd hm q => by
  refine w_def (by rw [h1]; rfl) [.val d, .val (.int m), .no] (by rw [h2]; rfl) ?_
  unfold unlikeWB
  obtain ⟨n, h⟩ := id hd
  cases d with
  | tup l =>
    have e : unlikeD m (.tup l) = (!(decide (m < (l.length : Nat))) && (l.all isStrD && decide ((onto (strsOf l) []).length = l.length))) := rfl
    repeat trivial
    refine br_dec (fun h6 => ?_) (fun h6 => ?_)
    · rw [e, decide_eq_true h6] at q
      repeat trivial
    · rw [e, decide_eq_false h6, Bool.not_false, Bool.true_and] at q
      repeat trivial
      refine w_compM (l := l) (fun d => .bl (isStrD d)) (few_line (by omega)) (fun d hd' => ?_) ?_
      · refine ⟨_, rfl, ?_⟩
        refine w_op1 (w_peek rfl ⟨_, by rw [(px_mem hd d hd').flat.view]; exact isi_str' (px_mem hd d hd').flat, ?_⟩)
        repeat trivial
      · repeat trivial
        refine ⟨_, all_map isStrD l, _, rfl, ?_⟩
        cases ea : l.all isStrD with
        | false =>
          rw [ea] at q
          repeat trivial
        | true =>
          rw [ea, Bool.true_and] at q
          obtain ⟨xs, rfl⟩ := all_strs ea
          rw [strsOf_map] at q
          rw [List.length_map] at h6
          repeat trivial
          refine ⟨_, lset_tup (by omega), ?_⟩
          repeat trivial
          show Q (.bl (false != eqD (.int ((onto xs []).length : Nat)) (.int ((xs.map D.str).length : Nat)))) S
          rw [len_eqb]
          exact q
  | non => repeat trivial
  | bl b => repeat trivial
  | int i => repeat trivial
  | str s => repeat trivial
  | lst l => repeat trivial
  | dk a b => repeat trivial
  | dt a b => repeat trivial
  | _ => cases n <;> cases h
def eltsD : D → List D
  | .tup l => l
  | _ => []
def ruleDs : List D := [D.str "heavy", D.str "great", D.str "small", D.str "soon"]
def ruleD (d : D) : Bool := unlikeD 3 d && (eltsD d).all (fun x => memD x ruleDs)
def borneD (d : D) : Bool := unlikeD 4 d && (eltsD d).all isWD
def isRuleB (φ : Nat → Fn) (c_uw : Nat) : M Flo :=
  (dRet (dAnd (dFn φ c_uw 2 (dArgs [(dVar 0), (M.ret (D.int 3))])) (dOp1 allD (dFz (dComp (dWalk (dVar 0)) (gNm 1) (M.ret true) (dOp2 (inF false) (dPeek 1) (M.ret (D.rt [(D.str "heavy"), (D.str "great"), (D.str "small"), (D.str "soon")]))) [1])))))
def areBorneB (φ : Nat → Fn) (c_uw c_is_word : Nat) : M Flo :=
  (dRet (dAnd (dFn φ c_uw 2 (dArgs [(dVar 0), (M.ret (D.int 4))])) (dOp1 allD (dFz (dComp (dWalk (dVar 0)) (gNm 1) (M.ret true) (dFn φ c_is_word 1 (dArgs [(dVar 1)])) [1])))))
theorem unlikeD_tup {m : Int} {d : D} (h : unlikeD m d = true) : ∃ xs : List Str, d = .tup (xs.map D.str) ∧ (xs.length : Int) ≤ m := by
  unfold unlikeD at h
  split at h
  · rw [Bool.and_eq_true, Bool.and_eq_true] at h
    obtain ⟨xs, rfl⟩ := all_strs h.2.1
    refine ⟨xs, rfl, ?_⟩
    have := h.1
    rw [List.length_map] at this
    simpa using this
  · cases h
theorem isRule_ok (h1 : dm.ps.length = 1) (h2 : dm.C.N.length = 2) {cu : Nat} (hu : UwOk (φ cu)) : PF (runD dm (isRuleB φ cu)) PlX (fun d => .bl (ruleD d)) := fun d S Q E hd q => by
  have q : Q (.bl (ruleD d)) S := q
  unfold ruleD at q
  refine w_def (by rw [h1]; rfl) [.val d, .no] (by rw [h2]; rfl) ?_
  unfold isRuleB
  repeat trivial
  refine hu _ _ _ _ _ hd (by decide) ?_
  cases eu : unlikeD 3 d with
  | false => rw [eu] at q; repeat trivial
  | true =>
    rw [eu, Bool.true_and] at q
    obtain ⟨xs, rfl, hl⟩ := unlikeD_tup eu
    repeat trivial
    refine w_compM (l := xs.map D.str) (fun d => .bl (memD d ruleDs)) (few_line (by rw [List.length_map]; omega)) (fun d hd' => ?_) ?_
    · obtain ⟨x, _, rfl⟩ := List.mem_map.mp hd'
      refine ⟨_, rfl, ?_⟩
      have e : inF false (.str x) (.rt ruleDs) = some (.bl (memD (.str x) ruleDs)) := by
        show Option.map _ (inD _ _) = _
        show Option.map _ (some (memD (.str x) ruleDs)) = _
        cases memD (.str x) ruleDs <;> rfl
      refine w_op2 (w_peek rfl (w_ret ⟨_, e, ?_⟩))
      repeat trivial
    · repeat trivial
      refine ⟨_, all_map (fun d => memD d ruleDs) _, ?_⟩
      exact q
theorem areBorne_ok (h1 : dm.ps.length = 1) (h2 : dm.C.N.length = 2) {cu cw : Nat} (hu : UwOk (φ cu)) (hw : PF (φ cw) Flat (fun d => .bl (isWD d))) : PF (runD dm (areBorneB φ cu cw)) PlX (fun d => .bl (borneD d)) := fun d S Q E hd q => by
  have q : Q (.bl (borneD d)) S := q
  unfold borneD at q
  refine w_def (by rw [h1]; rfl) [.val d, .no] (by rw [h2]; rfl) ?_
  unfold areBorneB
  repeat trivial
  refine hu _ _ _ _ _ hd (by decide) ?_
  cases eu : unlikeD 4 d with
  | false => rw [eu] at q; repeat trivial
  | true =>
    rw [eu, Bool.true_and] at q
    obtain ⟨xs, rfl, hl⟩ := unlikeD_tup eu
    repeat trivial
    refine w_compM (l := xs.map D.str) (fun d => .bl (isWD d)) (few_line (by rw [List.length_map]; omega)) (fun y hy => ?_) ?_
    · refine ⟨_, rfl, ?_⟩
      repeat trivial
      refine pf_at hw (px_mem hd y hy).flat rfl ?_
      repeat trivial
    · repeat trivial
      refine ⟨_, all_map isWD _, ?_⟩
      exact q
end L2.MP
end
section
set_option Elab.async false
set_option linter.all false
set_option maxRecDepth 100000
set_option maxHeartbeats 4000000
namespace L2.MP
open PySem PySem.Spec PyProof.Rows L2.MP
local macro_rules
  | `(tactic| trivial) => `(tactic| first
    | refine w_seq ?_ | refine w_set ?_ | refine w_setOwn ?_ | refine w_setHp ?_ | refine w_retS ?_ | refine w_retHp ?_ | refine w_ite ?_ | refine w_expr ?_ | refine w_asg ?_ | refine w_setIx ?_ | refine w_mut ?_ | refine w_hp ?_ | refine w_lm1 ?_
    | refine w_bl ?_ | refine w_op2 ?_ | refine w_op1 ?_ | refine w_opF1 ?_ | refine w_opF2 ?_ | refine w_chainP ?_ | refine w_and ?_ | refine w_or ?_ | refine w_not ?_ | refine w_notT ?_ | refine w_andT ?_ | refine w_orT ?_ | refine w_tru ?_
    | refine w_fz ?_ | refine w_lst ?_ | refine w_tup ?_ | refine w_cons ?_ | refine w_nil ?_ | refine w_sl ?_ | refine w_slF ?_ | refine w_part ?_ | refine w_part0 ?_ | refine w_sm0 ?_ | refine w_sm1 ?_ | refine w_disp ?_ | refine w_pr ?_ | refine w_pr0 ?_
    | refine w_for ?_ | refine w_walk ?_ | refine w_rng1 ?_ | refine w_rng2 ?_ | refine w_enum ?_ | refine w_zip ?_ | refine w_fn ?_ | refine w_comp ?_
    | refine w_var rfl ?_ | refine w_peek rfl ?_ | refine w_peekO rfl ?_ | refine w_varO rfl rfl ?_ | refine w_ret ?_
    | refine ⟨_, ix0, ?_⟩ | refine ⟨_, ix1, ?_⟩ | refine ⟨_, ix2, ?_⟩ | refine ⟨_, ix3, ?_⟩
    | refine rg_and ?_ | refine ⟨_, rfl, ?_⟩ | refine ⟨rfl, ?_⟩ | refine ⟨Nat.le_of_ble_eq_true rfl, ?_⟩
    | refine ⟨fun _ => ?_, fun h => Bool.noConfusion (show true = false from h)⟩ | refine ⟨fun h => Bool.noConfusion (show false = true from h), fun _ => ?_⟩)
variable {S : Sto} {Q : D → Sto → Prop} {E : Exn → Sto → Prop} {φ : Nat → Fn} {dm : DefM}
section
variable {g : Tgt} {te : M D} {tt : M Bool} {vs : List Nat} {env : Envr} {S : Sto} {Q : List D → Envr → Sto → Prop}
theorem w_compT {α : Type} {xs : List α} {fd : α → D} (p : α → Bool) (h : α → D) (hl : xs.length ≤ sizeLine)
    (step : ∀ x ∈ xs, ∃ e1, g (fd x) (wipeE env vs) = some e1 ∧ Wp tt e1 S (fun t e s => t = p x ∧ s = S ∧ (t = true → Wp te e s (fun y e s => y = h x ∧ s = S ∧ wipeE e vs = wipeE env vs) nE) ∧ (t = false → wipeE e vs = wipeE env vs)) nE)
    (q : Q ((xs.filter p).map h) (wipeE env vs) S) : (xs.map fd).length ≤ sizeLine ∧ ∃ acc e' s', compL (xs.map fd, none) g tt te vs (xs.map fd) [] (wipeE env vs) S = .ok acc e' s' ∧ Q acc e' s' := by
  refine ⟨by rw [List.length_map]; exact hl, w_compL rfl (fun r acc e s => e = wipeE env vs ∧ s = S ∧ ∃ m : List α, r = m.map fd ∧ (∀ d ∈ m, d ∈ xs) ∧ acc ++ (m.filter p).map h = (xs.filter p).map h) Q (fun d r acc e s ⟨h1, h2, m, h3, h4, h5⟩ => ?_) (fun acc e s ⟨h1, h2, m, h3, h4, h5⟩ => ?_) _ [] _ _ ⟨rfl, rfl, xs, rfl, fun _ h => h, rfl⟩⟩
  · cases m with
    | nil => cases h3
    | cons x m =>
      rw [List.map_cons] at h3
      injection h3 with h3 h3'
      subst h1 h2 h3 h3'
      obtain ⟨e1, k1, k2⟩ := step x (h4 x List.mem_cons_self)
      refine ⟨e1, k1, ?_⟩
      have hr := fun d hd => h4 d (List.mem_cons_of_mem _ hd)
      delta Wp at *
      refine k2.mono (fun t e s ⟨z1, z2, z3, z4⟩ => ?_) fun _ _ _ q => q
      subst z1 z2
      refine ⟨fun ht => ?_, fun ht => ⟨z4 ht, rfl, m, rfl, hr, by rw [← h5, List.filter_cons, ht]; rfl⟩⟩
      exact (z3 ht).mono (fun y e s ⟨u1, u2, u3⟩ => ⟨u3, u2, m, rfl, hr, by subst u1; rw [← h5, List.filter_cons, ht, if_pos rfl, List.map_cons, List.append_assoc]; rfl⟩) fun _ _ _ q => q
  · have : m = [] := by cases m with | nil => rfl | cons x m => cases h3
    subst h1 h2 this
    rw [show acc = (xs.filter p).map h by rw [← h5]; simp]
    exact q
end
structure SetW (s : Sof) : Prop where
  sides : s.map (fun p => p.1.side) = sides2 ∨ s.map (fun p => p.1.side) = sides3
  good : ∀ p ∈ s, p.1.good ∧ 1 ≤ p.2 ∧ p.2 ≤ p.1.many ∧ isN p.1.till = true
theorem SetW.two {s : Sof} (h : SetW s) : s.length = 2 ∨ s.length = 3 := by
  rcases h.sides with e | e <;> (have := congrArg List.length e; rw [List.length_map] at this; simp at this; omega)
theorem SetW.ok {s : Sof} (h : SetW s) : SetOk 3 s := ⟨h.two, fun p hp => ⟨(h.good p hp).1.fine, (h.good p hp).1.deep⟩, fun p hp => (h.good p hp).1.card.few⟩
theorem SetW.nd {s : Sof} (h : SetW s) : (s.map fun p => p.1.side).Nodup := by
  rcases h.sides with e | e <;> rw [e] <;> decide +kernel
theorem SetW.side {s : Sof} (h : SetW s) {p : Ofr × Int} (hp : p ∈ s) : p.1.side ∈ sides3 := by
  have : p.1.side ∈ s.map fun p => p.1.side := List.mem_map_of_mem hp
  rcases h.sides with e | e <;> rw [e] at this
  · exact List.mem_of_mem_take (i := 2) this
  · exact this
end L2.MP
end
section
set_option Elab.async false
set_option linter.all false
set_option maxRecDepth 100000
set_option maxHeartbeats 4000000
namespace L2.MP
open PySem PySem.Spec PyProof.Rows L2.MP
local macro_rules
  | `(tactic| trivial) => `(tactic| first
    | refine w_seq ?_ | refine w_set ?_ | refine w_setOwn ?_ | refine w_setHp ?_ | refine w_retS ?_ | refine w_retHp ?_ | refine w_ite ?_ | refine w_expr ?_ | refine w_asg ?_ | refine w_setIx ?_ | refine w_mut ?_ | refine w_hp ?_ | refine w_lm1 ?_
    | refine w_bl ?_ | refine w_op2 ?_ | refine w_op1 ?_ | refine w_opF1 ?_ | refine w_opF2 ?_ | refine w_chainP ?_ | refine w_and ?_ | refine w_or ?_ | refine w_not ?_ | refine w_notT ?_ | refine w_andT ?_ | refine w_orT ?_ | refine w_tru ?_
    | refine w_fz ?_ | refine w_lst ?_ | refine w_tup ?_ | refine w_cons ?_ | refine w_nil ?_ | refine w_sl ?_ | refine w_slF ?_ | refine w_part ?_ | refine w_part0 ?_ | refine w_sm0 ?_ | refine w_sm1 ?_ | refine w_disp ?_ | refine w_pr ?_ | refine w_pr0 ?_
    | refine w_for ?_ | refine w_walk ?_ | refine w_rng1 ?_ | refine w_rng2 ?_ | refine w_enum ?_ | refine w_zip ?_ | refine w_fn ?_ | refine w_comp ?_ | refine w_count ?_ | refine w_raise0 ?_ | refine w_raise1 ?_ | refine w_augIx ?_
    | refine w_var rfl ?_ | refine w_peek rfl ?_ | refine w_peekO rfl ?_ | refine w_varO rfl rfl ?_ | refine w_ret ?_
    | refine ⟨_, ix0, ?_⟩ | refine ⟨_, ix1, ?_⟩ | refine ⟨_, ix2, ?_⟩ | refine ⟨_, ix3, ?_⟩
    | refine rg_and ?_ | refine ⟨_, rfl, ?_⟩ | refine ⟨rfl, ?_⟩ | refine ⟨Nat.le_of_ble_eq_true rfl, ?_⟩
    | refine ⟨fun _ => ?_, fun h => Bool.noConfusion (show true = false from h)⟩ | refine ⟨fun h => Bool.noConfusion (show false = true from h), fun _ => ?_⟩)
theorem w_loopT {α β : Type} {fd : β → D} {src : Src} {g : Tgt} {m : M Flo} {R : Flo → Envr → Sto → Prop} {E : Exn → Envr → Sto → Prop} {env : Envr} {S : Sto} {xs : List β} (mk : α → Envr) (vs : List Nat) (I : List β → α → Sto → Prop) (a0 : α) (hn : src.2 = none) (h0 : I xs a0 S) (hf : Fr (mk a0) vs env)
    (step : ∀ x r a s e, I (x :: r) a s → Fr (mk a) vs e → ∃ e1, g (fd x) e = some e1 ∧ Wp m e1 s (fun f e s => match f with
      | .nx => ∃ a', Fr (mk a') vs e ∧ I r a' s
      | .ct => ∃ a', Fr (mk a') vs e ∧ I r a' s
      | .bk => R .nx e s
      | .rt v => R (.rt v) e s) E)
    (fin : ∀ a s e, I [] a s → Fr (mk a) vs e → R .nx e s) : Wp (loopL src g m (xs.map fd)) env S R E := by
  refine w_loopA mk vs (fun l a s => ∃ r : List β, l = r.map fd ∧ I r a s) a0 hn ⟨xs, rfl, h0⟩ hf (fun d l a s e ⟨r, h1, h2⟩ he => ?_) (fun a s e ⟨r, h1, h2⟩ he => ?_)
  · cases r with
    | nil => cases h1
    | cons x r =>
      rw [List.map_cons] at h1
      injection h1 with e1 e2
      subst e1 e2
      obtain ⟨e1, k1, k2⟩ := step x r a s e h2 he
      refine ⟨e1, k1, Wp.mono k2 (fun f e s q => ?_) fun _ _ _ q => q⟩
      cases f with
      | nx => obtain ⟨a', q1, q2⟩ := q; exact ⟨a', q1, r, rfl, q2⟩
      | ct => obtain ⟨a', q1, q2⟩ := q; exact ⟨a', q1, r, rfl, q2⟩
      | bk => exact q
      | rt v => exact q
  · have : r = [] := by cases r with | nil => rfl | cons x r => cases h1
    subst this
    exact fin a s e h2 he
def ltL : List Int → List Int → Bool
  | [], [] => false
  | [], _ :: _ => true
  | _ :: _, [] => false
  | a :: x, b :: y => decide (a < b) || (decide (a = b) && ltL x y)
def leL (a b : List Int) : Bool := !ltL b a
def intsD (l : List Int) : D := .lst (l.map D.int)
def tupI (l : List Int) : D := .tup (l.map D.int)
theorem lex_ints : ∀ a b : List Int, PyProof.Rows.lexLt PyProof.Rows.itemOrd (PySem.W.keyToksAll (toPys (a.map D.int))) (PySem.W.keyToksAll (toPys (b.map D.int))) = ltL a b
  | [], [] => rfl
  | [], b :: y => by
    rw [List.map_nil, List.map_cons, toPys, toPys, PySem.W.toks_all_cons, PySem.W.keyToksAll]
    rfl
  | a :: x, [] => by
    rw [List.map_nil, List.map_cons, toPys, toPys, PySem.W.toks_all_cons, PySem.W.keyToksAll]
    rfl
  | a :: x, b :: y => by
    rw [List.map_cons, List.map_cons, toPys, toPys]
    have ha : PySem.W.alike (toPy (.int a)) (toPy (.int b)) = true := by simp [toPy, PySem.W.alike]
    have he : PyData.eqv (toPy (.int a)) (toPy (.int b)) = decide (a = b) := by
      show PyData.eqv (.int a) (.int b) = _
      simp only [PyData.eqv]
      by_cases h : a = b
      · subst h; simp
      · rw [decide_eq_false h]; simpa using h
    by_cases h : a = b
    · rw [PySem.W.dataLt_all_yes ha (by rw [he, decide_eq_true h]), lex_ints x y]
      subst h
      simp [ltL]
    · rw [PySem.W.dataLt_all_no ha (by rw [he, decide_eq_false h])]
      show PySem.W.dataLt (.int a) (.int b) = _
      rw [PySem.W.dataLt_int]
      simp [ltL, h]
theorem alike_ints : ∀ a b : List Int, PySem.W.alikeAll (toPys (a.map D.int)) (toPys (b.map D.int)) = true
  | [], _ => by rw [List.map_nil, toPys, PySem.W.alikeAll]
  | a :: x, [] => by
    rw [List.map_nil, List.map_cons, toPys, toPys, PySem.W.alikeAll]
  | a :: x, b :: y => by
    rw [List.map_cons, List.map_cons, toPys, toPys, PySem.W.alikeAll, alike_ints x y]
    simp [toPy, PySem.W.alike]
theorem okDs_ints (n : Nat) : ∀ a : List Int, okDs n (a.map D.int) = true
  | [] => by unfold okDs; rfl
  | a :: x => by rw [List.map_cons, okDs, okDs_ints n x]; unfold okD; rfl
theorem sort_enc {α : Type} {enc : α → D} {lt : α → α → Bool} {l : List α} (hn : ∀ a r, getInts (enc a :: r) = none ∧ getStrs (enc a :: r) = none) (ok : ∀ a ∈ l, okD 60 (enc a) = true) (al : ∀ a ∈ l, ∀ b ∈ l, PySem.W.alike (toPy (enc a)) (toPy (enc b)) = true)
    (so : (∀ a ∈ l, isTupP (toPy (enc a)) = true) ∨ ∀ a ∈ l, isOthP (toPy (enc a)) = true) (le : ∀ a ∈ l, ∀ b ∈ l, PySem.W.dataLt (toPy (enc a)) (toPy (enc b)) = lt a b) : sortedF (.lst (l.map enc)) = some (.lst ((l.mergeSort fun a b => !lt b a).map enc)) := by
  cases l with
  | nil =>
    simp only [List.map_nil, List.mergeSort_nil]
    have e1 : sortI [] = [] := by unfold sortI; simp
    show some (Cell.lst ((sortI []).map D.int)) = _
    rw [e1]; rfl
  | cons x r =>
    have e1 : sortedB (.lst ((x :: r).map enc)) = none := by
      show (if ((x :: r).map enc).length < 64 then _ else none) = none
      split
      · rw [List.map_cons, (hn x _).1]
        show ((getStrs (enc x :: r.map enc)).map _) = none
        rw [(hn x _).2]; rfl
      · rfl
    have okall : ∀ m : List α, (∀ a ∈ m, okD 60 (enc a) = true) → okDs 60 (m.map enc) = true := by
      intro m
      induction m with
      | nil => intro _; unfold okDs; rfl
      | cons y m ih => intro h; rw [List.map_cons, okDs, h y List.mem_cons_self, ih fun a ha => h a (List.mem_cons_of_mem _ ha)]; rfl
    have hc : (okDs 60 ((x :: r).map enc) && (allAlikeB (((x :: r).map enc).map toPy) && sortableB (((x :: r).map enc).map toPy))) = true := by
      rw [okall _ ok, Bool.true_and, Bool.and_eq_true]
      constructor
      · unfold allAlikeB
        rw [List.all_eq_true]
        intro a ha
        rw [List.all_eq_true]
        intro b hb
        rw [List.map_map] at ha hb
        obtain ⟨a', ha', rfl⟩ := List.mem_map.mp ha
        obtain ⟨b', hb', rfl⟩ := List.mem_map.mp hb
        exact al a' ha' b' hb'
      · unfold sortableB
        rw [Bool.or_eq_true]
        refine so.imp (fun h => ?_) (fun h => ?_) <;>
        · rw [List.all_eq_true]
          intro a ha
          rw [List.map_map] at ha
          obtain ⟨a', ha', rfl⟩ := List.mem_map.mp ha
          exact h a' ha'
    unfold sortedF
    rw [e1]
    show sortedDF _ = _
    unfold sortedDF
    show (if _ then some (Cell.lst (sortD ((x :: r).map enc))) else none) = _
    rw [if_pos hc]
    unfold sortD
    congr 2
    exact (List.map_mergeSort fun a ha b hb => by unfold leP; rw [le b hb a ha]).symm
theorem sort_ints (l : List (List Int)) : sortedF (.lst (l.map intsD)) = some (.lst ((l.mergeSort leL).map intsD)) :=
  sort_enc (enc := intsD) (lt := ltL) (fun a r => ⟨rfl, rfl⟩) (fun a _ => by unfold intsD okD; exact okDs_ints _ _) (fun a _ b _ => by show PySem.W.alike (.list _) (.list _) = true; rw [PySem.W.alike]; exact alike_ints a b) (.inr fun a _ => rfl) fun a _ b _ => (PySem.W.dataLt_list _ _).trans (lex_ints a b)
theorem sort_tups {l : List (List Int)} (h : ∀ a ∈ l, a ≠ []) : sortedF (.lst (l.map tupI)) = some (.lst ((l.mergeSort leL).map tupI)) :=
  sort_enc (enc := tupI) (lt := ltL) (fun a r => ⟨rfl, rfl⟩) (fun a _ => by unfold tupI okD; exact okDs_ints _ _) (fun a _ b _ => by show PySem.W.alike (.tuple _) (.tuple _) = true; rw [PySem.W.alike]; exact alike_ints a b) (.inl fun a ha => by
    cases a with
    | nil => exact absurd rfl (h _ ha)
    | cons x r => rfl) fun a _ b _ => (PySem.W.dataLt_tuple _ _).trans (lex_ints a b)
structure Wt where
  n : Int
  o : Ofr
  l : Int
def wtD (w : Wt) : D := .tup [.int w.n, w.o.toD, .int w.l]
def rkW (w : Wt) (x : Str) : Int := if x = "heavy" then 0 - w.o.weight else if x = "great" then 0 - w.l else if x = "small" then w.l else w.o.till
def rankL (rule : List Str) (w : Wt) : List Int := rule.map (rkW w) ++ [w.n]
variable {S : Sto} {Q : D → Sto → Prop} {E : Exn → Sto → Prop} {φ : Nat → Fn} {dm : DefM}
theorem app_one {T : Type} {enc : T → D} {F : List T} {x : T} (h : F.length < sizeLine) : appF (.lst (F.map enc)) [enc x] = some (.lst ((F ++ [x]).map enc), .non) := by
  unfold appF
  dsimp only
  rw [if_pos (by rw [List.length_map]; exact h)]; simp
theorem s10 : (1000000 : Nat) ≤ sizeLine := by decide
def rankB (φ : Nat → Fn) : M Flo :=
  (dSeq (dAsg (gTp [(gNm 2), (gNm 3), (gNm 4)]) (dVar 1))
  (dSeq (dSetOwn 5 (dLst (dArgs [])))
  (dSeq (dFor (dWalk (dVar 0)) (gNm 6) (dIf (dBl (dOp2 (cmpEq false) (dPeek 6) (M.ret (D.str "heavy")))) (dExpr (dMut appF (dPeek 5) (dArgs [(dOp2 subD (M.ret (D.int 0)) (dOp2 ixD (dPeek 3) (M.ret (D.int 5))))]))) (dIf (dBl (dOp2 (cmpEq false) (dPeek 6) (M.ret (D.str "great")))) (dExpr (dMut appF (dPeek 5) (dArgs [(dOp2 subD (M.ret (D.int 0)) (dPeek 4))]))) (dIf (dBl (dOp2 (cmpEq false) (dPeek 6) (M.ret (D.str "small")))) (dExpr (dMut appF (dPeek 5) (dArgs [(dVar 4)]))) (dExpr (dMut appF (dPeek 5) (dArgs [(dOp2 ixD (dPeek 3) (M.ret (D.int 6)))])))))))
  (dRet (dOp2 addD (dPeek 5) (dFz (dLst (dArgs [(dVar 2)]))))))))
def RankOk (F : Fn) : Prop := ∀ (rule : List Str) (w : Wt) (S : Sto) (Q : D → Sto → Prop) (E : Exn → Sto → Prop), rule.length ≤ 100 → Q (intsD (rankL rule w)) S → Wc (F [.tup (rule.map D.str), wtD w] S) Q E
theorem rank_ok (h1 : dm.ps.length = 2) (h2 : dm.C.N.length = 7) : RankOk (runD dm (rankB φ)) := fun rule w S Q E hr q => by
  have z := s10
  refine w_def (by rw [h1]; rfl) [.val (.tup (rule.map D.str)), .val (wtD w), .no, .no, .no, .no, .no] (by rw [h2]; rfl) ?_
  unfold rankB wtD
  repeat trivial
  refine w_loopT (mk := fun a : List Int => [.val (.tup (rule.map D.str)), .val (.tup [.int w.n, w.o.toD, .int w.l]), .val (.int w.n), .val w.o.toD, .val (.int w.l), .own (.lst (a.map D.int)), .no]) [6] (fun r a s => s = S ∧ a ++ r.map (rkW w) = rule.map (rkW w)) [] rfl ⟨rfl, rfl⟩ ⟨_, rfl⟩ (fun x r a s e ⟨hs, hi⟩ ⟨s6, he⟩ => ?_) (fun a s e ⟨hs, hi⟩ ⟨s6, he⟩ => ?_)
  · subst he hs
    have la : a.length < sizeLine := by
      have := congrArg List.length hi
      simp at this
      omega
    have go : ∀ i : Int, rkW w x = i → ∃ c p e' s', cellOf [.val (.tup (rule.map D.str)), .val (.tup [.int w.n, w.o.toD, .int w.l]), .val (.int w.n), .val w.o.toD, .val (.int w.l), .own (.lst (a.map D.int)), .val (.str x)] s (.own 5) = some c ∧ appF c [.int i] = some p ∧ setCell (.own 5) p.1 [.val (.tup (rule.map D.str)), .val (.tup [.int w.n, w.o.toD, .int w.l]), .val (.int w.n), .val w.o.toD, .val (.int w.l), .own (.lst (a.map D.int)), .val (.str x)] s = .ok () e' s' ∧
        ∃ a' : List Int, Fr [.val (.tup (rule.map D.str)), .val (.tup [.int w.n, w.o.toD, .int w.l]), .val (.int w.n), .val w.o.toD, .val (.int w.l), .own (.lst (a'.map D.int)), .no] [6] e' ∧ s' = s ∧ a' ++ r.map (rkW w) = rule.map (rkW w) := fun i hi2 => by
      refine ⟨_, _, _, _, rfl, app_one la, rfl, a ++ [i], ⟨_, rfl⟩, rfl, ?_⟩
      rw [← hi, List.map_cons, hi2]; simp
    refine ⟨_, rfl, ?_⟩
    repeat trivial
    refine br_fdec (fun h => ?_) (fun h => ?_)
    · subst h
      repeat trivial
      refine ⟨⟨_, rfl⟩, ?_⟩
      unfold Ofr.toD
      repeat trivial
      exact go _ rfl
    repeat trivial
    refine br_fdec (fun h => ?_) (fun g => ?_)
    · subst h
      repeat trivial
      refine ⟨⟨_, rfl⟩, ?_⟩
      repeat trivial
      exact go _ rfl
    repeat trivial
    refine br_fdec (fun h => ?_) (fun f => ?_)
    · subst h
      repeat trivial
      refine ⟨⟨_, rfl⟩, ?_⟩
      repeat trivial
      exact go _ rfl
    repeat trivial
    refine ⟨⟨_, rfl⟩, ?_⟩
    unfold Ofr.toD
    repeat trivial
    refine go _ ?_
    unfold rkW
    rw [if_neg h, if_neg g, if_neg f]
  · subst he hs
    rw [List.map_nil, List.append_nil] at hi
    subst hi
    repeat trivial
    refine ⟨_, add_ll (by simp; omega), ?_⟩
    have e : ((rule.map (rkW w)).map D.int ++ [D.int w.n]) = (rankL rule w).map D.int := by unfold rankL; simp
    rw [e]
    exact q
theorem ix_last {l : List D} {x : D} : ixD (.lst (l ++ [x])) (.int (-1)) = some x := by
  show atI (l ++ [x]) (-1) = some x
  unfold atI
  have : ixN (l ++ [x]).length (-1) = some l.length := by
    unfold ixN
    rw [if_neg (by omega), if_pos (by simp; omega)]
    congr 1
    simp; omega
  rw [this]
  simp
def rowRanks (rule : List Str) (ws : List Wt) : List (List Int) := (ws.map (rankL rule)).mergeSort leL
def rowL (rule : List Str) (ws : List Wt) : List Int := (rowRanks rule ws).map fun r => r.getLast?.getD 0
theorem rowRanks_len {rule : List Str} {ws : List Wt} : (rowRanks rule ws).length = ws.length := by unfold rowRanks; rw [List.length_mergeSort, List.length_map]
def row_ofB (φ : Nat → Fn) (c_rank : Nat) : M Flo :=
  (dSeq (dSet 2 (dFz (dOpF1 sortedF (dFz (dComp (dWalk (dVar 1)) (gNm 3) (M.ret true) (dFn φ c_rank 2 (dArgs [(dVar 0), (dVar 3)])) [3])))))
  (dRet (dFz (dComp (dWalk (dVar 2)) (gNm 4) (M.ret true) (dOp2 ixD (dPeek 4) (dOp1 negD (M.ret (D.int 1)))) [4]))))
def RowOk (F : Fn) : Prop := ∀ (rule : List Str) (ws : List Wt) (S : Sto) (Q : D → Sto → Prop) (E : Exn → Sto → Prop), rule.length ≤ 100 → ws.length ≤ 1000 → Q (intsD (rowL rule ws)) S → Wc (F [.tup (rule.map D.str), .lst (ws.map wtD)] S) Q E
theorem rowRanks_last {rule : List Str} {ws : List Wt} : ∀ r ∈ rowRanks rule ws, ∃ l x, r = l ++ [x] := fun r hr => by
  unfold rowRanks at hr
  obtain ⟨w, _, rfl⟩ := List.mem_map.mp (List.mem_mergeSort.mp hr)
  exact ⟨_, _, rfl⟩
theorem last_step {rule : List Str} {ws : List Wt} {r : List Int} (hr : r ∈ rowRanks rule ws) : ixD (intsD r) (.int (-1)) = some (.int (r.getLast?.getD 0)) := by
  obtain ⟨l, x, rfl⟩ := rowRanks_last r hr
  unfold intsD
  rw [List.map_append]
  refine Eq.trans ix_last ?_
  simp
theorem row_ok (h1 : dm.ps.length = 2) (h2 : dm.C.N.length = 5) {c_rank : Nat} (hr : RankOk (φ c_rank)) : RowOk (runD dm (row_ofB φ c_rank)) := fun rule ws S Q E hl hw q => by
  have z := s10
  refine w_def (by rw [h1]; rfl) [.val (.tup (rule.map D.str)), .val (.lst (ws.map wtD)), .no, .no, .no] (by rw [h2]; rfl) ?_
  unfold row_ofB
  repeat trivial
  refine w_compT (xs := ws) (fun _ => true) (fun w => intsD (rankL rule w)) (by omega) (fun w _ => ?_) ?_
  · refine ⟨_, rfl, ?_⟩
    refine w_ret ⟨rfl, rfl, fun _ => ?_, fun h => nomatch h⟩
    repeat trivial
    refine hr rule w _ _ _ hl ?_
    exact ⟨rfl, rfl, rfl⟩
  rw [List.filter_eq_self.mpr (fun _ _ => rfl)]
  have e : ws.map (fun w => intsD (rankL rule w)) = (ws.map (rankL rule)).map intsD := by rw [List.map_map]; rfl
  rw [e]
  repeat trivial
  refine ⟨_, sort_ints _, ?_⟩
  repeat trivial
  refine w_compT (xs := rowRanks rule ws) (fun _ => true) (fun r => .int (r.getLast?.getD 0)) (by rw [rowRanks_len]; omega) (fun r hr' => ?_) ?_
  · refine ⟨_, rfl, ?_⟩
    refine w_ret ⟨rfl, rfl, fun _ => ?_, fun h => nomatch h⟩
    repeat trivial
    refine ⟨_, last_step hr', ?_⟩
    exact ⟨rfl, rfl, rfl⟩
  rw [List.filter_eq_self.mpr (fun _ _ => rfl)]
  repeat trivial
  have e : (rowRanks rule ws).map (fun r => D.int (r.getLast?.getD 0)) = (rowL rule ws).map D.int := by unfold rowL; rw [List.map_map]; rfl
  rw [e]
  exact q
end L2.MP
end
section
set_option Elab.async false
set_option linter.all false
set_option maxRecDepth 100000
set_option maxHeartbeats 4000000
namespace L2.MP
open PySem PySem.Spec PyProof.Rows L2.MP
local macro_rules
  | `(tactic| trivial) => `(tactic| first
    | refine w_seq ?_ | refine w_set ?_ | refine w_setOwn ?_ | refine w_setHp ?_ | refine w_retS ?_ | refine w_retHp ?_ | refine w_ite ?_ | refine w_expr ?_ | refine w_asg ?_ | refine w_setIx ?_ | refine w_mut ?_ | refine w_hp ?_ | refine w_lm1 ?_
    | refine w_bl ?_ | refine w_op2 ?_ | refine w_op1 ?_ | refine w_opF1 ?_ | refine w_opF2 ?_ | refine w_chainP ?_ | refine w_and ?_ | refine w_or ?_ | refine w_not ?_ | refine w_notT ?_ | refine w_andT ?_ | refine w_orT ?_ | refine w_tru ?_
    | refine w_fz ?_ | refine w_lst ?_ | refine w_tup ?_ | refine w_cons ?_ | refine w_nil ?_ | refine w_sl ?_ | refine w_slF ?_ | refine w_part ?_ | refine w_part0 ?_ | refine w_sm0 ?_ | refine w_sm1 ?_ | refine w_disp ?_ | refine w_pr ?_ | refine w_pr0 ?_
    | refine w_for ?_ | refine w_walk ?_ | refine w_rng1 ?_ | refine w_rng2 ?_ | refine w_enum ?_ | refine w_zip ?_ | refine w_fn ?_ | refine w_comp ?_ | refine w_count ?_ | refine w_raise0 ?_ | refine w_raise1 ?_ | refine w_augIx ?_
    | refine w_var rfl ?_ | refine w_peek rfl ?_ | refine w_peekO rfl ?_ | refine w_varO rfl rfl ?_ | refine w_ret ?_
    | refine ⟨_, ix0, ?_⟩ | refine ⟨_, ix1, ?_⟩ | refine ⟨_, ix2, ?_⟩ | refine ⟨_, ix3, ?_⟩
    | refine rg_and ?_ | refine ⟨_, rfl, ?_⟩ | refine ⟨rfl, ?_⟩ | refine ⟨Nat.le_of_ble_eq_true rfl, ?_⟩
    | refine ⟨fun _ => ?_, fun h => Bool.noConfusion (show true = false from h)⟩ | refine ⟨fun h => Bool.noConfusion (show false = true from h), fun _ => ?_⟩)
variable {S : Sto} {Q : D → Sto → Prop} {E : Exn → Sto → Prop} {φ : Nat → Fn} {dm : DefM}
def sideL (ws : List Wt) (sd kd : Str) : List Int := (ws.filter fun w => decide (w.o.side = sd) && decide (w.o.card.kind = kd)).map (·.n)
def of_sideB (φ : Nat → Fn) : M Flo :=
  (dRet (dFz (dComp (dWalk (dVar 0)) (gTp [(gNm 3), (gNm 4), (gNm 5)]) (dAndT (dBl (dOp2 (cmpEq false) (dOp2 ixD (dPeek 4) (M.ret (D.int 0))) (dPeek 1))) (dBl (dOp2 (cmpEq false) (dOp2 ixD (dOp2 ixD (dPeek 4) (M.ret (D.int 1))) (M.ret (D.int 1))) (dPeek 2)))) (dVar 3) [3, 4, 5])))
def SideOk (F : Fn) : Prop := ∀ (ws : List Wt) (sd kd : Str) (S : Sto) (Q : D → Sto → Prop) (E : Exn → Sto → Prop), ws.length ≤ 1000 → Q (intsD (sideL ws sd kd)) S → Wc (F [.lst (ws.map wtD), .str sd, .str kd] S) Q E
theorem side_ok (h1 : dm.ps.length = 3) (h2 : dm.C.N.length = 6) : SideOk (runD dm (of_sideB φ)) := fun ws sd kd S Q E hw q => by
  have z := s10
  refine w_def (by rw [h1]; rfl) [.val (.lst (ws.map wtD)), .val (.str sd), .val (.str kd), .no, .no, .no] (by rw [h2]; rfl) ?_
  unfold of_sideB
  repeat trivial
  refine w_compT (xs := ws) (fun w => decide (w.o.side = sd) && decide (w.o.card.kind = kd)) (fun w => .int w.n) (by omega) (fun w _ => ?_) ?_
  · refine ⟨_, rfl, ?_⟩
    unfold wtD Ofr.toD Crd.toD
    repeat trivial
    refine br_fdec (fun h => ?_) (fun h => ?_)
    · repeat trivial
      rw [decide_eq_true h, Bool.true_and]
      refine ⟨by cases decide (w.o.card.kind = kd) <;> rfl, rfl, fun _ => ?_, fun _ => rfl⟩
      repeat trivial
    · rw [decide_eq_false h, Bool.false_and]
      exact w_ret ⟨rfl, rfl, (fun h => nomatch h), fun _ => rfl⟩
  repeat trivial
  have e : (ws.filter fun w => decide (w.o.side = sd) && decide (w.o.card.kind = kd)).map (fun w => D.int w.n) = (sideL ws sd kd).map D.int := by unfold sideL; rw [List.map_map]; rfl
  rw [e]
  exact q
theorem sideL_len {ws : List Wt} {sd kd : Str} : (sideL ws sd kd).length ≤ ws.length := by unfold sideL; rw [List.length_map]; exact List.length_filter_le _ _
theorem sideL_mem {ws : List Wt} {sd kd : Str} {n : Int} : n ∈ sideL ws sd kd ↔ ∃ w ∈ ws, w.n = n ∧ w.o.side = sd ∧ w.o.card.kind = kd := by
  unfold sideL
  rw [List.mem_map]
  constructor
  · rintro ⟨w, hw, rfl⟩
    obtain ⟨h1, h2⟩ := List.mem_filter.mp hw
    rw [Bool.and_eq_true, decide_eq_true_eq, decide_eq_true_eq] at h2
    exact ⟨w, h1, rfl, h2.1, h2.2⟩
  · rintro ⟨w, hw, rfl, h1, h2⟩
    exact ⟨w, List.mem_filter.mpr ⟨hw, by rw [decide_eq_true h1, decide_eq_true h2]; rfl⟩, rfl⟩
def kindsL (ws : List Wt) : List Str := sortS (onto (ws.map fun w => w.o.card.kind) [])
theorem kindsL_len {ws : List Wt} : (kindsL ws).length ≤ ws.length := by
  unfold kindsL
  rw [sortS_len]
  have := onto_len (xs := ws.map fun w => w.o.card.kind) (L := [])
  simp at this
  exact this
theorem kindsL_mem {ws : List Wt} {k : Str} : k ∈ kindsL ws ↔ ∃ w ∈ ws, w.o.card.kind = k := by
  unfold kindsL
  rw [sortS_mem, onto_mem, List.mem_map]
  simp
def setsT (borne : List Str) (ws : List Wt) (k : Str) (g t : Int) : List (List Int) := if k ∈ borne then (sideL ws "bear" k).map fun b => [g, t, b] else [[g, t]]
def setsG (borne : List Str) (ws : List Wt) (k : Str) (g : Int) : List (List Int) := (sideL ws "take" k).flatMap (setsT borne ws k g)
def setsK (borne : List Str) (ws : List Wt) (k : Str) : List (List Int) := (sideL ws "give" k).flatMap (setsG borne ws k)
def setsRaw (borne : List Str) (ws : List Wt) : List (List Int) := (kindsL ws).flatMap (setsK borne ws)
def setsL (borne : List Str) (ws : List Wt) : List (List Int) := (setsRaw borne ws).mergeSort leL
theorem flat_len {α β : Type} {f : α → List β} {c : Nat} : ∀ {l : List α}, (∀ x ∈ l, (f x).length ≤ c) → (l.flatMap f).length ≤ l.length * c
  | [], _ => by simp
  | x :: l, h => by
    have h1 := h x List.mem_cons_self
    have h2 := flat_len fun y hy => h y (List.mem_cons_of_mem _ hy)
    rw [List.flatMap_cons, List.length_append, List.length_cons, Nat.succ_mul]
    omega
theorem setsT_len {borne : List Str} {ws : List Wt} {k : Str} {g t : Int} (h : ws.length ≤ 63) : (setsT borne ws k g t).length ≤ 63 := by
  unfold setsT
  split
  · rw [List.length_map]; exact Nat.le_trans sideL_len h
  · simp
theorem setsG_len {borne : List Str} {ws : List Wt} {k : Str} {g : Int} (h : ws.length ≤ 63) : (setsG borne ws k g).length ≤ 63 * 63 := by
  unfold setsG
  exact Nat.le_trans (flat_len fun _ _ => setsT_len h) (Nat.mul_le_mul_right _ (Nat.le_trans sideL_len h))
theorem setsK_len {borne : List Str} {ws : List Wt} {k : Str} (h : ws.length ≤ 63) : (setsK borne ws k).length ≤ 63 * (63 * 63) := by
  unfold setsK
  exact Nat.le_trans (flat_len fun _ _ => setsG_len h) (Nat.mul_le_mul_right _ (Nat.le_trans sideL_len h))
theorem setsRaw_len {borne : List Str} {ws : List Wt} (h : ws.length ≤ 63) : (setsRaw borne ws).length ≤ 63 * (63 * (63 * 63)) := by
  unfold setsRaw
  exact Nat.le_trans (flat_len fun _ _ => setsK_len h) (Nat.mul_le_mul_right _ (Nat.le_trans kindsL_len h))
theorem setsRaw_line {borne : List Str} {ws : List Wt} (h : ws.length ≤ 63) : (setsRaw borne ws).length < sizeLine := Nat.lt_of_le_of_lt (setsRaw_len h) (by decide)
theorem setsRaw_mem {borne : List Str} {ws : List Wt} {s : List Int} : s ∈ setsRaw borne ws ↔ ∃ k g t, g ∈ sideL ws "give" k ∧ t ∈ sideL ws "take" k ∧ ((k ∈ borne ∧ ∃ b ∈ sideL ws "bear" k, s = [g, t, b]) ∨ (k ∉ borne ∧ s = [g, t])) := by
  unfold setsRaw setsK setsG setsT
  constructor
  · intro h
    obtain ⟨k, hk, h⟩ := List.mem_flatMap.mp h
    obtain ⟨g, hg, h⟩ := List.mem_flatMap.mp h
    obtain ⟨t, ht, h⟩ := List.mem_flatMap.mp h
    refine ⟨k, g, t, hg, ht, ?_⟩
    split at h
    · rename_i hb
      obtain ⟨b, hb', rfl⟩ := List.mem_map.mp h
      exact .inl ⟨hb, b, hb', rfl⟩
    · rename_i hb
      simp at h
      exact .inr ⟨hb, h⟩
  · rintro ⟨k, g, t, hg, ht, h⟩
    have hk : k ∈ kindsL ws := by
      obtain ⟨w, hw, _, _, e⟩ := sideL_mem.mp hg
      exact kindsL_mem.mpr ⟨w, hw, e⟩
    refine List.mem_flatMap.mpr ⟨k, hk, List.mem_flatMap.mpr ⟨g, hg, List.mem_flatMap.mpr ⟨t, ht, ?_⟩⟩⟩
    rcases h with ⟨hb, b, hb', rfl⟩ | ⟨hb, rfl⟩
    · rw [if_pos hb]; exact List.mem_map.mpr ⟨b, hb', rfl⟩
    · rw [if_neg hb]; exact List.mem_cons_self
theorem sset_strs {l : List Str} (h : l.length < 64) : ssetF (.lst (l.map D.str)) = some (.lst ((sortS (onto l [])).map D.str)) := by
  show (if (l.map D.str).length < 64 then _ else none) = _
  rw [List.length_map, if_pos h, strs_map]
theorem cat_sz {a b : List D} (h : a.length + b.length ≤ sizeLine) : catF (.lst a) (.lst b) = some (.lst (a ++ b)) := if_pos h
def sets_ofB (φ : Nat → Fn) (c_of_side : Nat) : M Flo :=
  (dSeq (dSetOwn 2 (dLst (dArgs [])))
  (dSeq (dFor (dWalk (dFz (dOpF1 ssetF (dFz (dComp (dWalk (dVar 1)) (gTp [(gNm 6), (gNm 7), (gNm 8)]) (M.ret true) (dOp2 ixD (dOp2 ixD (dPeek 7) (M.ret (D.int 1))) (M.ret (D.int 1))) [6, 7, 8]))))) (gNm 3) (dFor (dWalk (dFn φ c_of_side 3 (dArgs [(dVar 1), (M.ret (D.str "give")), (dVar 3)]))) (gNm 4) (dFor (dWalk (dFn φ c_of_side 3 (dArgs [(dVar 1), (M.ret (D.str "take")), (dVar 3)]))) (gNm 5) (dIf (dBl (dOp2 (inF false) (dPeek 3) (dPeek 0))) (dSetOwn 2 (dOpF2 catF (dPeek 2) (dFz (dComp (dWalk (dFn φ c_of_side 3 (dArgs [(dVar 1), (M.ret (D.str "bear")), (dVar 3)]))) (gNm 9) (M.ret true) (dTup (dArgs [(dVar 4), (dVar 5), (dVar 9)])) [9])))) (dExpr (dMut appF (dPeek 2) (dArgs [(dTup (dArgs [(dVar 4), (dVar 5)]))])))))))
  (dRet (dFz (dOpF1 sortedF (dPeek 2))))))
def SetsOk (F : Fn) : Prop := ∀ (borne : List Str) (ws : List Wt) (S : Sto) (Q : D → Sto → Prop) (E : Exn → Sto → Prop), ws.length ≤ 63 → Q (.lst ((setsL borne ws).map tupI)) S → Wc (F [.tup (borne.map D.str), .lst (ws.map wtD)] S) Q E
theorem sets_out {borne : List Str} {ws : List Wt} {l : List D} {c : Nat} {R : Flo → Envr → Sto → Prop} {E : Exn → Envr → Sto → Prop} {m2 : M Flo} {g : Tgt} (hs : SideOk (φ c)) (hw : ws.length ≤ 63)
    (hm : m2 = (dFor (dWalk (dFn φ c 3 (dArgs [(dVar 1), (M.ret (D.str "give")), (dVar 3)]))) (gNm 4) (dFor (dWalk (dFn φ c 3 (dArgs [(dVar 1), (M.ret (D.str "take")), (dVar 3)]))) (gNm 5) (dIf (dBl (dOp2 (inF false) (dPeek 3) (dPeek 0))) (dSetOwn 2 (dOpF2 catF (dPeek 2) (dFz (dComp (dWalk (dFn φ c 3 (dArgs [(dVar 1), (M.ret (D.str "bear")), (dVar 3)]))) (gNm 9) (M.ret true) (dTup (dArgs [(dVar 4), (dVar 5), (dVar 9)])) [9])))) (dExpr (dMut appF (dPeek 2) (dArgs [(dTup (dArgs [(dVar 4), (dVar 5)]))])))))))
    (fin : ∀ e, Fr [.val (.tup (borne.map D.str)), .val (.lst (ws.map wtD)), .own (.lst ((setsRaw borne ws).map tupI)), .no, .no, .no, .no, .no, .no, .no] [3, 4, 5, 9] e → R .nx e S) :
    Wp (loopL ((kindsL ws).map D.str, none) (gNm 3) m2 ((kindsL ws).map D.str)) [.val (.tup (borne.map D.str)), .val (.lst (ws.map wtD)), .own (.lst []), .no, .no, .no, .no, .no, .no, .no] S R E := by
  subst hm
  have z := s10
  have hz := setsRaw_line (borne := borne) hw
  refine w_loopT (mk := fun a : List (List Int) => [.val (.tup (borne.map D.str)), .val (.lst (ws.map wtD)), .own (.lst (a.map tupI)), .no, .no, .no, .no, .no, .no, .no]) [3, 4, 5, 9] (fun r a s => s = S ∧ a ++ r.flatMap (setsK borne ws) = setsRaw borne ws) [] rfl ⟨rfl, rfl⟩ ⟨_, _, _, _, rfl⟩ (fun k rk a s e ⟨h1, hk⟩ ⟨s3, s4, s5, s9, he⟩ => ?_) (fun a s e ⟨h1, h2⟩ ⟨s3, s4, s5, s9, he⟩ => ?_)
  · subst h1 he
    refine ⟨_, rfl, ?_⟩
    repeat trivial
    refine hs ws _ _ _ _ _ (by omega) ?_
    repeat trivial
    refine w_loopT (mk := fun a : List (List Int) => [.val (.tup (borne.map D.str)), .val (.lst (ws.map wtD)), .own (.lst (a.map tupI)), .val (.str k), .no, .no, .no, .no, .no, .no]) [4, 5, 9] (fun r a s' => s' = s ∧ a ++ (r.flatMap (setsG borne ws k) ++ rk.flatMap (setsK borne ws)) = setsRaw borne ws) a rfl ⟨rfl, by rw [← hk, List.flatMap_cons]; rfl⟩ ⟨_, _, _, rfl⟩ (fun g rg a s' e ⟨h1, hg⟩ ⟨s4, s5, s9, he⟩ => ?_) (fun a s' e ⟨h1, h2⟩ ⟨s4, s5, s9, he⟩ => ?_)
    · subst h1 he
      refine ⟨_, rfl, ?_⟩
      repeat trivial
      refine hs ws _ _ _ _ _ (by omega) ?_
      repeat trivial
      refine w_loopT (mk := fun a : List (List Int) => [.val (.tup (borne.map D.str)), .val (.lst (ws.map wtD)), .own (.lst (a.map tupI)), .val (.str k), .val (.int g), .no, .no, .no, .no, .no]) [5, 9] (fun r a s => s = s' ∧ a ++ (r.flatMap (setsT borne ws k g) ++ (rg.flatMap (setsG borne ws k) ++ rk.flatMap (setsK borne ws))) = setsRaw borne ws) a rfl ⟨rfl, by rw [← hg, List.flatMap_cons, List.append_assoc, setsG]⟩ ⟨_, _, rfl⟩ (fun t rt a s e ⟨h1, ht⟩ ⟨s5, s9, he⟩ => ?_) (fun a s e ⟨h1, h2⟩ ⟨s5, s9, he⟩ => ?_)
      · subst h1 he
        rw [List.flatMap_cons, List.append_assoc] at ht
        have hlen : a.length + (setsT borne ws k g t).length ≤ (setsRaw borne ws).length := by rw [← ht, List.length_append, List.length_append]; omega
        refine ⟨_, rfl, ?_⟩
        repeat trivial
        refine ⟨_, in_strs k borne false, ?_⟩
        repeat trivial
        refine br_fdec (fun h => ?_) (fun h => ?_)
        · have et : setsT borne ws k g t = (sideL ws "bear" k).map fun b => [g, t, b] := if_pos h
          repeat trivial
          refine hs ws _ _ _ _ _ (by omega) ?_
          repeat trivial
          refine w_compT (xs := sideL ws "bear" k) (fun _ => true) (fun b => tupI [g, t, b]) (by have := sideL_len (ws := ws) (sd := "bear") (kd := k); omega) (fun b _ => ?_) ?_
          · refine ⟨_, rfl, ?_⟩
            refine w_ret ⟨rfl, rfl, fun _ => ?_, fun h => nomatch h⟩
            repeat trivial
          rw [List.filter_eq_self.mpr (fun _ _ => rfl)]
          have e : (sideL ws "bear" k).map (fun b => tupI [g, t, b]) = (setsT borne ws k g t).map tupI := by rw [et, List.map_map]; rfl
          rw [e]
          repeat trivial
          refine ⟨_, cat_sz (by rw [List.length_map, List.length_map]; omega), ?_⟩
          exact ⟨a ++ setsT borne ws k g t, ⟨_, _, by rw [List.map_append]; rfl⟩, rfl, by rw [List.append_assoc]; exact ht⟩
        · have et : setsT borne ws k g t = [[g, t]] := if_neg h
          rw [et] at ht hlen
          repeat trivial
          refine ⟨⟨_, rfl⟩, ?_⟩
          repeat trivial
          refine ⟨_, _, _, _, rfl, app_one (enc := tupI) (x := [g, t]) (by simp at hlen; omega), rfl, ?_⟩
          exact ⟨a ++ [[g, t]], ⟨_, _, rfl⟩, rfl, by rw [List.append_assoc]; exact ht⟩
      · subst h1 he
        exact ⟨a, ⟨_, _, _, rfl⟩, rfl, h2⟩
    · subst h1 he
      exact ⟨a, ⟨_, _, _, _, rfl⟩, rfl, h2⟩
  · subst h1 he
    rw [List.flatMap_nil, List.append_nil] at h2
    subst h2
    exact fin _ ⟨_, _, _, _, rfl⟩
theorem setsRaw_ne {borne : List Str} {ws : List Wt} : ∀ s ∈ setsRaw borne ws, s ≠ [] := fun s hs => by
  obtain ⟨k, g, t, _, _, h⟩ := setsRaw_mem.mp hs
  rcases h with ⟨_, b, _, rfl⟩ | ⟨_, rfl⟩ <;> simp
theorem sets_ok (h1 : dm.ps.length = 2) (h2 : dm.C.N.length = 10) {c : Nat} (hs : SideOk (φ c)) : SetsOk (runD dm (sets_ofB φ c)) := fun borne ws S Q E hw q => by
  have z := s10
  refine w_def (by rw [h1]; rfl) [.val (.tup (borne.map D.str)), .val (.lst (ws.map wtD)), .no, .no, .no, .no, .no, .no, .no, .no] (by rw [h2]; rfl) ?_
  unfold sets_ofB
  repeat trivial
  refine w_compT (xs := ws) (fun _ => true) (fun w => .str w.o.card.kind) (by omega) (fun w _ => ?_) ?_
  · refine ⟨_, rfl, ?_⟩
    refine w_ret ⟨rfl, rfl, fun _ => ?_, fun h => nomatch h⟩
    unfold wtD Ofr.toD Crd.toD
    repeat trivial
  rw [List.filter_eq_self.mpr (fun _ _ => rfl)]
  have e : ws.map (fun w => D.str w.o.card.kind) = (ws.map fun w => w.o.card.kind).map D.str := by rw [List.map_map]; rfl
  rw [e]
  repeat trivial
  refine ⟨_, sset_strs (by rw [List.length_map]; omega), ?_⟩
  repeat trivial
  refine sets_out (borne := borne) (ws := ws) (g := gNm 3) (l := []) hs hw rfl fun e ⟨s3, s4, s5, s9, he⟩ => ?_
  subst he
  repeat trivial
  refine ⟨_, sort_tups setsRaw_ne, ?_⟩
  repeat trivial
end L2.MP
end
section
set_option Elab.async false
set_option linter.all false
set_option maxRecDepth 100000
set_option maxHeartbeats 4000000
namespace L2.MP
open PySem PySem.Spec PyProof.Rows L2.MP
local macro_rules
  | `(tactic| trivial) => `(tactic| first
    | refine w_seq ?_ | refine w_set ?_ | refine w_setOwn ?_ | refine w_setHp ?_ | refine w_retS ?_ | refine w_retHp ?_ | refine w_ite ?_ | refine w_expr ?_ | refine w_asg ?_ | refine w_setIx ?_ | refine w_mut ?_ | refine w_hp ?_ | refine w_lm1 ?_
    | refine w_bl ?_ | refine w_op2 ?_ | refine w_op1 ?_ | refine w_opF1 ?_ | refine w_opF2 ?_ | refine w_chainP ?_ | refine w_and ?_ | refine w_or ?_ | refine w_not ?_ | refine w_notT ?_ | refine w_andT ?_ | refine w_orT ?_ | refine w_tru ?_
    | refine w_fz ?_ | refine w_lst ?_ | refine w_tup ?_ | refine w_cons ?_ | refine w_nil ?_ | refine w_sl ?_ | refine w_slF ?_ | refine w_part ?_ | refine w_part0 ?_ | refine w_sm0 ?_ | refine w_sm1 ?_ | refine w_disp ?_ | refine w_pr ?_ | refine w_pr0 ?_
    | refine w_for ?_ | refine w_walk ?_ | refine w_rng1 ?_ | refine w_rng2 ?_ | refine w_enum ?_ | refine w_zip ?_ | refine w_fn ?_ | refine w_comp ?_ | refine w_count ?_ | refine w_raise0 ?_ | refine w_raise1 ?_ | refine w_augIx ?_
    | refine w_var rfl ?_ | refine w_peek rfl ?_ | refine w_peekO rfl ?_ | refine w_varO rfl rfl ?_ | refine w_ret ?_
    | refine ⟨_, ix0, ?_⟩ | refine ⟨_, ix1, ?_⟩ | refine ⟨_, ix2, ?_⟩ | refine ⟨_, ix3, ?_⟩
    | refine rg_and ?_ | refine ⟨_, rfl, ?_⟩ | refine ⟨rfl, ?_⟩ | refine ⟨Nat.le_of_ble_eq_true rfl, ?_⟩
    | refine ⟨fun _ => ?_, fun h => Bool.noConfusion (show true = false from h)⟩ | refine ⟨fun h => Bool.noConfusion (show false = true from h), fun _ => ?_⟩)
variable {S : Sto} {Q : D → Sto → Prop} {E : Exn → Sto → Prop} {φ : Nat → Fn} {dm : DefM}
theorem putD_new {κ : Type} [DecidableEq κ] {q : κ} {d : D} : ∀ {ks : List κ} {vs : List D}, q ∉ ks → ks.length = vs.length → putD q d ks vs = (ks ++ [q], vs ++ [d])
  | [], [], _, _ => rfl
  | [], _ :: _, _, h => nomatch h
  | _ :: _, [], _, h => nomatch h
  | a :: ks, x :: vs, h, hl => by
    unfold putD
    rw [if_neg fun e => h (by rw [e]; exact List.mem_cons_self), putD_new (fun hm => h (List.mem_cons_of_mem _ hm)) (by simpa using hl)]
    rfl
def keysI {T : Type} (l : List (Int × T)) : List Key := l.map fun p => .inl p.1
def valsI {T : Type} (enc : T → D) (l : List (Int × T)) : List D := l.map fun p => enc p.2
theorem keysI_mem {T : Type} {l : List (Int × T)} {n : Int} : (Sum.inl n : Key) ∈ keysI l ↔ n ∈ l.map (·.1) := by
  unfold keysI
  rw [List.mem_map, List.mem_map]
  constructor
  · rintro ⟨p, hp, e⟩; exact ⟨p, hp, Sum.inl.inj e⟩
  · rintro ⟨p, hp, e⟩; exact ⟨p, hp, by rw [e]⟩
theorem keysI_nd {T : Type} : ∀ {l : List (Int × T)}, (l.map (·.1)).Nodup → (keysI l).Nodup
  | [], _ => List.nodup_nil
  | p :: l, h => by
    rw [List.map_cons] at h
    obtain ⟨h1, h2⟩ := List.nodup_cons.mp h
    exact List.nodup_cons.mpr ⟨fun hm => h1 (keysI_mem.mp hm), keysI_nd h2⟩
theorem put_new {T : Type} {enc : T → D} {l : List (Int × T)} {n : Int} {x : T} (h : n ∉ l.map (·.1)) (nd : (l.map (·.1)).Nodup) (hl : l.length < sizeLine) : setIxF (.dk (keysI l) (valsI enc l)) (.int n) (enc x) = some (.dk (keysI (l ++ [(n, x)])) (valsI enc (l ++ [(n, x)]))) := by
  show (if (keysI l).Nodup ∧ (keysI l).length < sizeLine then _ else none) = _
  rw [if_pos ⟨keysI_nd nd, by unfold keysI; rw [List.length_map]; exact hl⟩]
  show some (Cell.dk (putD (Sum.inl n) (enc x) (keysI l) (valsI enc l)).1 (putD (Sum.inl n) (enc x) (keysI l) (valsI enc l)).2) = _
  rw [putD_new (fun hm => h (keysI_mem.mp hm)) (by unfold keysI valsI; rw [List.length_map, List.length_map])]
  unfold keysI valsI
  simp
theorem find_of {T : Type} {l : List (Int × T)} {n : Int} (h : n ∈ l.map (·.1)) : ∃ p, (l.find? fun p => decide (p.1 = n)) = some p ∧ p ∈ l ∧ p.1 = n := by
  cases e : l.find? fun p => decide (p.1 = n) with
  | none =>
    obtain ⟨p, hp, rfl⟩ := List.mem_map.mp h
    have := List.find?_eq_none.mp e p hp
    simp at this
  | some p => exact ⟨p, rfl, List.mem_of_find?_eq_some e, by simpa using List.find?_some e⟩
def onP (w : Wt) : Int × (Ofr × Int) := (w.n, (w.o, w.l))
def placedB (φ : Nat → Fn) : M Flo :=
  (dSeq (dSetOwn 1 (M.ret (Cell.dk [] [])))
  (dSeq (dFor (dWalk (dVar 0)) (gTp [(gNm 2), (gNm 3), (gNm 4)]) (dSetIx (dTup (dArgs [(dVar 3), (dVar 4)])) (dPeek 1) (dPeek 2)))
  (dRet (dVar 1))))
def onesD (ws : List Wt) : D := .dk (keysI (ws.map onP)) (valsI onD (ws.map onP))
def PlacedOk (F : Fn) : Prop := ∀ (ws : List Wt) (S : Sto) (Q : D → Sto → Prop) (E : Exn → Sto → Prop), ws.length ≤ 1000 → (ws.map (·.n)).Nodup → Q (onesD ws) S → Wc (F [.lst (ws.map wtD)] S) Q E
theorem placed_ok (h1 : dm.ps.length = 1) (h2 : dm.C.N.length = 5) : PlacedOk (runD dm (placedB φ)) := fun ws S Q E hw nd q => by
  have z := s10
  refine w_def (by rw [h1]; rfl) [.val (.lst (ws.map wtD)), .no, .no, .no, .no] (by rw [h2]; rfl) ?_
  unfold placedB
  repeat trivial
  refine w_loopT (mk := fun a : List Wt => [.val (.lst (ws.map wtD)), .own (.dk (keysI (a.map onP)) (valsI onD (a.map onP))), .no, .no, .no]) [2, 3, 4] (fun r a s => s = S ∧ a ++ r = ws) [] rfl ⟨rfl, rfl⟩ ⟨_, _, _, rfl⟩ (fun w r a s e ⟨h1, h2⟩ ⟨s2, s3, s4, he⟩ => ?_) (fun a s e ⟨h1, h2⟩ ⟨s2, s3, s4, he⟩ => ?_)
  · subst h1 he
    have ef : ∀ m : List Wt, (m.map onP).map (·.1) = m.map (·.n) := fun m => by rw [List.map_map]; rfl
    have nd2 : ((a.map onP).map (·.1)).Nodup ∧ w.n ∉ (a.map onP).map (·.1) := by
      rw [ef]
      rw [← h2, List.map_append, List.map_cons, List.nodup_append] at nd
      exact ⟨nd.1, fun hm => nd.2.2 _ hm _ List.mem_cons_self rfl⟩
    have la : a.length < sizeLine := by
      have := congrArg List.length h2
      simp at this
      omega
    refine ⟨_, rfl, ?_⟩
    repeat trivial
    refine ⟨_, _, _, _, rfl, put_new (enc := onD) (x := (w.o, w.l)) nd2.2 nd2.1 (by rw [List.length_map]; exact la), rfl, ?_⟩
    exact ⟨a ++ [w], ⟨_, _, _, by rw [List.map_append]; rfl⟩, rfl, by rw [← h2]; simp⟩
  · subst h1 he
    rw [List.append_nil] at h2
    subst h2
    repeat trivial
def sofOf (ws : List Wt) (s : List Int) : Sof := s.filterMap fun n => ((ws.map onP).find? fun p => decide (p.1 = n)).map (·.2)
structure WsOk (n : Nat) (ws : List Wt) : Prop where
  len : ws.length ≤ 63
  nd : (ws.map (·.n)).Nodup
  wish : ∀ w ∈ ws, w.o.wish.fine = true ∧ w.o.wish.deep ≤ n
  card : ∀ w ∈ ws, w.o.card.few
theorem sof_at {ws : List Wt} {n : Int} (h : n ∈ ws.map (·.n)) : ∃ w ∈ ws, w.n = n ∧ ((ws.map onP).find? fun p => decide (p.1 = n)) = some (onP w) := by
  have ef : (ws.map onP).map (·.1) = ws.map (·.n) := by rw [List.map_map]; rfl
  obtain ⟨p, e, hp, hn⟩ := find_of (l := ws.map onP) (n := n) (by rw [ef]; exact h)
  obtain ⟨w, hw, rfl⟩ := List.mem_map.mp hp
  exact ⟨w, hw, hn, e⟩
theorem sof_cons {ws : List Wt} {n : Int} {s : List Int} {w : Wt} (e : ((ws.map onP).find? fun p => decide (p.1 = n)) = some (onP w)) : sofOf ws (n :: s) = (w.o, w.l) :: sofOf ws s := by
  unfold sofOf
  rw [List.filterMap_cons, e]; rfl
theorem sof_len {ws : List Wt} : ∀ {s : List Int}, (∀ n ∈ s, n ∈ ws.map (·.n)) → (sofOf ws s).length = s.length ∧ ∀ p ∈ sofOf ws s, ∃ w ∈ ws, p = (w.o, w.l)
  | [], _ => ⟨rfl, fun _ h => nomatch h⟩
  | n :: s, h => by
    obtain ⟨w, hw, _, e⟩ := sof_at (h n List.mem_cons_self)
    obtain ⟨i1, i2⟩ := sof_len fun m hm => h m (List.mem_cons_of_mem _ hm)
    rw [sof_cons e]
    refine ⟨by rw [List.length_cons, i1, List.length_cons], fun p hp => ?_⟩
    rcases List.mem_cons.mp hp with rfl | hp
    · exact ⟨w, hw, rfl⟩
    · exact i2 p hp
theorem sets_num {borne : List Str} {ws : List Wt} {s : List Int} (h : s ∈ setsRaw borne ws) : (s.length = 2 ∨ s.length = 3) ∧ ∀ n ∈ s, n ∈ ws.map (·.n) := by
  have mem : ∀ {sd kd n}, n ∈ sideL ws sd kd → n ∈ ws.map (·.n) := fun h => by
    obtain ⟨w, hw, rfl, _⟩ := sideL_mem.mp h
    exact List.mem_map_of_mem hw
  obtain ⟨k, g, t, hg, ht, h⟩ := setsRaw_mem.mp h
  rcases h with ⟨_, b, hb, rfl⟩ | ⟨_, rfl⟩
  · refine ⟨.inr rfl, fun n hn => ?_⟩
    simp only [List.mem_cons, List.not_mem_nil, or_false] at hn
    rcases hn with rfl | rfl | rfl
    · exact mem hg
    · exact mem ht
    · exact mem hb
  · refine ⟨.inl rfl, fun n hn => ?_⟩
    simp only [List.mem_cons, List.not_mem_nil, or_false] at hn
    rcases hn with rfl | rfl
    · exact mem hg
    · exact mem ht
theorem WsOk.set {n : Nat} {ws : List Wt} (h : WsOk n ws) {borne : List Str} {s : List Int} (hs : s ∈ setsRaw borne ws) : SetOk n (sofOf ws s) := by
  obtain ⟨h1, h2⟩ := sets_num hs
  obtain ⟨i1, i2⟩ := sof_len h2
  exact ⟨by rw [i1]; exact h1, fun p hp => by obtain ⟨w, hw, rfl⟩ := i2 p hp; exact h.wish w hw, fun p hp => by obtain ⟨w, hw, rfl⟩ := i2 p hp; exact h.card w hw⟩
end L2.MP
end
section
set_option Elab.async false
set_option linter.all false
set_option maxRecDepth 100000
set_option maxHeartbeats 4000000
namespace L2.MP
open PySem PySem.Spec PyProof.Rows L2.MP
local macro_rules
  | `(tactic| trivial) => `(tactic| first
    | refine w_seq ?_ | refine w_set ?_ | refine w_setOwn ?_ | refine w_setHp ?_ | refine w_retS ?_ | refine w_retHp ?_ | refine w_ite ?_ | refine w_expr ?_ | refine w_asg ?_ | refine w_setIx ?_ | refine w_mut ?_ | refine w_hp ?_ | refine w_lm1 ?_
    | refine w_bl ?_ | refine w_op2 ?_ | refine w_op1 ?_ | refine w_opF1 ?_ | refine w_opF2 ?_ | refine w_chainP ?_ | refine w_and ?_ | refine w_or ?_ | refine w_not ?_ | refine w_notT ?_ | refine w_andT ?_ | refine w_orT ?_ | refine w_tru ?_
    | refine w_fz ?_ | refine w_lst ?_ | refine w_tup ?_ | refine w_cons ?_ | refine w_nil ?_ | refine w_sl ?_ | refine w_slF ?_ | refine w_part ?_ | refine w_part0 ?_ | refine w_sm0 ?_ | refine w_sm1 ?_ | refine w_disp ?_ | refine w_pr ?_ | refine w_pr0 ?_
    | refine w_for ?_ | refine w_walk ?_ | refine w_rng1 ?_ | refine w_rng2 ?_ | refine w_enum ?_ | refine w_zip ?_ | refine w_fn ?_ | refine w_comp ?_ | refine w_count ?_ | refine w_raise0 ?_ | refine w_raise1 ?_ | refine w_augIx ?_
    | refine w_var rfl ?_ | refine w_peek rfl ?_ | refine w_peekO rfl ?_ | refine w_varO rfl rfl ?_ | refine w_ret ?_
    | refine ⟨_, ix0, ?_⟩ | refine ⟨_, ix1, ?_⟩ | refine ⟨_, ix2, ?_⟩ | refine ⟨_, ix3, ?_⟩
    | refine rg_and ?_ | refine ⟨_, rfl, ?_⟩ | refine ⟨rfl, ?_⟩ | refine ⟨Nat.le_of_ble_eq_true rfl, ?_⟩
    | refine ⟨fun _ => ?_, fun h => Bool.noConfusion (show true = false from h)⟩ | refine ⟨fun h => Bool.noConfusion (show false = true from h), fun _ => ?_⟩)
variable {S : Sto} {Q : D → Sto → Prop} {E : Exn → Sto → Prop} {φ : Nat → Fn} {dm : DefM}
section
variable {R : Flo → Envr → Sto → Prop} {E : Exn → Envr → Sto → Prop} {env : Envr} {S : Sto} {s t : M Flo}
theorem w_cut (P : Envr → Sto → Prop) (h1 : Wp s env S (fun f e s => f = .nx ∧ P e s) E) (h2 : ∀ e s, P e s → Wp t e s R E) : Wp (dSeq s t) env S R E :=
  w_seq (Wp.mono h1 (fun f e s h => by obtain ⟨rfl, h⟩ := h; exact h2 e s h) fun _ _ _ q => q)
end
def ruleWs : List Str := ["heavy", "great", "small", "soon"]
structure RuleOk (rule : List Str) : Prop where
  len : rule.length ≤ 3
  mem : ∀ x ∈ rule, x ∈ ruleWs
  nd : rule.Nodup
def ruleTB (φ : Nat → Fn) (c_draw : Nat) : M Flo :=
  (dSeq (dSetOwn 1 (dLst (dArgs [(M.ret (D.str "heavy")), (M.ret (D.str "great")), (M.ret (D.str "small")), (M.ret (D.str "soon"))])))
  (dSeq (dSetOwn 2 (dLst (dArgs [])))
  (dSeq (dFor (dRng1 (dOp2 ixD (dFz (dLst (dArgs [(M.ret (D.int 0)), (M.ret (D.int 1)), (M.ret (D.int 1)), (M.ret (D.int 2)), (M.ret (D.int 3))]))) (dFn φ c_draw 2 (dArgs [(dVar 0), (M.ret (D.int 5))])))) (gNm 3) (dExpr (dMut appF (dPeek 2) (dArgs [(dMut popAtF (dPeek 1) (dArgs [(dFn φ c_draw 2 (dArgs [(dVar 0), (dOp1 lenD (dPeek 1))]))]))]))))
  (dRet (dOp1 tupleD (dPeek 2))))))
def DrX {α : Type} (F : Fn) (enc : α → D) (P : α → Prop) : Prop := ∀ (i : Nat) (S0 S : Sto) (Q : D → Sto → Prop) (E : Exn → Sto → Prop), Well i S0 S → (∀ x S', P x → Well i S0 S' → Q (enc x) S') → Wc (F [.ref i] S) Q E
def strsT (l : List Str) : D := .tup (l.map D.str)
theorem popAt_x {T : Type} {enc : T → D} {L : List T} {x : Nat} (hx : x < L.length) (hz : x < 1000000) : popAtF (.lst (L.map enc)) [.int (x : Nat)] = some (.lst ((L.eraseIdx x).map enc), enc L[x]) := by
  have h1 : -(2 ^ 63) ≤ ((x : Nat) : Int) ∧ ((x : Nat) : Int) < 2 ^ 63 := ⟨by omega, by omega⟩
  unfold popAtF
  dsimp only
  rw [if_pos h1]
  have e1 : seqIndex? ((x : Nat) : Int) (L.map enc).length = some x := by
    rw [List.length_map]
    unfold seqIndex?
    have : ¬ ((x : Nat) : Int) < 0 := by omega
    simp [this, hx]
  rw [e1]
  show ((L.map enc)[x]?).map _ = _
  rw [List.getElem?_map, List.getElem?_eq_getElem hx]
  simp [List.eraseIdx_eq_take_drop_succ, List.map_take, List.map_drop]
theorem erase_perm {T : Type} {L F : List T} {x : Nat} (hx : x < L.length) : (F ++ [L[x]] ++ L.eraseIdx x).Perm (F ++ L) := by
  rw [List.append_assoc]
  refine List.Perm.append_left F ?_
  rw [List.eraseIdx_eq_take_drop_succ]
  have e := (List.perm_middle (a := L[x]) (l₁ := L.take x) (l₂ := L.drop (x + 1))).symm
  rw [← List.drop_eq_getElem_cons hx, List.take_append_drop] at e
  exact e
theorem ruleT_ok (h1 : dm.ps.length = 1) (h2 : dm.C.N.length = 4) {dr : Nat} (hd : PkW (φ dr)) : DrX (runD dm (ruleTB φ dr)) strsT RuleOk := fun i S0 S Q E hw q => by
  have z := s10
  refine w_def (by rw [h1]; rfl) [.val (.ref i), .no, .no, .no] (by rw [h2]; rfl) ?_
  unfold ruleTB
  repeat trivial
  refine hd i _ S0 _ _ _ hw (by decide) (by decide) fun r S1 r0 r1 hw => ?_
  obtain ⟨d, e, hd'⟩ := at_some (l := [.int 0, .int 1, .int 1, .int 2, .int 3]) r0 r1
  obtain ⟨m, rfl, m1⟩ : ∃ m : Nat, d = .int (m : Nat) ∧ m ≤ 3 := by
    simp only [List.mem_cons, List.not_mem_nil, or_false] at hd'
    rcases hd' with rfl | rfl | rfl | rfl | rfl
    · exact ⟨0, rfl, by decide⟩
    · exact ⟨1, rfl, by decide⟩
    · exact ⟨1, rfl, by decide⟩
    · exact ⟨2, rfl, by decide⟩
    · exact ⟨3, rfl, by decide⟩
  refine ⟨_, e, ?_⟩
  haveI : RgB (m : Nat) := ⟨by simp [rgB]; omega⟩
  repeat trivial
  refine w_loopA (mk := fun p : List Str × List Str => [.val (.ref i), .own (.lst (p.1.map D.str)), .own (.lst (p.2.map D.str)), .no]) [3] (fun l p s => Well i S0 s ∧ (p.2 ++ p.1).Perm ruleWs ∧ p.2.length + l.length ≤ 3) (ruleWs, []) rfl ⟨hw, by simp, by rw [upto_len]; simp; omega⟩ ⟨_, rfl⟩ (fun d l p s e ⟨hw, hp, hl⟩ ⟨s3, he⟩ => ?_) (fun p s e ⟨hw, hp, hl⟩ ⟨s3, he⟩ => ?_)
  · obtain ⟨L, F⟩ := p
    subst he
    have hlen : F.length + L.length = 4 := by have := hp.length_eq; simpa [ruleWs] using this
    rw [List.length_cons] at hl
    dsimp only at hl
    refine ⟨_, rfl, ?_⟩
    repeat trivial
    refine ⟨⟨_, rfl⟩, ?_⟩
    repeat trivial
    refine ⟨⟨_, rfl⟩, ?_⟩
    repeat trivial
    dsimp only
    rw [List.length_map]
    refine hd i _ S0 s _ _ hw (by omega) (by omega) fun x S2 x0 x1 hw => ?_
    obtain ⟨x, rfl⟩ := Int.eq_ofNat_of_zero_le x0
    have hx : x < L.length := by omega
    repeat trivial
    refine ⟨_, _, _, _, rfl, popAt_x (enc := D.str) hx (by omega), rfl, ?_⟩
    refine w_nil ?_
    refine ⟨_, _, _, _, rfl, app_one (enc := D.str) (by omega), rfl, ?_⟩
    exact ⟨(L.eraseIdx x, F ++ [L[x]]), ⟨_, rfl⟩, hw, (erase_perm hx).trans hp, by rw [List.length_append]; simp; omega⟩
  · obtain ⟨L, F⟩ := p
    subst he
    repeat trivial
    have nd : (F ++ L).Nodup := hp.nodup_iff.mpr (by decide +kernel)
    exact q F s ⟨by simpa using hl, fun x hx => hp.mem_iff.mp (List.mem_append_left _ hx), (List.nodup_append.mp nd).1⟩ hw
def borneTB (φ : Nat → Fn) (c_draw : Nat) : M Flo :=
  (dRet (dOp2 ixD (dFz (dLst (dArgs [(dTup (dArgs [])), (dTup (dArgs [])), (dTup (dArgs [(M.ret (D.str "rye"))])), (dTup (dArgs [(M.ret (D.str "o")), (M.ret (D.str "rye"))])), (dTup (dArgs [(M.ret (D.str "oat")), (M.ret (D.str "rye")), (M.ret (D.str "o")), (M.ret (D.str "wheat"))]))]))) (dFn φ c_draw 2 (dArgs [(dVar 0), (M.ret (D.int 5))]))))
def BorneOk (b : List Str) : Prop := b.length ≤ 4 ∧ b.Nodup ∧ ∀ x ∈ b, isW x = true
theorem borneT_ok (h1 : dm.ps.length = 1) (h2 : dm.C.N.length = 1) {dr : Nat} (hd : PkW (φ dr)) : DrX (runD dm (borneTB φ dr)) strsT BorneOk := fun i S0 S Q E hw q => by
  refine w_def (by rw [h1]; rfl) [.val (.ref i)] (by rw [h2]; rfl) ?_
  unfold borneTB
  repeat trivial
  refine hd i _ S0 _ _ _ hw (by decide) (by decide) fun r S1 r0 r1 hw => ?_
  obtain ⟨d, e, hd'⟩ := at_some (l := [strsT [], strsT [], strsT ["rye"], strsT ["o", "rye"], strsT ["oat", "rye", "o", "wheat"]]) r0 r1
  refine ⟨d, e, ?_⟩
  simp only [List.mem_cons, List.not_mem_nil, or_false] at hd'
  rcases hd' with rfl | rfl | rfl | rfl | rfl
  · exact q _ S1 ⟨by decide, by decide, (fun _ h => nomatch h)⟩ hw
  · exact q _ S1 ⟨by decide, by decide, (fun _ h => nomatch h)⟩ hw
  · exact q _ S1 ⟨by decide, by decide +kernel, isW_all (by decide +kernel)⟩ hw
  · exact q _ S1 ⟨by decide, by decide +kernel, isW_all (by decide +kernel)⟩ hw
  · exact q _ S1 ⟨by decide, by decide +kernel, isW_all (by decide +kernel)⟩ hw
structure WtG (w : Wt) : Prop where
  good : w.o.good
  side : w.o.side = "give" ∨ w.o.side = "take" ∨ w.o.side = "bear"
  kind : w.o.card.kind = "rye" ∨ w.o.card.kind = "oat" ∨ w.o.card.kind = "o"
  l1 : 1 ≤ w.l
  l2 : w.l ≤ w.o.many
structure WsG (m : Nat) (ws : List Wt) : Prop where
  each : ∀ w ∈ ws, WtG w
  rise : ws.Pairwise fun a b => a.n < b.n
  len : ws.length ≤ m
theorem WsG.nd {m : Nat} {ws : List Wt} (h : WsG m ws) : (ws.map (·.n)).Nodup := by
  rw [List.nodup_iff_pairwise_ne, List.pairwise_map]
  exact h.rise.imp fun h e => by omega
theorem WsG.ok {m : Nat} {ws : List Wt} (h : WsG m ws) (hm : m ≤ 63) : WsOk 3 ws := ⟨by have := h.len; omega, h.nd, fun w hw => ⟨(h.each w hw).good.fine, (h.each w hw).good.deep⟩, fun w hw => (h.each w hw).good.card.few⟩
end L2.MP
end
section
set_option Elab.async false
set_option linter.all false
set_option maxRecDepth 100000
set_option maxHeartbeats 4000000
namespace L2.MP
open PySem PySem.Spec PyProof.Rows L2.MP
local macro_rules
  | `(tactic| trivial) => `(tactic| first
    | refine w_seq ?_ | refine w_set ?_ | refine w_setOwn ?_ | refine w_setHp ?_ | refine w_retS ?_ | refine w_retHp ?_ | refine w_ite ?_ | refine w_expr ?_ | refine w_asg ?_ | refine w_setIx ?_ | refine w_mut ?_ | refine w_hp ?_ | refine w_lm1 ?_
    | refine w_bl ?_ | refine w_op2 ?_ | refine w_op1 ?_ | refine w_opF1 ?_ | refine w_opF2 ?_ | refine w_chainP ?_ | refine w_and ?_ | refine w_or ?_ | refine w_not ?_ | refine w_notT ?_ | refine w_andT ?_ | refine w_orT ?_ | refine w_tru ?_
    | refine w_fz ?_ | refine w_lst ?_ | refine w_tup ?_ | refine w_cons ?_ | refine w_nil ?_ | refine w_sl ?_ | refine w_slF ?_ | refine w_part ?_ | refine w_part0 ?_ | refine w_sm0 ?_ | refine w_sm1 ?_ | refine w_disp ?_ | refine w_pr ?_ | refine w_pr0 ?_
    | refine w_for ?_ | refine w_walk ?_ | refine w_rng1 ?_ | refine w_rng2 ?_ | refine w_enum ?_ | refine w_zip ?_ | refine w_fn ?_ | refine w_comp ?_ | refine w_count ?_ | refine w_raise0 ?_ | refine w_raise1 ?_ | refine w_augIx ?_
    | refine w_var rfl ?_ | refine w_peek rfl ?_ | refine w_peekO rfl ?_ | refine w_varO rfl rfl ?_ | refine w_ret ?_
    | refine ⟨_, ix0, ?_⟩ | refine ⟨_, ix1, ?_⟩ | refine ⟨_, ix2, ?_⟩ | refine ⟨_, ix3, ?_⟩
    | refine rg_and ?_ | refine ⟨_, rfl, ?_⟩ | refine ⟨rfl, ?_⟩ | refine ⟨Nat.le_of_ble_eq_true rfl, ?_⟩
    | refine ⟨fun _ => ?_, fun h => Bool.noConfusion (show true = false from h)⟩ | refine ⟨fun h => Bool.noConfusion (show false = true from h), fun _ => ?_⟩)
variable {R : Flo → Envr → Sto → Prop}
local macro_rules
  | `(tactic| trivial) => `(tactic| first
    | refine w_setFld ?_ | refine w_setFldF ?_ | refine w_make ?_ | refine w_fld ?_ | refine w_meths ?_)
def hF (r b q t : D) (n : Nat) : List (Str × D) := [("rule", r), ("borne", b), ("quiet", q), ("time", t), ("offers", .ref (n + 1)), ("lefts", .ref (n + 2)), ("ends", .ref (n + 3)), ("lines", .ref (n + 4))]
def newH (c : Nat) (r b q : D) (S : Sto) : Sto := S ++ [.ins c (hF r b q .non S.length), .lst [], .lst [], .lst [], .lst []]
theorem set_mid {S T : Sto} {a x : Cell} : (S ++ a :: T).set S.length x = S ++ x :: T := by simp
theorem get_mid {S T : Sto} {a : Cell} : (S ++ a :: T)[S.length]? = some a := by simp
theorem set_midF {S T : Sto} {a x d : Cell} : ((S ++ a :: T) ++ [d]).set S.length x = S ++ x :: (T ++ [d]) := by simp
theorem get_midF {S T : Sto} {a d : Cell} : ((S ++ a :: T) ++ [d])[S.length]? = some a := by simp
theorem put1 (r : D) : putG "rule" r ([] : List (Str × D)) = ([("rule", r)] : List (Str × D)) := by kernel_rfl
theorem put2 (r b : D) : putG "borne" b ([("rule", r)] : List (Str × D)) = ([("rule", r), ("borne", b)] : List (Str × D)) := by kernel_rfl
theorem put3 (r b q : D) : putG "quiet" q ([("rule", r), ("borne", b)] : List (Str × D)) = ([("rule", r), ("borne", b), ("quiet", q)] : List (Str × D)) := by kernel_rfl
theorem put4 (r b q t : D) : putG "time" t ([("rule", r), ("borne", b), ("quiet", q)] : List (Str × D)) = ([("rule", r), ("borne", b), ("quiet", q), ("time", t)] : List (Str × D)) := by kernel_rfl
theorem put5 (r b q t o : D) : putG "offers" o ([("rule", r), ("borne", b), ("quiet", q), ("time", t)] : List (Str × D)) = ([("rule", r), ("borne", b), ("quiet", q), ("time", t), ("offers", o)] : List (Str × D)) := by kernel_rfl
theorem put6 (r b q t o l : D) : putG "lefts" l ([("rule", r), ("borne", b), ("quiet", q), ("time", t), ("offers", o)] : List (Str × D)) = ([("rule", r), ("borne", b), ("quiet", q), ("time", t), ("offers", o), ("lefts", l)] : List (Str × D)) := by kernel_rfl
theorem put7 (r b q t o l e : D) : putG "ends" e ([("rule", r), ("borne", b), ("quiet", q), ("time", t), ("offers", o), ("lefts", l)] : List (Str × D)) = ([("rule", r), ("borne", b), ("quiet", q), ("time", t), ("offers", o), ("lefts", l), ("ends", e)] : List (Str × D)) := by kernel_rfl
theorem put8 (r b q t o l e x : D) : putG "lines" x ([("rule", r), ("borne", b), ("quiet", q), ("time", t), ("offers", o), ("lefts", l), ("ends", e)] : List (Str × D)) = ([("rule", r), ("borne", b), ("quiet", q), ("time", t), ("offers", o), ("lefts", l), ("ends", e), ("lines", x)] : List (Str × D)) := by kernel_rfl
def initB (φ : Nat → Fn) (c_is_rule c_are_borne c_are_quiet : Nat) (cs : List Nat) : M Flo :=
  (dSeq (dIf (dOrT (dNotT (dTru (dFn φ c_is_rule 1 (dArgs [(dVar 1)])))) (dOrT (dNotT (dTru (dFn φ c_are_borne 1 (dArgs [(dVar 2)])))) (dNotT (dTru (dFn φ c_are_quiet 1 (dArgs [(dVar 3)])))))) (dRaise0 2) (M.ret .nx))
  (dSeq (dSetFld cs "rule" (dVar 0) (dVar 1))
  (dSeq (dSetFld cs "borne" (dVar 0) (dVar 2))
  (dSeq (dSetFld cs "quiet" (dVar 0) (dVar 3))
  (dSeq (dSetFld cs "time" (dVar 0) (M.ret D.non))
  (dSeq (dSetFldF cs "offers" (dVar 0) (dLst (dArgs [])))
  (dSeq (dSetFldF cs "lefts" (dVar 0) (dLst (dArgs [])))
  (dSeq (dSetFldF cs "ends" (dVar 0) (dLst (dArgs [])))
  (dSetFldF cs "lines" (dVar 0) (dLst (dArgs [])))))))))))
def okH (r b q : D) : Bool := ruleD r && (borneD b && quietD q)
def InitOk (c : Nat) (F : Fn) : Prop := ∀ (r b q : D) (S : Sto) (Q : D → Sto → Prop) (E : Exn → Sto → Prop), PlX r → PlX b → PlX q → (okH r b q = true → Q .non (newH c r b q S)) → (okH r b q = false → E ⟨2, []⟩ (S ++ [.ins c []])) → Wc (F [.ref S.length, r, b, q] (S ++ [.ins c []])) Q E
theorem houseInit_ok (h1 : dm.ps.length = 4) (h2 : dm.C.N.length = 4) {cr cb cq c : Nat} {cs : List Nat} (hc : c ∈ cs) (hr : PF (φ cr) PlX (fun d => .bl (ruleD d))) (hb : PF (φ cb) PlX (fun d => .bl (borneD d))) (hq : PF (φ cq) PlX (fun d => .bl (quietD d))) : InitOk c (runD dm (initB φ cr cb cq cs)) := fun r b q S Q E pr pb pq q1 q2 => by
  unfold okH at q1 q2
  refine w_def (by rw [h1]; rfl) [.val (.ref S.length), .val r, .val b, .val q] (by rw [h2]; rfl) ?_
  unfold initB
  repeat trivial
  refine pf_at hr pr rfl ?_
  cases er : ruleD r with
  | false =>
    rw [er] at q2
    repeat trivial
    exact q2 rfl
  | true =>
    rw [er, Bool.true_and] at q1 q2
    repeat trivial
    refine pf_at hb pb rfl ?_
    cases eb : borneD b with
    | false =>
      rw [eb] at q2
      repeat trivial
      exact q2 rfl
    | true =>
      rw [eb, Bool.true_and] at q1 q2
      repeat trivial
      refine pf_at hq pq rfl ?_
      cases eq : quietD q with
      | false =>
        rw [eq] at q2
        repeat trivial
        exact q2 rfl
      | true =>
        have q1 := q1 eq
        repeat trivial
        refine ⟨_, _, _, rfl, get_mid, ⟨hc, by simp⟩, ?_⟩
        rw [set_mid, put1]
        repeat trivial
        refine ⟨_, _, _, rfl, get_mid, ⟨hc, by simp⟩, ?_⟩
        rw [set_mid, put2]
        repeat trivial
        refine ⟨_, _, _, rfl, get_mid, ⟨hc, by simp⟩, ?_⟩
        rw [set_mid, put3]
        repeat trivial
        refine ⟨_, _, _, rfl, get_mid, ⟨hc, by simp⟩, ?_⟩
        rw [set_mid, put4]
        repeat trivial
        refine ⟨_, _, _, rfl, get_midF, ⟨hc, by simp⟩, ?_⟩
        rw [set_midF, put5]
        repeat trivial
        refine ⟨_, _, _, rfl, get_midF, ⟨hc, by simp⟩, ?_⟩
        rw [set_midF, put6]
        repeat trivial
        refine ⟨_, _, _, rfl, get_midF, ⟨hc, by simp⟩, ?_⟩
        rw [set_midF, put7]
        repeat trivial
        refine ⟨_, _, _, rfl, get_midF, ⟨hc, by simp⟩, ?_⟩
        rw [set_midF, put8]
        repeat trivial
        unfold newH hF at q1
        simp only [List.length_append, List.length_cons, List.length_nil, List.nil_append, List.cons_append, Nat.zero_add, Nat.reduceAdd] at q1 ⊢
        exact q1
end L2.MP
end
section
set_option Elab.async false
set_option linter.all false
set_option maxRecDepth 100000
set_option maxHeartbeats 4000000
namespace L2.MP
open PySem PySem.Spec PyProof.Rows L2.MP
local macro_rules
  | `(tactic| trivial) => `(tactic| first
    | refine w_seq ?_ | refine w_set ?_ | refine w_setOwn ?_ | refine w_setHp ?_ | refine w_retS ?_ | refine w_retHp ?_ | refine w_ite ?_ | refine w_expr ?_ | refine w_asg ?_ | refine w_setIx ?_ | refine w_mut ?_ | refine w_hp ?_ | refine w_lm1 ?_
    | refine w_bl ?_ | refine w_op2 ?_ | refine w_op1 ?_ | refine w_opF1 ?_ | refine w_opF2 ?_ | refine w_chainP ?_ | refine w_and ?_ | refine w_or ?_ | refine w_not ?_ | refine w_notT ?_ | refine w_andT ?_ | refine w_orT ?_ | refine w_tru ?_
    | refine w_fz ?_ | refine w_lst ?_ | refine w_tup ?_ | refine w_cons ?_ | refine w_nil ?_ | refine w_sl ?_ | refine w_slF ?_ | refine w_part ?_ | refine w_part0 ?_ | refine w_sm0 ?_ | refine w_sm1 ?_ | refine w_disp ?_ | refine w_pr ?_ | refine w_pr0 ?_
    | refine w_for ?_ | refine w_walk ?_ | refine w_rng1 ?_ | refine w_rng2 ?_ | refine w_enum ?_ | refine w_zip ?_ | refine w_fn ?_ | refine w_comp ?_ | refine w_count ?_ | refine w_raise0 ?_ | refine w_raise1 ?_ | refine w_augIx ?_
    | refine w_var rfl ?_ | refine w_peek rfl ?_ | refine w_peekO rfl ?_ | refine w_varO rfl rfl ?_ | refine w_ret ?_
    | refine ⟨_, ix0, ?_⟩ | refine ⟨_, ix1, ?_⟩ | refine ⟨_, ix2, ?_⟩ | refine ⟨_, ix3, ?_⟩
    | refine rg_and ?_ | refine ⟨_, rfl, ?_⟩ | refine ⟨rfl, ?_⟩ | refine ⟨Nat.le_of_ble_eq_true rfl, ?_⟩
    | refine ⟨fun _ => ?_, fun h => Bool.noConfusion (show true = false from h)⟩ | refine ⟨fun h => Bool.noConfusion (show false = true from h), fun _ => ?_⟩)
theorem v_compLive {α : Type} {g : Tgt} {te : M D} {tt : M Bool} {vs : List Nat} {env : Envr} {S : Sto} {fd : α → D} {n : Option Nat} {L : List D} (p : α → Bool) (h : α → D) (hg : gOk n L S = true) : ∀ (m : List α) (acc : List D),
    (∀ x ∈ m, ∃ e1, g (fd x) (wipeE env vs) = some e1 ∧ Vp tt e1 S (fun t e s => t = p x ∧ s = S ∧ (t = true → Vp te e s (fun y e s => y = h x ∧ s = S ∧ wipeE e vs = wipeE env vs) nE) ∧ (t = false → wipeE e vs = wipeE env vs)) nE) →
    compL (L, n) g tt te vs (m.map fd) acc (wipeE env vs) S = .ok (acc ++ (m.filter p).map h) (wipeE env vs) S
  | [], acc, _ => by
    rw [List.map_nil, compL]
    dsimp only
    rw [if_pos hg]; simp
  | x :: m, acc, st => by
    obtain ⟨e1, k1, k2⟩ := st x List.mem_cons_self
    have ih := fun acc => v_compLive p h hg m acc fun y hy => st y (List.mem_cons_of_mem _ hy)
    rw [List.map_cons, compL]
    dsimp only
    rw [if_pos hg, k1]
    dsimp only
    unfold Vp at k2
    cases et : tt e1 S with
    | bad => rw [et] at k2; exact k2.elim
    | exc y e s => rw [et] at k2; exact k2.elim
    | ok t e2 s2 =>
      rw [et] at k2
      obtain ⟨z1, z2, z3, z4⟩ := k2
      subst z1 z2
      cases ep : p x with
      | false =>
        rw [ep] at z4
        dsimp only
        rw [z4 rfl, ih, List.filter_cons_of_neg (by rw [ep]; simp)]
      | true =>
        have z3 := z3 ep
        dsimp only
        cases ee : te e2 s2 with
        | bad => rw [ee] at z3; exact z3.elim
        | exc y e s => rw [ee] at z3; exact z3.elim
        | ok y e3 s3 =>
          rw [ee] at z3
          obtain ⟨u1, u2, u3⟩ := z3
          subst u1 u2
          dsimp only
          rw [u3, ih, List.filter_cons_of_pos ep, List.map_cons, List.append_assoc]
          rfl
theorem w_compLive {α : Type} {g : Tgt} {te : M D} {tt : M Bool} {vs : List Nat} {env : Envr} {S : Sto} {fd : α → D} {n : Option Nat} {xs : List α} {Q : List D → Envr → Sto → Prop} (p : α → Bool) (h : α → D) (hg : gOk n (xs.map fd) S = true) (hl : xs.length ≤ sizeLine)
    (step : ∀ x ∈ xs, ∃ e1, g (fd x) (wipeE env vs) = some e1 ∧ Wp tt e1 S (fun t e s => t = p x ∧ s = S ∧ (t = true → Wp te e s (fun y e s => y = h x ∧ s = S ∧ wipeE e vs = wipeE env vs) nE) ∧ (t = false → wipeE e vs = wipeE env vs)) nE)
    (q : Q ((xs.filter p).map h) (wipeE env vs) S) : (xs.map fd).length ≤ sizeLine ∧ ∃ acc e' s', compL (xs.map fd, n) g tt te vs (xs.map fd) [] (wipeE env vs) S = .ok acc e' s' ∧ Q acc e' s' := by
  refine ⟨by rw [List.length_map]; exact hl, _, _, _, v_compLive p h hg xs [] ?_, by rw [List.nil_append]; exact q⟩
  delta Wp at *
  exact step
variable {S : Sto} {Q : D → Sto → Prop} {E : Exn → Sto → Prop} {φ : Nat → Fn} {dm : DefM}
end L2.MP
end
section
set_option Elab.async false
set_option linter.all false
set_option maxRecDepth 100000
set_option maxHeartbeats 4000000
namespace L2.MP
open PySem PySem.Spec PyProof.Rows L2.MP
local macro_rules
  | `(tactic| trivial) => `(tactic| first
    | refine w_seq ?_ | refine w_set ?_ | refine w_setOwn ?_ | refine w_setHp ?_ | refine w_retS ?_ | refine w_retHp ?_ | refine w_ite ?_ | refine w_expr ?_ | refine w_asg ?_ | refine w_setIx ?_ | refine w_mut ?_ | refine w_hp ?_ | refine w_lm1 ?_
    | refine w_bl ?_ | refine w_op2 ?_ | refine w_op1 ?_ | refine w_opF1 ?_ | refine w_opF2 ?_ | refine w_chainP ?_ | refine w_and ?_ | refine w_or ?_ | refine w_not ?_ | refine w_notT ?_ | refine w_andT ?_ | refine w_orT ?_ | refine w_tru ?_
    | refine w_fz ?_ | refine w_lst ?_ | refine w_tup ?_ | refine w_cons ?_ | refine w_nil ?_ | refine w_sl ?_ | refine w_slF ?_ | refine w_part ?_ | refine w_part0 ?_ | refine w_sm0 ?_ | refine w_sm1 ?_ | refine w_disp ?_ | refine w_pr ?_ | refine w_pr0 ?_
    | refine w_for ?_ | refine w_walk ?_ | refine w_rng1 ?_ | refine w_rng2 ?_ | refine w_enum ?_ | refine w_zip ?_ | refine w_fn ?_ | refine w_comp ?_ | refine w_count ?_ | refine w_raise0 ?_ | refine w_raise1 ?_ | refine w_augIx ?_
    | refine w_var rfl ?_ | refine w_peek rfl ?_ | refine w_peekO rfl ?_ | refine w_varO rfl rfl ?_ | refine w_ret ?_
    | refine ⟨_, ix0, ?_⟩ | refine ⟨_, ix1, ?_⟩ | refine ⟨_, ix2, ?_⟩ | refine ⟨_, ix3, ?_⟩
    | refine rg_and ?_ | refine ⟨_, rfl, ?_⟩ | refine ⟨rfl, ?_⟩ | refine ⟨Nat.le_of_ble_eq_true rfl, ?_⟩
    | refine ⟨fun _ => ?_, fun h => Bool.noConfusion (show true = false from h)⟩ | refine ⟨fun h => Bool.noConfusion (show false = true from h), fun _ => ?_⟩)
variable {R : Flo → Envr → Sto → Prop}
local macro_rules
  | `(tactic| trivial) => `(tactic| first
    | refine w_fld ?_ | refine w_meths ?_ | refine w_enumO ?_)
structure NewAt (c n : Nat) (r b q : D) (S : Sto) : Prop where
  o : S[n]? = some (.ins c (hF r b q .non n))
  f1 : S[n + 1]? = some (.lst [])
  f2 : S[n + 2]? = some (.lst [])
  f3 : S[n + 3]? = some (.lst [])
  f4 : S[n + 4]? = some (.lst [])
theorem newAt {c : Nat} {r b q : D} {S : Sto} : NewAt c S.length r b q (newH c r b q S) := by
  unfold newH
  constructor
  · simp
  · rw [List.getElem?_append_right (by omega)]; simp
  · rw [List.getElem?_append_right (by omega)]; simp
  · rw [List.getElem?_append_right (by omega)]; simp
  · rw [List.getElem?_append_right (by omega)]; simp
theorem lkR (r b q t : D) (n : Nat) : lookF "rule" (hF r b q t n) = some r := by kernel_rfl
theorem lkB (r b q t : D) (n : Nat) : lookF "borne" (hF r b q t n) = some b := by kernel_rfl
theorem lkT (r b q t : D) (n : Nat) : lookF "time" (hF r b q t n) = some t := by kernel_rfl
theorem lkE (r b q t : D) (n : Nat) : lookF "ends" (hF r b q t n) = some (.ref (n + 3)) := by kernel_rfl
theorem lkL (r b q t : D) (n : Nat) : lookF "lines" (hF r b q t n) = some (.ref (n + 4)) := by kernel_rfl
theorem noWaiting (r b q t : D) (n : Nat) : lookF "waiting" (hF r b q t n) = none := by kernel_rfl
theorem noWaiters (r b q t : D) (n : Nat) : lookF "waiters" (hF r b q t n) = none := by kernel_rfl
theorem noNow (r b q t : D) (n : Nat) : lookF "now" (hF r b q t n) = none := by kernel_rfl
theorem noRow (r b q t : D) (n : Nat) : lookF "row" (hF r b q t n) = none := by kernel_rfl
theorem noBook (r b q t : D) (n : Nat) : lookF "book" (hF r b q t n) = none := by kernel_rfl
theorem noMeetings (r b q t : D) (n : Nat) : lookF "meetings" (hF r b q t n) = none := by kernel_rfl
theorem noRest (r b q t : D) (n : Nat) : lookF "rest" (hF r b q t n) = none := by kernel_rfl
theorem view_lst {S : Sto} {m : Nat} {l : List D} (h : S[m]? = some (.lst l)) (e : Envr) : view e S (.ref m) = .lst l := by unfold view; dsimp only; rw [h]; rfl
def AskOk (c : Nat) (F : Fn) (rb : D → D → Prop) (v : D) : Prop := ∀ (n : Nat) (r b q : D) (S : Sto) (Q : D → Sto → Prop) (E : Exn → Sto → Prop), NewAt c n r b q S → rb r b → Q v S → Wc (F [.ref n] S) Q E
def nowB (φ : Nat → Fn) (cs : List Nat) : M Flo :=
  (dRet (dFld cs "time" (dVar 0)))
theorem now0_ok (h1 : dm.ps.length = 1) (h2 : dm.C.N.length = 1) {c : Nat} {cs : List Nat} (hc : c ∈ cs) : AskOk c (runD dm (nowB φ cs)) (fun _ _ => True) .non := fun n r b q S Q E h _ k => by
  refine w_def (by rw [h1]; rfl) [.val (.ref n)] (by rw [h2]; rfl) ?_
  unfold nowB
  repeat trivial
  refine ⟨_, _, _, _, rfl, h.o, hc, lkT _ _ _ _ _, ?_⟩
  exact k
def bookB (φ : Nat → Fn) (cs : List Nat) : M Flo :=
  (dRet (dFz (dOpF1 listF (dFld cs "lines" (dVar 0)))))
theorem book0_ok (h1 : dm.ps.length = 1) (h2 : dm.C.N.length = 1) {c : Nat} {cs : List Nat} (hc : c ∈ cs) : AskOk c (runD dm (bookB φ cs)) (fun _ _ => True) (.lst []) := fun n r b q S Q E h _ k => by
  refine w_def (by rw [h1]; rfl) [.val (.ref n)] (by rw [h2]; rfl) ?_
  unfold bookB
  repeat trivial
  refine ⟨_, _, _, _, rfl, h.o, hc, lkL _ _ _ _ _, ?_⟩
  repeat trivial
  rw [view_lst h.f4]
  repeat trivial
def meetingsB (φ : Nat → Fn) (cs : List Nat) : M Flo :=
  (dRet (dFz (dComp (dWalk (dFld cs "lines" (dVar 0))) (gNm 1) (dBl (dOp2 (cmpEq false) (dOp2 ixD (dPeek 1) (M.ret (D.int 0))) (M.ret (D.str "meet")))) (dSl (dPeek 1) (some (M.ret (D.int 1))) none) [1])))
theorem meetings0_ok (h1 : dm.ps.length = 1) (h2 : dm.C.N.length = 2) {c : Nat} {cs : List Nat} (hc : c ∈ cs) : AskOk c (runD dm (meetingsB φ cs)) (fun _ _ => True) (.lst []) := fun n r b q S Q E h _ k => by
  refine w_def (by rw [h1]; rfl) [.val (.ref n), .no] (by rw [h2]; rfl) ?_
  unfold meetingsB
  repeat trivial
  refine ⟨_, _, _, _, rfl, h.o, hc, lkL _ _ _ _ _, ?_⟩
  repeat trivial
  refine ⟨_, src_ref h.f4, ?_⟩
  repeat trivial
  first | refine w_compLive (fd := D.int) (xs := ([] : List Int)) (fun _ => true) D.int (gOk_of h.f4 (fun _ h => nomatch h)) (by simp) (fun _ h => nomatch h) ?_ | refine (w_compLive (fd := D.int) (xs := ([] : List Int)) (fun _ => true) D.int (gOk_of h.f4 (fun _ h => nomatch h)) (by simp) (fun _ h => nomatch h) ?_).2
  repeat trivial
def waitingB (φ : Nat → Fn) (cs : List Nat) : M Flo :=
  (dRet (dFz (dComp (dEnum (dFld cs "ends" (dVar 0))) (gTp [(gNm 1), (gNm 2)]) (dBl (dOp2 (isD false) (dPeek 2) (M.ret D.non))) (dVar 1) [1, 2])))
theorem waiting0_ok (h1 : dm.ps.length = 1) (h2 : dm.C.N.length = 3) {c : Nat} {cs : List Nat} (hc : c ∈ cs) : AskOk c (runD dm (waitingB φ cs)) (fun _ _ => True) (.lst []) := fun n r b q S Q E h _ k => by
  refine w_def (by rw [h1]; rfl) [.val (.ref n), .no, .no] (by rw [h2]; rfl) ?_
  unfold waitingB
  repeat trivial
  refine ⟨_, _, _, _, rfl, h.o, hc, lkE _ _ _ _ _, ?_⟩
  repeat trivial
  refine ⟨_, enum_ref h.f3, ?_⟩
  repeat trivial
  first | refine w_compLive (fd := D.int) (xs := ([] : List Int)) (fun _ => true) D.int (gOk_en h.f3 (fun _ h => nomatch h)) (by simp) (fun _ h => nomatch h) ?_ | refine (w_compLive (fd := D.int) (xs := ([] : List Int)) (fun _ => true) D.int (gOk_en h.f3 (fun _ h => nomatch h)) (by simp) (fun _ h => nomatch h) ?_).2
  repeat trivial
def waitersB (G : Gm) (φ : Nat → Fn) (m_waiting : List (Nat × Nat)) (cs : List Nat) : M Flo :=
  (dRet (dFz (dComp (dWalk (dMeths G φ m_waiting "waiting" (dVar 0) (dArgs []))) (gNm 1) (M.ret true) (dTup (dArgs [(dVar 1), (dOp2 ixD (dFld cs "offers" (dVar 0)) (dPeek 1)), (dOp2 ixD (dFld cs "lefts" (dVar 0)) (dPeek 1))])) [1])))
theorem waiters0_ok {G : Gm} (h1 : dm.ps.length = 1) (h2 : dm.C.N.length = 2) {c i : Nat} {cs : List Nat} {mw : List (Nat × Nat)} (hi : lkc mw c = some i) (ha : G.ar.getD i 0 = 1) (hw : AskOk c (φ i) (fun _ _ => True) (.lst [])) : AskOk c (runD dm (waitersB G φ mw cs)) (fun _ _ => True) (.lst []) := fun n r b q S Q E h _ k => by
  refine w_def (by rw [h1]; rfl) [.val (.ref n), .no] (by rw [h2]; rfl) ?_
  unfold waitersB
  repeat trivial
  refine ⟨_, _, _, _, rfl, h.o, hi, noWaiting _ _ _ _ _, ?_⟩
  repeat trivial
  refine ⟨ha.symm, ?_⟩
  refine hw n r b q S _ _ h (by simp) ?_
  repeat trivial
  refine (w_compT (fd := D.int) (xs := ([] : List Int)) (fun _ => true) D.int (by simp) (fun _ h => nomatch h) ?_).2
  repeat trivial
def Rules (r b : D) : Prop := (∃ rule, r = strsT rule ∧ rule.length ≤ 100) ∧ ∃ borne, b = strsT borne
def rowMB (G : Gm) (φ : Nat → Fn) (c_row_of : Nat) (m_waiters : List (Nat × Nat)) (cs : List Nat) : M Flo :=
  (dRet (dFn φ c_row_of 2 (dArgs [(dFld cs "rule" (dVar 0)), (dMeths G φ m_waiters "waiters" (dVar 0) (dArgs []))])))
theorem row0_ok {G : Gm} (h1 : dm.ps.length = 1) (h2 : dm.C.N.length = 1) {c i cr : Nat} {cs : List Nat} (hc : c ∈ cs) {mw : List (Nat × Nat)} (hi : lkc mw c = some i) (ha : G.ar.getD i 0 = 1) (hw : AskOk c (φ i) (fun _ _ => True) (.lst [])) (hr : RowOk (φ cr)) : AskOk c (runD dm (rowMB G φ cr mw cs)) Rules (.lst []) := fun n r b q S Q E h ⟨⟨rule, e1, e2⟩, _⟩ k => by
  refine w_def (by rw [h1]; rfl) [.val (.ref n)] (by rw [h2]; rfl) ?_
  unfold rowMB
  repeat trivial
  refine ⟨_, _, _, _, rfl, h.o, hc, lkR _ _ _ _ _, ?_⟩
  repeat trivial
  refine ⟨_, _, _, _, rfl, h.o, hi, noWaiters _ _ _ _ _, ?_⟩
  repeat trivial
  refine ⟨ha.symm, ?_⟩
  refine hw n r b q S _ _ h (by simp) ?_
  repeat trivial
  subst e1
  refine hr rule [] _ _ _ e2 (by simp) ?_
  have er : rowL rule [] = [] := by unfold rowL rowRanks; simp
  rw [er]
  exact k
def restPB (φ : Nat → Fn) (c_placed c_sets_of c_why_none : Nat) : M Flo :=
  (dSeq (dSet 2 (dFn φ c_placed 1 (dArgs [(dVar 1)])))
  (dSeq (dSetOwn 3 (M.ret (Cell.dk [] [])))
  (dSeq (dFor (dWalk (dFn φ c_sets_of 2 (dArgs [(dVar 0), (dVar 1)]))) (gNm 4) (dSeq (dSet 5 (dFn φ c_why_none 1 (dArgs [(dFz (dComp (dWalk (dVar 4)) (gNm 6) (M.ret true) (dOp2 ixD (dPeek 2) (dPeek 6)) [6]))])))
  (dSeq (dIf (dBl (dOp2 (isD false) (dPeek 5) (M.ret D.non))) (dRet (M.ret D.non)) (M.ret .nx))
  (dSetIx (dVar 5) (dPeek 3) (dPeek 4)))))
  (dRet (dVar 3)))))
theorem restP0_ok (h1 : dm.ps.length = 2) (h2 : dm.C.N.length = 7) {cp cs cw : Nat} (hp : PlacedOk (φ cp)) (hs : SetsOk (φ cs)) (borne : List Str) {S : Sto} {Q : D → Sto → Prop} {E : Exn → Sto → Prop} (k : Q (.dk [] []) S) : Wc (runD dm (restPB φ cp cs cw) [strsT borne, .lst []] S) Q E := by
  refine w_def (by rw [h1]; rfl) [.val (strsT borne), .val (.lst []), .no, .no, .no, .no, .no] (by rw [h2]; rfl) ?_
  unfold restPB
  repeat trivial
  refine hp [] _ _ _ (by simp) (by simp) ?_
  have es : setsL borne [] = [] := by
    unfold setsL setsRaw kindsL
    simp [onto, sortS]
  repeat trivial
  refine hs borne [] _ _ _ (by simp) ?_
  rw [es]
  repeat trivial
def restMB (G : Gm) (φ : Nat → Fn) (c_rest_paper : Nat) (m_waiters : List (Nat × Nat)) (cs : List Nat) : M Flo :=
  (dRet (dFn φ c_rest_paper 2 (dArgs [(dFld cs "borne" (dVar 0)), (dMeths G φ m_waiters "waiters" (dVar 0) (dArgs []))])))
theorem rest0_ok {G : Gm} (h1 : dm.ps.length = 1) (h2 : dm.C.N.length = 1) {c i cr : Nat} {cs : List Nat} (hc : c ∈ cs) {mw : List (Nat × Nat)} (hi : lkc mw c = some i) (ha : G.ar.getD i 0 = 1) (hw : AskOk c (φ i) (fun _ _ => True) (.lst [])) (hr : ∀ (borne : List Str) (S : Sto) (Q : D → Sto → Prop) (E : Exn → Sto → Prop), Q (.dk [] []) S → Wc (φ cr [strsT borne, .lst []] S) Q E) : AskOk c (runD dm (restMB G φ cr mw cs)) Rules (.dk [] []) := fun n r b q S Q E h ⟨_, borne, e1⟩ k => by
  refine w_def (by rw [h1]; rfl) [.val (.ref n)] (by rw [h2]; rfl) ?_
  unfold restMB
  repeat trivial
  refine ⟨_, _, _, _, rfl, h.o, hc, lkB _ _ _ _ _, ?_⟩
  repeat trivial
  refine ⟨_, _, _, _, rfl, h.o, hi, noWaiters _ _ _ _ _, ?_⟩
  repeat trivial
  refine ⟨ha.symm, ?_⟩
  refine hw n r b q S _ _ h (by simp) ?_
  repeat trivial
  subst e1
  exact hr borne _ _ _ k
end L2.MP
end
section
set_option Elab.async false
set_option linter.all false
set_option maxRecDepth 100000
set_option maxHeartbeats 4000000
namespace L2.MP
open PySem PySem.Spec PyProof.Rows L2.MP
local macro_rules
  | `(tactic| trivial) => `(tactic| first
    | refine w_seq ?_ | refine w_set ?_ | refine w_setOwn ?_ | refine w_setHp ?_ | refine w_retS ?_ | refine w_retHp ?_ | refine w_ite ?_ | refine w_expr ?_ | refine w_asg ?_ | refine w_setIx ?_ | refine w_mut ?_ | refine w_hp ?_ | refine w_lm1 ?_
    | refine w_bl ?_ | refine w_op2 ?_ | refine w_op1 ?_ | refine w_opF1 ?_ | refine w_opF2 ?_ | refine w_chainP ?_ | refine w_and ?_ | refine w_or ?_ | refine w_not ?_ | refine w_notT ?_ | refine w_andT ?_ | refine w_orT ?_ | refine w_tru ?_
    | refine w_fz ?_ | refine w_lst ?_ | refine w_tup ?_ | refine w_cons ?_ | refine w_nil ?_ | refine w_sl ?_ | refine w_slF ?_ | refine w_part ?_ | refine w_part0 ?_ | refine w_sm0 ?_ | refine w_sm1 ?_ | refine w_disp ?_ | refine w_pr ?_ | refine w_pr0 ?_
    | refine w_for ?_ | refine w_walk ?_ | refine w_rng1 ?_ | refine w_rng2 ?_ | refine w_enum ?_ | refine w_zip ?_ | refine w_fn ?_ | refine w_comp ?_ | refine w_count ?_ | refine w_raise0 ?_ | refine w_raise1 ?_ | refine w_augIx ?_
    | refine w_var rfl ?_ | refine w_peek rfl ?_ | refine w_peekO rfl ?_ | refine w_varO rfl rfl ?_ | refine w_ret ?_
    | refine ⟨_, ix0, ?_⟩ | refine ⟨_, ix1, ?_⟩ | refine ⟨_, ix2, ?_⟩ | refine ⟨_, ix3, ?_⟩
    | refine rg_and ?_ | refine ⟨_, rfl, ?_⟩ | refine ⟨rfl, ?_⟩ | refine ⟨Nat.le_of_ble_eq_true rfl, ?_⟩
    | refine ⟨fun _ => ?_, fun h => Bool.noConfusion (show true = false from h)⟩ | refine ⟨fun h => Bool.noConfusion (show false = true from h), fun _ => ?_⟩)
theorem gap_iff {ps : List Qt} : gapB ps = true ↔ ∀ (k : Nat) (a b : Qt), ps[k]? = some a → ps[k + 1]? = some b → a.2 < b.1 := by
  unfold gapB
  rw [List.all_eq_true]
  constructor
  · intro h k a b h1 h2
    have hk : k + 1 < ps.length := (List.getElem?_eq_some_iff.mp h2).1
    have := h k (List.mem_range.mpr (by omega))
    unfold gapAt at this
    rw [h1, h2] at this
    exact of_decide_eq_true this
  · intro h k hk
    have hk := List.mem_range.mp hk
    have e1 := List.getElem?_eq_getElem (by omega : k < ps.length)
    have e2 := List.getElem?_eq_getElem (by omega : k + 1 < ps.length)
    unfold gapAt
    rw [e1, e2]
    exact decide_eq_true (h k _ _ e1 e2)
theorem gap_snoc {ps : List Qt} {p : Qt} (h : gapB ps = true) (hp : ∀ q ∈ ps, q.2 < p.1) : gapB (ps ++ [p]) = true := by
  rw [gap_iff] at h ⊢
  intro k a b h1 h2
  have hk : k + 1 < (ps ++ [p]).length := (List.getElem?_eq_some_iff.mp h2).1
  rw [List.length_append] at hk
  simp only [List.length_cons, List.length_nil] at hk
  rw [List.getElem?_append_left (by omega)] at h1
  by_cases hb : k + 1 < ps.length
  · rw [List.getElem?_append_left hb] at h2
    exact h k a b h1 h2
  · rw [List.getElem?_append_right (by omega)] at h2
    have : k + 1 - ps.length = 0 := by omega
    rw [this] at h2
    cases h2
    exact hp a (List.mem_of_getElem? h1)
structure QOk (qs : List Qt) : Prop where
  len : qs.length ≤ 8
  each : ∀ p ∈ qs, 0 ≤ p.1 ∧ p.1 < p.2 ∧ p.2 ≤ 1000000000
  gap : gapB qs = true
  last : ∀ l, qs.getLast? = some l → ∀ p ∈ qs, p.1 < l.2
def qsD (qs : List Qt) : D := .tup (qs.map qtE)
theorem qt_qtE (p : Qt) : qtD (qtE p) = (isN p.1 && (isN p.2 && decide (p.1 < p.2))) := rfl
theorem QOk.all {qs : List Qt} (h : QOk qs) : (qs.map qtE).all qtD = true := by
  rw [List.all_eq_true]
  intro d hd
  obtain ⟨p, hp, rfl⟩ := List.mem_map.mp hd
  obtain ⟨h1, h2, h3⟩ := h.each p hp
  rw [qt_qtE]
  unfold isN
  simp
  omega
theorem quiet_qs (qs : List Qt) : quietD (qsD qs) = (!(decide ((8 : Int) < (qs.length : Nat))) && ((qs.map qtE).all qtD && gapB qs)) := by
  show (!(decide ((8 : Int) < ((qs.map qtE).length : Nat))) && ((qs.map qtE).all qtD && gapB ((qs.map qtE).map qtP))) = _
  rw [qtP_map, List.length_map]
theorem QOk.quiet {qs : List Qt} (h : QOk qs) : quietD (qsD qs) = true := by
  rw [quiet_qs, h.all, h.gap, decide_eq_false (by have := h.len; omega)]
  rfl
def quietDB (φ : Nat → Fn) (c_draw : Nat) : M Flo :=
  (dSeq (dSetOwn 1 (dLst (dArgs [])))
  (dSeq (dSet 2 (dOp1 negD (M.ret (D.int 1))))
  (dSeq (dFor (dRng1 (dOp2 ixD (dFz (dLst (dArgs [(dFn φ c_draw 2 (dArgs [(dVar 0), (M.ret (D.int 4))])), (M.ret (D.int 8)), (dFn φ c_draw 2 (dArgs [(dVar 0), (M.ret (D.int 9))]))]))) (dFn φ c_draw 2 (dArgs [(dVar 0), (M.ret (D.int 3))])))) (gNm 3) (dSeq (dSet 4 (dOp2 addD (dOp2 addD (dPeek 2) (M.ret (D.int 1))) (dOp2 ixD (dFz (dLst (dArgs [(dFn φ c_draw 2 (dArgs [(dVar 0), (M.ret (D.int 3))])), (dFn φ c_draw 2 (dArgs [(dVar 0), (dOp2 mulD (M.ret (D.int 5)) (dOp2 powD (M.ret (D.int 10)) (M.ret (D.int 7))))]))]))) (dFn φ c_draw 2 (dArgs [(dVar 0), (M.ret (D.int 2))])))))
  (dSeq (dSet 2 (dOp2 addD (dOp2 addD (dPeek 4) (M.ret (D.int 1))) (dOp2 ixD (dFz (dLst (dArgs [(dFn φ c_draw 2 (dArgs [(dVar 0), (M.ret (D.int 3))])), (dFn φ c_draw 2 (dArgs [(dVar 0), (dOp2 mulD (M.ret (D.int 5)) (dOp2 powD (M.ret (D.int 10)) (M.ret (D.int 7))))]))]))) (dFn φ c_draw 2 (dArgs [(dVar 0), (M.ret (D.int 2))])))))
  (dExpr (dMut appF (dPeek 1) (dArgs [(dTup (dArgs [(dVar 4), (dVar 2)]))]))))))
  (dRet (dOp1 tupleD (dPeek 1))))))
structure QI (qs : List Qt) (t : Int) : Prop where
  each : ∀ p ∈ qs, 0 ≤ p.1 ∧ p.1 < p.2 ∧ p.2 ≤ t
  lo : -1 ≤ t
  hi : t ≤ qs.length * 100000000 - 1
  gap : gapB qs = true
  last : ∀ l, qs.getLast? = some l → l.2 = t
theorem quietD_ok (h1 : dm.ps.length = 1) (h2 : dm.C.N.length = 5) {dr : Nat} (hd : PkW (φ dr)) : DrX (runD dm (quietDB φ dr)) qsD QOk := fun i S0 S Q E hw q => by
  have z := s10
  refine w_def (by rw [h1]; rfl) [.val (.ref i), .no, .no, .no, .no] (by rw [h2]; rfl) ?_
  unfold quietDB
  repeat trivial
  refine hd i _ S0 _ _ _ hw (by decide) (by decide) fun r1 S1 a1 b1 hw => ?_
  repeat trivial
  refine hd i _ S0 _ _ _ hw (by decide) (by decide) fun r2 S2 a2 b2 hw => ?_
  repeat trivial
  refine hd i _ S0 _ _ _ hw (by decide) (by decide) fun r3 S3 a3 b3 hw => ?_
  obtain ⟨d, e, hd'⟩ := at_some (l := [.int r1, .int 8, .int r2]) a3 b3
  obtain ⟨m, rfl, m1⟩ : ∃ m : Nat, d = .int (m : Nat) ∧ m ≤ 8 := by
    simp only [List.mem_cons, List.not_mem_nil, or_false] at hd'
    rcases hd' with rfl | rfl | rfl
    · exact ⟨r1.toNat, by rw [Int.toNat_of_nonneg a1], by omega⟩
    · exact ⟨8, rfl, by decide⟩
    · exact ⟨r2.toNat, by rw [Int.toNat_of_nonneg a2], by omega⟩
  refine ⟨_, e, ?_⟩
  haveI : RgB (m : Nat) := ⟨by simp [rgB]; omega⟩
  repeat trivial
  refine w_loopA (mk := fun p : List Qt × Int => [.val (.ref i), .own (.lst (p.1.map qtE)), .val (.int p.2), .no, .no]) [3, 4] (fun l p s => Well i S0 s ∧ QI p.1 p.2 ∧ p.1.length + l.length ≤ 8) ([], -1) rfl ⟨hw, ⟨(fun _ h => nomatch h), by decide, by decide, rfl, (fun _ h => nomatch h)⟩, by rw [upto_len]; simp; omega⟩ ⟨_, _, rfl⟩ (fun d l p s e ⟨hw, hq, hl⟩ ⟨s3, s4, he⟩ => ?_) (fun p s e ⟨hw, hq, hl⟩ ⟨s3, s4, he⟩ => ?_)
  · obtain ⟨qs, t⟩ := p
    dsimp only [List.set_cons_succ, List.set_cons_zero] at he
    subst he
    rw [List.length_cons] at hl
    dsimp only at hl hq
    have pick : ∀ {u v w : Int}, 0 ≤ u → u < 3 → 0 ≤ v → v < 50000000 → 0 ≤ w → w < 2 → ∃ m : Int, ixD (.lst [.int u, .int v]) (.int w) = some (.int m) ∧ 0 ≤ m ∧ m < 50000000 := fun {u v w} u0 u1 v0 v1 w0 w1 => by
      obtain ⟨d, e, hd'⟩ := at_some (l := [.int u, .int v]) w0 w1
      simp only [List.mem_cons, List.not_mem_nil, or_false] at hd'
      rcases hd' with rfl | rfl
      · exact ⟨u, e, u0, by omega⟩
      · exact ⟨v, e, v0, v1⟩
    refine ⟨_, rfl, ?_⟩
    repeat trivial
    refine hd i _ S0 _ _ _ hw (by decide) (by decide) fun r1 S1 a1 b1 hw => ?_
    repeat trivial
    refine hd i _ S0 _ _ _ hw (by decide) (by decide) fun r2 S2 a2 b2 hw => ?_
    repeat trivial
    refine hd i _ S0 _ _ _ hw (by decide) (by decide) fun r3 S3 a3 b3 hw => ?_
    obtain ⟨x, ex, x0, x1⟩ := pick a1 b1 a2 b2 a3 b3
    refine ⟨_, ex, ?_⟩
    repeat trivial
    refine hd i _ S0 _ _ _ hw (by decide) (by decide) fun r4 S4 a4 b4 hw => ?_
    repeat trivial
    refine hd i _ S0 _ _ _ hw (by decide) (by decide) fun r5 S5 a5 b5 hw => ?_
    repeat trivial
    refine hd i _ S0 _ _ _ hw (by decide) (by decide) fun r6 S6 a6 b6 hw => ?_
    obtain ⟨y, ey, y0, y1⟩ := pick a4 b4 a5 b5 a6 b6
    refine ⟨_, ey, ?_⟩
    repeat trivial
    refine ⟨⟨_, rfl⟩, ?_⟩
    repeat trivial
    refine ⟨_, _, _, _, rfl, app_one (enc := qtE) (x := (t + 1 + x, t + 1 + x + 1 + y)) (by omega), rfl, ?_⟩
    refine ⟨(qs ++ [(t + 1 + x, t + 1 + x + 1 + y)], t + 1 + x + 1 + y), ⟨_, _, rfl⟩, hw, ⟨fun p hp => ?_, ?_, ?_, ?_, ?_⟩, ?_⟩
    · have := hq.lo
      rcases List.mem_append.mp hp with hp | hp
      · obtain ⟨k1, k2, k3⟩ := hq.each p hp
        exact ⟨k1, k2, by omega⟩
      · simp at hp; subst hp; exact ⟨by dsimp only; omega, by dsimp only; omega, by dsimp only; omega⟩
    · have := hq.lo; dsimp only; omega
    · have := hq.hi; simp; omega
    · refine gap_snoc hq.gap fun p hp => ?_
      obtain ⟨k1, k2, k3⟩ := hq.each p hp
      dsimp only; omega
    · intro l h; simp at h; subst h; rfl
    · simp; omega
  · obtain ⟨qs, t⟩ := p
    dsimp only [List.set_cons_succ, List.set_cons_zero] at he
    subst he
    repeat trivial
    dsimp only at hq hl
    have hi := hq.hi
    have hl : qs.length ≤ 8 := by simpa using hl
    refine q qs s ⟨hl, fun p hp => ?_, hq.gap, fun l h p hp => ?_⟩ hw
    · obtain ⟨k1, k2, k3⟩ := hq.each p hp
      exact ⟨k1, k2, by omega⟩
    · obtain ⟨k1, k2, k3⟩ := hq.each p hp
      rw [hq.last l h]; omega
end L2.MP
end
section
set_option Elab.async false
set_option linter.all false
set_option maxRecDepth 100000
set_option maxHeartbeats 4000000
namespace L2.MP
open PySem PySem.Spec PyProof.Rows L2.MP
local macro_rules
  | `(tactic| trivial) => `(tactic| first
    | refine w_seq ?_ | refine w_set ?_ | refine w_setOwn ?_ | refine w_setHp ?_ | refine w_retS ?_ | refine w_retHp ?_ | refine w_ite ?_ | refine w_expr ?_ | refine w_asg ?_ | refine w_setIx ?_ | refine w_mut ?_ | refine w_hp ?_ | refine w_lm1 ?_
    | refine w_bl ?_ | refine w_op2 ?_ | refine w_op1 ?_ | refine w_opF1 ?_ | refine w_opF2 ?_ | refine w_chainP ?_ | refine w_and ?_ | refine w_or ?_ | refine w_not ?_ | refine w_notT ?_ | refine w_andT ?_ | refine w_orT ?_ | refine w_tru ?_
    | refine w_fz ?_ | refine w_lst ?_ | refine w_tup ?_ | refine w_cons ?_ | refine w_nil ?_ | refine w_sl ?_ | refine w_slF ?_ | refine w_part ?_ | refine w_part0 ?_ | refine w_sm0 ?_ | refine w_sm1 ?_ | refine w_disp ?_ | refine w_pr ?_ | refine w_pr0 ?_
    | refine w_for ?_ | refine w_walk ?_ | refine w_rng1 ?_ | refine w_rng2 ?_ | refine w_enum ?_ | refine w_zip ?_ | refine w_fn ?_ | refine w_comp ?_ | refine w_count ?_ | refine w_raise0 ?_ | refine w_raise1 ?_ | refine w_augIx ?_
    | refine w_var rfl ?_ | refine w_peek rfl ?_ | refine w_peekO rfl ?_ | refine w_varO rfl rfl ?_ | refine w_ret ?_
    | refine ⟨_, ix0, ?_⟩ | refine ⟨_, ix1, ?_⟩ | refine ⟨_, ix2, ?_⟩ | refine ⟨_, ix3, ?_⟩
    | refine rg_and ?_ | refine ⟨_, rfl, ?_⟩ | refine ⟨rfl, ?_⟩ | refine ⟨Nat.le_of_ble_eq_true rfl, ?_⟩
    | refine ⟨fun _ => ?_, fun h => Bool.noConfusion (show true = false from h)⟩ | refine ⟨fun h => Bool.noConfusion (show false = true from h), fun _ => ?_⟩)
theorem all_false {l : List D} {x : D} (hx : x ∈ l) (hq : qtD x = false) : l.all qtD = false := by
  cases h : l.all qtD with
  | false => rfl
  | true => rw [List.all_eq_true.mp h x hx] at hq; cases hq
theorem quiet_all {l : List D} (h : l.all qtD = false) : quietD (.tup l) = false := by
  show (_ && (l.all qtD && _)) = false
  rw [h]; simp
theorem quiet_gap {ps : List Qt} (h : gapB ps = false) : quietD (.tup (ps.map qtE)) = false := by
  have := quiet_qs ps
  unfold qsD at this
  rw [this, h]; simp
theorem gap_bad {ps : List Qt} {l p : Qt} (h : ¬ l.2 < p.1) : gapB (ps ++ [l] ++ [p]) = false := by
  cases hg : gapB (ps ++ [l] ++ [p]) with
  | false => rfl
  | true =>
    have := gap_iff.mp hg ps.length l p (by simp) (by simp)
    exact absurd this h
theorem cut_init {α : Type} {l : List α} {x : α} : cutD (l ++ [x]) none (some (-1)) = l := by
  unfold cutD
  have : HT.sIx (l ++ [x]).length (l ++ [x]).length (some (-1)) = l.length := by
    unfold HT.sIx
    dsimp only
    rw [if_pos (by decide), List.length_append]
    simp
    omega
  rw [this, HT.sIx_none]
  simp
theorem ix_lastT {l : List D} {x : D} : ixD (.tup (l ++ [x])) (.int (-1)) = some x := ix_last
theorem px_qt (p : Qt) : PlX (qtE p) := ⟨1, rfl⟩
theorem px_qs (qs : List Qt) : PlX (qsD qs) := px_tup fun x hx => by
  obtain ⟨p, _, rfl⟩ := List.mem_map.mp hx
  exact px_qt p
def BadQ (d : D) : Prop := PlX d ∧ quietD d = false
def OddQ (d : D) : Prop := PlX d ∧ qtD d = false
theorem odd_snoc {l : List D} {x : D} (hl : ∀ y ∈ l, PlX y) (h : OddQ x) : BadQ (.tup (l ++ [x])) := by
  refine ⟨px_tup fun y hy => ?_, quiet_all (all_false (by simp) h.2)⟩
  rcases List.mem_append.mp hy with hy | hy
  · exact hl y hy
  · simp at hy; subst hy; exact h.1
theorem odd_cons {l : List D} {x : D} (hl : ∀ y ∈ l, PlX y) (h : OddQ x) : BadQ (.tup ([x] ++ l)) := by
  refine ⟨px_tup fun y hy => ?_, quiet_all (all_false (by simp) h.2)⟩
  rcases List.mem_append.mp hy with hy | hy
  · simp at hy; subst hy; exact h.1
  · exact hl y hy
theorem gap_snocB {ps : List Qt} {l p : Qt} (h : ¬ l.2 < p.1) : BadQ (.tup ((ps ++ [l] ++ [p]).map qtE)) := ⟨px_qs _, quiet_gap (gap_bad h)⟩
def badQuietB (φ : Nat → Fn) (c_pick : Nat) : M Flo :=
  (dSeq (dSet 2 (M.ret (D.int 0)))
  (dSeq (dFor (dWalk (dVar 1)) (gTp [(gNm 3), (gNm 4)]) (dSet 2 (dVar 4)))
  (dSeq (dSetOwn 5 (dLst (dArgs [(dTup (dArgs [(dOp2 addD (dPeek 2) (M.ret (D.int 5))), (dOp2 addD (dPeek 2) (M.ret (D.int 5)))])), (dTup (dArgs [(dOp2 addD (dPeek 2) (M.ret (D.int 9))), (dOp2 addD (dPeek 2) (M.ret (D.int 5)))])), (dTup (dArgs [(dOp2 addD (dPeek 2) (M.ret (D.int 1))), (dOp2 addD (dOp2 powD (M.ret (D.int 10)) (M.ret (D.int 9))) (M.ret (D.int 1)))])), (dTup (dArgs [(dOp1 negD (M.ret (D.int 1))), (M.ret (D.int 3))])), (dTup (dArgs [(dOp2 addD (dPeek 2) (M.ret (D.int 1))), (M.ret (D.bl true))]))])))
  (dSeq (dExpr (dMut appF (dPeek 5) (dArgs [(dTup (dArgs [(M.ret D.non), (dOp2 addD (dPeek 2) (M.ret (D.int 3)))]))])))
  (dSeq (dSetOwn 5 (dOpF2 catF (dPeek 5) (dFz (dLst (dArgs [(dTup (dArgs [(M.ret (D.str "1")), (M.ret (D.str "2"))])), (dTup (dArgs [(dOp2 addD (dPeek 2) (M.ret (D.int 1)))])), (dTup (dArgs [(dOp2 addD (dPeek 2) (M.ret (D.int 1))), (dOp2 addD (dPeek 2) (M.ret (D.int 2))), (dOp2 addD (dPeek 2) (M.ret (D.int 3)))])), (dFz (dLst (dArgs [(dOp2 addD (dPeek 2) (M.ret (D.int 1))), (dOp2 addD (dPeek 2) (M.ret (D.int 2)))]))), (M.ret D.non), (M.ret (D.int 7)), (M.ret (D.str "3-7"))])))))
  (dSeq (dSetOwn 5 (dOpF2 catF (dPeek 5) (dFz (dLst (dArgs [(dTup (dArgs [(dOp2 addD (dPeek 2) (M.ret (D.int 2))), (dFz (dLst (dArgs [(dOp2 addD (dPeek 2) (M.ret (D.int 5)))])))]))])))))
  (dSeq (dSetOwn 6 (dLst (dArgs [(dFz (dOpF1 listF (dPeek 1))), (M.ret D.non), (M.ret (D.str "")), (M.ret (D.int 5)), (M.ret (D.bl true)), (dFz (M.ret (Cell.dk [] []))), (M.ret (D.str "3-7")), (dOp2 addD (dPeek 1) (dTup (dArgs [(dFn φ c_pick 2 (dArgs [(dVar 0), (dVar 5)]))])))])))
  (dSeq (dExpr (dMut appF (dPeek 6) (dArgs [(dOp2 addD (dTup (dArgs [(dFn φ c_pick 2 (dArgs [(dVar 0), (dVar 5)]))])) (dPeek 1))])))
  (dSeq (dIf (dBl (dOp2 (cmpEq true) (dPeek 1) (dTup (dArgs [])))) (dSeq (dSet 7 (dTup (dArgs [(dOp2 ixD (dOp2 ixD (dPeek 1) (dOp1 negD (M.ret (D.int 1)))) (M.ret (D.int 1))), (dOp2 addD (dOp2 ixD (dOp2 ixD (dPeek 1) (dOp1 negD (M.ret (D.int 1)))) (M.ret (D.int 1))) (M.ret (D.int 4)))])))
  (dSeq (dSetOwn 6 (dOpF2 catF (dPeek 6) (dFz (dLst (dArgs [(dOp2 addD (dPeek 1) (dTup (dArgs [(dVar 7)]))), (dOp2 addD (dPeek 1) (dSl (dPeek 1) none (some (M.ret (D.int 1))))), (dOp2 addD (dPeek 1) (dTup (dArgs [(dTup (dArgs [(dOp2 ixD (dOp2 ixD (dPeek 1) (dOp1 negD (M.ret (D.int 1)))) (M.ret (D.int 0))), (dOp2 addD (dOp2 ixD (dOp2 ixD (dPeek 1) (dOp1 negD (M.ret (D.int 1)))) (M.ret (D.int 1))) (M.ret (D.int 1)))]))])))])))))
  (dExpr (dMut appF (dPeek 6) (dArgs [(dOp2 addD (dSl (dPeek 1) none (some (dOp1 negD (M.ret (D.int 1))))) (dTup (dArgs [(dOp1 revD (dOp2 ixD (dPeek 1) (dOp1 negD (M.ret (D.int 1)))))])))]))))) (M.ret .nx))
  (dSeq (dSet 8 (dOp1 tupleD (dFz (dComp (dRng1 (M.ret (D.int 9))) (gNm 9) (M.ret true) (dTup (dArgs [(dOp2 mulD (M.ret (D.int 10)) (dPeek 9)), (dOp2 addD (dOp2 mulD (M.ret (D.int 10)) (dPeek 9)) (M.ret (D.int 5)))])) [9]))))
  (dRet (dFn φ c_pick 2 (dArgs [(dVar 0), (dOp2 addD (dPeek 6) (dFz (dLst (dArgs [(dVar 8)]))))])))))))))))))
def oddsL (t : Int) : List D := [.tup [.int (t + 5), .int (t + 5)], .tup [.int (t + 9), .int (t + 5)], .tup [.int (t + 1), .int (10 ^ 9 + 1)], .tup [.int (-1), .int 3], .tup [.int (t + 1), .bl true], .tup [.non, .int (t + 3)], .tup [.str "1", .str "2"], .tup [.int (t + 1)], .tup [.int (t + 1), .int (t + 2), .int (t + 3)], .lst [.int (t + 1), .int (t + 2)], .non, .int 7, .str "3-7", .tup [.int (t + 2), .lst [.int (t + 5)]]]
theorem odds_odd {t : Int} : ∀ d ∈ oddsL t, OddQ d := by
  intro d hd
  have nn : ∀ a b : Int, ¬ a < b → qtD (.tup [.int a, .int b]) = false := fun a b h => by
    show (_ && (_ && decide (a < b))) = false
    rw [decide_eq_false h]; simp
  simp only [oddsL, List.mem_cons, List.not_mem_nil, or_false] at hd
  rcases hd with rfl | rfl | rfl | rfl | rfl | rfl | rfl | rfl | rfl | rfl | rfl | rfl | rfl | rfl
  · exact ⟨⟨2, rfl⟩, nn _ _ (by omega)⟩
  · exact ⟨⟨2, rfl⟩, nn _ _ (by omega)⟩
  · refine ⟨⟨2, rfl⟩, ?_⟩
    show (_ && (isN (10 ^ 9 + 1) && _)) = false
    rw [show isN (10 ^ 9 + 1) = false by decide]; simp
  · exact ⟨⟨2, rfl⟩, rfl⟩
  · refine ⟨⟨2, rfl⟩, ?_⟩
    show (_ && (false && _)) = false
    simp
  · exact ⟨⟨2, rfl⟩, rfl⟩
  · exact ⟨px_pair (px_str (by decide +kernel)) (px_str (by decide +kernel)), rfl⟩
  · exact ⟨⟨2, rfl⟩, rfl⟩
  · exact ⟨⟨2, rfl⟩, rfl⟩
  · exact ⟨⟨2, rfl⟩, rfl⟩
  · exact ⟨⟨2, rfl⟩, rfl⟩
  · exact ⟨⟨2, rfl⟩, rfl⟩
  · exact ⟨px_str (by decide +kernel), rfl⟩
  · refine ⟨⟨3, rfl⟩, ?_⟩
    show (_ && (false && _)) = false
    simp
theorem br_true {A B : Prop} {b : Bool} (h : b = true) (k : A) : (b = true → A) ∧ (b = false → B) := ⟨fun _ => k, fun e => by rw [h] at e; cases e⟩
theorem take1 (ps : List Qt) (p : Qt) : ∃ q ∈ ps ++ [p], cutD (ps.map qtE ++ [qtE p]) none (some 1) = [qtE q] := by
  rw [show cutD (ps.map qtE ++ [qtE p]) none (some 1) = (ps.map qtE ++ [qtE p]).take 1 from cut_to (i := 1)]
  cases ps with
  | nil => exact ⟨p, by simp, rfl⟩
  | cons a r => exact ⟨a, by simp, rfl⟩
theorem gap_snocC {ps : List Qt} {l p : Qt} (h : ¬ l.2 < p.1) : BadQ (.tup ((ps.map qtE ++ [qtE l]) ++ [qtE p])) := by
  have := gap_snocB (ps := ps) h
  rw [List.map_append, List.map_append] at this
  exact this
theorem bads {ps : List Qt} {p : Qt} {B : List D} (base : ∀ d ∈ B, BadQ d) (h : p.1 < p.2) (hl : ∀ q ∈ ps ++ [p], q.1 < p.2) : ∀ d ∈ (B ++ [.tup ((ps.map qtE ++ [qtE p]) ++ [.tup [.int p.2, .int (p.2 + 4)]]), .tup ((ps.map qtE ++ [qtE p]) ++ cutD (ps.map qtE ++ [qtE p]) none (some 1)), .tup ((ps.map qtE ++ [qtE p]) ++ [.tup [.int p.1, .int (p.2 + 1)]])]) ++ [.tup (cutD (ps.map qtE ++ [qtE p]) none (some (-1)) ++ [.tup [.int p.2, .int p.1]])], BadQ d := by
  intro d hd
  rcases List.mem_append.mp hd with hd | hd
  · rcases List.mem_append.mp hd with hd | hd
    · exact base d hd
    · simp only [List.mem_cons, List.not_mem_nil, or_false] at hd
      rcases hd with rfl | rfl | rfl
      · exact gap_snocC (p := (p.2, p.2 + 4)) (by dsimp only; omega)
      · obtain ⟨q, hq, e⟩ := take1 ps p
        rw [e]
        have := hl q hq
        exact gap_snocC (by omega)
      · exact gap_snocC (p := (p.1, p.2 + 1)) (by dsimp only; omega)
  · simp only [List.mem_cons, List.not_mem_nil, or_false] at hd
    subst hd
    rw [cut_init]
    refine odd_snoc (fun y hy => by obtain ⟨p, _, rfl⟩ := List.mem_map.mp hy; exact px_qt p) ⟨⟨1, rfl⟩, ?_⟩
    show (_ && (_ && decide (p.2 < p.1))) = false
    rw [decide_eq_false (by omega)]; simp
def manyD : D → D
  | .int k => .tup [.int (10 * k), .int (10 * k + 5)]
  | _ => .non
def BqOk (F : Fn) : Prop := ∀ (qs : List Qt) (i : Nat) (S0 S : Sto) (Q : D → Sto → Prop) (E : Exn → Sto → Prop), QOk qs → Well i S0 S → (∀ d S', BadQ d → Well i S0 S' → Q d S') → Wc (F [.ref i, qsD qs] S) Q E
set_option maxHeartbeats 1000000 in
theorem badQuiet_ok (h1 : dm.ps.length = 2) (h2 : dm.C.N.length = 10) {pk : Nat} (hp : PkL (φ pk)) : BqOk (runD dm (badQuietB φ pk)) := fun qs i S0 S Q E hq hw q => by
  have z := s10
  have hlen := hq.len
  refine w_def (by rw [h1]; rfl) [.val (.ref i), .val (qsD qs), .no, .no, .no, .no, .no, .no, .no, .no] (by rw [h2]; rfl) ?_
  unfold badQuietB qsD
  repeat trivial
  refine w_loopT (fd := qtE) (xs := qs) (mk := fun t : Int => [.val (.ref i), .val (.tup (qs.map qtE)), .val (.int t), .no, .no, .no, .no, .no, .no, .no]) [3, 4] (fun _ _ s => s = S) 0 rfl rfl ⟨_, _, rfl⟩ (fun p r t s e hS ⟨s3, s4, he⟩ => ?_) (fun t s e hS ⟨s3, s4, he⟩ => ?_)
  · dsimp only [List.set_cons_succ, List.set_cons_zero] at he
    subst hS he
    refine ⟨_, rfl, ?_⟩
    repeat trivial
    exact ⟨p.2, ⟨_, _, rfl⟩, rfl⟩
  dsimp only [List.set_cons_succ, List.set_cons_zero] at he
  have hS := hS.symm
  subst hS he
  repeat trivial
  refine ⟨⟨_, rfl⟩, ?_⟩
  repeat trivial
  refine ⟨_, _, _, _, rfl, app_len (by simp), rfl, ?_⟩
  repeat trivial
  refine hp (oddsL t) i S0 _ _ _ (by simp [oddsL]) (by simp [oddsL]) hw fun d1 S1 hd1 hw => ?_
  have o1 := odds_odd d1 hd1
  repeat trivial
  refine ⟨_, add_tt (by rw [List.length_map]; simp; omega), ?_⟩
  repeat trivial
  refine ⟨⟨_, rfl⟩, ?_⟩
  repeat trivial
  refine hp (oddsL t) i S0 _ _ _ (by simp [oddsL]) (by simp [oddsL]) hw fun d2 S2 hd2 hw => ?_
  have o2 := odds_odd d2 hd2
  repeat trivial
  refine ⟨_, add_tt (by rw [List.length_map]; simp; omega), ?_⟩
  repeat trivial
  refine ⟨_, _, _, _, rfl, app_len (by simp), rfl, ?_⟩
  have pq : ∀ y ∈ qs.map qtE, PlX y := fun y hy => by obtain ⟨p, _, rfl⟩ := List.mem_map.mp hy; exact px_qt p
  have base : ∀ d ∈ ([.lst (qs.map qtE), .non, .str "", .int 5, .bl true, .dk [] [], .str "3-7", .tup (qs.map qtE ++ [d1])] ++ [.tup ([d2] ++ qs.map qtE)] : List D), BadQ d := fun d hd => by
    simp only [List.cons_append, List.nil_append, List.mem_cons, List.not_mem_nil, or_false] at hd
    rcases hd with rfl | rfl | rfl | rfl | rfl | rfl | rfl | rfl | rfl
    · exact ⟨px_lst pq, rfl⟩
    · exact ⟨px_non, rfl⟩
    · exact ⟨px_str (by decide +kernel), rfl⟩
    · exact ⟨px_int, rfl⟩
    · exact ⟨px_bl, rfl⟩
    · exact ⟨px_dk, rfl⟩
    · exact ⟨px_str (by decide +kernel), rfl⟩
    · exact odd_snoc pq o1
    · exact odd_cons pq o2
  refine w_cut (fun e s' => ∃ (L : List D) (s5 s7 : Slot), (∀ d ∈ L, BadQ d) ∧ 0 < L.length ∧ L.length ≤ 20 ∧ s' = S2 ∧ e = [.val (.ref i), .val (.tup (qs.map qtE)), .val (.int t), s3, s4, s5, .own (.lst L), s7, .no, .no]) ?_ (fun e s' ⟨L, s5, s7, hL, l0, ll, hs, he⟩ => ?_)
  · rcases List.eq_nil_or_concat qs with rfl | ⟨ps, p, rfl⟩
    · repeat trivial
      exact ⟨_, _, _, base, by simp, by simp, rfl, rfl⟩
    · rw [List.concat_eq_append] at *
      have em : (ps ++ [p]).map qtE = ps.map qtE ++ [qtE p] := by simp
      rw [em] at base ⊢
      obtain ⟨pe1, pe2, pe3⟩ := hq.each p (by simp)
      have plast := hq.last p (by simp)
      clear pq
      rw [List.length_append, List.length_cons, List.length_nil] at hlen
      repeat trivial
      refine br_true (by simp) ?_
      repeat trivial
      refine ⟨_, ix_lastT, ?_⟩
      repeat trivial
      refine ⟨_, ix_lastT, ?_⟩
      repeat trivial
      refine ⟨_, add_tt (by simp; omega), ?_⟩
      repeat trivial
      refine ⟨_, add_tt (Nat.le_trans (Nat.add_le_add_left cut_len' _) (by simp; omega)), ?_⟩
      repeat trivial
      refine ⟨_, ix_lastT, ?_⟩
      repeat trivial
      refine ⟨_, ix_lastT, ?_⟩
      repeat trivial
      refine ⟨_, add_tt (by simp; omega), ?_⟩
      repeat trivial
      refine ⟨⟨_, rfl⟩, ?_⟩
      repeat trivial
      refine ⟨_, ix_lastT, ?_⟩
      repeat trivial
      refine ⟨_, add_tt (Nat.le_trans (Nat.add_le_add_right cut_len' _) (by simp; omega)), ?_⟩
      repeat trivial
      refine ⟨_, _, _, _, rfl, app_len (by simp), rfl, ?_⟩
      refine ⟨rfl, _, _, _, bads base pe2 plast, by simp, by simp, rfl, rfl⟩
  · subst hs he
    repeat trivial
    refine (w_compM (l := upto 0 9) manyD (by decide) (fun d hd => ?_) ?_).2
    · obtain ⟨k, rfl, k0, k1⟩ := upto_mem hd
      have km : mulD (.int 10) (.int k) = some (.int (10 * k)) := by
        obtain rfl | rfl | rfl | rfl | rfl | rfl | rfl | rfl | rfl : k = 0 ∨ k = 1 ∨ k = 2 ∨ k = 3 ∨ k = 4 ∨ k = 5 ∨ k = 6 ∨ k = 7 ∨ k = 8 := by omega
        all_goals rfl
      refine ⟨_, rfl, ?_⟩
      repeat trivial
      refine ⟨_, km, ?_⟩
      repeat trivial
      refine ⟨_, km, ?_⟩
      repeat trivial
    repeat trivial
    refine ⟨_, add_ll (by simp; omega), ?_⟩
    repeat trivial
    refine hp _ i S0 _ _ _ (by simp) (by simp; omega) hw fun d S3 hd hw => ?_
    refine q d S3 ?_ hw
    rcases List.mem_append.mp hd with hd | hd
    · exact hL d hd
    · simp at hd
      subst hd
      exact ⟨⟨2, by kernel_rfl⟩, by kernel_rfl⟩
end L2.MP
end
section
set_option Elab.async false
set_option linter.all false
set_option maxRecDepth 100000
set_option maxHeartbeats 4000000
namespace L2.K51
open PySem PySem.Spec PyProof.Rows L2.MP
local macro_rules
  | `(tactic| trivial) => `(tactic| first
    | refine w_seq ?_ | refine w_set ?_ | refine w_setOwn ?_ | refine w_setHp ?_ | refine w_retS ?_ | refine w_retHp ?_ | refine w_ite ?_ | refine w_expr ?_ | refine w_asg ?_ | refine w_setIx ?_ | refine w_mut ?_ | refine w_hp ?_ | refine w_lm1 ?_
    | refine w_bl ?_ | refine w_op2 ?_ | refine w_op1 ?_ | refine w_opF1 ?_ | refine w_opF2 ?_ | refine w_chainP ?_ | refine w_and ?_ | refine w_or ?_ | refine w_not ?_ | refine w_notT ?_ | refine w_andT ?_ | refine w_orT ?_ | refine w_tru ?_
    | refine w_fz ?_ | refine w_lst ?_ | refine w_tup ?_ | refine w_cons ?_ | refine w_nil ?_ | refine w_sl ?_ | refine w_slF ?_ | refine w_part ?_ | refine w_part0 ?_ | refine w_sm0 ?_ | refine w_sm1 ?_ | refine w_disp ?_ | refine w_pr ?_ | refine w_pr0 ?_
    | refine w_for ?_ | refine w_walk ?_ | refine w_rng1 ?_ | refine w_rng2 ?_ | refine w_enum ?_ | refine w_zip ?_ | refine w_fn ?_ | refine w_comp ?_ | refine w_count ?_ | refine w_raise0 ?_ | refine w_raise1 ?_ | refine w_augIx ?_
    | refine w_var rfl ?_ | refine w_peek rfl ?_ | refine w_peekO rfl ?_ | refine w_varO rfl rfl ?_ | refine w_ret ?_
    | refine ⟨_, ix0, ?_⟩ | refine ⟨_, ix1, ?_⟩ | refine ⟨_, ix2, ?_⟩ | refine ⟨_, ix3, ?_⟩
    | refine rg_and ?_ | refine ⟨_, rfl, ?_⟩ | refine ⟨rfl, ?_⟩ | refine ⟨Nat.le_of_ble_eq_true rfl, ?_⟩
    | refine ⟨fun _ => ?_, fun h => Bool.noConfusion (show true = false from h)⟩ | refine ⟨fun h => Bool.noConfusion (show false = true from h), fun _ => ?_⟩)
variable {n : Nat} {S : Sto} {Q : D → Sto → Prop} {E : Exn → Sto → Prop}
theorem dn {n k : Nat} (h : k + 1 ≤ n) : ∃ m, n = m + 1 ∧ k ≤ m := ⟨n - 1, by omega, by omega⟩
theorem cellAt (h : 1 ≤ n) {ns : List Int} (q : Q (.int (ns.getD 0 0)) S) : Wc (psi YY n 37 [.rl (ns.map D.int), .int 0] S) Q E := by
  obtain ⟨n, rfl, h⟩ := dn h
  rw [p37]
  exact lcell_ok (i := 0) rfl rfl q
theorem tape (h : 1 ≤ n) {x : Int} (q : ∀ S', (∃ y, S' = S ++ [y]) → Well S.length S' S' → Q (.ref S.length) S') : Wc (psi YY n 38 [.int x] S) Q E := by
  obtain ⟨n, rfl, h⟩ := dn h
  rw [p38]; exact tape_ok rfl rfl q
theorem draw (h : 1 ≤ n) : PkW (psi YY n 39) := by
  obtain ⟨n, rfl, h⟩ := dn h
  rw [p39]; exact drawT_ok (φ := psi YY n) rfl rfl
theorem pickL (h : 2 ≤ n) : PkL (psi YY n 40) := by
  obtain ⟨n, rfl, h⟩ := dn h
  rw [p40]; exact pickT_ok rfl rfl (draw (by omega))
theorem script_ok (ns : List Int) {hi : Int} : ([D.int (ns.getD 0 0)] ++ cutD (ns.map D.int) (some 1) (some hi)).length ≤ 1 + ns.length ∧ ∀ d ∈ [D.int (ns.getD 0 0)] ++ cutD (ns.map D.int) (some 1) (some hi), ∃ i, d = .int i := by
  refine ⟨?_, fun d hd => ?_⟩
  · have := cut_len' (l := ns.map D.int) (lo := some 1) (hi := some hi)
    rw [List.length_map] at this
    rw [List.length_append]; simp; omega
  · rcases List.mem_append.mp hd with hd | hd
    · simp at hd; exact ⟨_, hd⟩
    · obtain ⟨i, _, rfl⟩ := List.mem_map.mp (cut_mem' hd)
      exact ⟨i, rfl⟩
theorem sideP (h : 1 ≤ n) : SideOk (psi YY n 23) := by
  obtain ⟨n, rfl, h⟩ := dn h
  rw [p23]; exact side_ok (φ := psi YY n) rfl rfl
theorem rankP (h : 1 ≤ n) : RankOk (psi YY n 21) := by
  obtain ⟨n, rfl, h⟩ := dn h
  rw [p21]; exact rank_ok (φ := psi YY n) rfl rfl
theorem rowP (h : 2 ≤ n) : RowOk (psi YY n 22) := by
  obtain ⟨n, rfl, h⟩ := dn h
  rw [p22]; exact row_ok (φ := psi YY n) rfl rfl (rankP (by omega))
theorem setsP (h : 2 ≤ n) : SetsOk (psi YY n 24) := by
  obtain ⟨n, rfl, h⟩ := dn h
  rw [p24]; exact sets_ok (φ := psi YY n) rfl rfl (sideP (by omega))
theorem placedP (h : 1 ≤ n) : PlacedOk (psi YY n 25) := by
  obtain ⟨n, rfl, h⟩ := dn h
  rw [p25]; exact placed_ok (φ := psi YY n) rfl rfl
theorem letters (h : 1 ≤ n) : PF (psi YY n 0) Flat (fun d => .bl (isLD d)) := by
  obtain ⟨n, rfl, h⟩ := dn h
  rw [p0]; exact letters_ok (φ := psi YY n) rfl rfl
theorem word (h : 2 ≤ n) : PF (psi YY n 1) Flat (fun d => .bl (isWD d)) := by
  obtain ⟨n, rfl, h⟩ := dn h
  rw [p1]; exact word_ok rfl rfl (letters (by omega))
theorem whole (h : 1 ≤ n) : PF (psi YY n 2) Flat (fun d => .bl (isInt d)) := by
  obtain ⟨n, rfl, h⟩ := dn h
  rw [p2]; exact whole_ok (φ := psi YY n) rfl rfl
theorem number (h : 2 ≤ n) : PF (psi YY n 3) Flat (fun d => .bl (isND d)) := by
  obtain ⟨n, rfl, h⟩ := dn h
  rw [p3]; exact number_ok rfl rfl (whole (by omega))
theorem time (h : 3 ≤ n) : PF (psi YY n 4) Flat (fun d => .bl (isND d)) := fun d S Q E hd q => by
  obtain ⟨n, rfl, h⟩ := dn h
  rw [p4]
  refine w_def rfl [.val d] rfl ?_
  unfold b4
  repeat trivial
  refine pf_at (number (by omega)) hd rfl ?_
  exact q
theorem quietTime (h : 4 ≤ n) : PF (psi YY n 27) PlX (fun d => .bl (qtD d)) := by
  obtain ⟨n, rfl, h⟩ := dn h
  rw [p27]; exact quietT_ok rfl rfl (time (by omega))
theorem areQuiet (h : 5 ≤ n) : PF (psi YY n 28) PlX (fun d => .bl (quietD d)) := by
  obtain ⟨n, rfl, h⟩ := dn h
  rw [p28]; exact quiet_ok rfl rfl (quietTime (by omega))
theorem unlikeWords (h : 1 ≤ n) : UwOk (psi YY n 18) := by
  obtain ⟨n, rfl, h⟩ := dn h
  rw [p18]; exact unlikeW_ok (φ := psi YY n) rfl rfl
theorem isRule (h : 2 ≤ n) : PF (psi YY n 19) PlX (fun d => .bl (ruleD d)) := by
  obtain ⟨n, rfl, h⟩ := dn h
  rw [p19]; exact isRule_ok rfl rfl (unlikeWords (by omega))
theorem areBorne (h : 3 ≤ n) : PF (psi YY n 20) PlX (fun d => .bl (borneD d)) := by
  obtain ⟨n, rfl, h⟩ := dn h
  rw [p20]; exact areBorne_ok rfl rfl (unlikeWords (by omega)) (word (by omega))
theorem initP (h : 6 ≤ n) : InitOk 13 (psi YY n 29) := by
  obtain ⟨n, rfl, h⟩ := dn h
  rw [p29]; exact houseInit_ok (φ := psi YY n) rfl rfl (cs := [13]) (by simp) (isRule (by omega)) (areBorne (by omega)) (areQuiet (by omega))
theorem nowP (h : 1 ≤ n) : AskOk 13 (psi YY n 32) (fun _ _ => True) .non := by
  obtain ⟨n, rfl, h⟩ := dn h
  rw [p32]; exact now0_ok (φ := psi YY n) rfl rfl (cs := [13]) (by simp)
theorem bookP (h : 1 ≤ n) : AskOk 13 (psi YY n 36) (fun _ _ => True) (.lst []) := by
  obtain ⟨n, rfl, h⟩ := dn h
  rw [p36]; exact book0_ok (φ := psi YY n) rfl rfl (cs := [13]) (by simp)
theorem meetingsP (h : 1 ≤ n) : AskOk 13 (psi YY n 34) (fun _ _ => True) (.lst []) := by
  obtain ⟨n, rfl, h⟩ := dn h
  rw [p34]; exact meetings0_ok (φ := psi YY n) rfl rfl (cs := [13]) (by simp)
theorem waitingP (h : 1 ≤ n) : AskOk 13 (psi YY n 30) (fun _ _ => True) (.lst []) := by
  obtain ⟨n, rfl, h⟩ := dn h
  rw [p30]; exact waiting0_ok (φ := psi YY n) rfl rfl (cs := [13]) (by simp)
theorem hWaitersP (h : 2 ≤ n) : AskOk 13 (psi YY n 31) (fun _ _ => True) (.lst []) := by
  obtain ⟨n, rfl, h⟩ := dn h
  rw [p31]; exact waiters0_ok (G := GG) (φ := psi YY n) (cs := [13]) (mw := [(13, 30)]) rfl rfl rfl rfl (waitingP (by omega))
theorem hRowP (h : 3 ≤ n) : AskOk 13 (psi YY n 33) Rules (.lst []) := by
  obtain ⟨n, rfl, h⟩ := dn h
  rw [p33]; exact row0_ok (G := GG) (φ := psi YY n) (cs := [13]) (mw := [(13, 31)]) rfl rfl (by simp) rfl rfl (hWaitersP (by omega)) (rowP (by omega))
theorem restPaperP (h : 3 ≤ n) (borne : List Str) (S : Sto) (Q : D → Sto → Prop) (E : Exn → Sto → Prop) (k : Q (.dk [] []) S) : Wc (psi YY n 26 [strsT borne, .lst []] S) Q E := by
  obtain ⟨n, rfl, h⟩ := dn h
  rw [p26]
  exact restP0_ok (φ := psi YY n) rfl rfl (placedP (by omega)) (setsP (by omega)) borne k
theorem hRestP (h : 4 ≤ n) : AskOk 13 (psi YY n 35) Rules (.dk [] []) := by
  obtain ⟨n, rfl, h⟩ := dn h
  rw [p35]
  exact rest0_ok (G := GG) (φ := psi YY n) (cs := [13]) (mw := [(13, 31)]) rfl rfl (by simp) rfl rfl (hWaitersP (by omega)) (restPaperP (by omega))
theorem ruleP (h : 2 ≤ n) : DrX (psi YY n 41) strsT RuleOk := by
  obtain ⟨n, rfl, h⟩ := dn h
  rw [p41]; exact ruleT_ok (φ := psi YY n) rfl rfl (draw (by omega))
theorem borneP (h : 2 ≤ n) : DrX (psi YY n 42) strsT BorneOk := by
  obtain ⟨n, rfl, h⟩ := dn h
  rw [p42]; exact borneT_ok (φ := psi YY n) rfl rfl (draw (by omega))
theorem quietP (h : 2 ≤ n) : DrX (psi YY n 43) qsD QOk := by
  obtain ⟨n, rfl, h⟩ := dn h
  rw [p43]; exact quietD_ok (φ := psi YY n) rfl rfl (draw (by omega))
theorem badQuietP (h : 3 ≤ n) : BqOk (psi YY n 44) := by
  obtain ⟨n, rfl, h⟩ := dn h
  rw [p44]; exact badQuiet_ok (φ := psi YY n) rfl rfl (pickL (by omega))
local macro_rules
  | `(tactic| trivial) => `(tactic| first
    | refine w_make ?_ | refine w_meths ?_)
theorem beginsP (h : 5 ≤ n) {m : Nat} {r b q : D} (hn : NewAt 13 m r b q S) (hr : Rules r b) (k : Q (.bl true) S) : Wc (psi YY n 46 [.ref m] S) Q E := by
  obtain ⟨n, rfl, h⟩ := dn h
  have i1 := nowP (n := n) (by omega)
  have i2 := hRowP (n := n) (by omega)
  have i3 := bookP (n := n) (by omega)
  have i4 := meetingsP (n := n) (by omega)
  have i5 := hWaitersP (n := n) (by omega)
  have i6 := hRestP (n := n) (by omega)
  rw [p46]
  refine w_def rfl [.val (.ref m)] rfl ?_
  unfold b46
  generalize psi YY n = φ at *
  repeat trivial
  refine ⟨_, _, _, _, rfl, hn.o, rfl, noNow _ _ _ _ _, ?_⟩
  repeat trivial
  refine i1 m r b q S _ _ hn True.intro ?_
  repeat trivial
  refine ⟨_, _, _, _, rfl, hn.o, rfl, noRow _ _ _ _ _, ?_⟩
  repeat trivial
  refine i2 m r b q S _ _ hn hr ?_
  repeat trivial
  refine ⟨_, _, _, _, rfl, hn.o, rfl, noBook _ _ _ _ _, ?_⟩
  repeat trivial
  refine i3 m r b q S _ _ hn True.intro ?_
  repeat trivial
  refine ⟨_, _, _, _, rfl, hn.o, rfl, noMeetings _ _ _ _ _, ?_⟩
  repeat trivial
  refine i4 m r b q S _ _ hn True.intro ?_
  repeat trivial
  refine ⟨_, _, _, _, rfl, hn.o, rfl, noWaiters _ _ _ _ _, ?_⟩
  repeat trivial
  refine i5 m r b q S _ _ hn True.intro ?_
  repeat trivial
  refine ⟨_, _, _, _, rfl, hn.o, rfl, noRest _ _ _ _ _, ?_⟩
  repeat trivial
  refine i6 m r b q S _ _ hn hr ?_
  repeat trivial
theorem wordP (h : 7 ≤ n) {r b q : D} (pr : PlX r) (pb : PlX b) (pq : PlX q) (k1 : okH r b q = true → Q .non (newH 13 r b q S)) (k2 : okH r b q = false → Q (.tup [.bl true, .bl true, .bl false]) (S ++ [.ins 13 []])) : Wc (psi YY n 45 [r, b, q] S) Q E := by
  obtain ⟨n, rfl, h⟩ := dn h
  have i1 := initP (n := n) (by omega)
  rw [p45]
  refine w_def rfl [.val r, .val b, .val q, .no, .no, .no] rfl ?_
  unfold b45
  generalize psi YY n = φ at *
  repeat trivial
  refine w_tryE ?_
  repeat trivial
  refine i1 r b q S _ _ pr pb pq (fun ok => ?_) (fun ok => ?_)
  · have k1 := k1 ok
    repeat trivial
  · have k2 := k2 ok
    refine ⟨by kernel_rfl, fun _ => ?_, fun hx => absurd (show subX GG.xcs 2 (some 0) = false from hx) (by rw [show subX GG.xcs 2 (some 0) = true by kernel_rfl]; simp)⟩
    repeat trivial
    refine w_isX rfl (by kernel_rfl) ?_
    repeat trivial
    refine w_isX rfl (by kernel_rfl) ?_
    repeat trivial
    refine w_isX rfl (by kernel_rfl) ?_
    repeat trivial
    case refine_2 =>
      refine w_isX rfl (by kernel_rfl) ?_
      repeat trivial
    all_goals exact absurd (show ([some 11, some 9, some 3, some 4, some 8, some 5, some 12, some 6, some 10, some 1].any (subX GG.xcs 2)) = true by assumption) (by rw [show ([some 11, some 9, some 3, some 4, some 8, some 5, some 12, some 6, some 10, some 1].any (subX GG.xcs 2)) = false by kernel_rfl]; simp)
theorem px_strs {l : List Str} (h : ∀ x ∈ l, (PyData.strOk x && decide (x.length ≤ 1000000)) = true) : PlX (strsT l) := px_tup fun y hy => by
  obtain ⟨x, hx, rfl⟩ := List.mem_map.mp hy
  exact px_str (h x hx)
theorem unlike_strs {m : Int} {l : List Str} (h : (l.length : Int) ≤ m) (nd : l.Nodup) : unlikeD m (strsT l) = true := by
  show (!(decide (m < ((l.map D.str).length : Nat))) && ((l.map D.str).all isStrD && decide ((onto (strsOf (l.map D.str)) []).length = (l.map D.str).length))) = true
  have e1 : (l.map D.str).all isStrD = true := by rw [List.all_map]; exact List.all_eq_true.mpr fun _ _ => rfl
  rw [e1, strsOf_map, List.length_map, onto_nodup (L := []) nd (by simp), decide_eq_false (by omega)]
  simp
theorem _root_.L2.MP.RuleOk.ruleD {rule : List Str} (h : RuleOk rule) : ruleD (strsT rule) = true := by
  unfold L2.MP.ruleD
  rw [unlike_strs (by have := h.len; omega) h.nd, Bool.true_and]
  show (rule.map D.str).all (fun x => memD x ruleDs) = true
  rw [List.all_map]
  refine List.all_eq_true.mpr fun x hx => ?_
  have := h.mem x hx
  simp only [ruleWs, List.mem_cons, List.not_mem_nil, or_false] at this
  rcases this with rfl | rfl | rfl | rfl <;> (show memD _ ruleDs = true) <;> kernel_rfl
theorem _root_.L2.MP.RuleOk.px {rule : List Str} (h : RuleOk rule) : PlX (strsT rule) := px_strs fun x hx => by
  have := h.mem x hx
  simp only [ruleWs, List.mem_cons, List.not_mem_nil, or_false] at this
  rcases this with rfl | rfl | rfl | rfl <;> decide +kernel
theorem borne_px {b : List Str} (h : BorneOk b) : PlX (strsT b) := px_tup fun y hy => by
  obtain ⟨x, hx, rfl⟩ := List.mem_map.mp hy
  have h := h.2.2 x hx
  have h2 := isW_ok h
  unfold isW at h
  rw [Bool.and_eq_true] at h
  have h3 := of_decide_eq_true h.2
  exact px_str (by rw [h2]; simp; omega)
theorem borneD_of {b : List Str} (h : BorneOk b) : borneD (strsT b) = true := by
  unfold borneD
  rw [unlike_strs (by have := h.1; omega) h.2.1, Bool.true_and]
  show (b.map D.str).all isWD = true
  rw [List.all_map]
  exact List.all_eq_true.mpr fun x hx => h.2.2 x hx
theorem _root_.L2.MP.Well.apps {i : Nat} {S0 S : Sto} (h : Well i S0 S) (l : List Cell) : Well i (S ++ l) (S ++ l) := by
  obtain ⟨h1, a, b, c, h2, h3⟩ := h.refl
  refine ⟨by rw [List.length_append]; omega, a, b, c, h2, ?_⟩
  rw [List.set_append_left _ _ h1, ← h3]
def selD (R B : List D) (a o : Int) : D → D
  | .int k => (ixD (.lst (if a == k || o == k then B else R)) (.int k)).getD .non
  | _ => .non
theorem in3 {k : Int} (h0 : 0 ≤ k) (h1 : k < 3) : k = 0 ∨ k = 1 ∨ k = 2 := by omega
theorem sel_eq {r b q r' b' q' : D} {a o : Int} : (upto 0 3).map (selD [r, b, q] [r', b', q'] a o) = [if a == 0 || o == 0 then r' else r, if a == 1 || o == 1 then b' else b, if a == 2 || o == 2 then q' else q] := by
  show [selD [r, b, q] [r', b', q'] a o (.int 0), selD [r, b, q] [r', b', q'] a o (.int 1), selD [r, b, q] [r', b', q'] a o (.int 2)] = _
  unfold selD
  dsimp only
  cases a == 0 || o == 0 <;> cases a == 1 || o == 1 <;> cases a == 2 || o == 2 <;> rfl
theorem sel_bad {r b q r' b' q' : D} {a o : Int} (h0 : 0 ≤ a) (h1 : a < 3) (hr : ruleD r' = false) (hb : borneD b' = false) (hq : quietD q' = false) : okH (if a == 0 || o == 0 then r' else r) (if a == 1 || o == 1 then b' else b) (if a == 2 || o == 2 then q' else q) = false := by
  unfold okH
  rcases in3 h0 h1 with rfl | rfl | rfl <;> simp [hr, hb, hq]
theorem px_if {c : Bool} {x y : D} (h : PlX x) (g : PlX y) : PlX (if c then x else y) := by cases c <;> assumption
theorem law_main (ns : List Int) (hN : 1 + ns.length ≤ sizeLine) : Wc (psi YY (n + 30) 47 [.rl (ns.map D.int)] S) (fun d s => d = .bl true) nX := by
  have i1 := @cellAt (n + 29) S
  have i2 := @tape (n + 29)
  have i3 := ruleP (n := n + 29) (by omega)
  have i4 := borneP (n := n + 29) (by omega)
  have i5 := quietP (n := n + 29) (by omega)
  have i6 := areQuiet (n := n + 29) (by omega)
  have i7 := @wordP (n + 29)
  have i8 := initP (n := n + 29) (by omega)
  have i9 := @beginsP (n + 29)
  have ia := pickL (n := n + 29) (by omega)
  have ib := badQuietP (n := n + 29) (by omega)
  have ic := draw (n := n + 29) (by omega)
  rw [p47]
  refine w_def rfl [.val (.rl (ns.map D.int)), .no, .no, .no, .no, .no, .no, .no, .no, .no, .no] rfl ?_
  unfold b47
  generalize psi YY (n + 29) = φ at *
  have z9 : (1000 : Nat) ≤ sizeLine := by decide
  repeat trivial
  refine i1 (by omega) ?_
  repeat trivial
  obtain ⟨hl, hall⟩ := script_ok ns (hi := 12)
  refine ⟨_, add_ll (Nat.le_trans (by rw [← List.length_append]; exact hl) hN), ?_⟩
  repeat trivial
  refine w_loopF [.val (.rl (ns.map D.int)), .no, .no, .no, .no, .no, .no, .no, .no, .no, .no] [1, 2, 3, 4, 5, 6, 7, 8, 9, 10] (fun l s => ∀ d ∈ l, ∃ i, d = .int i) rfl hall ⟨_, _, _, _, _, _, _, _, _, _, rfl⟩ (fun d r s e hd ⟨s1, s2, s3, s4, s5, s6, s7, s8, s9, s10, he⟩ => ?_) (fun s e _ ⟨s1, s2, s3, s4, s5, s6, s7, s8, s9, s10, he⟩ => ?_)
  · obtain ⟨i, rfl⟩ := hd d List.mem_cons_self
    have hr := fun d hh => hd d (List.mem_cons_of_mem _ hh)
    dsimp only [List.set_cons_succ, List.set_cons_zero] at he
    subst he
    refine ⟨_, rfl, ?_⟩
    repeat trivial
    refine i2 (by omega) fun S1 _ hw => ?_
    repeat trivial
    refine i3 _ _ _ _ _ hw fun rule S2 hrule hw => ?_
    repeat trivial
    refine i4 _ _ _ _ _ hw fun borne S3 hborne hw => ?_
    repeat trivial
    refine i5 _ _ _ _ _ hw fun qs S4 hqs hw => ?_
    repeat trivial
    refine pf_at i6 (px_qs qs) rfl ?_
    rw [hqs.quiet]
    repeat trivial
    have okr : okH (strsT rule) (strsT borne) (qsD qs) = true := by
      unfold okH
      rw [hrule.ruleD, borneD_of hborne, hqs.quiet]; rfl
    have pr : PlX (strsT rule) := hrule.px
    have pb : PlX (strsT borne) := borne_px hborne
    refine i7 (by omega) pr pb (px_qs qs) (fun _ => ?_) (fun z => by rw [okr] at z; cases z)
    have hw := hw.apps [.ins 13 (hF (strsT rule) (strsT borne) (qsD qs) .non S4.length), .lst [], .lst [], .lst [], .lst []]
    repeat trivial
    refine i8 _ _ _ _ _ _ pr pb (px_qs qs) (fun _ => ?_) (fun z => by rw [okr] at z; cases z)
    have hw := hw.apps [.ins 13 (hF (strsT rule) (strsT borne) (qsD qs) .non (newH 13 (strsT rule) (strsT borne) (qsD qs) S4).length), .lst [], .lst [], .lst [], .lst []]
    refine ⟨rfl, ?_⟩
    repeat trivial
    refine i9 (by omega) newAt ⟨⟨rule, rfl, by have := hrule.len; omega⟩, borne, rfl⟩ ?_
    repeat trivial
    refine ia _ _ _ _ _ _ (by decide) (by decide) hw fun dr S5 hdr hw => ?_
    repeat trivial
    refine ia _ _ _ _ _ _ (by decide) (by decide) hw fun db S6 hdb hw => ?_
    repeat trivial
    refine ib qs _ _ _ _ _ hqs hw fun dq S7 hdq hw => ?_
    repeat trivial
    refine pf_at i6 hdq.1 rfl ?_
    rw [hdq.2]
    repeat trivial
    refine ic _ _ _ _ _ _ hw (by decide) (by decide) fun a S8 a0 a1 hw => ?_
    repeat trivial
    refine ic _ _ _ _ _ _ hw (by decide) (by decide) fun o S9 o0 o1 hw => ?_
    repeat trivial
    refine (w_compM (l := upto 0 3) (selD [strsT rule, strsT borne, qsD qs] [dr, db, dq] a o) (by decide) (fun d hd => ?_) ?_).2
    · obtain ⟨k, rfl, k0, k1⟩ := upto_mem hd
      refine ⟨_, rfl, ?_⟩
      have e1 : ∀ {x y z : D}, ∃ w, ixD (.lst [x, y, z]) (.int k) = some w := fun {x y z} => by
        rcases in3 k0 k1 with rfl | rfl | rfl <;> exact ⟨_, rfl⟩
      obtain ⟨u, hu⟩ := @e1 (strsT rule) (strsT borne) (qsD qs)
      obtain ⟨v, hv⟩ := @e1 dr db dq
      have e2 : selD [strsT rule, strsT borne, qsD qs] [dr, db, dq] a o (.int k) = if a == k || o == k then v else u := by
        unfold selD
        dsimp only
        cases a == k || o == k
        · rw [if_neg (by simp), if_neg (by simp), hu]; rfl
        · rw [if_pos rfl, if_pos rfl, hv]; rfl
      rw [e2]
      repeat trivial
      refine ⟨_, hu, ?_⟩
      repeat trivial
      refine ⟨_, hv, ?_⟩
      repeat trivial
      have e3 : ∀ e : Bool, ixD (.lst [u, v]) (.int (if e = true then 1 else 0)) = some (if e = true then v else u) := fun e => by cases e <;> rfl
      refine ⟨_, e3 (false != memD (.int k) [.int a, .int o]), ?_⟩
      rw [show (false != memD (.int k) [.int a, .int o]) = (a == k || o == k) by
        show (false != ((a == k) || ((o == k) || false))) = _
        rw [Bool.or_false]
        cases a == k || o == k <;> rfl]
      repeat trivial
    rw [sel_eq]
    repeat trivial
    have bad : ruleD dr = false := by
      simp only [List.mem_cons, List.not_mem_nil, or_false] at hdr
      rcases hdr with rfl | rfl | rfl | rfl | rfl | rfl <;> kernel_rfl
    have badb : borneD db = false := by
      simp only [List.mem_cons, List.not_mem_nil, or_false] at hdb
      rcases hdb with rfl | rfl | rfl | rfl | rfl | rfl | rfl | rfl <;> kernel_rfl
    have pdr : PlX dr := by
      simp only [List.mem_cons, List.not_mem_nil, or_false] at hdr
      rcases hdr with rfl | rfl | rfl | rfl | rfl | rfl <;> exact ⟨3, by decide +kernel⟩
    have pdb : PlX db := by
      simp only [List.mem_cons, List.not_mem_nil, or_false] at hdb
      rcases hdb with rfl | rfl | rfl | rfl | rfl | rfl | rfl | rfl <;> exact ⟨3, by decide +kernel⟩
    have ok2 := sel_bad (r := strsT rule) (b := strsT borne) (q := qsD qs) (o := o) a0 a1 bad badb hdq.2
    refine i7 (by omega) (px_if pdr pr) (px_if pdb pb) (px_if hdq.1 (px_qs qs)) (fun z => by rw [ok2] at z; cases z) (fun _ => ?_)
    repeat trivial
    exact ⟨⟨_, _, _, _, _, _, _, _, _, _, rfl⟩, hr⟩
  · dsimp only [List.set_cons_succ, List.set_cons_zero] at he
    subst he
    repeat trivial
end L2.K51
end
section
set_option maxRecDepth 100000
namespace L2.K51
open PySem L2.MP
theorem good : ∀ ns : List Int, ns.length ≤ 63 → ∃ S, psi YY 40 47 [.rl (ns.map D.int)] [] = .ok (.bl true) S := fun ns h => by
  obtain ⟨d, s, e, q⟩ := (law_main (n := 10) (S := []) ns (Nat.le_trans (by omega : 1 + ns.length ≤ 64) (by decide))).ok
  subst q
  exact ⟨s, e⟩
end L2.K51
end
theorem PySem.Challenge.cw_matepoint_k51_houses_that_are_none_holds : PySem.Challenge.rw_matepoint_k51_houses_that_are_none.Holds := by
  exact L2.K51.holds L2.K51.good
