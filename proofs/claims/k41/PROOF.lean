import PyProof.Rows.All
import Wide.All
import OpenK.AllK
import Wide.FinOn
import HandS.ForMost
import HandS.Exc
import HandS.TryOnly
import HandS.ExcOwn
import HandS.WordsExc
import HandS.CallSlots
import HandS.Walk
import HandS.Zip
import HandS.Defaults
import HandS.More
import HandS.TupAny
import HandS.IsInst
import HandS.Wide
import HandS.TupMul
import HandS.Deep
import HandS.TupLe
import KE.GoesMore
import PyProof.Draws
import PyProof.EnumMake
import HandS.TupLen
import HandS.Text
import HandS.Dict
import HandS.Set
import HandS.SetFor
import HandS.Strs
import PyProof.Rows.SortShellK
import PyProof.Rows.SortStr
import PyProof.Rows.SetFrom
import PyProof.WalksMore
import HandS.Style
import HandS.ExcInit
import HandS.ExcIs
import HandS.ExcField
import KE.SortData
import HandS.HeadWalk
import HandS.HeadHook4
import HandS.HeadEnd
import HandS.DictEq
import HandS.DictTup
import KE.LtData
import KE.KEqDict
import PyProof.TupleOfSeq
import HandS.Hot
import PyProof.Rows.TupIter
import HandS.HotCalls
import HandS.Comp
import HandS.SuiteRaise
import HandS.ExcInitHot
import HandS.ExcCtx
import HandS.Head0
import HandS.RaiseMore
import HandS.WordsDict
import HandS.SortKw
import HandS.TupSets
import HandS.Conv
import PyProof.ListStr
import PyProof.TupleOfStr
import KE.DataMinMax
import HandS.Finally
import PyProof.MeetsDictList
import HandS.Flow
import HandS.CallLocal
import HandS.Head1
import HandS.Head2
import KE.KStateDown
import PySem.Challenge.RW_matepoint_k41_rules_and_kinds_borne
set_option Elab.async false
set_option linter.all false
set_option maxRecDepth 100000
set_option maxHeartbeats 0
section
section
namespace L2.MP
open PySem PySem.Spec PyProof.Rows
inductive D where
 | non | bl (b : Bool) | int (i : Int) | str (s : Str)
 | tup (l : List D) | lst (l : List D) | rl (l : List D) | rt (l : List D)
 | dk (ks : List Key) (vs : List D) | dt (ks : List (List Key)) (vs : List D)
 | ref (n : Nat) | own (i : Nat) | fn (i : Nat)
 deriving Inhabited
inductive Cell where
 | lst (l : List D) | dk (ks : List Key) (vs : List D) | dt (ks : List (List Key)) (vs : List D)
 | ins (c : Nat) (fs : List (Str × D))
 deriving Inhabited
structure Exn where
 cls : Nat
 fs : List (Str × D)
inductive Slot where
 | no | val (d : D) | own (c : Cell) | exn (x : Exn)
 deriving Inhabited
abbrev Sto := List Cell
abbrev Envr := List Slot
end L2.MP
end
section
namespace L2.MP
open PySem PySem.Spec PyProof.Rows
inductive Out (α : Type) where
 | ok (a : α) (env : Envr) (S : Sto) | exc (x : Exn) (env : Envr) (S : Sto) | bad
def M (α : Type) : Type := Envr → Sto → Out α
def M.ret {α : Type} (a : α) : M α := fun env S => .ok a env S
def M.bind {α β : Type} (m : M α) (f : α → M β) : M β := fun env S => match m env S with
 | .ok a env S => f a env S
 | .exc x env S => .exc x env S
 | .bad => .bad
def M.fail {α : Type} : M α := fun _ _ => .bad
def M.opt {α : Type} : Option α → M α
 | some a => M.ret a
 | none => M.fail
inductive Flo where
 | nx | rt (d : D) | bk | ct
def frozen : Cell → Option D
 | .lst l => some (.lst l)
 | .dk ks vs => some (.dk ks vs)
 | .dt ks vs => some (.dt ks vs)
 | .ins _ _ => none
def dVar (i : Nat) : M D := fun env S => match env[i]? with
 | some (.val d) => .ok d env S
 | some (.own c) => (match frozen c with
   | some d => .ok d (env.set i (.val d)) S
   | none => .bad)
 | _ => .bad
def dPeek (i : Nat) : M D := fun env S => match env[i]? with
 | some (.val d) => .ok d env S
 | some (.own _) => .ok (.own i) env S
 | _ => .bad
section
theorem set_set_same {α : Type} (l : List α) (i : Nat) (x y : α) : (l.set i x).set i y = l.set i y := by
 apply List.ext_getElem?
 intro j
 by_cases h : i = j
 · subst h
   by_cases hl : i < l.length
   · rw [List.getElem?_set_self (by simpa using hl), List.getElem?_set_self hl]
   · rw [List.getElem?_eq_none (by simpa using hl), List.getElem?_eq_none (by simpa using hl)]
 · rw [List.getElem?_set_ne h, List.getElem?_set_ne h, List.getElem?_set_ne h]
def dNil : M (List D) := M.ret []
def dCons (a : M D) (r : M (List D)) : M (List D) := M.bind a fun d => M.bind r fun ds => M.ret (d :: ds)
def dArgs : List (M D) → M (List D)
 | [] => dNil
 | a :: r => dCons a (dArgs r)
def dTup (a : M (List D)) : M D := M.bind a fun ds => if ds.length ≤ sizeLine then M.ret (.tup ds) else M.fail
def dLst (a : M (List D)) : M Cell := M.bind a fun ds => if ds.length ≤ sizeLine then M.ret (.lst ds) else M.fail
def dFz (a : M Cell) : M D := M.bind a fun c => M.opt (frozen c)
end
end L2.MP
end
section
namespace L2.MP
open PySem PySem.Spec PyProof.Rows
def cellD : Cell → Option D
 | .lst l => some (.lst l)
 | .dk ks vs => some (.dk ks vs)
 | .dt ks vs => some (.dt ks vs)
 | .ins _ _ => none
def view (env : Envr) (S : Sto) : D → D
 | .ref n => match S[n]? with
   | some c => (cellD c).getD (.ref n)
   | none => .ref n
 | .own i => match env[i]? with
   | some (.own c) => (cellD c).getD (.own i)
   | _ => .own i
 | d => d
def getS : M (Envr × Sto) := fun env S => .ok (env, S) env S
def dOp2 (f : D → D → Option D) (a b : M D) : M D := M.bind a fun x => M.bind b fun y => M.bind getS fun z => M.opt (f (view z.1 z.2 x) (view z.1 z.2 y))
def dOp1 (f : D → Option D) (a : M D) : M D := M.bind a fun x => M.bind getS fun z => M.opt (f (view z.1 z.2 x))
section
def iiD (C : Int → Int → Bool) (g : Int → Int → D) : D → D → Option D
 | .int i, .int j => if C i j then some (g i j) else none
 | _, _ => none
def addD : D → D → Option D
 | .int i, .int j => some (.int (i + j))
 | .str a, .str b => if a.length + b.length ≤ sizeLine then some (.str (a ++ b)) else none
 | .lst a, .lst b => if a.length + b.length ≤ sizeLine then some (.lst (a ++ b)) else none
 | .tup a, .tup b => if a.length + b.length ≤ sizeLine then some (.tup (a ++ b)) else none
 | _, _ => none
def subD : D → D → Option D := iiD (fun _ _ => true) fun i j => .int (i - j)
def divB (i j : Int) : Bool := decide (0 < j) && decide (j.natAbs.log2 < 9000)
def fdivD : D → D → Option D := iiD divB fun i j => .int (i / j)
def modD : D → D → Option D := iiD (fun _ j => decide (0 < j)) fun i j => .int (i % j)
def powB (i j : Int) : Bool := decide (0 ≤ j) && (decide (j ≤ 1000000) && decide (i.natAbs < 2 ^ 64))
def powD : D → D → Option D := iiD powB fun i j => .int (i ^ j.toNat)
def mulB (i j : Int) : Bool := decide (i.natAbs.log2 + j.natAbs.log2 < 1000000) || (decide (j.natAbs.log2 < 63) || decide (i.natAbs.log2 < 63))
def strMul (z : Str) (n : Nat) : Str := ⟨(List.replicate n z.cps).foldl (· ++ ·) #[]⟩
def mulD : D → D → Option D
 | .int i, .int j => if mulB i j then some (.int (i * j)) else none
 | .tup l, .int j => if -(2 ^ 63) ≤ j ∧ j ≤ 1000 ∧ l.length ≤ 1000 then some (.tup (List.replicate j.toNat l).flatten) else none
 | .lst l, .int j => if -(2 ^ 63) ≤ j ∧ j < 2 ^ 63 ∧ l.length * j.toNat ≤ sizeLine then some (.lst (List.replicate j.toNat l).flatten) else none
 | .str z, .int j => if j = 1 then some (.str z) else if j = 0 then some (.str "") else if 2 ≤ j ∧ j ≤ 1000 ∧ 1 ≤ z.length ∧ z.length ≤ 1000 then some (.str (strMul z j.toNat)) else none
 | _, _ => none
def negD : D → Option D
 | .int i => some (.int (-i))
 | _ => none
def leD : D → D → Option D := iiD (fun _ _ => true) fun i j => .bl (decide (i ≤ j))
def gtD : D → D → Option D := iiD (fun _ _ => true) fun i j => .bl (decide (j < i))
def geD : D → D → Option D := iiD (fun _ _ => true) fun i j => .bl (decide (j ≤ i))
mutual
def eqD : D → D → Bool
 | .non, .non => true
 | .bl a, .bl b => a == b
 | .bl a, .int j => (if a then 1 else 0) == j
 | .int i, .bl b => i == (if b then 1 else 0)
 | .int i, .int j => i == j
 | .str x, .str y => x == y
 | .lst xs, .lst ys => eqDs xs ys
 | .lst xs, .rl ys => eqDs xs ys
 | .rl xs, .lst ys => eqDs xs ys
 | .rl xs, .rl ys => eqDs xs ys
 | .tup xs, .tup ys => eqDs xs ys
 | .tup xs, .rt ys => eqDs xs ys
 | .rt xs, .tup ys => eqDs xs ys
 | .rt xs, .rt ys => eqDs xs ys
 | _, _ => false
def eqDs : List D → List D → Bool
 | [], [] => true
 | x :: xs, y :: ys => eqD x y && eqDs xs ys
 | _, _ => false
end
mutual
def okD : Nat → D → Bool
 | _, .non => true
 | _, .bl _ => true
 | _, .int _ => true
 | _, .str x => PyData.strOk x
 | n + 1, .lst xs => okDs n xs
 | n + 1, .rl xs => okDs n xs
 | n + 1, .tup xs => okDs n xs
 | n + 1, .rt xs => okDs n xs
 | _, _ => false
def okDs : Nat → List D → Bool
 | _, [] => true
 | n, x :: xs => okD n x && okDs n xs
end
mutual
def toPy : D → PyData
 | .non => .none
 | .bl b => .bool b
 | .int i => .int i
 | .str s => .str s
 | .lst xs => .list (toPys xs)
 | .rl xs => .list (toPys xs)
 | .tup xs => .tuple (toPys xs)
 | .rt xs => .tuple (toPys xs)
 | _ => .none
def toPys : List D → List PyData
 | [] => []
 | x :: xs => toPy x :: toPys xs
end
def ltD : D → D → Option D
 | .int i, .int j => some (.bl (decide (i < j)))
 | .str a, .str b => some (.bl (decide (a.cps.toList < b.cps.toList)))
 | .lst a, .lst b => if okDs 60 a && (okDs 60 b && PySem.W.alike (toPy (.lst a)) (toPy (.lst b))) then some (.bl (PySem.W.dataLt (toPy (.lst a)) (toPy (.lst b)))) else none
 | .tup a, .tup b => if okDs 60 a && (okDs 60 b && PySem.W.alike (toPy (.tup a)) (toPy (.tup b))) then some (.bl (PySem.W.dataLt (toPy (.tup a)) (toPy (.tup b)))) else none
 | _, _ => none
def lookT (k : List Key) : List (List Key) → List D → Option D
 | a :: as, d :: ds => if a = k then some d else lookT k as ds
 | _, _ => none
def hitD (ks : List (List Key)) (ds : List D) (k : List Key) (d : D) : Bool := match lookT k ks ds with
 | none => false
 | some x => eqD d x
def hitsD (ks' : List (List Key)) (ds' : List D) : List (List Key) → List D → Bool
 | k :: ks, d :: ds => hitD ks' ds' k d && hitsD ks' ds' ks ds
 | _, _ => true
def dtEq (ks : List (List Key)) (ds : List D) (ks' : List (List Key)) (ds' : List D) : Bool := ks.length == ks'.length && hitsD ks' ds' ks ds
def cmpEq (neg : Bool) (x y : D) : Option D := match x, y with
 | .str a, .str b => some (.bl (neg != decide (a = b)))
 | .str a, .non => some (.bl neg)
 | .str a, .int _ => some (.bl neg)
 | .str a, .bl _ => some (.bl neg)
 | .non, .str b => some (.bl neg)
 | .int _, .str b => some (.bl neg)
 | .bl _, .str b => some (.bl neg)
 | .str _, .lst _ => some (.bl neg)
 | .str _, .tup _ => some (.bl neg)
 | .str _, .dk _ _ => some (.bl neg)
 | .lst xs, .lst [] => some (.bl (neg != xs.isEmpty))
 | .tup xs, .tup [] => some (.bl (neg != xs.isEmpty))
 | .dk ks _, .dk [] [] => some (.bl (neg != ks.isEmpty))
 | .dt ks ds, .dt ks' ds' => if okDs 60 ds && okDs 60 ds' then some (.bl (neg != dtEq ks ds ks' ds')) else none
 | x, y => if (okD 64 x && okD 100000 y) || (okD 100000 x && okD 64 y) then some (.bl (neg != eqD x y)) else none
end
end L2.MP
end
section
namespace L2.MP
open PySem PySem.Spec PyProof.Rows
def flatD : D → Bool
 | .non => true
 | .bl _ => true
 | .int _ => true
 | .str _ => true
 | _ => false
def memD (x : D) (ys : List D) : Bool := ys.any fun y => eqD y x
def keyOf : D → Option Key
 | .int i => some (.inl i)
 | .str s => some (.inr s)
 | _ => none
def keysOf : List D → Option (List Key)
 | [] => some []
 | d :: ds => match keyOf d, keysOf ds with
   | some k, some ks => some (k :: ks)
   | _, _ => none
def lookK {κ : Type} [DecidableEq κ] (k : κ) : List κ → List D → Option D
 | a :: as, d :: ds => if a = k then some d else lookK k as ds
 | _, _ => none
def hasS (x y : Str) : Bool := (List.range (x.length + 1)).any fun i => decide (i + y.length ≤ x.length) && (x.cps.extract i (i + y.length) == y.cps)
def inD (x y : D) : Option Bool := match x, y with
 | .str a, .str b => (match a.cps.toList with
   | [c] => some (decide (c ∈ b.cps.toList))
   | _ => some (hasS b a))
 | x, .tup ys => if flatD x && ys.all flatD then some (memD x ys) else none
 | x, .rt ys => if flatD x && ys.all flatD then some (memD x ys) else none
 | x, .lst ys => if flatD x && ys.all flatD then some (memD x ys) else if okD 64 x && okD 64 (.lst ys) then some (memD x ys) else none
 | x, .rl ys => if flatD x && ys.all flatD then some (memD x ys) else none
 | x, .dk ks vs => (keyOf x).map fun k => (lookK k ks vs).isSome
 | .tup xs, .dt ks vs => (keysOf xs).map fun k => (lookK k ks vs).isSome
 | _, _ => none
end L2.MP
end
section
namespace L2.MP
open PySem PySem.Spec PyProof.Rows
section
def isD (neg : Bool) : D → D → Option D
 | .bl a, .bl b => some (.bl (neg != decide (a = b)))
 | x, .non => (match x with
   | .non => some (.bl (neg != true))
   | .own _ => none
   | _ => some (.bl (neg != false)))
 | _, _ => none
def ixD : D → D → Option D
 | .lst l, .int i => atI l i
 | .rl l, .int i => atI l i
 | .tup l, .int i => atI l i
 | .rt l, .int i => atI l i
 | .str z, .int i => if z.length ≤ sizeLine then (atI z.cps.toList i).map fun c => .str ⟨#[c]⟩ else none
 | .dk ks vs, d => (keyOf d).bind fun q => lookK q ks vs
 | .dt ks vs, .tup ds => (keysOf ds).bind fun q => lookK q ks vs
 | _, _ => none
def cutD {α : Type} (l : List α) (lo hi : Option Int) : List α := (l.drop (HT.sIx l.length 0 lo)).take (HT.sIx l.length l.length hi - HT.sIx l.length 0 lo)
def slD (x : D) (lo hi : Option Int) : Option D := match x with
 | .lst l => some (.lst (cutD l lo hi))
 | .rl l => some (.lst (cutD l lo hi))
 | .tup l => some (.tup (cutD l lo hi))
 | .str z => if z.length ≤ sizeLine then some (.str (cutS z lo hi)) else none
 | _ => none
def dPart : Option (M D) → M (Option Int)
 | none => M.ret none
 | some m => M.bind m fun d => match d with
   | .int i => M.ret (some i)
   | _ => M.fail
def dSl (a : M D) (lo hi : Option (M D)) : M D := M.bind a fun x => M.bind (dPart lo) fun l => M.bind (dPart hi) fun h => M.bind getS fun z => M.opt (slD (view z.1 z.2 x) l h)
def slF (x : D) (lo hi : Option Int) : Option Cell := match x with
 | .lst l => some (.lst (cutD l lo hi))
 | .rl l => some (.lst (cutD l lo hi))
 | _ => none
def dSlF (a : M D) (lo hi : Option (M D)) : M Cell := M.bind a fun x => M.bind (dPart lo) fun l => M.bind (dPart hi) fun h => M.bind getS fun z => M.opt (slF (view z.1 z.2 x) l h)
def dChain (f g : D → D → Option D) (a b c : M D) : M D := M.bind a fun x => M.bind b fun y => M.bind getS fun z => M.bind (M.opt (f (view z.1 z.2 x) (view z.1 z.2 y))) fun t => match t with
 | .bl true => M.bind c fun u => M.bind getS fun z => M.opt (g (view z.1 z.2 y) (view z.1 z.2 u))
 | .bl false => M.ret (.bl false)
 | _ => M.fail
def dBl (a : M D) : M Bool := M.bind a fun d => match d with
 | .bl b => M.ret b
 | _ => M.fail
def dAnd (a b : M D) : M D := M.bind (dBl a) fun t => if t = true then b else M.ret (.bl false)
def dOr (a b : M D) : M D := M.bind (dBl a) fun t => if t = true then M.ret (.bl true) else b
def dNot (a : M D) : M D := M.bind (dBl a) fun t => M.ret (.bl (!t))
def dIf {α : Type} (c : M Bool) (a b : M α) : M α := M.bind c fun t => if t = true then a else b
def truD : D → Option Bool
 | .non => some false
 | .bl b => some b
 | .int i => some (i != 0)
 | .str z => if z.length ≤ sizeLine then some ((z.length : Int) != 0) else none
 | .lst l => some !l.isEmpty
 | .rl l => some !l.isEmpty
 | .tup l => some !l.isEmpty
 | .rt l => some !l.isEmpty
 | .dk ks _ => some !ks.isEmpty
 | _ => none
def dTru (a : M D) : M Bool := M.bind a fun x => M.bind getS fun z => M.opt (truD (view z.1 z.2 x))
def dNotT (a : M Bool) : M Bool := M.bind a fun t => M.ret !t
def dAndT (a b : M Bool) : M Bool := M.bind a fun t => if t = true then b else M.ret false
def dOrT (a b : M Bool) : M Bool := M.bind a fun t => if t = true then M.ret true else b
end
end L2.MP
end
section
namespace L2.MP
open PySem PySem.Spec PyProof.Rows
def getInts : List D → Option (List Int)
 | [] => some []
 | .int i :: r => (getInts r).map (i :: ·)
 | _ => none
def getBools : List D → Option (List Bool)
 | [] => some []
 | .bl i :: r => (getBools r).map (i :: ·)
 | _ => none
def getStrs : List D → Option (List Str)
 | [] => some []
 | .str i :: r => (getStrs r).map (i :: ·)
 | _ => none
section
theorem bools_map (ns : List Bool) : getBools (ns.map D.bl) = some ns := by
 induction ns with
 | nil => rfl
 | cons a r ih => simp [getBools, ih]
end
def lstOf : D → Option (List D)
 | .lst l => some l
 | .rl l => some l
 | _ => none
def tupOf : D → Option (List D)
 | .tup l => some l
 | .rt l => some l
 | _ => none
section
def dOpF1 (f : D → Option Cell) (a : M D) : M Cell := M.bind a fun x => M.bind getS fun z => M.opt (f (view z.1 z.2 x))
def dOpF2 (f : D → D → Option Cell) (a b : M D) : M Cell := M.bind a fun x => M.bind b fun y => M.bind getS fun z => M.opt (f (view z.1 z.2 x) (view z.1 z.2 y))
def catF : D → D → Option Cell
 | .lst a, .lst b => if a.length + b.length ≤ sizeLine then some (.lst (a ++ b)) else none
 | _, _ => none
def lenD : D → Option D
 | .str z => if z.length ≤ sizeLine then some (.int z.length) else none
 | .lst l => some (.int l.length)
 | .rl l => some (.int l.length)
 | .tup l => some (.int l.length)
 | .rt l => some (.int l.length)
 | .dt ks _ => some (.int ks.length)
 | .dk ks _ => some (.int ks.length)
 | _ => none
def intD : D → Option D
 | .int i => some (.int i)
 | .bl b => some (.int (if b then 1 else 0))
 | .str a => if a.length ≤ 640 then (PySem.intText? a).map D.int else none
 | _ => none
def strD : D → Option D
 | .int i => if i.natAbs.log2 < 1920 then some (.str (toString i)) else none
 | .str x => some (.str x)
 | _ => none
def allD (d : D) : Option D := (lstOf d).bind fun l => (getBools l).map fun bs => .bl (bs.all id)
def anyD (d : D) : Option D := (lstOf d).bind fun l => (getBools l).map fun bs => .bl (bs.any id)
def sumD (d : D) : Option D := (lstOf d).bind fun l => (getInts l).map fun bs => .int bs.sum
def minI : List Int → Int
 | [] => 0
 | [a] => a
 | a :: r => min a (minI r)
def maxI : List Int → Int
 | [] => 0
 | [a] => a
 | a :: r => max a (maxI r)
def minLD (d : D) : Option D := (lstOf d).bind fun l => (getInts l).bind fun ns => if 0 < ns.length then some (.int (minI ns)) else none
def minD (d : D) : Option D := match d with
 | .tup l => minLD (.lst l)
 | .rt l => minLD (.lst l)
 | d => minLD d
def maxD (d : D) : Option D := (lstOf d).bind fun l => (getInts l).bind fun ns => if 0 < ns.length then some (.int (maxI ns)) else none
def min2D : D → D → Option D
 | .int i, .int j => some (.int (if j < i then j else i))
 | _, _ => none
def max2D : D → D → Option D
 | .int i, .int j => some (.int (if j > i then j else i))
 | _, _ => none
def tupleLD : D → Option D
 | .lst l => some (.tup l)
 | .rl l => some (.tup l)
 | .tup l => some (.tup l)
 | .rt l => some (.rt l)
 | _ => none
def sgnD (z : Str) : List D := z.cps.toList.map fun c => D.str ⟨#[c]⟩
def tupleD (d : D) : Option D := match d with
 | .str z => if z.length ≤ sizeLine then some (.tup (sgnD z)) else none
 | d => tupleLD d
def listLF : D → Option Cell
 | .lst l => some (.lst l)
 | .rl l => some (.lst l)
 | .tup l => some (.lst l)
 | .rt l => some (.lst l)
 | _ => none
def listF (d : D) : Option Cell := match d with
 | .str z => if z.length ≤ sizeLine then some (.lst (sgnD z)) else none
 | d => listLF d
def typeD : D → Option String
 | .non => some "NoneType"
 | .bl _ => some "bool"
 | .int _ => some "int"
 | .str _ => some "str"
 | .tup _ => some "tuple"
 | .rt _ => some "tuple"
 | .lst _ => some "list"
 | .rl _ => some "list"
 | .dk _ _ => some "dict"
 | .dt _ _ => some "dict"
 | _ => none
def isiD (T : String) (d : D) : Option D := (typeD d).map fun t => .bl (t == T || (t == "bool" && T == "int"))
def isiTD (Ts : List String) (d : D) : Option D := (typeD d).map fun t => .bl (Ts.any fun T => t == T || (t == "bool" && T == "int"))
def sortI (ns : List Int) : List Int := ns.mergeSort fun a b => decide (a ≤ b)
def leS (a b : Str) : Bool := !ltCps b.cps.toList a.cps.toList
theorem leS_iff {a b : Str} : leS a b = true ↔ a.cps.toList ≤ b.cps.toList := by
 unfold leS
 rw [ltCps_eq, Bool.not_eq_true', decide_eq_false_iff_not]
 exact Iff.rfl
def sortS (xs : List Str) : List Str := xs.mergeSort leS
theorem str_eq {a b : Str} (h : a.cps.toList = b.cps.toList) : a = b := by
 obtain ⟨⟨a⟩⟩ := a
 obtain ⟨⟨b⟩⟩ := b
 cases h; rfl
theorem sortS_pw (xs : List Str) : (sortS xs).Pairwise fun a b => a.cps.toList ≤ b.cps.toList := by
 have := List.pairwise_mergeSort (le := leS) (fun a b c h1 h2 => leS_iff.mpr (List.le_trans (leS_iff.mp h1) (leS_iff.mp h2))) (fun a b => by
   rw [Bool.or_eq_true, leS_iff, leS_iff]; exact List.le_total _ _) xs
 exact this.imp leS_iff.mp
theorem sortS_perm (xs : List Str) : (sortS xs).Perm xs := List.mergeSort_perm _ _
def sortedB (d : D) : Option Cell := (lstOf d).bind fun l => if l.length < 64 then (match getInts l with
 | some ns => some (.lst ((sortI ns).map D.int))
 | none => (getStrs l).map fun xs => .lst ((sortS xs).map D.str)) else none
end
end L2.MP
end
section
namespace L2.MP
open PySem PySem.Spec PyProof.Rows
inductive FOut where
 | ok (d : D) (S : Sto) | exc (x : Exn) (S : Sto) | bad
abbrev Fn := List D → Sto → FOut
def FOut.out (r : FOut) (env : Envr) : Out D := match r with
 | .ok d S => .ok d env S
 | .exc x S => .exc x env S
 | .bad => .bad
section
def lookF {α : Type} (f : Str) : List (Str × α) → Option α
 | [] => none
 | (g, x) :: r => if g = f then some x else lookF f r
def insOf (c : Nat) (S : Sto) : D → Option (Nat × List (Str × D))
 | .ref n => (match S[n]? with
   | some (.ins c' fs) => if c' = c then some (n, fs) else none
   | _ => none)
 | _ => none
def dMake (c n : Nat) (f : Fn) (args : M (List D)) : M D := M.bind args fun ds => if (D.non :: ds).length = n then (fun env S => match f (.ref S.length :: ds) (S ++ [.ins c []]) with
 | .ok .non S' => .ok (.ref S.length) env S'
 | .ok _ _ => .bad
 | .exc x S' => .exc x env S'
 | .bad => .bad) else M.fail
def dFld (cs : List Nat) (f : Str) (o : M D) : M D := M.bind o fun x => fun env S => match x with
 | .ref n => (match S[n]? with
   | some (.ins c fs) => if c ∈ cs then (match lookF f fs with
     | some d => .ok d env S
     | none => .bad) else .bad
   | _ => .bad)
 | _ => .bad
def putG {α : Type} (f : Str) (v : α) : List (Str × α) → List (Str × α)
 | [] => [(f, v)]
 | (g, x) :: r => if g = f then (g, v) :: r else (g, x) :: putG f v r
def putS (cs : List Nat) (f : Str) (v : D) (x : D) (S : Sto) : Option Sto := match x with
 | .ref n => (match S[n]? with
   | some (.ins c fs) => if c ∈ cs ∧ fs.length < 1000 then some (S.set n (.ins c (putG f v fs))) else none
   | _ => none)
 | _ => none
def setSt (S : Sto) : M Unit := fun env _ => .ok () env S
def dSetFld (cs : List Nat) (f : Str) (o v : M D) : M Flo := M.bind v fun d => M.bind o fun x => M.bind getS fun z => M.bind (M.opt (putS cs f d x z.2)) fun S' => M.bind (setSt S') fun _ => M.ret .nx
def dSetFldF (cs : List Nat) (f : Str) (o : M D) (v : M Cell) : M Flo := M.bind v fun c => M.bind o fun x => M.bind getS fun z => M.bind (M.opt (putS cs f (.ref z.2.length) x (z.2 ++ [c]))) fun S' => M.bind (setSt S') fun _ => M.ret .nx
end
end L2.MP
end
section
namespace L2.MP
open PySem PySem.Spec PyProof.Rows RZ
mutual
def sameD : D → D → Bool
 | .non, .non => true
 | .bl a, .bl b => a == b
 | .int a, .int b => a == b
 | .str a, .str b => a == b
 | .tup a, .tup b => sameDs a b
 | .lst a, .lst b => sameDs a b
 | .rl a, .rl b => sameDs a b
 | .rt a, .rt b => sameDs a b
 | .ref a, .ref b => a == b
 | _, _ => false
def sameDs : List D → List D → Bool
 | [], [] => true
 | a :: r, b :: s => sameD a b && sameDs r s
 | _, _ => false
end
def enumFrom : Nat → List D → List D
 | _, [] => []
 | n, d :: r => .tup [.int n, d] :: enumFrom (n + 1) r
def gOk : Option Nat → List D → Sto → Bool
 | none, _, _ => true
 | some n, l, S => match S[n / 2]? with
   | some (.lst m) => if n % 2 = 0 then sameDs m l else sameDs (enumFrom 0 m) l
   | _ => false
abbrev Tgt := D → Envr → Option Envr
def gNm (i : Nat) : Tgt := fun d env => some (env.set i (.val d))
def gTs : List Tgt → List D → Envr → Option Envr
 | [], [], env => some env
 | g :: gs, d :: ds, env => (g d env).bind fun env => gTs gs ds env
 | _, _, _ => none
def gTp (gs : List Tgt) : Tgt := fun d env => match tupOf d with
 | some ds => gTs gs ds env
 | none => none
abbrev Src := List D × Option Nat
section
def signs (z : Str) : List D := z.cps.toList.map fun c => .str ⟨#[c]⟩
def itemsD : D → Option (List D)
 | .lst l => some l
 | .rl l => some l
 | .tup l => some l
 | .rt l => some l
 | .str z => some (signs z)
 | _ => none
def srcOf (d : D) (S : Sto) : Option Src := match d with
 | .ref n => (match S[n]? with
   | some (.lst l) => some (l, some (2 * n))
   | _ => none)
 | d => (itemsD d).map fun l => (l, none)
def dWalk (a : M D) : M Src := M.bind a fun d => M.bind getS fun z => M.opt (srcOf d z.2)
def upto (lo hi : Int) : List D := (List.range (hi - lo).toNat).map fun (i : Nat) => .int (lo + i)
def rgB (i : Int) : Bool := decide (-(2 ^ 62) ≤ i) && decide (i < 2 ^ 62)
def dRng1 (a : M D) : M Src := M.bind a fun d => match d with
 | .int j => if rgB j then M.ret (upto 0 j, none) else M.fail
 | _ => M.fail
def dRng2 (a b : M D) : M Src := M.bind a fun c => M.bind b fun d => match c, d with
 | .int i, .int j => if rgB i && rgB j then M.ret (upto i j, none) else M.fail
 | _, _ => M.fail
def enumSrc (d : D) : Option (List D) := match lstOf d with
 | some l => some l
 | none => tupOf d
def enumOf (d : D) (S : Sto) : Option Src := match d with
 | .ref n => (match S[n]? with
   | some (.lst l) => some (enumFrom 0 l, some (2 * n + 1))
   | _ => none)
 | d => (enumSrc d).map fun l => (enumFrom 0 l, none)
def dEnum (a : M D) : M Src := M.bind a fun x => M.bind getS fun z => M.opt (enumOf x z.2)
def zipD : List D → List D → List D
 | a :: r, b :: s => .tup [a, b] :: zipD r s
 | _, _ => []
theorem zipD_len : ∀ (l m : List D), (zipD l m).length = min l.length m.length
 | [], _ => by simp [zipD]
 | _ :: _, [] => by simp [zipD]
 | a :: r, b :: s => by simp [zipD, zipD_len r s]
def seqOf2 (a b : D) : Option (List D) := match lstOf a, lstOf b with
 | some l, some m => some (zipD l m)
 | _, _ => match tupOf a, tupOf b with
   | some l, some m => some (zipD l m)
   | _, _ => none
def dZip (a b : M D) : M Src := M.bind a fun x => M.bind b fun y => M.opt ((seqOf2 x y).map fun l => (l, none))
end
end L2.MP
end
section
namespace L2.MP
open PySem PySem.Spec PyProof.Rows
def loopL (src : Src) (tg : Tgt) (body : M Flo) : List D → M Flo
 | [] => fun env S => if gOk src.2 src.1 S = true then .ok .nx env S else .bad
 | d :: r => fun env S => if gOk src.2 src.1 S = true then (match tg d env with
   | some env1 => (match body env1 S with
     | .ok .nx env2 S2 => loopL src tg body r env2 S2
     | .ok .ct env2 S2 => loopL src tg body r env2 S2
     | .ok .bk env2 S2 => .ok .nx env2 S2
     | .ok (.rt v) env2 S2 => .ok (.rt v) env2 S2
     | .exc x env2 S2 => .exc x env2 S2
     | .bad => .bad)
   | none => .bad) else .bad
def dFor (it : M Src) (tg : Tgt) (body : M Flo) : M Flo := M.bind it fun src => loopL src tg body src.1
section
def dWhile (c : M Bool) (b : M Flo) : Nat → M Flo
 | 0 => M.fail
 | n + 1 => M.bind c fun t => if t = true then (fun env S => match b env S with
   | .ok .nx env2 S2 => dWhile c b n env2 S2
   | .ok .ct env2 S2 => dWhile c b n env2 S2
   | .ok .bk env2 S2 => .ok .nx env2 S2
   | .ok (.rt v) env2 S2 => .ok (.rt v) env2 S2
   | .exc x env2 S2 => .exc x env2 S2
   | .bad => .bad) else M.ret .nx
def wipeE (env : Envr) : List Nat → Envr
 | [] => env
 | v :: vs => (wipeE env vs).set v .no
def noX {α : Type} (m : M α) : M α := fun env S => match m env S with
 | .ok a env S => .ok a env S
 | _ => .bad
def compL (src : Src) (tg : Tgt) (tt : M Bool) (te : M D) (vs : List Nat) : List D → List D → M (List D)
 | [], acc => fun env S => if gOk src.2 src.1 S = true then .ok acc env S else .bad
 | d :: r, acc => fun env S => if gOk src.2 src.1 S = true then (match tg d env with
   | some env1 => (match tt env1 S with
     | .ok true env2 S2 => (match te env2 S2 with
       | .ok x env3 S3 => compL src tg tt te vs r (acc ++ [x]) (wipeE env3 vs) S3
       | _ => .bad)
     | .ok false env2 S2 => compL src tg tt te vs r acc (wipeE env2 vs) S2
     | _ => .bad)
   | none => .bad) else .bad
def dComp (it : M Src) (tg : Tgt) (tt : M Bool) (te : M D) (vs : List Nat) : M Cell := M.bind it fun src => if src.1.length ≤ sizeLine then (fun env S => match compL src tg tt te vs src.1 [] (wipeE env vs) S with
 | .ok acc env S => .ok (.lst acc) env S
 | _ => .bad) else M.fail
end
end L2.MP
end
section
namespace L2.MP
open PySem PySem.Spec PyProof.Rows
def setSl (i : Nat) (s : Slot) : M Unit := fun env S => .ok () (env.set i s) S
section
def dSet (i : Nat) (a : M D) : M Flo := M.bind a fun d => M.bind (setSl i (.val d)) fun _ => M.ret .nx
def dSetOwn (i : Nat) (a : M Cell) : M Flo := M.bind a fun c => M.bind (setSl i (.own c)) fun _ => M.ret .nx
def alloc (c : Cell) : M D := fun env S => .ok (.ref S.length) env (S ++ [c])
def dSetHp (i : Nat) (a : M Cell) : M Flo := M.bind a fun c => M.bind (alloc c) fun d => M.bind (setSl i (.val d)) fun _ => M.ret .nx
def setTg (g : Tgt) (d : D) : M Unit := fun env S => match g d env with
 | some env => .ok () env S
 | none => .bad
def dAsg (g : Tgt) (a : M D) : M Flo := M.bind a fun d => M.bind (setTg g d) fun _ => M.ret .nx
def dSeq (s t : M Flo) : M Flo := M.bind s fun f => match f with
 | .nx => t
 | f => M.ret f
def dExpr (a : M D) : M Flo := M.bind a fun _ => M.ret .nx
def dRet (a : M D) : M Flo := M.bind a fun d => M.ret (.rt d)
def dRetHp (a : M Cell) : M Flo := M.bind a fun c => M.bind (alloc c) fun d => M.ret (.rt d)
def cellOf (env : Envr) (S : Sto) : D → Option Cell
 | .ref n => S[n]?
 | .own i => match env[i]? with
   | some (.own c) => some c
   | _ => none
 | _ => none
def setCell (x : D) (c : Cell) : M Unit := fun env S => match x with
 | .ref n => .ok () env (S.set n c)
 | .own i => .ok () (env.set i (.own c)) S
 | _ => .bad
def isLst : Cell → Bool
 | .lst _ => true
 | _ => false
def dMut (f : Cell → List D → Option (Cell × D)) (o : M D) (args : M (List D)) : M D := M.bind o fun x => M.bind getS fun z => match (cellOf z.1 z.2 x).map isLst with
 | some true => M.bind args fun ds => M.bind getS fun z => M.bind (M.opt ((cellOf z.1 z.2 x).bind fun c => f c ds)) fun p => M.bind (setCell x p.1) fun _ => M.ret p.2
 | _ => M.fail
def appF : Cell → List D → Option (Cell × D)
 | .lst l, [d] => if l.length < sizeLine then some (.lst (l ++ [d]), .non) else none
 | _, _ => none
def popF : Cell → List D → Option (Cell × D)
 | .lst l, [] => (l[l.length - 1]?).map fun d => (.lst l.dropLast, d)
 | _, _ => none
def popAtF : Cell → List D → Option (Cell × D)
 | .lst l, [.int i] => if -(2 ^ 63) ≤ i ∧ i < 2 ^ 63 then (seqIndex? i l.length).bind fun j => (l[j]?).map fun d => (.lst (l.eraseIdx j), d) else none
 | _, _ => none
def extF : Cell → List D → Option (Cell × D)
 | .lst l, [.lst m] => if l.length + m.length ≤ sizeLine then some (.lst (l ++ m), .non) else none
 | _, _ => none
def revF : Cell → List D → Option (Cell × D)
 | .lst l, [] => some (.lst l.reverse, .non)
 | _, _ => none
def putD {κ : Type} [DecidableEq κ] (q : κ) (d : D) : List κ → List D → List κ × List D
 | [], [] => ([q], [d])
 | a :: as, x :: xs => if a = q then (a :: as, d :: xs) else let r := putD q d as xs; (a :: r.1, x :: r.2)
 | as, xs => (as, xs)
def setIxF (c : Cell) (i d : D) : Option Cell := match c, i with
 | .lst l, .int j => (ixN l.length j).map fun n => .lst (l.set n d)
 | .dk ks vs, i => (match i, ks, vs with
   | .tup l, [], [] => (keysOf l).map fun q => .dt [q] [d]
   | i, ks, vs => if ks.Nodup ∧ ks.length < sizeLine then (keyOf i).map fun q => let r := putD q d ks vs; .dk r.1 r.2 else none)
 | .dt ks vs, .tup l => if ks.Nodup ∧ ks.length < sizeLine then (keysOf l).map fun q => let r := putD q d ks vs; .dt r.1 r.2 else none
 | _, _ => none
def dSetIx (v o i : M D) : M Flo := M.bind v fun d => M.bind o fun x => M.bind i fun j => M.bind getS fun z => M.bind (M.opt ((cellOf z.1 z.2 x).bind fun c => setIxF c (view z.1 z.2 j) d)) fun c => M.bind (setCell x c) fun _ => M.ret .nx
end
end L2.MP
end
section
namespace L2.MP
open PySem PySem.Spec PyProof.Rows
def dSm0 (f : Str → Option D) (o : M D) : M D := M.bind o fun x => match x with
 | .str s => M.opt (f s)
 | _ => M.fail
def dSm1 (f : Str → D → Option D) (o a : M D) : M D := M.bind o fun x => match x with
 | .str s => M.bind a fun y => M.bind getS fun z => M.opt (f s (view z.1 z.2 y))
 | _ => M.fail
section
def upperD (s : Str) : Option D := if s.length ≤ 5592405 then some (.str (Txt.upper s)) else none
def lowerD (s : Str) : Option D := if s.length ≤ 5592405 then some (.str (Txt.lower s)) else none
def isdigitD (s : Str) : Option D := some (.bl (Txt.isdigit s))
def stripD (s : Str) : Option D := if s.length ≤ sizeLine then some (.str (Txt.strip s)) else none
def seqJ (y : D) : Option (List D) := match lstOf y with
 | some l => some l
 | none => tupOf y
def joinD (s : Str) (y : D) : Option D := (seqJ y).bind fun l => (getStrs l).bind fun ys => if (ys.map (·.length)).sum + ys.length * s.length ≤ 16777216 then some (.str (Txt.join s ys)) else none
def splitD (s : Str) (y : D) : Option D := match y with
 | .str b => if (b.length == 0) = false ∧ s.length + 2 ≤ sizeLine then some (.lst ((Txt.split s b).map .str)) else none
 | _ => none
def partD (s : Str) (y : D) : Option D := match y with
 | .str b => if (b.length == 0) = false ∧ s.length ≤ sizeLine then some (.tup [.str (Txt.partition s b).1, .str (Txt.partition s b).2.1, .str (Txt.partition s b).2.2]) else none
 | _ => none
def countD (s : Str) (y : D) : Option D := match y with
 | .str b => some (.int (Txt.count s b))
 | _ => none
def findD (s : Str) (y : D) : Option D := match y with
 | .str b => some (.int (Txt.find s b))
 | _ => none
def startsD (s : Str) (y : D) : Option D := match y with
 | .str b => some (.bl (Txt.startswith s b))
 | _ => none
def endsD (s : Str) (y : D) : Option D := match y with
 | .str b => some (.bl (Txt.endswith s b))
 | _ => none
def dPairs : List (M D × M D) → M (List (D × D))
 | [] => M.ret []
 | (a, b) :: r => M.bind a fun x => M.bind b fun y => M.bind (dPairs r) fun l => M.ret ((x, y) :: l)
def keyPairs : List (D × D) → Option (List (Key × D))
 | [] => some []
 | (a, b) :: r => match keyOf a, keyPairs r with
   | some q, some l => some ((q, b) :: l)
   | _, _ => none
def mergeD : List Key → List D → List (Key × D) → List Key × List D
 | ks, vs, [] => (ks, vs)
 | ks, vs, (q, d) :: r => mergeD (putD q d ks vs).1 (putD q d ks vs).2 r
def dDisp (ps : List (M D × M D)) : M Cell := M.bind (dPairs ps) fun l => match keyPairs l with
 | some l => if l.length ≤ 15 then M.ret (.dk (mergeD [] [] l).1 (mergeD [] [] l).2) else M.fail
 | none => M.fail
def pairsD : List D → Option (List (Key × D))
 | [] => some []
 | .tup [a, b] :: r => (match keyOf a, pairsD r with
   | some q, some l => some ((q, b) :: l)
   | _, _ => none)
 | _ :: _ => none
def dictF (d : D) : Option Cell := (lstOf d).bind fun l => (pairsD l).map fun l => .dk (mergeD [] [] l).1 (mergeD [] [] l).2
end
end L2.MP
end
section
namespace L2.MP
open PySem PySem.Spec PyProof.Rows
def onto {K : Type} [DecidableEq K] (xs : List K) (L : List K) : List K := xs.foldl (fun L k => if k ∈ L then L else k :: L) L
theorem onto_mem {K : Type} [DecidableEq K] {k : K} : ∀ {xs L : List K}, k ∈ onto xs L ↔ k ∈ xs ∨ k ∈ L
 | [], L => by simp [onto]
 | x :: xs, L => by
   have e : onto (x :: xs) L = onto xs (if x ∈ L then L else x :: L) := rfl
   rw [e, onto_mem]
   by_cases h : x ∈ L
   · rw [if_pos h, List.mem_cons]
     constructor
     · rintro (z | z)
       · exact .inl (.inr z)
       · exact .inr z
     · rintro ((rfl | z) | z)
       · exact .inr h
       · exact .inl z
       · exact .inr z
   · rw [if_neg h, List.mem_cons, List.mem_cons]
     constructor
     · rintro (z | z | z)
       · exact .inl (.inr z)
       · exact .inl (.inl z)
       · exact .inr z
     · rintro ((z | z) | z)
       · exact .inr (.inl z)
       · exact .inl z
       · exact .inr (.inr z)
theorem onto_len {K : Type} [DecidableEq K] : ∀ {xs L : List K}, (onto xs L).length ≤ xs.length + L.length
 | [], L => by simp [onto]
 | x :: xs, L => by
   have e : onto (x :: xs) L = onto xs (if x ∈ L then L else x :: L) := rfl
   have := onto_len (xs := xs) (L := if x ∈ L then L else x :: L)
   rw [e]
   refine Nat.le_trans this ?_
   by_cases h : x ∈ L
   · rw [if_pos h, List.length_cons]; omega
   · rw [if_neg h, List.length_cons, List.length_cons]; omega
end L2.MP
end
section
namespace L2.MP
open PySem PySem.Spec PyProof.Rows
def seqD : D → Option (List D)
 | .lst l => some l
 | .rl l => some l
 | .tup l => some l
 | .rt l => some l
 | _ => none
def setF {α : Type} (fs : List Str → α) (fi : List Int → α) (d : D) : Option α := (seqD d).bind fun l => if l.length < 64 then (match getStrs l with
 | some xs => some (fs xs)
 | none => (getInts l).map fi) else none
def ssetF : D → Option Cell := setF (fun xs => .lst ((sortS (onto xs [])).map .str)) (fun xs => .lst ((sortI (onto xs [])).map .int))
def lsetD : D → Option D := setF (fun xs => .int (onto xs []).length) (fun xs => .int (onto xs []).length)
end L2.MP
end
section
namespace L2.MP
open PySem PySem.Spec PyProof.Rows
section
def revD : D → Option D
 | .lst l => some (.lst l.reverse)
 | .rl l => some (.lst l.reverse)
 | .tup l => some (.tup l.reverse)
 | .rt l => some (.tup l.reverse)
 | _ => none
def dHp (a : M Cell) : M D := M.bind a alloc
def insF : Cell → List D → Option (Cell × D)
 | .lst l, [.int i, d] => if l.length < sizeLine ∧ 0 ≤ i ∧ i < 2 ^ 63 then some (.lst (l.take i.toNat ++ [d] ++ l.drop i.toNat), .non) else none
 | _, _ => none
end
end L2.MP
namespace L2.MP
open PySem PySem.Spec PyProof.Rows
section
def dLm1 (f : List D → D → Option D) (o a : M D) : M D := M.bind o fun x => M.bind getS fun z => match lstOf (view z.1 z.2 x) with
 | some _ => M.bind a fun y => M.bind getS fun z => M.opt ((lstOf (view z.1 z.2 x)).bind fun l => f l (view z.1 z.2 y))
 | none => M.fail
def posD (y : D) : List D → Option Nat
 | [] => none
 | x :: r => if eqD x y then some 0 else (posD y r).map (· + 1)
def idxF (l : List D) (y : D) : Option D := if flatD y && l.all flatD then (posD y l).map fun j => .int (j : Nat) else if okD 64 y && okDs 63 l then (posD y l).map fun j => .int (j : Nat) else none
end
end L2.MP
end
section
namespace L2.MP
open PySem PySem.Spec PyProof.Rows
section
def dRaise0 (c : Nat) : M Flo := fun env S => .exc ⟨c, []⟩ env S
def dRaise1 (c : Nat) (f : Str) (m : M D) : M Flo := M.bind m fun d => fun env S => .exc ⟨c, [(f, d)]⟩ env S
end
end L2.MP
end
section
namespace L2.MP
open PySem PySem.Spec PyProof.Rows
abbrev Xt := List (Nat × List Nat)
def subX (t : Xt) (x : Nat) : Option Nat → Bool
 | none => true
 | some c => ((t.lookup x).getD []).contains c
def knX (t : Xt) : Option Nat → Bool
 | none => true
 | some c => (t.lookup c).isSome
def dIsX (t : Xt) (i : Nat) (cs : List (Option Nat)) : M D := fun env S => match env[i]? with
 | some (.exn x) => if (t.lookup x.cls).isSome && cs.all (knX t) then .ok (.bl (cs.any (subX t x.cls))) env S else .bad
 | _ => .bad
def dXf (t : Xt) (fl : List Str) (i : Nat) (f : Str) : M D := fun env S => match env[i]? with
 | some (.exn x) => if (t.lookup x.cls).isSome && fl.contains f then (match lookF f x.fs with
   | some d => .ok d env S
   | none => .bad) else .bad
 | _ => .bad
end L2.MP
end
section
namespace L2.MP
open PySem PySem.Spec PyProof.Rows
def dTryR (t : Xt) (c : Nat) (b s : M Flo) : M Flo := fun env S => match b env S with
 | .exc x env1 S1 => if (t.lookup x.cls).isSome && (t.lookup c).isSome then (if subX t x.cls (some c) then s env1 S1 else .exc x env1 S1) else .bad
 | o => o
def dTryN (t : Xt) (c : Nat) (b s : M Flo) : M Flo := fun env S => match b env S with
 | .exc x env1 S1 => if (t.lookup x.cls).isSome && (t.lookup c).isSome then (if subX t x.cls (some c) then noX s env1 S1 else .exc x env1 S1) else .bad
 | o => o
def dTryE (t : Xt) (c i : Nat) (b s : M Flo) : M Flo := fun env S => match b env S with
 | .exc x env1 S1 => if (t.lookup x.cls).isSome && (t.lookup c).isSome then (if subX t x.cls (some c) then (match s (env1.set i (.exn x)) S1 with
     | .ok f env2 S2 => .ok f (env2.set i .no) S2
     | _ => .bad) else .exc x env1 S1) else .bad
 | o => o
end L2.MP
end
section
namespace L2.MP
open PySem PySem.Spec PyProof.Rows
def allAlikeB (ds : List PyData) : Bool := ds.all fun a => ds.all fun b => PySem.W.alike a b
def isTupP : PyData → Bool
 | .tuple (_ :: _) => true
 | _ => false
def isOthP : PyData → Bool
 | .none => false
 | .tuple _ => false
 | _ => true
def sortableB (ds : List PyData) : Bool := ds.all isTupP || ds.all isOthP
def leP (a b : PyData) : Bool := !PySem.W.dataLt b a
section
def sortD (l : List D) : List D := l.mergeSort fun a b => leP (toPy a) (toPy b)
def sortedDF (d : D) : Option Cell := (lstOf d).bind fun l => if okDs 60 l && (allAlikeB (l.map toPy) && sortableB (l.map toPy)) then some (.lst (sortD l)) else none
def sortedDT (d : D) : Option Cell := (tupOf d).bind fun l => if okDs 60 l && (allAlikeB (l.map toPy) && sortableB (l.map toPy)) then some (.lst (sortD l)) else none
def sortedF (d : D) : Option Cell := (sortedB d).orElse fun _ => (sortedDF d).orElse fun _ => sortedDT d
end
end L2.MP
end
section
namespace L2.MP
open PySem PySem.Spec PyProof.Rows
inductive Blt where
 | len | int | str | all | any | sum | min | max | tuple | list | sorted | isinstance | bool | dict | range | enumerate | zip | set | verr
 deriving DecidableEq
def Blt.name : Blt → Str
 | .len => "len" | .int => "int" | .str => "str" | .all => "all" | .any => "any" | .sum => "sum" | .min => "min" | .max => "max" | .tuple => "tuple" | .list => "list" | .sorted => "sorted"
 | .isinstance => "isinstance" | .bool => "bool" | .dict => "dict" | .range => "range" | .enumerate => "enumerate" | .zip => "zip" | .set => "set" | .verr => "ValueError"
inductive Gd where
 | blt (b : Blt) | con (j : Nat) | fn (i : Nat) | cls (c i : Nat) | xcl (c : Nat) | tab (j : Nat)
 deriving DecidableEq
inductive Nd where
 | loc (i : Nat) | frv (i : Nat) | slo (i : Nat) | glo (g : Gd) | bgl (g : Gd)
 deriving DecidableEq
abbrev Tab := List (Nat × Str × Nd)
inductive Mn where
 | own (l : List (Nat × Nat))    -- classes, their defs
 | append | pop | extend | clear | reverse | insert | index
 | upper | lower | split | join | partition | isdigit | count | find | startswith | endswith | strip | get
def Mn.name : Mn → Str
 | .own _ => "" | .append => "append" | .pop => "pop" | .extend => "extend" | .clear => "clear" | .reverse => "reverse" | .insert => "insert" | .index => "index"
 | .upper => "upper" | .lower => "lower" | .split => "split" | .join => "join" | .partition => "partition" | .isdigit => "isdigit" | .count => "count" | .find => "find"
 | .startswith => "startswith" | .endswith => "endswith" | .strip => "strip" | .get => "get"
structure Gm where
 ar : List Nat
 con : List D
 fld : List (Nat × Str × List Nat)
 mth : List (Nat × Str × Mn)
 fuel : Nat
 xcs : Xt
 xfl : List Str
 xin : List (Nat × Str)
 tb : List (List (Str × D))
 hotD : List Nat
structure Ct where
 N : List Str
 sc : Scope
 blk : Option Scope
 tab : Tab
 own : List Nat
 hp : List Nat
 retHp : Bool
 dtt : Bool
 ahp : Bool
 hot : Bool
 wide : Bool
 top : Bool
section
def inF (neg : Bool) : D → D → Option D := fun x y => (inD x y).map fun b => .bl (neg != b)
def insAny (S : Sto) : D → Option (Nat × List (Str × D))
 | .ref n => (match S[n]? with
   | some (.ins c' fs) => some (c', fs)
   | _ => none)
 | _ => none
def lkc : List (Nat × Nat) → Nat → Option Nat
 | [], _ => none
 | (c, i) :: r, x => if c == x then some i else lkc r x
def dMeths (G : Gm) (φ : Nat → Fn) (l : List (Nat × Nat)) (m : Str) (o : M D) (args : M (List D)) : M D := M.bind o fun x => fun env S => match insAny S x with
 | some (c, fs) => (match lkc l c with
   | some i => if lookF m fs = none then (M.bind args fun ds => if (x :: ds).length = G.ar.getD i 0 then (fun env S => (φ i (x :: ds) S).out env) else M.fail) env S else .bad
   | none => .bad)
 | none => .bad
end
end L2.MP
end
section
namespace L2.MP
open PySem PySem.Spec PyProof.Rows
structure DefM where
 C : Ct
 body : List Stmt
 ps : List Str
def runD (dm : DefM) (m : M Flo) : Fn := fun ds S => if ds.length = dm.ps.length then (match m (ds.map Slot.val ++ List.replicate (dm.C.N.length - ds.length) Slot.no) S with
 | .ok .nx _ S' => .ok .non S'
 | .ok (.rt d) _ S' => .ok d S'
 | .ok _ _ _ => .bad
 | .exc x _ S' => .exc x S'
 | .bad => .bad) else .bad
end L2.MP
end
section
namespace L2.MP
open PySem PySem.Spec PyProof.Rows
def dFn (φ : Nat → Fn) (i n : Nat) (args : M (List D)) : M D := M.bind args fun ds => if ds.length = n then (fun env S => (φ i ds S).out env) else M.fail
def ge (h : Nat) (x : Str) (g : Gd) : Nat × Str × Gd := (h, x, g)
def te (h : Nat) (x : Str) (n : Nd) : Nat × Str × Nd := (h, x, n)
end L2.MP
end
section
namespace L2.MP
open PySem PySem.Spec PyProof.Rows
def lkS : List (Str × D) → Str → Option D
 | [], _ => none
 | (y, d) :: r, x => if y = x then some d else lkS r x
def tabInD (t : List (Str × D)) : D → Option D
 | .str z => some (.bl (lkS t z).isSome)
 | _ => none
def tabIxD (t : List (Str × D)) : D → Option D
 | .str z => lkS t z
 | _ => none
def augAt (j : D) : Cell → Option Int
 | .lst l => match j with
   | .int i => match atI l i with
     | some (.int n) => some n
     | _ => none
   | _ => none
 | _ => none
def augSet (j : D) (v : Int) : Cell → Option Cell
 | .lst l => match j with
   | .int i => (ixN l.length i).map fun n => .lst (l.set n (.int v))
   | _ => none
 | _ => none
def intOf : D → Option Int
 | .int i => some i
 | _ => none
def dAugIx (f : Int → Int → Int) (o i v : M D) : M Flo := M.bind o fun x => M.bind i fun j => M.bind getS fun z => M.bind (M.opt ((cellOf z.1 z.2 x).bind (augAt j))) fun n => M.bind v fun d => M.bind (M.opt (intOf d)) fun m => M.bind getS fun z => M.bind (M.opt ((cellOf z.1 z.2 x).bind (augSet j (f n m)))) fun c => M.bind (setCell x c) fun _ => M.ret .nx
end L2.MP
end
end
section
namespace L2.MP
open PySem PySem.Spec PyProof.Rows
structure Wd where
 F : Hp
 R : Nat → Option Addr
structure Wd.Le (w w' : Wd) : Prop where
 f : ∀ a o, w.F a = some o → w'.F a = some o
 r : ∀ n a, w.R n = some a → w'.R n = some a
theorem Wd.Le.refl (w : Wd) : Wd.Le w w := ⟨fun _ _ h => h, fun _ _ h => h⟩
theorem Wd.Le.trans {a b c : Wd} (h : Wd.Le a b) (g : Wd.Le b c) : Wd.Le a c := ⟨fun x o e => g.f x o (h.f x o e), fun n x e => g.r n x (h.r n x e)⟩
structure Kz where
 K : PySem.W.Frag
 cl : Nat → Addr
 fa : Nat → Addr
structure Ky extends Kz where
 xn : Option (Nat × Addr × Value × Option Addr)
instance : Coe Ky Kz := ⟨Ky.toKz⟩
mutual
def Rep (k : Kz) (w : Wd) : D → V → Prop
 | .non, v => v = .non
 | .bl b, v => v = .bl b
 | .int i, v => v = .int i
 | .str s, v => v = .str s
 | .tup ds, v => ∃ a vs, v = .ref a ∧ w.F a = some (.tup vs) ∧ Reps k w ds vs
 | .rt ds, v => ∃ a vs, v = .ref a ∧ SqT k.K w.F a vs ∧ Reps k w ds vs
 | .lst ds, v => ∃ a vs, v = .ref a ∧ w.F a = some (.lst vs) ∧ Reps k w ds vs
 | .rl ds, v => ∃ a vs, v = .ref a ∧ SqL k.K w.F a vs ∧ Reps k w ds vs
 | .dk ks ds, v => ∃ a kvs, v = .ref a ∧ w.F a = some (.dK kvs) ∧ kvs.map (·.1) = ks ∧ Reps k w ds (kvs.map (·.2))
 | .dt ks ds, v => ∃ a kvs, v = .ref a ∧ w.F a = some (.dT kvs) ∧ kvs.map (·.1) = ks ∧ Reps k w ds (kvs.map (·.2))
 | .ref n, v => ∃ a, v = .ref a ∧ w.R n = some a
 | .fn i, v => v = .ref (k.fa i)
 | .own _, _ => False
def Reps (k : Kz) (w : Wd) : List D → List V → Prop
 | [], vs => vs = []
 | d :: ds, vs => ∃ v r, vs = v :: r ∧ Rep k w d v ∧ Reps k w ds r
end
theorem sqT_mono {K : PySem.W.Frag} {F F' : Hp} {a : Addr} {vs : List V} (h : ∀ a o, F a = some o → F' a = some o) (q : SqT K F a vs) : SqT K F' a vs := by
 rcases q with (q | ⟨o, q⟩) | q
 · exact .inl (.inl (h _ _ q))
 · exact .inl (.inr ⟨o, h _ _ q⟩)
 · exact .inr q
theorem sqL_mono {K : PySem.W.Frag} {F F' : Hp} {a : Addr} {vs : List V} (h : ∀ a o, F a = some o → F' a = some o) (q : SqL K F a vs) : SqL K F' a vs := by
 rcases q with (q | ⟨o, q⟩) | q
 · exact .inl (.inl (h _ _ q))
 · exact .inl (.inr ⟨o, h _ _ q⟩)
 · exact .inr q
section
variable {k : Kz} {w w' : Wd}
mutual
theorem Rep.mono (le : Wd.Le w w') : ∀ (d : D) {v : V}, Rep k w d v → Rep k w' d v
 | .non, v, h => h
 | .bl b, v, h => h
 | .int i, v, h => h
 | .str s, v, h => h
 | .tup ds, v, h => let ⟨a, vs, e, q, r⟩ := h; ⟨a, vs, e, le.f _ _ q, Reps.mono le ds r⟩
 | .rt ds, v, h => let ⟨a, vs, e, q, r⟩ := h; ⟨a, vs, e, sqT_mono le.f q, Reps.mono le ds r⟩
 | .lst ds, v, h => let ⟨a, vs, e, q, r⟩ := h; ⟨a, vs, e, le.f _ _ q, Reps.mono le ds r⟩
 | .rl ds, v, h => let ⟨a, vs, e, q, r⟩ := h; ⟨a, vs, e, sqL_mono le.f q, Reps.mono le ds r⟩
 | .dk ks ds, v, h => let ⟨a, vs, e, q, x, r⟩ := h; ⟨a, vs, e, le.f _ _ q, x, Reps.mono le ds r⟩
 | .dt ks ds, v, h => let ⟨a, vs, e, q, x, r⟩ := h; ⟨a, vs, e, le.f _ _ q, x, Reps.mono le ds r⟩
 | .ref n, v, h => let ⟨a, e, q⟩ := h; ⟨a, e, le.r _ _ q⟩
 | .fn _, _, h => h
 | .own _, _, h => h
theorem Reps.mono (le : Wd.Le w w') : ∀ (ds : List D) {vs : List V}, Reps k w ds vs → Reps k w' ds vs
 | [], _, h => h
 | d :: ds, _, h => let ⟨v, r, e, q, x⟩ := h; ⟨v, r, e, Rep.mono le d q, Reps.mono le ds x⟩
end
theorem Reps.length : ∀ {ds : List D} {vs : List V}, Reps k w ds vs → vs.length = ds.length
 | [], _, h => by rw [show _ = _ from h]; rfl
 | d :: ds, _, h => by obtain ⟨v, r, rfl, q, x⟩ := h; simp [Reps.length x]
theorem Reps.get : ∀ {ds : List D} {vs : List V} {i : Nat} {v : V}, Reps k w ds vs → vs[i]? = some v → ∃ d, ds[i]? = some d ∧ Rep k w d v
 | [], _, _, _, h, e => by rw [show _ = _ from h] at e; simp at e
 | d :: ds, _, 0, v, h, e => by obtain ⟨v', r, rfl, q, x⟩ := h; simp at e; subst e; exact ⟨d, rfl, q⟩
 | d :: ds, _, i + 1, v, h, e => by obtain ⟨v', r, rfl, q, x⟩ := h; simp at e; obtain ⟨d', e', q'⟩ := Reps.get x e; exact ⟨d', by simpa using e', q'⟩
theorem Reps.getD : ∀ {ds : List D} {vs : List V} {i : Nat} {d : D}, Reps k w ds vs → ds[i]? = some d → ∃ v, vs[i]? = some v ∧ Rep k w d v
 | [], _, _, _, h, e => by simp at e
 | d :: ds, _, 0, _, h, e => by obtain ⟨v', r, rfl, q, x⟩ := h; simp at e; subst e; exact ⟨v', rfl, q⟩
 | d :: ds, _, i + 1, _, h, e => by obtain ⟨v', r, rfl, q, x⟩ := h; simp at e; obtain ⟨d', e', q'⟩ := Reps.getD x e; exact ⟨d', by simpa using e', q'⟩
theorem Reps.append : ∀ {ds es : List D} {vs us : List V}, Reps k w ds vs → Reps k w es us → Reps k w (ds ++ es) (vs ++ us)
 | [], _, _, _, h, g => by rw [show _ = _ from h]; exact g
 | d :: ds, _, _, _, h, g => by obtain ⟨v', r, rfl, q, x⟩ := h; exact ⟨v', _, rfl, q, Reps.append x g⟩
theorem Reps.one {d : D} {v : V} (h : Rep k w d v) : Reps k w [d] [v] := ⟨v, [], rfl, h, rfl⟩
theorem Reps.drop : ∀ {ds : List D} {vs : List V} (n : Nat), Reps k w ds vs → Reps k w (ds.drop n) (vs.drop n)
 | _, _, 0, h => by simpa using h
 | [], _, n + 1, h => by rw [show _ = _ from h]; rfl
 | d :: ds, _, n + 1, h => by obtain ⟨v', r, rfl, q, x⟩ := h; simpa using Reps.drop n x
theorem Reps.take : ∀ {ds : List D} {vs : List V} (n : Nat), Reps k w ds vs → Reps k w (ds.take n) (vs.take n)
 | _, _, 0, h => by simp [Reps]
 | [], _, n + 1, h => by rw [show _ = _ from h]; rfl
 | d :: ds, _, n + 1, h => by obtain ⟨v', r, rfl, q, x⟩ := h; exact ⟨v', _, rfl, q, Reps.take n x⟩
theorem Reps.set {d : D} {v : V} (g : Rep k w d v) : ∀ {ds : List D} {vs : List V} (n : Nat), Reps k w ds vs → Reps k w (ds.set n d) (vs.set n v)
 | [], _, n, h => by rw [show _ = _ from h]; rfl
 | e :: ds, _, 0, h => by obtain ⟨v', r, rfl, q, x⟩ := h; exact ⟨v, r, rfl, g, x⟩
 | e :: ds, _, n + 1, h => by obtain ⟨v', r, rfl, q, x⟩ := h; exact ⟨v', _, rfl, q, Reps.set g n x⟩
theorem Reps.reverse : ∀ {ds : List D} {vs : List V}, Reps k w ds vs → Reps k w ds.reverse vs.reverse
 | [], _, h => by rw [show _ = _ from h]; rfl
 | d :: ds, _, h => by
   obtain ⟨v', r, rfl, q, x⟩ := h
   rw [List.reverse_cons, List.reverse_cons]
   exact (Reps.reverse x).append (Reps.one q)
theorem Reps.eraseIdx : ∀ {ds : List D} {vs : List V} (n : Nat), Reps k w ds vs → Reps k w (ds.eraseIdx n) (vs.eraseIdx n)
 | [], _, n, h => by rw [show _ = _ from h]; rfl
 | e :: ds, _, 0, h => by obtain ⟨v', r, rfl, q, x⟩ := h; exact x
 | e :: ds, _, n + 1, h => by obtain ⟨v', r, rfl, q, x⟩ := h; exact ⟨v', _, rfl, q, Reps.eraseIdx n x⟩
theorem Reps.dropLast {ds : List D} {vs : List V} (h : Reps k w ds vs) : Reps k w ds.dropLast vs.dropLast := by
 rw [List.dropLast_eq_take, List.dropLast_eq_take, h.length]
 exact h.take _
end
def RepC (k : Kz) (w : Wd) : Cell → HO → Prop
 | .lst ds, o => ∃ vs, o = .lst vs ∧ Reps k w ds vs
 | .dk ks ds, o => ∃ kvs, o = .dK kvs ∧ kvs.map (·.1) = ks ∧ Reps k w ds (kvs.map (·.2))
 | .dt ks ds, o => ∃ kvs, o = .dT kvs ∧ kvs.map (·.1) = ks ∧ Reps k w ds (kvs.map (·.2))
 | .ins c fd, o => ∃ dx fs, o = .ins (k.cl c) dx fs ∧ fs.map (·.1) = fd.map (·.1) ∧ Reps k w (fd.map (·.2)) (fs.map (·.2))
theorem RepC.mono {k : Kz} {w w' : Wd} (le : Wd.Le w w') : ∀ {c : Cell} {o : HO}, RepC k w c o → RepC k w' c o
 | .lst ds, _, h => let ⟨vs, e, r⟩ := h; ⟨vs, e, r.mono le⟩
 | .dk ks ds, _, h => let ⟨vs, e, x, r⟩ := h; ⟨vs, e, x, r.mono le⟩
 | .dt ks ds, _, h => let ⟨vs, e, x, r⟩ := h; ⟨vs, e, x, r.mono le⟩
 | .ins c fd, _, h => let ⟨dx, fs, e, x, r⟩ := h; ⟨dx, fs, e, x, r.mono le⟩
structure RS (k : Kz) (P : Hp) (w : Wd) (S : Sto) (H : Hp) : Prop where
 frz : ∀ a o, w.F a = some o → H a = some o
 live : ∀ n c, S[n]? = some c → ∃ a o, w.R n = some a ∧ H a = some o ∧ w.F a = none ∧ RepC k w c o
 bound : ∀ n a, w.R n = some a → n < S.length
 inj : ∀ n m a, w.R n = some a → w.R m = some a → n = m
 prot : ∀ a o, P a = some o → H a = some o ∧ w.F a = none ∧ ∀ n, w.R n ≠ some a
structure Loose (P : Hp) (w : Wd) (env : Envr) (σ : St) (a : Addr) : Prop where
 f : w.F a = none
 r : ∀ n, w.R n ≠ some a
 p : P a = none
 o : ∀ (i : Nat) c, env[i]? = some (.own c) → σ[i]? ≠ some (some (.ref a))
def RepX (k : Kz) (w : Wd) (x : Exn) (cls : Value) (dx : Option Addr) : Prop :=
 cls = .ref (k.cl x.cls) ∧ ((x.fs = [] ∧ dx = none) ∨ (x.fs ≠ [] ∧ ∃ d fs, dx = some d ∧ w.F d = some (.xd fs) ∧ fs.map (·.1) = x.fs.map (·.1) ∧ Reps k w (x.fs.map (·.2)) (fs.map (·.2))))
theorem RepX.mono {k : Kz} {w w' : Wd} (le : Wd.Le w w') {x : Exn} {cls : Value} {dx : Option Addr} (h : RepX k w x cls dx) : RepX k w' x cls dx :=
 ⟨h.1, h.2.imp id fun ⟨n, d, fs, e, q, z, r⟩ => ⟨n, d, fs, e, le.f _ _ q, z, r.mono le⟩⟩
structure RB (k : Ky) (P : Hp) (w : Wd) (env : Envr) (S : Sto) (σ : St) (H : Hp) : Prop where
 rs : RS k P w S H
 len : σ.length = env.length
 val : ∀ (i : Nat) d, env[i]? = some (.val d) → ∃ v, σ[i]? = some (some v) ∧ Rep k w d v
 own : ∀ (i : Nat) c, env[i]? = some (.own c) → ∃ a o, σ[i]? = some (some (.ref a)) ∧ H a = some o ∧ RepC k w c o ∧ w.F a = none ∧ (∀ n, w.R n ≠ some a) ∧ P a = none
 sep : ∀ (i j : Nat) c c' a, env[i]? = some (.own c) → env[j]? = some (.own c') → σ[i]? = some (some (.ref a)) → σ[j]? = some (some (.ref a)) → i = j
 exn : ∀ (i : Nat) x, env[i]? = some (.exn x) → ∃ a cls dx, k.xn = some (i, a, cls, dx) ∧ σ[i]? = some (some (.ref a)) ∧ RepX k w x cls dx
section
variable {k : Ky} {P : Hp} {w w' : Wd} {env : Envr} {S : Sto} {σ : St} {H : Hp} {a p : Addr} {o : HO}
theorem RS.lt (h : RS k P w S H) {n : Nat} {a : Addr} (e : w.R n = some a) : ∃ c o, S[n]? = some c ∧ H a = some o ∧ w.F a = none ∧ RepC k w c o := by
 have hn := h.bound n a e
 obtain ⟨a', o, e1, e2, e3, e4⟩ := h.live n S[n] (by simp [hn])
 rw [e] at e1; cases e1
 exact ⟨_, o, by simp [hn], e2, e3, e4⟩
theorem RS.freshR (h : RS k P w S H) (n : H p = none) : ∀ m, w.R m ≠ some p := fun m e => by
 obtain ⟨c, o, _, e2, _⟩ := h.lt e
 rw [n] at e2; cases e2
theorem RS.freshF (h : RS k P w S H) (n : H p = none) : w.F p = none := by
 cases e : w.F p with
 | none => rfl
 | some o => have := h.frz p o e; rw [n] at this; cases this
theorem RS.freshP (h : RS k P w S H) (n : H p = none) : P p = none := by
 cases e : P p with
 | none => rfl
 | some o => have := (h.prot p o e).1; rw [n] at this; cases this
theorem RB.fresh (h : RB k P w env S σ H) (n : H p = none) : Loose P w env σ p :=
 ⟨h.rs.freshF n, h.rs.freshR n, h.rs.freshP n, fun i c e1 e2 => by
   obtain ⟨a, o, e3, e4, _⟩ := h.own i c e1
   rw [e2] at e3; cases e3
   rw [n] at e4; cases e4⟩
def Wd.fz (w : Wd) (p : Addr) (o : HO) : Wd := ⟨upd w.F p o, w.R⟩
theorem Wd.fz_le (n : w.F p = none) : Wd.Le w (w.fz p o) := ⟨fun a u e => by
 show upd w.F p o a = some u
 rw [upd_ne (ne_of_none e n)]; exact e, fun _ _ e => e⟩
theorem Wd.fz_at : (w.fz p o).F p = some o := upd_same
theorem RS.freeze (h : RS k P w S H) (e : H p = some o) (f : w.F p = none) (r : ∀ n, w.R n ≠ some p) (q : P p = none) : RS k P (w.fz p o) S H where
 frz := fun a u e' => by
   by_cases ha : a = p
   · subst ha; rw [Wd.fz_at] at e'; cases e'; exact e
   · rw [show (w.fz p o).F a = w.F a from upd_ne ha] at e'; exact h.frz a u e'
 live := fun n c e' => by
   obtain ⟨a, u, e1, e2, e3, e4⟩ := h.live n c e'
   have ha : a ≠ p := fun z => r n (z ▸ e1)
   exact ⟨a, u, e1, e2, (upd_ne ha).trans e3, e4.mono (Wd.fz_le f)⟩
 bound := h.bound
 inj := h.inj
 prot := fun a u e' => by
   obtain ⟨e1, e2, e3⟩ := h.prot a u e'
   have ha : a ≠ p := fun z => by rw [z, q] at e'; cases e'
   exact ⟨e1, (upd_ne ha).trans e2, e3⟩
theorem RB.freeze (h : RB k P w env S σ H) (e : H p = some o) (L : Loose P w env σ p) : RB k P (w.fz p o) env S σ H where
 rs := h.rs.freeze e L.f L.r L.p
 len := h.len
 val := fun i d e' => let ⟨v, e1, r⟩ := h.val i d e'; ⟨v, e1, r.mono (Wd.fz_le L.f)⟩
 own := fun i c e' => by
   obtain ⟨a, u, e1, e2, e3, e4, e5, e6⟩ := h.own i c e'
   have ha : a ≠ p := fun z => L.o i c e' (z ▸ e1)
   exact ⟨a, u, e1, e2, e3.mono (Wd.fz_le L.f), (upd_ne ha).trans e4, e5, e6⟩
 sep := h.sep
 exn := fun i x e' => let ⟨a, cls, dx, e1, e2, r⟩ := h.exn i x e'; ⟨a, cls, dx, e1, e2, r.mono (Wd.fz_le L.f)⟩
theorem RS.at (h : RS k P w S H) {H' : Hp} (ke : ∀ a o, H a = some o → H' a = some o) : RS k P w S H' where
 frz := fun a u e => ke a u (h.frz a u e)
 live := fun n c e => let ⟨a, u, e1, e2, e3, e4⟩ := h.live n c e; ⟨a, u, e1, ke _ _ e2, e3, e4⟩
 bound := h.bound
 inj := h.inj
 prot := fun a u e => let ⟨e1, e2, e3⟩ := h.prot a u e; ⟨ke _ _ e1, e2, e3⟩
theorem RB.at (h : RB k P w env S σ H) {H' : Hp} (ke : ∀ a o, H a = some o → H' a = some o) : RB k P w env S σ H' :=
 ⟨h.rs.at ke, h.len, h.val, fun i c e => let ⟨a, u, e1, e2, e3⟩ := h.own i c e; ⟨a, u, e1, ke _ _ e2, e3⟩, h.sep, h.exn⟩
theorem keep_new (n : H p = none) : ∀ a u, H a = some u → upd H p o a = some u := fun a u e => (upd_ne (ne_of_none e n)).trans e
theorem RB.grow (h : RB k P w env S σ H) (n : H p = none) : RB k P (w.fz p o) env S σ (upd H p o) :=
 (h.at (keep_new n)).freeze upd_same (h.fresh n)
theorem RB.le_grow (h : RB k P w env S σ H) (n : H p = none) : Wd.Le w (w.fz p o) := Wd.fz_le (h.rs.freshF n)
theorem get_set {α : Type} {l : List α} {i j : Nat} {x y : α} (e : (l.set i x)[j]? = some y) : (j = i ∧ y = x ∧ i < l.length) ∨ (j ≠ i ∧ l[j]? = some y) := by
 by_cases h : j = i
 · subst h
   by_cases hl : j < l.length
   · rw [List.getElem?_set_self hl] at e
     exact .inl ⟨rfl, (Option.some.inj e).symm, hl⟩
   · rw [List.getElem?_eq_none (by simpa using hl)] at e; cases e
 · rw [List.getElem?_set_ne (Ne.symm h)] at e
   exact .inr ⟨h, e⟩
theorem RB.setVal (h : RB k P w env S σ H) {i : Nat} {d : D} {v : V} (r : Rep k w d v) : RB k P w (env.set i (.val d)) S (σ.set i (some v)) H where
 rs := h.rs
 len := by simpa using h.len
 val := fun j d' e => by
   rcases get_set e with ⟨rfl, e2, hl⟩ | ⟨hj, e⟩
   · cases e2; exact ⟨v, List.getElem?_set_self (by rw [h.len]; exact hl), r⟩
   · obtain ⟨v', e1, r'⟩ := h.val j d' e
     exact ⟨v', by rw [List.getElem?_set_ne (Ne.symm hj)]; exact e1, r'⟩
 own := fun j c e => by
   rcases get_set e with ⟨rfl, e2, hl⟩ | ⟨hj, e⟩
   · cases e2
   · obtain ⟨a, o, e1, e2⟩ := h.own j c e
     exact ⟨a, o, by rw [List.getElem?_set_ne (Ne.symm hj)]; exact e1, e2⟩
 sep := fun i' j c c' a e1 e2 e3 e4 => by
   rcases get_set e1 with ⟨rfl, z, hl⟩ | ⟨hi, e1⟩
   · cases z
   · rcases get_set e2 with ⟨rfl, z, hl⟩ | ⟨hj, e2⟩
     · cases z
     · rw [List.getElem?_set_ne (Ne.symm hi)] at e3
       rw [List.getElem?_set_ne (Ne.symm hj)] at e4
       exact h.sep i' j c c' a e1 e2 e3 e4
 exn := fun j x e => by
   rcases get_set e with ⟨rfl, e2, hl⟩ | ⟨hj, e⟩
   · cases e2
   · obtain ⟨a, cls, dx, e1, e2, r⟩ := h.exn j x e
     exact ⟨a, cls, dx, e1, by rw [List.getElem?_set_ne (Ne.symm hj)]; exact e2, r⟩
theorem RB.setOwn (h : RB k P w env S σ H) {i : Nat} {c : Cell} (e : H a = some o) (r : RepC k w c o) (L : Loose P w env σ a) : RB k P w (env.set i (.own c)) S (σ.set i (some (.ref a))) H where
 rs := h.rs
 len := by simpa using h.len
 val := fun j d' e => by
   rcases get_set e with ⟨rfl, e2, hl⟩ | ⟨hj, e⟩
   · cases e2
   · obtain ⟨v', e1, r'⟩ := h.val j d' e
     exact ⟨v', by rw [List.getElem?_set_ne (Ne.symm hj)]; exact e1, r'⟩
 own := fun j c' e' => by
   rcases get_set e' with ⟨rfl, e2, hl⟩ | ⟨hj, e'⟩
   · cases e2; exact ⟨a, o, List.getElem?_set_self (by rw [h.len]; exact hl), e, r, L.f, L.r, L.p⟩
   · obtain ⟨a', o', e1, e2⟩ := h.own j c' e'
     exact ⟨a', o', by rw [List.getElem?_set_ne (Ne.symm hj)]; exact e1, e2⟩
 sep := fun i' j c1 c2 b e1 e2 e3 e4 => by
   rcases get_set e1 with ⟨rfl, z, hl⟩ | ⟨hi, e1⟩
   · rcases get_set e2 with ⟨rfl, z, hl⟩ | ⟨hj, e2⟩
     · rfl
     · rw [List.getElem?_set_self (by rw [h.len]; exact hl)] at e3
       cases e3
       rw [List.getElem?_set_ne (Ne.symm hj)] at e4
       exact absurd e4 (L.o j c2 e2)
   · rename_i e1'
     rw [List.getElem?_set_ne (Ne.symm hi)] at e3
     rcases get_set e2 with ⟨rfl, z, hl⟩ | ⟨hj, e2⟩
     · rw [List.getElem?_set_self (by rw [h.len]; exact hl)] at e4
       cases e4
       exact absurd e3 (L.o i' c1 (by first | exact e1' | assumption))
     · rw [List.getElem?_set_ne (Ne.symm hj)] at e4
       exact h.sep i' j c1 c2 b e1 e2 e3 e4
 exn := fun j x e => by
   rcases get_set e with ⟨rfl, e2, hl⟩ | ⟨hj, e⟩
   · cases e2
   · obtain ⟨a, cls, dx, e1, e2, r⟩ := h.exn j x e
     exact ⟨a, cls, dx, e1, by rw [List.getElem?_set_ne (Ne.symm hj)]; exact e2, r⟩
theorem RB.setNo (h : RB k P w env S σ H) (i : Nat) : RB k P w (env.set i .no) S σ H where
 rs := h.rs
 len := by simpa using h.len
 val := fun j d' e => by
   rcases get_set e with ⟨rfl, e2, hl⟩ | ⟨hj, e⟩
   · cases e2
   · exact h.val j d' e
 own := fun j c e => by
   rcases get_set e with ⟨rfl, e2, hl⟩ | ⟨hj, e⟩
   · cases e2
   · exact h.own j c e
 sep := fun i' j c c' a e1 e2 e3 e4 => by
   rcases get_set e1 with ⟨rfl, z, hl⟩ | ⟨hi, e1⟩
   · cases z
   · rcases get_set e2 with ⟨rfl, z, hl⟩ | ⟨hj, e2⟩
     · cases z
     · exact h.sep i' j c c' a e1 e2 e3 e4
 exn := fun j x e => by
   rcases get_set e with ⟨rfl, e2, hl⟩ | ⟨hj, e⟩
   · cases e2
   · exact h.exn j x e
theorem RB.less (h : RB k P w env S σ H) {σ' : St} (hl : σ'.length = σ.length) (hs : ∀ (i : Nat) v, σ[i]? = some (some v) → (env[i]? ≠ some .no) → σ'[i]? = some (some v)) : RB k P w env S σ' H where
 rs := h.rs
 len := hl.trans h.len
 val := fun i d e => let ⟨v, e1, r⟩ := h.val i d e; ⟨v, hs i v e1 (by rw [e]; intro z; cases z), r⟩
 own := fun i c e => let ⟨a, o, e1, r⟩ := h.own i c e; ⟨a, o, hs i _ e1 (by rw [e]; intro z; cases z), r⟩
 sep := fun i j c c' a e1 e2 e3 e4 => by
   obtain ⟨a1, o1, x1, _⟩ := h.own i c e1
   obtain ⟨a2, o2, x2, _⟩ := h.own j c' e2
   have y1 := hs i _ x1 (by rw [e1]; intro z; cases z)
   have y2 := hs j _ x2 (by rw [e2]; intro z; cases z)
   rw [y1] at e3; cases e3
   rw [y2] at e4; cases e4
   exact h.sep i j c c' a e1 e2 x1 x2
 exn := fun i x e => let ⟨a, cls, dx, e1, e2, r⟩ := h.exn i x e; ⟨a, cls, dx, e1, hs i _ e2 (by rw [e]; intro z; cases z), r⟩
theorem RB.freezeOwn (h : RB k P w env S σ H) {i : Nat} {c : Cell} (e1 : env[i]? = some (.own c)) (e2 : σ[i]? = some (some (.ref a))) (e3 : H a = some o) : RB k P (w.fz a o) (env.set i .no) S σ H ∧ w.F a = none ∧ Wd.Le w (w.fz a o) := by
 obtain ⟨b, u, x1, x2, x3, x4, x5, x6⟩ := h.own i c e1
 rw [e2] at x1; cases x1
 refine ⟨(h.setNo i).freeze e3 ⟨x4, x5, x6, fun j c' y1 y2 => ?_⟩, x4, Wd.fz_le x4⟩
 rcases get_set y1 with ⟨rfl, z, _⟩ | ⟨hj, y1⟩
 · cases z
 · exact hj (h.sep j i c' c a y1 e1 y2 e2)
theorem RB.updOwn (h : RB k P w env S σ H) {i : Nat} {c c' : Cell} {o' : HO} (e1 : env[i]? = some (.own c)) (e2 : σ[i]? = some (some (.ref a))) (r : RepC k w c' o') : RB k P w (env.set i (.own c')) S σ (upd H a o') := by
 obtain ⟨b, u, x1, x2, x3, x4, x5, x6⟩ := h.own i c e1
 rw [e2] at x1; cases x1
 have hi : i < env.length := (List.getElem?_eq_some_iff.mp e1).1
 refine ⟨⟨fun b v e => ?_, fun n c1 e => ?_, h.rs.bound, h.rs.inj, fun b v e => ?_⟩, by simpa using h.len, fun j d e => ?_, fun j c1 e => ?_, fun i1 j1 c1 c2 b y1 y2 y3 y4 => ?_, fun j x e => ?_⟩
 · exact (upd_ne (ne_of_none e x4)).trans (h.rs.frz b v e)
 · obtain ⟨b, v, z1, z2, z3, z4⟩ := h.rs.live n c1 e
   exact ⟨b, v, z1, (upd_ne (fun q => x5 n (by rw [← q]; exact z1))).trans z2, z3, z4⟩
 · obtain ⟨z1, z2, z3⟩ := h.rs.prot b v e
   exact ⟨(upd_ne (ne_of_none e x6)).trans z1, z2, z3⟩
 · rcases get_set e with ⟨rfl, z, _⟩ | ⟨hj, e⟩
   · cases z
   · exact h.val j d e
 · rcases get_set e with ⟨rfl, z, _⟩ | ⟨hj, e⟩
   · cases z; exact ⟨a, o', e2, upd_same, r, x4, x5, x6⟩
   · obtain ⟨b, v, z1, z2, z3⟩ := h.own j c1 e
     refine ⟨b, v, z1, (upd_ne ?_).trans z2, z3⟩
     rintro rfl
     exact hj (h.sep j i c1 c b e e1 z1 e2)
 · have look : ∀ {j : Nat} {c1 : Cell}, (env.set i (.own c'))[j]? = some (.own c1) → ∃ c2, env[j]? = some (.own c2) := fun {j c1} e => by
     rcases get_set e with ⟨rfl, z, _⟩ | ⟨hj, e⟩
     · exact ⟨c, e1⟩
     · exact ⟨c1, e⟩
   obtain ⟨d1, q1⟩ := look y1
   obtain ⟨d2, q2⟩ := look y2
   exact h.sep i1 j1 d1 d2 b q1 q2 y3 y4
 · rcases get_set e with ⟨rfl, z, _⟩ | ⟨hj, e⟩
   · cases z
   · exact h.exn j x e
theorem RS.updS (h : RS k P w S H) {n : Nat} {c : Cell} (e : w.R n = some a) (r : RepC k w c o) : RS k P w (S.set n c) (upd H a o) where
 frz := fun b v e' => by
   obtain ⟨_, _, _, _, z, _⟩ := h.lt e
   exact (upd_ne (ne_of_none e' z)).trans (h.frz b v e')
 live := fun m c1 e' => by
   rcases get_set e' with ⟨rfl, z, _⟩ | ⟨hm, e'⟩
   · obtain ⟨_, _, _, _, q, _⟩ := h.lt e
     cases z; exact ⟨a, o, e, upd_same, q, r⟩
   · obtain ⟨b, v, z1, z2, z3, z4⟩ := h.live m c1 e'
     exact ⟨b, v, z1, (upd_ne fun q => hm (h.inj m n a (by rw [← q]; exact z1) e)).trans z2, z3, z4⟩
 bound := fun m b e' => by simpa using h.bound m b e'
 inj := h.inj
 prot := fun b v e' => by
   obtain ⟨z1, z2, z3⟩ := h.prot b v e'
   exact ⟨(upd_ne fun q => z3 n (by rw [q]; exact e)).trans z1, z2, z3⟩
theorem RB.updS (h : RB k P w env S σ H) {n : Nat} {c : Cell} (e : w.R n = some a) (r : RepC k w c o) : RB k P w env (S.set n c) σ (upd H a o) :=
 ⟨h.rs.updS e r, h.len, h.val, fun i c1 e1 => by
   obtain ⟨b, v, z1, z2, z3, z4, z5, z6⟩ := h.own i c1 e1
   exact ⟨b, v, z1, (upd_ne fun q => z5 n (by rw [q]; exact e)).trans z2, z3, z4, z5, z6⟩, h.sep, h.exn⟩
def Wd.al (w : Wd) (n : Nat) (a : Addr) : Wd := ⟨w.F, fun m => if m = n then some a else w.R m⟩
theorem RS.al_le (h : RS k P w S H) : Wd.Le w (w.al S.length a) := ⟨fun _ _ e => e, fun n b e => by
 have := h.bound n b e
 show (if n = S.length then some a else w.R n) = some b
 rw [if_neg (by omega)]; exact e⟩
theorem Wd.al_at {n : Nat} : (w.al n a).R n = some a := if_pos rfl
theorem Wd.al_of {n m : Nat} {b : Addr} (e : (w.al n a).R m = some b) : (m = n ∧ b = a) ∨ (m ≠ n ∧ w.R m = some b) := by
 by_cases hm : m = n
 · subst hm; rw [Wd.al_at] at e; exact .inl ⟨rfl, (Option.some.inj e).symm⟩
 · exact .inr ⟨hm, (if_neg hm).symm.trans e⟩
theorem RS.alloc (h : RS k P w S H) {c : Cell} (e : H a = some o) (r : RepC k w c o) (f : w.F a = none) (nr : ∀ n, w.R n ≠ some a) (np : P a = none) : RS k P (w.al S.length a) (S ++ [c]) H where
 frz := h.frz
 live := fun n c1 e' => by
   by_cases hn : n < S.length
   · rw [List.getElem?_append_left hn] at e'
     obtain ⟨b, v, z1, z2, z3, z4⟩ := h.live n c1 e'
     exact ⟨b, v, h.al_le.r n b z1, z2, z3, z4.mono h.al_le⟩
   · rw [List.getElem?_append_right (by omega)] at e'
     have hn' : n = S.length := by
       have := (List.getElem?_eq_some_iff.mp e').1
       simp at this; omega
     subst hn'
     simp at e'; subst e'
     exact ⟨a, o, Wd.al_at, e, f, r.mono h.al_le⟩
 bound := fun n b e' => by
   rcases Wd.al_of e' with ⟨rfl, _⟩ | ⟨_, e'⟩
   · simp
   · have := h.bound n b e'
     simp; omega
 inj := fun n m b e1 e2 => by
   rcases Wd.al_of e1 with ⟨x1, y1⟩ | ⟨h1, e1⟩
   · rcases Wd.al_of e2 with ⟨x2, _⟩ | ⟨_, e2⟩
     · exact x1.trans x2.symm
     · exact absurd (by rw [← y1]; exact e2) (nr m)
   · rcases Wd.al_of e2 with ⟨x2, y2⟩ | ⟨_, e2⟩
     · exact absurd (by rw [← y2]; exact e1) (nr n)
     · exact h.inj n m b e1 e2
 prot := fun b v e' => by
   obtain ⟨z1, z2, z3⟩ := h.prot b v e'
   refine ⟨z1, z2, fun n q => ?_⟩
   rcases Wd.al_of q with ⟨_, rfl⟩ | ⟨_, q⟩
   · rw [np] at e'; cases e'
   · exact z3 n q
theorem RB.alloc (h : RB k P w env S σ H) {c : Cell} (e : H a = some o) (r : RepC k w c o) (L : Loose P w env σ a) : RB k P (w.al S.length a) env (S ++ [c]) σ H :=
 ⟨h.rs.alloc e r L.f L.r L.p, h.len, fun i d e1 => let ⟨v, z, q⟩ := h.val i d e1; ⟨v, z, q.mono h.rs.al_le⟩, fun i c1 e1 => by
   obtain ⟨b, v, z1, z2, z3, z4, z5, z6⟩ := h.own i c1 e1
   refine ⟨b, v, z1, z2, z3.mono h.rs.al_le, z4, fun n q => ?_, z6⟩
   rcases Wd.al_of q with ⟨_, rfl⟩ | ⟨_, q⟩
   · exact L.o i c1 e1 z1
   · exact z5 n q, h.sep, fun i x e1 => let ⟨a, cls, dx, y1, y2, r⟩ := h.exn i x e1; ⟨a, cls, dx, y1, y2, r.mono h.rs.al_le⟩⟩
theorem RB.protect (h : RB k P w env S σ H) (e : H a = some o) (L : Loose P w env σ a) : RB k (upd P a o) w env S σ H :=
 ⟨⟨h.rs.frz, h.rs.live, h.rs.bound, h.rs.inj, fun b v q => by
   by_cases hb : b = a
   · subst hb; rw [upd_same] at q; cases q; exact ⟨e, L.f, L.r⟩
   · rw [upd_ne hb] at q; exact h.rs.prot b v q⟩, h.len, h.val, fun i c e1 => by
   obtain ⟨b, v, z1, z2, z3, z4, z5, z6⟩ := h.own i c e1
   exact ⟨b, v, z1, z2, z3, z4, z5, (upd_ne fun q => L.o i c e1 (by rw [← q]; exact z1)).trans z6⟩, h.sep, h.exn⟩
theorem RB.unprotect (h : RB k (upd P a o) w env S σ H) (n : P a = none) : RB k P w env S σ H ∧ H a = some o ∧ Loose P w env σ a := by
 obtain ⟨x1, x2, x3⟩ := h.rs.prot a o upd_same
 refine ⟨⟨⟨h.rs.frz, h.rs.live, h.rs.bound, h.rs.inj, fun b v q => h.rs.prot b v ((upd_ne (ne_of_none q n)).trans q)⟩, h.len, h.val, fun i c e1 => ?_, h.sep, h.exn⟩, x1, ⟨x2, x3, n, fun i c e1 e2 => ?_⟩⟩
 · obtain ⟨b, v, z1, z2, z3, z4, z5, z6⟩ := h.own i c e1
   refine ⟨b, v, z1, z2, z3, z4, z5, ?_⟩
   by_cases hb : b = a
   · subst hb; exact n
   · rw [upd_ne hb] at z6; exact z6
 · obtain ⟨b, v, z1, z2, z3, z4, z5, z6⟩ := h.own i c e1
   rw [e2] at z1; cases z1
   rw [upd_same] at z6; cases z6
open Classical in
noncomputable def callP (P : Hp) (env : Envr) (σ : St) (H : Hp) : Hp := fun a => if ∃ (i : Nat) (c : Cell), env[i]? = some (.own c) ∧ σ[i]? = some (some (.ref a)) then H a else P a
theorem RB.toCall (h : RB k P w env S σ H) : RS k (callP P env σ H) w S H :=
 ⟨h.rs.frz, h.rs.live, h.rs.bound, h.rs.inj, fun a o e => by
   unfold callP at e
   split at e
   · rename_i q
     obtain ⟨i, c, e1, e2⟩ := q
     obtain ⟨b, v, z1, z2, z3, z4, z5, z6⟩ := h.own i c e1
     rw [e2] at z1; cases z1
     exact ⟨e, z4, z5⟩
   · exact h.rs.prot a o e⟩
theorem RB.ofCall (h : RB k P w env S σ H) {S' : Sto} {H' : Hp} (g : RS k (callP P env σ H) w' S' H') (le : Wd.Le w w') : RB k P w' env S' σ H' := by
 have own : ∀ (i : Nat) c, env[i]? = some (.own c) → ∃ a o, σ[i]? = some (some (.ref a)) ∧ H' a = some o ∧ RepC k w' c o ∧ w'.F a = none ∧ (∀ n, w'.R n ≠ some a) ∧ P a = none := fun i c e1 => by
   obtain ⟨b, v, z1, z2, z3, z4, z5, z6⟩ := h.own i c e1
   have q : callP P env σ H b = some v := (if_pos ⟨i, c, e1, z1⟩).trans z2
   obtain ⟨y1, y2, y3⟩ := g.prot b v q
   exact ⟨b, v, z1, y1, z3.mono le, y2, y3, z6⟩
 refine ⟨⟨g.frz, g.live, g.bound, g.inj, fun a o e => ?_⟩, h.len, fun i d e => let ⟨v, z, q⟩ := h.val i d e; ⟨v, z, q.mono le⟩, own, h.sep, fun i x e => let ⟨a, cls, dx, y1, y2, r⟩ := h.exn i x e; ⟨a, cls, dx, y1, y2, r.mono le⟩⟩
 have q : callP P env σ H a = some o := by
   unfold callP
   split
   · exact (h.rs.prot a o e).1
   · exact e
 exact g.prot a o q
end
end L2.MP
end
section
namespace L2.MP
open PySem PySem.Spec PyProof.Rows
instance : Monad M where
 pure := M.ret
 bind := M.bind
def Aft (k : Ky) (W : WX) (P : Hp) (w : Wd) {α : Type} (o : Out α) (R : α → Wd → Envr → Sto → Prop) : Prop :=
 match o with
 | .ok a env S => ∀ w', Wd.Le w w' → R a w' env S
 | .exc x env S => ∀ w' σ H cls dx, Wd.Le w w' → RB k P w' env S σ H → RepX k w' x cls dx → W cls dx σ H
 | .bad => False
section
variable {k : Ky} {W : WX} {P : Hp} {w w' : Wd} {α β : Type} {o : Out α} {R R' : α → Wd → Envr → Sto → Prop} {env : Envr} {S : Sto}
theorem Aft.up (h : Aft k W P w o R) (le : Wd.Le w w') : Aft k W P w' o R := by
 cases o with
 | ok a env S => exact fun w1 l1 => h w1 (le.trans l1)
 | exc x env S => exact fun w1 σ H cls dx l1 => h w1 σ H cls dx (le.trans l1)
 | bad => exact h
theorem Aft.imp (h : Aft k W P w o R) (hr : ∀ a w1 env S, Wd.Le w w1 → R a w1 env S → R' a w1 env S) : Aft k W P w o R' := by
 cases o with
 | ok a env S => exact fun w1 l1 => hr _ _ _ _ l1 (h w1 l1)
 | exc x env S => exact h
 | bad => exact h
theorem Aft.bind {m : M α} {f : α → M β} {R : β → Wd → Envr → Sto → Prop} (h : Aft k W P w (M.bind m f env S) R) : Aft k W P w (m env S) (fun a w1 env1 S1 => Aft k W P w1 (f a env1 S1) R) := by
 unfold M.bind at h
 cases e : m env S with
 | ok a env S => rw [e] at h; exact fun w1 l1 => h.up l1
 | exc x env S => rw [e] at h; exact h
 | bad => rw [e] at h; exact h
theorem Aft.ok {a : α} (h : Aft k W P w (.ok a env S) R) : R a w env S := h w (Wd.Le.refl w)
theorem Aft.ret {a : α} (h : Aft k W P w (M.ret a env S) R) : R a w env S := h w (Wd.Le.refl w)
theorem Aft.opt {a : Option α} (h : Aft k W P w (M.opt a env S) R) : ∃ b, a = some b ∧ Aft k W P w (M.ret b env S) R := by
 cases a with
 | none => exact h.elim
 | some b => exact ⟨b, rfl, h⟩
end
def RepO (k : Ky) (w : Wd) (σ : L2.St) : D → V → Prop
 | .own i, v => σ[i]? = some (some v)
 | d, v => Rep k w d v
theorem RepO.of {k : Ky} {w : Wd} {σ : L2.St} {d : D} {v : V} (h : Rep k w d v) : RepO k w σ d v := by
 cases d with
 | own i => exact False.elim h
 | _ => exact h
theorem RepO.up {k : Ky} {w w' : Wd} {σ : L2.St} {d : D} {v : V} (le : Wd.Le w w') (h : RepO k w σ d v) : RepO k w' σ d v := by
 cases d with
 | own i => exact h
 | _ => exact Rep.mono le _ h
def rE (k : Ky) (P : Hp) (σ : L2.St) (Q : VK) : D → Wd → Envr → Sto → Prop := fun d w env S => ∀ v H, RB k P w env S σ H → Rep k w d v → Q v H
def rO (k : Ky) (P : Hp) (σ : L2.St) (Q : VK) : D → Wd → Envr → Sto → Prop := fun d w env S => ∀ v H, RB k P w env S σ H → RepO k w σ d v → Q v H
def rF (k : Ky) (P : Hp) (σ : L2.St) (Q : VK) : Cell → Wd → Envr → Sto → Prop := fun c w env S => ∀ a o H, RB k P w env S σ H → H a = some o → RepC k w c o → Loose P w env σ a → Q (.ref a) H
def rT (k : Ky) (P : Hp) (σ : L2.St) (Q : Bool → Hp → Prop) : Bool → Wd → Envr → Sto → Prop := fun b w env S => ∀ H, RB k P w env S σ H → Q b H
def rA (k : Ky) (P : Hp) (σ : L2.St) (Q : List V → Hp → Prop) : List D → Wd → Envr → Sto → Prop := fun ds w env S => ∀ vs H, RB k P w env S σ H → Reps k w ds vs → Q vs H
def rS (k : Ky) (P : Hp) (Dn : Ends) : Flo → Wd → Envr → Sto → Prop
 | .nx, w, env, S => ∀ σ H, RB k P w env S σ H → Dn.nx σ H
 | .rt d, w, env, S => ∀ v σ H, RB k P w env S σ H → Rep k w d v → Dn.rt v H
 | .bk, w, env, S => ∀ σ H, RB k P w env S σ H → Dn.bk σ H
 | .ct, w, env, S => ∀ σ H, RB k P w env S σ H → Dn.ct σ H
def tE (k : Ky) (W : WX) (m : M D) : TE := fun σ H Q => ∃ P w env S, RB k P w env S σ H ∧ Aft k W P w (m env S) (rE k P σ Q)
def tO (k : Ky) (W : WX) (m : M D) : TE := fun σ H Q => ∃ P w env S, RB k P w env S σ H ∧ Aft k W P w (m env S) (rO k P σ Q)
def tF (k : Ky) (W : WX) (m : M Cell) : TE := fun σ H Q => ∃ P w env S, RB k P w env S σ H ∧ Aft k W P w (m env S) (rF k P σ Q)
def tTt (k : Ky) (W : WX) (m : M Bool) : TT := fun σ H Q => ∃ P w env S, RB k P w env S σ H ∧ Aft k W P w (m env S) (rT k P σ Q)
def tAs (k : Ky) (W : WX) (m : M (List D)) : TA := fun σ H Q => ∃ P w env S, RB k P w env S σ H ∧ Aft k W P w (m env S) (rA k P σ Q)
def tS (k : Ky) (W : WX) (m : M Flo) : TS := fun Dn σ H => ∃ P w env S, RB k P w env S σ H ∧ Aft k W P w (m env S) (rS k P Dn)
theorem PE.sub {X : Cx} {e : Expr} {t t' : TE} (h : PE X e t) (hs : ∀ σ H Q, t' σ H Q → t σ H Q) : PE X e t' := ⟨fun pins s σ H Q I q => h.run pins s σ H Q I (hs σ H Q q)⟩
theorem PT.sub {X : Cx} {e : Expr} {t t' : TT} (h : PT X e t) (hs : ∀ σ H Q, t' σ H Q → t σ H Q) : PT X e t' := ⟨fun pins s σ H Q I q => h.run pins s σ H Q I (hs σ H Q q)⟩
theorem PW.sub {X : Cx} {e : Expr} {t t' : TT} (h : PW X e t) (hs : ∀ σ H Q, t' σ H Q → t σ H Q) : PW X e t' := ⟨fun wh pins s σ H Q I q => h.run wh pins s σ H Q I (hs σ H Q q)⟩
theorem PA.sub {X : Cx} {es : List Expr} {t t' : TA} (h : PA X es t) (hs : ∀ σ H Q, t' σ H Q → t σ H Q) : PA X es t' := ⟨fun pos pins s σ H Q I q => h.run pos pins s σ H Q I (hs σ H Q q)⟩
theorem PS.sub {X : Cx} {e : Stmt} {t t' : TS} (h : PS X e t) (hs : ∀ Dn σ H, t' Dn σ H → t Dn σ H) : PS X e t' := ⟨fun pins s σ H Q I q => h.run pins s σ H Q I (hs Q σ H q)⟩
theorem PSs.sub {X : Cx} {e : List Stmt} {t t' : TS} (h : PSs X e t) (hs : ∀ Dn σ H, t' Dn σ H → t Dn σ H) : PSs X e t' := ⟨fun pins s σ H Q I q => h.run pins s σ H Q I (hs Q σ H q)⟩
section
variable {k : Ky} {W : WX} {P : Hp} {w w' : Wd} {env : Envr} {S : Sto} {σ : L2.St} {H : Hp} {Q : VK}
theorem tE_mk {m : M D} (I : RB k P w env S σ H) (h : Aft k W P w (m env S) (rE k P σ Q)) : tE k W m σ H Q := ⟨P, w, env, S, I, h⟩
theorem tO_mk {m : M D} (I : RB k P w env S σ H) (h : Aft k W P w (m env S) (rO k P σ Q)) : tO k W m σ H Q := ⟨P, w, env, S, I, h⟩
theorem tA_mk {m : M (List D)} {Q : List V → Hp → Prop} (I : RB k P w env S σ H) (h : Aft k W P w (m env S) (rA k P σ Q)) : tAs k W m σ H Q := ⟨P, w, env, S, I, h⟩
theorem thenE {β : Type} {m : M D} {f : D → M β} {R : β → Wd → Envr → Sto → Prop} (I : RB k P w env S σ H) (h : Aft k W P w (M.bind m f env S) R)
   (nx : ∀ d w1 env1 S1 v H1, Wd.Le w w1 → RB k P w1 env1 S1 σ H1 → Rep k w1 d v → Aft k W P w1 (f d env1 S1) R → Q v H1) : tE k W m σ H Q :=
 tE_mk I (h.bind.imp fun d w1 env1 S1 l1 q v H1 I1 r1 => nx d w1 env1 S1 v H1 l1 I1 r1 q)
theorem thenO {β : Type} {m : M D} {f : D → M β} {R : β → Wd → Envr → Sto → Prop} (I : RB k P w env S σ H) (h : Aft k W P w (M.bind m f env S) R)
   (nx : ∀ d w1 env1 S1 v H1, Wd.Le w w1 → RB k P w1 env1 S1 σ H1 → RepO k w1 σ d v → Aft k W P w1 (f d env1 S1) R → Q v H1) : tO k W m σ H Q :=
 tO_mk I (h.bind.imp fun d w1 env1 S1 l1 q v H1 I1 r1 => nx d w1 env1 S1 v H1 l1 I1 r1 q)
theorem thenA {β : Type} {m : M (List D)} {f : List D → M β} {R : β → Wd → Envr → Sto → Prop} {Q : List V → Hp → Prop} (I : RB k P w env S σ H) (h : Aft k W P w (M.bind m f env S) R)
   (nx : ∀ ds w1 env1 S1 vs H1, Wd.Le w w1 → RB k P w1 env1 S1 σ H1 → Reps k w1 ds vs → Aft k W P w1 (f ds env1 S1) R → Q vs H1) : tAs k W m σ H Q :=
 tA_mk I (h.bind.imp fun d w1 env1 S1 l1 q v H1 I1 r1 => nx d w1 env1 S1 v H1 l1 I1 r1 q)
theorem thenT {β : Type} {m : M Bool} {f : Bool → M β} {R : β → Wd → Envr → Sto → Prop} {Q : Bool → Hp → Prop} (I : RB k P w env S σ H) (h : Aft k W P w (M.bind m f env S) R)
   (nx : ∀ d w1 env1 S1 H1, Wd.Le w w1 → RB k P w1 env1 S1 σ H1 → Aft k W P w1 (f d env1 S1) R → Q d H1) : tTt k W m σ H Q :=
 ⟨P, w, env, S, I, h.bind.imp fun d w1 env1 S1 l1 q H1 I1 => nx d w1 env1 S1 H1 l1 I1 q⟩
theorem tE_tO {m : M D} (h : tO k W m σ H Q) : tE k W m σ H Q := by
 obtain ⟨P, w, env, S, I, h⟩ := h
 exact ⟨P, w, env, S, I, h.imp fun d w1 env1 S1 l1 q v H1 I1 r1 => q v H1 I1 (.of r1)⟩
end
abbrev DE (X : Cx) (k : Ky) (W : WX) (e : Expr) (m : M D) : Prop := PE X e (tE k W m)
abbrev DO (X : Cx) (k : Ky) (W : WX) (e : Expr) (m : M D) : Prop := PE X e (tO k W m)
abbrev DF (X : Cx) (k : Ky) (W : WX) (e : Expr) (m : M Cell) : Prop := PE X e (tF k W m)
abbrev DT (X : Cx) (k : Ky) (W : WX) (e : Expr) (m : M Bool) : Prop := PT X e (tTt k W m)
abbrev DA (X : Cx) (k : Ky) (W : WX) (es : List Expr) (m : M (List D)) : Prop := PA X es (tAs k W m)
abbrev DS (X : Cx) (k : Ky) (W : WX) (s : Stmt) (m : M Flo) : Prop := PS X s (tS k W m)
abbrev DSs (X : Cx) (k : Ky) (W : WX) (s : List Stmt) (m : M Flo) : Prop := PSs X s (tS k W m)
theorem frozen_rep {k : Ky} {w : Wd} {c : Cell} {d : D} {a : Addr} {o : HO} (e : frozen c = some d) (r : RepC k w c o) (f : w.F a = some o) : Rep k w d (.ref a) := by
 cases c with
 | lst l => cases e; obtain ⟨vs, rfl, r⟩ := r; exact ⟨a, vs, rfl, f, r⟩
 | dk ks vs => cases e; obtain ⟨kvs, rfl, x, r⟩ := r; exact ⟨a, kvs, rfl, f, x, r⟩
 | dt ks vs => cases e; obtain ⟨kvs, rfl, x, r⟩ := r; exact ⟨a, kvs, rfl, f, x, r⟩
 | ins c fs => cases e
section
variable {X : Cx} {k : Ky} {W : WX} {pos : Pos}
theorem set_self {α : Type} {l : List α} {i : Nat} {x : α} (e : l[i]? = some x) : l.set i x = l := by
 apply List.ext_getElem?
 intro j
 by_cases h : i = j
 · subst h; rw [List.getElem?_set_self (List.getElem?_eq_some_iff.mp e).1, e]
 · rw [List.getElem?_set_ne h]
theorem de_var {i : Nat} {x : Str} (hN : X.N[i]? = some x) (hv : Vis X.env.scope x) (hd : (x == ("__debug__" : Str)) = false) (hcd : (x == ("__classdict__" : Str)) = false) : DE X k W (.Name x pos) (dVar i) := by
 refine PE.sub (pe_var hN hv hd hcd) fun σ H Q h => ?_
 obtain ⟨P, w, env, S, I, h⟩ := h
 unfold dVar at h
 cases e : env[i]? with
 | none => rw [e] at h; exact h.elim
 | some sl =>
   rw [e] at h
   cases sl with
   | no => exact h.elim
   | exn x => exact h.elim
   | val d =>
     obtain ⟨v, e1, r⟩ := I.val i d e
     exact ⟨v, e1, h.ok v H I r⟩
   | own c =>
     obtain ⟨a, o, e1, e2, e3, e4, e5, e6⟩ := I.own i c e
     dsimp only at h
     cases ef : frozen c with
     | none => rw [ef] at h; exact h.elim
     | some d =>
       rw [ef] at h
       obtain ⟨J, f, le⟩ := I.freezeOwn e e1 e2
       have r : Rep k (w.fz a o) d (.ref a) := frozen_rep ef (e3.mono le) Wd.fz_at
       have J2 := J.setVal (i := i) r
       rw [set_self e1, set_set_same] at J2
       exact ⟨_, e1, (h.up le).ok _ H J2 r⟩
theorem do_var {i : Nat} {x : Str} (hN : X.N[i]? = some x) (hv : Vis X.env.scope x) (hd : (x == ("__debug__" : Str)) = false) (hcd : (x == ("__classdict__" : Str)) = false) : DO X k W (.Name x pos) (dPeek i) := by
 refine PE.sub (pe_var hN hv hd hcd) fun σ H Q h => ?_
 obtain ⟨P, w, env, S, I, h⟩ := h
 unfold dPeek at h
 cases e : env[i]? with
 | none => rw [e] at h; exact h.elim
 | some sl =>
   rw [e] at h
   cases sl with
   | no => exact h.elim
   | exn x => exact h.elim
   | val d =>
     obtain ⟨v, e1, r⟩ := I.val i d e
     exact ⟨v, e1, h.ok v H I (.of r)⟩
   | own c =>
     obtain ⟨a, o, e1, _⟩ := I.own i c e
     exact ⟨_, e1, h.ok _ H I e1⟩
theorem do_of {e : Expr} {m : M D} (h : DE X k W e m) : DO X k W e m := PE.sub h fun _ _ _ q => tE_tO q
theorem de_int {i j} : DE X k W (.Constant (.int i) j pos) (M.ret (.int i)) := PE.sub pe_int fun σ H Q ⟨P, w, env, S, I, h⟩ => h.ret _ H I rfl
theorem de_bl {i j} : DE X k W (.Constant (.bool i) j pos) (M.ret (.bl i)) := PE.sub pe_bl fun σ H Q ⟨P, w, env, S, I, h⟩ => h.ret _ H I rfl
theorem de_non {j} : DE X k W (.Constant .none j pos) (M.ret .non) := PE.sub pe_non fun σ H Q ⟨P, w, env, S, I, h⟩ => h.ret _ H I rfl
theorem de_str {i j} : DE X k W (.Constant (.str i) j pos) (M.ret (.str i)) := PE.sub pe_str fun σ H Q ⟨P, w, env, S, I, h⟩ => h.ret _ H I rfl
theorem da_nil : DA X k W [] dNil := PA.sub pa_nil fun σ H Q ⟨P, w, env, S, I, h⟩ => h.ret [] H I rfl
theorem da_cons {e : Expr} {es : List Expr} {a : M D} {r : M (List D)} (ha : DE X k W e a) (hr : DA X k W es r) (hs : starEach (e :: es) X.env = (false, eval e X.env) :: starEach es X.env) : DA X k W (e :: es) (dCons a r) :=
 PA.sub (pa_cons ha hr hs) fun σ H Q ⟨P, w, env, S, I, h⟩ => thenE I h fun d w1 env1 S1 v H1 l1 I1 r1 h1 =>
   thenA I1 h1 fun ds w2 env2 S2 vs H2 l2 I2 r2 h2 => h2.ret (v :: vs) H2 I2 ⟨v, vs, rfl, Rep.mono l2 d r1, r2⟩
theorem if_ok {α : Type} {c : Prop} [Decidable c] {m : M α} {P : Hp} {w : Wd} {env : Envr} {S : Sto} {R : α → Wd → Envr → Sto → Prop} (h : Aft k W P w ((if c then m else M.fail : M α) env S) R) : c ∧ Aft k W P w (m env S) R := by
 by_cases hc : c
 · rw [if_pos hc] at h; exact ⟨hc, h⟩
 · rw [if_neg hc] at h; exact h.elim
theorem de_tup {es : List Expr} {x1} {a : M (List D)} (ha : DA X k W es a) : DE X k W (.Tuple es x1 pos) (dTup a) :=
 PE.sub (pe_tup ha) fun σ H Q ⟨P, w, env, S, I, h⟩ => thenA I h fun ds w1 env1 S1 vs H1 l1 I1 r1 h1 => by
   obtain ⟨hz, h1⟩ := if_ok h1
   refine ⟨by rw [r1.length]; exact hz, fun p hp => ?_⟩
   have le := I1.le_grow (o := .tup vs) hp
   exact (h1.up le).ret _ _ (I1.grow hp) ⟨p, vs, rfl, Wd.fz_at, r1.mono le⟩
theorem RB.new {k : Ky} {P : Hp} {w : Wd} {env : Envr} {S : Sto} {σ : L2.St} {H : Hp} {p : Addr} {o : HO} (I : RB k P w env S σ H) (n : H p = none) : RB k P w env S σ (upd H p o) ∧ Loose P w env σ p := ⟨I.at (keep_new n), I.fresh n⟩
theorem df_lst {es : List Expr} {a : M (List D)} (ha : DA X k W es a) : DF X k W (.List es pos) (dLst a) :=
 PE.sub (pe_lst ha) fun σ H Q ⟨P, w, env, S, I, h⟩ => thenA I h fun ds w1 env1 S1 vs H1 l1 I1 r1 h1 => by
   obtain ⟨hz, h1⟩ := if_ok h1
   refine ⟨by rw [r1.length]; exact hz, fun p hp => ?_⟩
   obtain ⟨I2, L⟩ := I1.new (o := .lst vs) hp
   exact h1.ret p _ _ I2 upd_same ⟨vs, rfl, r1⟩ L
theorem de_fz {e : Expr} {a : M Cell} (h : DF X k W e a) : DE X k W e (dFz a) :=
 PE.sub h fun σ H Q ⟨P, w, env, S, I, h⟩ => ⟨P, w, env, S, I, h.bind.imp fun c w1 env1 S1 l1 q p o H1 I1 e1 r1 L => by
   obtain ⟨d, e, q⟩ := q.opt
   have le : Wd.Le w1 (w1.fz p o) := Wd.fz_le L.f
   exact (q.up le).ret _ _ (I1.freeze e1 L) (frozen_rep e (r1.mono le) Wd.fz_at)⟩
end
end L2.MP
end
section
namespace L2.MP
open PySem PySem.Spec PyProof.Rows
theorem tup_once (l : Addr) (items : Array Value) (n : Nat) (dd : Option Addr) (sl : Array (Option Value)) (x : Int) (u : Tok) (c0 : (decide (x < -(2 ^ 63)) || decide (x ≥ 2 ^ 63)) = false) (c1 : (items.isEmpty || x == 1) = true) :
   Meets (Builtin.«tuple.__mul__» ⟨[.ref l, .int x u], []⟩) (fun _ R s => s.heap.get? l = some { cls := .type "tuple", dict := dd, data := .seq items n, slots := sl } ∧ R (.ok (.ret (Value.ref l))) s) :=
 .of_wp fun prog w A R s h => by
   obtain ⟨hp, g, d, tk, os⟩ := s
   obtain ⟨hl, h⟩ := h
   have f1 := AutoSeq1.idx_int
   have tc1 : (Value.type "tuple" == Value.type "tuple") = true := by decide
   wp_walk using wpAny_loadPart' hl
   repeat (first
     | (refine wpAny_ite_false (decide_eq_false (by rw [c0]; exact Bool.false_ne_true)) ?_; wp_walk using wpAny_loadPart' hl)
     | (refine wpAny_ite_true (decide_eq_true c1) ?_; wp_walk using wpAny_loadPart' hl))
   exact ⟨_, rfl, h⟩
theorem tup_none (l : Addr) (items : Array Value) (n : Nat) (dd : Option Addr) (sl : Array (Option Value)) (x : Int) (u : Tok) (c0 : (decide (x < -(2 ^ 63)) || decide (x ≥ 2 ^ 63)) = false) (c1 : (items.isEmpty || x == 1) = false) (c2 : (decide (x ≤ 0) || items.isEmpty) = true) :
   Meets (Builtin.«tuple.__mul__» ⟨[.ref l, .int x u], []⟩) (fun _ R s => s.heap.get? l = some { cls := .type "tuple", dict := dd, data := .seq items n, slots := sl } ∧
     R (.ok (.ret (Value.ref s.heap.objs.size))) { s with heap := s.heap.push { cls := Value.type "tuple", data := Data.seq #[] }, toks := s.toks }) :=
 .of_wp fun prog w A R s h => by
   obtain ⟨hp, g, d, tk, os⟩ := s
   obtain ⟨hl, h⟩ := h
   have f1 := AutoSeq1.idx_int
   wp_walk using wpAny_loadPart' hl
   repeat (first
     | (refine wpAny_ite_false (decide_eq_false (by rw [c0]; exact Bool.false_ne_true)) ?_; wp_walk using wpAny_loadPart' hl)
     | (refine wpAny_ite_false (decide_eq_false (by rw [c1]; exact Bool.false_ne_true)) ?_; wp_walk using wpAny_loadPart' hl)
     | (refine wpAny_ite_true (decide_eq_true c2) ?_; wp_walk using wpAny_loadPart' hl))
   exact ⟨_, rfl, h⟩
def rRep1 (K : PySem.W.Frag) : R2 := fun x y H Q => ∃ l k xs, x = .ref l ∧ y = .int k ∧ SqT K H l xs ∧ -(2 ^ 63) ≤ k ∧ k < 2 ^ 63 ∧ (((xs = [] ∨ k = 1) ∧ Q (.ref l) H) ∨ (xs ≠ [] ∧ k ≤ 0 ∧ ∀ p, H p = none → Q (.ref p) (upd H p (.tup []))))
section
variable {X : Cx}
theorem op_rep1 : OpR X (binaryOp .Mult) (rRep1 X.K) := by
 intro pins s σ H x y v u Q I rx ry h
 obtain ⟨l, k, xs, rfl, rfl, hT, h1, h2, q⟩ := h
 cases rx
 obtain ⟨t, rfl⟩ := ry
 obtain ⟨its, r, ⟨⟨cls, dd, data, sl⟩, ho, hc, n, hd⟩, hs⟩ := I.tuple hT
 simp only at hc hd
 subst hc hd
 have hle : its.length = xs.length := r.length.symm
 have he : its.toArray.isEmpty = xs.isEmpty := by
   cases its <;> cases xs <;> first | rfl | (simp at hle)
 have c0 : (decide (k < -(2 ^ 63)) || decide (k ≥ 2 ^ 63)) = false := by
   rw [decide_eq_false (by omega), decide_eq_false (by omega)] <;> rfl
 rcases q with ⟨hc, q⟩ | ⟨hne, hk0, q⟩
 · have c1 : (its.toArray.isEmpty || k == 1) = true := by
     rw [he]
     rcases hc with rfl | rfl
     · rfl
     · simp
   exact wpAny_binaryOp_repeat_ref (T := "tuple") (U := "int") (by decide) ⟨_, ho, rfl⟩ (fun s' => typeIs_int s' k t) noFill_tuple_mul F.fills_int_mul F.slot_int_rmul repeat_tuple F.slot_int_index.lookup
     (call_meets F.slot_int_rmul (typeIs_int s k t) F.entry_int_rmul (F.args_int_rmul_2 _ _) (int_rmul_tuple k t l its.toArray n dd sl)
       ⟨ho, rfl, ⟨_, ho, rfl⟩, call_meets F.slot_tuple_mul ⟨_, ho, rfl⟩ F.entry_tuple_mul (F.args_tuple_mul_2 _ _) (tup_once l its.toArray n dd sl k t c0 c1) ⟨ho, .ref l, H, I, rfl, q⟩⟩)
 · have c1 : (its.toArray.isEmpty || k == 1) = false := by
     rw [he]
     have : xs.isEmpty = false := by cases xs <;> first | rfl | exact absurd rfl hne
     rw [this, Bool.false_or]
     exact beq_eq_false_iff_ne.mpr (by omega)
   have c2 : (decide (k ≤ 0) || its.toArray.isEmpty) = true := by rw [decide_eq_true hk0]; rfl
   exact wpAny_binaryOp_repeat_ref (T := "tuple") (U := "int") (by decide) ⟨_, ho, rfl⟩ (fun s' => typeIs_int s' k t) noFill_tuple_mul F.fills_int_mul F.slot_int_rmul repeat_tuple F.slot_int_index.lookup
     (call_meets F.slot_int_rmul (typeIs_int s k t) F.entry_int_rmul (F.args_int_rmul_2 _ _) (int_rmul_tuple k t l its.toArray n dd sl)
       ⟨ho, rfl, ⟨_, ho, rfl⟩, call_meets F.slot_tuple_mul ⟨_, ho, rfl⟩ F.entry_tuple_mul (F.args_tuple_mul_2 _ _) (tup_none l its.toArray n dd sl k t c0 c1 c2) ⟨ho, .ref s.heap.objs.size, _, I.laid (t' := s.toks) (o := .tup []) (fun b ob q => Heap.get?_push_of_some _ q) (Nat.le_refl _) ⟨Nat.zero_le _, [], .nil, IsTup.new _ _⟩, rfl, q _ (I.hok.fresh (Nat.le_refl _))⟩⟩)
end
end L2.MP
end
section
namespace PySem.W
open PySem PySem.Calls PyProof.Rows PySem.Spec
section
variable {prog : Program} {w : World} {K : Type} [DecidableEq K] {knd : HeapKind prog w K} {A : Around} {E : Value → Shared → Prop} {s : Shared}
inductive HitsH {K : Type} [DecidableEq K] (prog : Program) (w : World) (A : Around) (s : Shared) (xb : List (K × Addr × Value)) : List (K × Addr × Value) → Bool → Prop
 | nil : HitsH prog w A s xb [] true
 | miss {k : K} {p : Addr × Value} {r : List (K × Addr × Value)} : atKey xb k = none → HitsH prog w A s xb ((k, p) :: r) false
 | hit {k : K} {p q : Addr × Value} {r : List (K × Addr × Value)} {e b : Bool} : atKey xb k = some q → SeqAt.EqP prog w A s p.2 q.2 e → HitsH prog w A s xb r b → HitsH prog w A s xb ((k, p) :: r) (e && b)
theorem HitsH.inv {xb : List (K × Addr × Value)} {k : K} {p : Addr × Value} {r : List (K × Addr × Value)} {b : Bool} (h : HitsH prog w A s xb ((k, p) :: r) b) :
   (atKey xb k = none ∧ b = false) ∨ ∃ q e b', atKey xb k = some q ∧ SeqAt.EqP prog w A s p.2 q.2 e ∧ HitsH prog w A s xb r b' ∧ b = (e && b') := by
 cases h with
 | miss hn => exact .inl ⟨hn, rfl⟩
 | hit hy he hr => exact .inr ⟨_, _, _, hy, he, hr, rfl⟩
theorem samePairsH {nm : String} {a b : Addr} {xa xb : List (K × Addr × Value)} {r : Bool} {Q : Bool → Shared → Prop} (hu : knd.room A) (ha : (a == sysModules) = false) (hb : (b == sysModules) = false)
   (da : s.heap.DictOfH knd a xa) (db : s.heap.DictOfH knd b xb) (hits : xa.length = xb.length → HitsH prog w A s xb xa r) (h : Q (xa.length == xb.length && r) s) :
   wpAny (model prog w) A (Builtin.Dict.samePairs nm a b) Q E s := by
 obtain ⟨oa, es, ep, hoa, _, hda, hea, hia, hna⟩ := da
 obtain ⟨ob, es', ep', hob, _, hdb, heb, hib, hnb⟩ := db
 have hla : es.size = xa.length := size_of_entries hea
 have hlb : es'.size = xb.length := size_of_entries heb
 rw [← hla, ← hlb] at h
 unfold Builtin.Dict.samePairs Builtin.Dict.showsAll
 rw [if_neg (show ¬ (a == sysModules) = true by rw [ha]; exact Bool.false_ne_true), if_neg (show ¬ (b == sysModules) = true by rw [hb]; exact Bool.false_ne_true)]
 refine wpAny_bind (wpAny_pure (wpAny_bind (wpAny_pure ?_)))
 refine wpAny_bind (wpAny_dictEntries hoa hda ?_)
 dsimp only
 refine wpAny_bind (wpAny_dictEntries hob hdb ?_)
 by_cases hsz : es.size = es'.size
 case neg =>
   rw [if_pos (by simpa using hsz)]
   have hbf : (es.size == es'.size) = false := by simpa using hsz
   rw [hbf, Bool.false_and] at h
   exact wpAny_bind (wpAny_rule (wpAny_pure h))
 case pos =>
   have h' : Q r s := by simpa [hsz] using h
   have hits' := hits (by rw [← hla, ← hlb]; exact hsz)
   rw [if_neg (by rw [hsz]; simp)]
   refine wpAny_bind (wpAny_dictEpoch hoa hda ?_)
   refine wpAny_bind ?_
   rw [Std.Legacy.Range.forIn_eq_forIn_range']
   simp only [Std.Legacy.Range.size, Nat.sub_zero, Nat.add_sub_cancel, Nat.div_one]
   refine wpAny_forIn_list _
     (fun rest q s' => s' = s ∧ q = (none, ()) ∧ ∃ i, rest = List.range' i (es.size - i) ∧ i ≤ es.size ∧ HitsH prog w A s xb (xa.drop i) r)
     _ ?_ ?_ _ _ ⟨rfl, rfl, 0, by simp, Nat.zero_le _, hits'⟩
   · rintro x rest q s' ⟨rfl, rfl, i, hr, hi, hpre⟩
     have hlt : i < es.size := by
       rcases Nat.lt_or_ge i es.size with h | h
       · exact h
       · rw [Nat.sub_eq_zero_of_le h] at hr; simp at hr
     obtain ⟨rfl, hrest⟩ : x = i ∧ rest = List.range' (i + 1) (es.size - (i + 1)) := by
       have e : es.size - i = (es.size - (i + 1)) + 1 := by omega
       rw [e, List.range'_succ] at hr
       injection hr with h1 h2
       exact ⟨h1, h2⟩
     refine wpAny_bind (wpAny_dictEntries hoa hda ?_)
     have hlt' : x < xa.length := by rw [← hla]; exact hlt
     obtain ⟨k, p, hkv⟩ : ∃ k p, xa[x] = (k, p) := ⟨_, _, rfl⟩
     have hdrop : xa.drop x = (k, p) :: xa.drop (x + 1) := by rw [← hkv]; exact List.drop_eq_getElem_cons hlt'
     have hex : es[x]? = some (entryOfKey knd (k, p)) := by rw [entry_at hea x, List.getElem?_eq_getElem hlt', hkv]; rfl
     have hkey : knd.is s'.heap k p.1 := hia (k, p) (by rw [← hkv]; exact List.getElem_mem hlt')
     rw [hex]
     rw [hdrop] at hpre
     show wpAny _ _ (holding [.ref p.1, p.2] _ >>= _) _ _ _
     refine wpAny_bind (wpAny_holding (wpAny_bind (wpAny_dictFind_heap hu hkey hob hdb heb hib hnb (fun hno => ?_) (fun j q hj => ?_))))
     · have hn := atKey_none_of_get hno
       rcases hpre.inv with ⟨_, er⟩ | ⟨y, _, _, hy, _⟩
       · rw [er] at h'
         refine wpAny_pure ?_
         show wpAny _ _ (if (!false) = true then _ else _) _ _ _
         rw [if_pos (by decide)]
         exact wpAny_pure (wpAny_pure h')
       · rw [hn] at hy; exact nomatch hy
     · have hq := atKey_of_get hnb hj
       refine wpAny_bind (wpAny_dictEntries hob hdb ?_)
       have hej : es'[j]? = some (entryOfKey knd (k, q)) := by rw [entry_at heb j, hj]; rfl
       rw [hej]
       rcases hpre.inv with ⟨hn, _⟩ | ⟨y, e, b', hy, he, hrr, er⟩
       · rw [hq] at hn; exact nomatch hn
       · have ey : q = y := Option.some.inj (hq.symm.trans hy)
         subst ey
         refine wpAny_holding (he _ _ ?_)
         cases e with
         | false =>
           rw [er, Bool.false_and] at h'
           show wpAny _ _ (if (!false) = true then _ else _) _ _ _
           rw [if_pos (by decide)]
           exact wpAny_pure (wpAny_pure h')
         | true =>
           rw [Bool.true_and] at er
           rw [← er] at hrr
           show wpAny _ _ (if (!true) = true then _ else _) _ _ _
           rw [if_neg (by decide)]
           refine wpAny_bind (wpAny_dictEpoch hoa hda ?_)
           rw [if_neg (by simp)]
           exact wpAny_pure ⟨rfl, rfl, x + 1, hrest, hlt, hrr⟩
   · rintro q s' ⟨rfl, rfl, i, hr, hi, hpre⟩
     have hin : i = es.size := by
       rcases Nat.lt_or_ge i es.size with h | h
       · have e : es.size - i = (es.size - (i + 1)) + 1 := by omega
         rw [e, List.range'_succ] at hr; exact nomatch hr
       · exact Nat.le_antisymm hi h
     refine wpAny_pure ?_
     rw [hin, hla, List.drop_length] at hpre
     cases hpre
     exact h'
theorem rcH_dicts {a b : Addr} {xa xb : List (K × Addr × Value)} {r : Bool} (hr : knd.room A.in1) (ha : (a == sysModules) = false) (hb : (b == sysModules) = false)
   (da : s.heap.DictOfH knd a xa) (db : s.heap.DictOfH knd b xb) (hu : A.units < cLine) (hits : xa.length = xb.length → HitsH prog w A.in1 s xb xa r) (E Q : Value → Shared → Prop) (h : Q (.bool (xa.length == xb.length && r)) s) : wpAny (model prog w) A (richCompare .Eq (.ref a) (.ref b)) Q E s := by
 refine wpAny_richCompare_same_room (op := .Eq) da.typeIs db.typeIs PySem.F.slot_dict_eq (wpAny_call_entry PySem.F.slot_dict_eq da.typeIs PySem.F.entry_dict_eq ?_ (PySem.F.args_dict_eq_2 _ _)) hu
 show wpAny _ _ (Builtin.Dict.dictSlotArgs "__eq__" ⟨[.ref a, .ref b], []⟩ >>= _) _ _ s
 refine wpAny_bind ?_
 unfold Builtin.Dict.dictSlotArgs
 refine wpAny_bind (wpAny_notOrdered_dict da.typeIs ?_)
 show wpAny _ _ (pure (Value.ref a, Value.ref b)) _ _ s
 refine wpAny_pure ?_
 refine wpAny_bind (wpAny_isInstance (T := "dict") db.typeIs PySem.F.sub_dict_dict ?_)
 simp only [Bool.not_true, Bool.false_eq_true, if_false]
 refine wpAny_bind (wpAny_pure (wpAny_bind (wpAny_pure ?_)))
 refine wpAny_bind (samePairsH hr ha hb da db hits ?_)
 refine wpAny_pure ⟨_, rfl, ?_, ?_⟩
 · exact fun x => nomatch x
 · simpa using h
theorem rcH_ne {a b : Addr} {xa xb : List (K × Addr × Value)} {r : Bool} (hr : knd.room A.in1) (ha : (a == sysModules) = false) (hb : (b == sysModules) = false)
   (da : s.heap.DictOfH knd a xa) (db : s.heap.DictOfH knd b xb) (hu : A.units < cLine) (hits : xa.length = xb.length → HitsH prog w A.in1 s xb xa r) (E Q : Value → Shared → Prop) (h : Q (.bool (!(xa.length == xb.length && r))) s) : wpAny (model prog w) A (richCompare .NotEq (.ref a) (.ref b)) Q E s := by
 refine wpAny_richCompare_same_room (op := .NotEq) da.typeIs db.typeIs PySem.F.slot_dict_ne (wpAny_call_entry PySem.F.slot_dict_ne da.typeIs PySem.F.entry_dict_ne ?_ (PySem.F.args_dict_ne_2 _ _)) hu
 show wpAny _ _ (Builtin.Dict.dictSlotArgs "__ne__" ⟨[.ref a, .ref b], []⟩ >>= _) _ _ s
 refine wpAny_bind ?_
 unfold Builtin.Dict.dictSlotArgs
 refine wpAny_bind (wpAny_notOrdered_dict da.typeIs ?_)
 show wpAny _ _ (pure (Value.ref a, Value.ref b)) _ _ s
 refine wpAny_pure ?_
 refine wpAny_bind (wpAny_isInstance (T := "dict") db.typeIs PySem.F.sub_dict_dict ?_)
 simp only [Bool.not_true, Bool.false_eq_true, if_false]
 refine wpAny_bind (wpAny_pure (wpAny_bind (wpAny_pure ?_)))
 refine wpAny_bind (samePairsH hr ha hb da db hits ?_)
 refine wpAny_pure ⟨_, rfl, ?_, ?_⟩
 · exact fun x => nomatch x
 · simpa using h
end
end PySem.W
end
section
namespace L2.MP
open PySem PySem.Spec PyProof.Rows
section
variable {X : Cx}
abbrev TPr := List Key × V × PyData
def hitT (pb : List TPr) (p : TPr) : Bool := match pb.find? fun q => decide (q.1 = p.1) with
 | none => false
 | some q => PyData.eqv p.2.2 q.2.2
def dtE (pa pb : List TPr) : Bool := pa.length == pb.length && pa.all (hitT pb)
def kvT (pa : List TPr) : List (List Key × V) := pa.map fun p => (p.1, p.2.1)
def okTP (K : PySem.W.Frag) (H : Hp) (pa : List TPr) : Prop := ∀ p ∈ pa, Dp K H p.2.1 p.2.2 ∧ p.2.2.canLay0 = true ∧ p.2.2.depth ≤ 60
def rEqT (neg : Bool) (K : PySem.W.Frag) : R2 := fun x y H Q => ∃ (a b : Addr) (pa pb : List TPr), x = .ref a ∧ y = .ref b ∧ H a = some (.dT (kvT pa)) ∧ H b = some (.dT (kvT pb)) ∧ okTP K H pa ∧ okTP K H pb ∧ Q (.bl (neg != dtE pa pb)) H
theorem at_find {H : Hp} {k : List Key} : ∀ {pb : List TPr} {xb : List (List Key × Addr × Value)}, KT H (kvT pb) xb → match pb.find? fun q => decide (q.1 = k) with
   | none => atKey xb k = none
   | some r => ∃ q, atKey xb k = some q ∧ RelV r.2.1 q.2
 | [], _, r => by cases r; rfl
 | p :: pb, _, r => by
   cases r with
   | @cons _ q _ qs h t =>
     obtain ⟨h1, _, h3⟩ := h
     have h1 : p.1 = q.1 := h1
     rw [List.find?_cons]
     by_cases e : p.1 = k
     · rw [decide_eq_true e]
       have e' : q.1 = k := h1.symm.trans e
       exact ⟨q.2, by simp [atKey, List.find?_cons, e'], h3⟩
     · rw [decide_eq_false e]
       have e' : ¬ q.1 = k := fun z => e (h1.trans z)
       have b : atKey (q :: qs) k = atKey qs k := by simp [atKey, List.find?_cons, e']
       have ih := at_find (k := k) t
       dsimp only
       cases hf : pb.find? fun q => decide (q.1 = k) with
       | none => rw [hf] at ih; rw [b]; exact ih
       | some r => rw [hf] at ih; rw [b]; exact ih
theorem hits_of {pins : List (Addr × Obj)} {σ : L2.St} {H : Hp} {s : Shared} (I : L2.Inv X pins σ H s) {A : Around} (hu : A.units + 60 < cLine) {pb : List TPr} {xb : List (List Key × Addr × Value)} (hb : KT H (kvT pb) xb) (ob : okTP X.K H pb) : ∀ {pa : List TPr} {xa : List (List Key × Addr × Value)}, KT H (kvT pa) xa → okTP X.K H pa → PySem.W.HitsH X.prog X.w A s xb xa (pa.all (hitT pb))
 | [], _, r, _ => by cases r; exact .nil
 | p :: pa, _, r, oa => by
   cases r with
   | @cons _ q _ qs h t =>
     obtain ⟨h1, _, h3⟩ := h
     have h1 : p.1 = q.1 := h1
     have ih := hits_of I hu hb ob t fun x hx => oa x (List.mem_cons_of_mem _ hx)
     have hf := at_find (k := q.1) hb
     obtain ⟨d1, d2, d3⟩ := oa p List.mem_cons_self
     rw [List.all_cons]
     unfold hitT
     rw [h1]
     cases e : pb.find? fun r => decide (r.1 = q.1) with
     | none =>
       rw [e] at hf
       rw [Bool.false_and]
       exact .miss (k := q.1) (p := q.2) hf
     | some r =>
       rw [e] at hf
       obtain ⟨q', hq, rq⟩ := hf
       obtain ⟨f1, f2, f3⟩ := ob r (List.mem_of_find?_eq_some e)
       obtain ⟨as, r1⟩ := Dp.reads I p.2.2 p.2.1 q.2.2 d1 h3
       obtain ⟨bs, r2⟩ := Dp.reads I r.2.2 r.2.1 q'.2 f1 rq
       exact .hit (k := q.1) (p := q.2) hq (SeqAt.eqAt_reads p.2.2 r.2.2 A s q.2.2 q'.2 as bs r1 r2 d2 f2 (by omega)).eqP ih
theorem kt_len {H : Hp} {pa : List TPr} {xa : List (List Key × Addr × Value)} (h : KT H (kvT pa) xa) : xa.length = pa.length := by
 rw [← Paired.length h]
 unfold kvT
 rw [List.length_map]
theorem op_eqT (hu : X.A.units + 64 < cLine) : OpR X (compareOp .Eq) (rEqT false X.K) := by
 intro pins s σ H x y v u Q I rx ry h
 obtain ⟨a, b, pa, pb, rfl, rfl, h1, h2, o1, o2, q⟩ := h
 cases rx; cases ry
 obtain ⟨_, m1, xa, r1, d1⟩ := dt_of I.hok h1
 obtain ⟨_, m2, xb, r2, d2⟩ := dt_of I.hok h2
 refine PySem.W.rcH_dicts (r := pa.all (hitT pb)) (tupleKind_room_in1 (by omega)) m1 m2 d1 d2 (by omega) (fun _ => hits_of I (by show X.A.units + 1 + 60 < cLine; omega) r2 o2 r1 o1) _ _ ?_
 rw [kt_len r1, kt_len r2]
 refine ⟨.bl _, H, I, rfl, ?_⟩
 simpa [dtE] using q
theorem op_neT (hu : X.A.units + 64 < cLine) : OpR X (compareOp .NotEq) (rEqT true X.K) := by
 intro pins s σ H x y v u Q I rx ry h
 obtain ⟨a, b, pa, pb, rfl, rfl, h1, h2, o1, o2, q⟩ := h
 cases rx; cases ry
 obtain ⟨_, m1, xa, r1, d1⟩ := dt_of I.hok h1
 obtain ⟨_, m2, xb, r2, d2⟩ := dt_of I.hok h2
 refine PySem.W.rcH_ne (r := pa.all (hitT pb)) (tupleKind_room_in1 (by omega)) m1 m2 d1 d2 (by omega) (fun _ => hits_of I (by show X.A.units + 1 + 60 < cLine; omega) r2 o2 r1 o1) _ _ ?_
 rw [kt_len r1, kt_len r2]
 refine ⟨.bl _, H, I, rfl, ?_⟩
 simpa [dtE] using q
end
end L2.MP
end
section
namespace L2.MP
open PySem PySem.Spec PyProof.Rows
def RepH (k : Ky) (w : Wd) (H : Hp) : D → V → Prop
 | .lst ds, v => ∃ a vs, v = .ref a ∧ H a = some (.lst vs) ∧ Reps k w ds vs
 | .dk ks ds, v => ∃ a kvs, v = .ref a ∧ H a = some (.dK kvs) ∧ kvs.map (·.1) = ks ∧ Reps k w ds (kvs.map (·.2))
 | .dt ks ds, v => ∃ a kvs, v = .ref a ∧ H a = some (.dT kvs) ∧ kvs.map (·.1) = ks ∧ Reps k w ds (kvs.map (·.2))
 | .own _, _ => True
 | d, v => Rep k w d v
section
variable {k : Ky} {P : Hp} {w : Wd} {env : Envr} {S : Sto} {σ : L2.St} {H : Hp} {d : D} {v : V}
theorem RepH.cell {c : Cell} {a : Addr} {o : HO} {d : D} (e : cellD c = some d) (r : RepC k w c o) (h : H a = some o) : RepH k w H d (.ref a) := by
 cases c with
 | lst l => cases e; obtain ⟨vs, rfl, r⟩ := r; exact ⟨a, vs, rfl, h, r⟩
 | dk ks vs => cases e; obtain ⟨kvs, rfl, x, r⟩ := r; exact ⟨a, kvs, rfl, h, x, r⟩
 | dt ks vs => cases e; obtain ⟨kvs, rfl, x, r⟩ := r; exact ⟨a, kvs, rfl, h, x, r⟩
 | ins c fs => cases e
theorem RB.view (I : RB k P w env S σ H) (r : RepO k w σ d v) : RepH k w H (view env S d) v := by
 cases d with
 | non => exact r
 | fn _ => exact r
 | bl b => exact r
 | int i => exact r
 | str s => exact r
 | tup ds => exact r
 | rt ds => exact r
 | lst ds => obtain ⟨a, vs, e, q, x⟩ := r; exact ⟨a, vs, e, I.rs.frz _ _ q, x⟩
 | rl ds => exact r
 | dk ks ds => obtain ⟨a, vs, e, q, x⟩ := r; exact ⟨a, vs, e, I.rs.frz _ _ q, x⟩
 | dt ks ds => obtain ⟨a, vs, e, q, x⟩ := r; exact ⟨a, vs, e, I.rs.frz _ _ q, x⟩
 | ref n =>
   obtain ⟨a, rfl, q⟩ := r
   obtain ⟨c, o, e1, e2, e3, e4⟩ := I.rs.lt q
   have ev : MP.view env S (.ref n) = (cellD c).getD (.ref n) := by
     show (match S[n]? with
       | some c => (cellD c).getD (D.ref n)
       | none => D.ref n) = _
     rw [e1]
   rw [ev]
   cases ec : cellD c with
   | none => exact ⟨a, rfl, q⟩
   | some d => exact RepH.cell ec e4 e2
 | own i =>
   show RepH k w H (match env[i]? with
     | some (.own c) => (cellD c).getD (.own i)
     | _ => .own i) v
   split
   · rename_i c e
     obtain ⟨a, o, e1, e2, e3, _⟩ := I.own i c e
     have r : σ[i]? = some (some v) := r
     rw [e1] at r; cases r
     cases ec : cellD c with
     | none => trivial
     | some d => exact RepH.cell ec e3 e2
   · trivial
end
def Op2 (X : Cx) (r : R2) (f : D → D → Option D) : Prop :=
 ∀ (k : Ky) (P : Hp) (w : Wd) (env : Envr) (S : Sto) (σ : L2.St) (H : Hp) (x y : V) (dx dy d : D) (Q : VK), k.K = X.K → RB k P w env S σ H → RepH k w H dx x → RepH k w H dy y → f dx dy = some d →
   (∀ w' v H', Wd.Le w w' → RB k P w' env S σ H' → Rep k w' d v → Q v H') → r x y H Q
def Op1 (X : Cx) (r : V → Hp → VK → Prop) (f : D → Option D) : Prop :=
 ∀ (k : Ky) (P : Hp) (w : Wd) (env : Envr) (S : Sto) (σ : L2.St) (H : Hp) (x : V) (dx d : D) (Q : VK), k.K = X.K → RB k P w env S σ H → RepH k w H dx x → f dx = some d →
   (∀ w' v H', Wd.Le w w' → RB k P w' env S σ H' → Rep k w' d v → Q v H') → r x H Q
theorem Aft.getS {α : Type} {k : Ky} {W : WX} {P : Hp} {w : Wd} {env : Envr} {S : Sto} {R : α → Wd → Envr → Sto → Prop} {f : Envr × Sto → M α} (h : Aft k W P w (M.bind getS f env S) R) : Aft k W P w (f (env, S) env S) R := h
section
variable {X : Cx} {k : Ky} {W : WX} {a b c : Expr} {ma mb mc : M D} {pos : Pos}
theorem two {r : R2} {f : D → D → Option D} (hk : k.K = X.K) (hf : Op2 X r f) {σ : L2.St} {H : Hp} {Q : VK} (h : tE k W (dOp2 f ma mb) σ H Q) : tOp r (tO k W ma) (tO k W mb) σ H Q := by
 obtain ⟨P, w, env, S, I, h⟩ := h
 refine thenO I h fun dx w1 env1 S1 x H1 l1 I1 r1 h1 => thenO I1 h1 fun dy w2 env2 S2 y H2 l2 I2 r2 h2 => ?_
 obtain ⟨d, e, h3⟩ := h2.getS.opt
 exact hf k P w2 env2 S2 σ H2 x y _ _ d Q hk I2 (I2.view (r1.up l2)) (I2.view r2) e fun w' v H' le J q => (h3.up le).ret v H' J q
theorem de_op {op : Operator} {r : R2} {f : D → D → Option D} (hk : k.K = X.K) (ho : OpR X (binaryOp op) r) (hf : Op2 X r f) (ha : DO X k W a ma) (hb : DO X k W b mb) : DE X k W (.BinOp a op b pos) (dOp2 f ma mb) :=
 PE.sub (pe_op ho ha hb) fun σ H Q h => two hk hf h
theorem de_cmp {op : CmpOp} {r : R2} {f : D → D → Option D} (hk : k.K = X.K) (ho : OpR X (compareOp op) r) (hf : Op2 X r f) (ha : DO X k W a ma) (hb : DO X k W b mb) (hm : behindInMarks op b = false) : DE X k W (.Compare a [op] [b] pos) (dOp2 f ma mb) :=
 PE.sub (pe_cmpR ho ha hb hm) fun σ H Q h => two hk hf h
theorem de_ix {r : R2} {f : D → D → Option D} (hk : k.K = X.K) (ho : IxR X r) (hf : Op2 X r f) (ha : DO X k W a ma) (hb : DO X k W b mb) (hs : PlainIx b) : DE X k W (.Subscript a b pos) (dOp2 f ma mb) :=
 PE.sub (pe_ix ho ha hb hs) fun σ H Q h => two hk hf h
theorem de_un {op : UnaryOp} {r : V → Hp → VK → Prop} {f : D → Option D} (hk : k.K = X.K) (ho : UnR X (unaryOp op) r) (hf : Op1 X r f) (ha : DO X k W a ma) : DE X k W (.UnaryOp op a pos) (dOp1 f ma) :=
 PE.sub (pe_un ho ha) fun σ H Q ⟨P, w, env, S, I, h⟩ => thenO I h fun dx w1 env1 S1 x H1 l1 I1 r1 h1 => by
   obtain ⟨d, e, h3⟩ := h1.getS.opt
   exact hf k P w1 env1 S1 σ H1 x _ d Q hk I1 (I1.view r1) e fun w' v H' le J q => (h3.up le).ret v H' J q
theorem Op2.or {r r' : R2} {f g : D → D → Option D} (hf : Op2 X r f) (hg : Op2 X r' g) : Op2 X (fun x y H Q => r x y H Q ∨ r' x y H Q) (fun x y => (f x y).orElse fun _ => g x y) := by
 intro k P w env S σ H x y dx dy d Q hk I rx ry e q
 cases ef : f dx dy with
 | some z =>
   have e' : z = d := by simpa [ef] using e
   subst e'
   exact .inl (hf k P w env S σ H x y dx dy z Q hk I rx ry ef q)
 | none =>
   have e' : g dx dy = some d := by simpa [ef] using e
   exact .inr (hg k P w env S σ H x y dx dy d Q hk I rx ry e' q)
theorem op2_ii {C : Int → Int → Prop} {c : Int → Int → Bool} {g : Int → Int → V} {gd : Int → Int → D} (hc : ∀ i j, c i j = true → C i j) (hg : ∀ k w i j, Rep k w (gd i j) (g i j)) : Op2 X (rI C g) (iiD c gd) := by
 intro k P w env S σ H x y dx dy d Q hk I rx ry e q
 cases dx <;> cases dy <;> simp only [iiD] at e <;> try contradiction
 rename_i i j
 split at e
 · rename_i hcc
   cases e
   have rx : x = .int i := rx
   have ry : y = .int j := ry
   exact ⟨i, j, rx, ry, hc i j hcc, q w _ H (Wd.Le.refl w) I (hg k w i j)⟩
 · cases e
theorem op2_ii0 {g : Int → Int → V} {gd : Int → Int → D} (hg : ∀ k w i j, Rep k w (gd i j) (g i j)) : Op2 X (rI0 g) (iiD (fun _ _ => true) gd) := by
 intro k P w env S σ H x y dx dy d Q hk I rx ry e q
 cases dx <;> cases dy <;> simp only [iiD] at e <;> try contradiction
 rename_i i j
 simp only [if_true] at e
 cases e
 exact ⟨i, j, rx, ry, q w _ H (Wd.Le.refl w) I (hg k w i j)⟩
abbrev rAddA (X : Cx) : R2 := fun x y H Q => rI0 (fun i j => .int (i + j)) x y H Q ∨ ((∃ i j, x = .str i ∧ y = .str j ∧ i.length + j.length ≤ sizeLine ∧ Q (.str (i ++ j)) H) ∨ (rCat x y H Q ∨ rCatA X.K x y H Q))
theorem or_add : OpR X (binaryOp .Add) (rAddA X) := op_add.or (op_add_str.or (op_cat.or op_catA))
theorem reps_nil {k : Ky} {w : Wd} {ds : List D} (r : Reps k w ds []) : ds = [] := by
 cases ds with
 | nil => rfl
 | cons d ds => obtain ⟨_, _, e, _⟩ := r; cases e
theorem op2_add : Op2 X (rAddA X) addD := by
 intro k P w env S σ H x y dx dy d Q hk I rx ry e q
 cases dx <;> cases dy <;> simp only [addD] at e <;> try contradiction
 · cases e
   exact .inl ⟨_, _, rx, ry, q w _ H (Wd.Le.refl w) I rfl⟩
 · split at e
   · cases e
     exact .inr (.inl ⟨_, _, rx, ry, by assumption, q w _ H (Wd.Le.refl w) I rfl⟩)
   · cases e
 · split at e
   · cases e
     have rx' : Rep k w (.tup _) x := rx
     have ry' : Rep k w (.tup _) y := ry
     obtain ⟨p, xs, rfl, hp, r1⟩ := rx
     obtain ⟨p2, ys, rfl, hp2, r2⟩ := ry
     refine .inr (.inr (.inr ⟨p, p2, xs, ys, rfl, rfl, SqT.of (I.rs.frz _ _ hp), SqT.of (I.rs.frz _ _ hp2), by rw [r1.length, r2.length]; assumption, fun e => ?_, fun e1 e2 => ?_, fun e1 e2 t ht => ?_⟩))
     · subst e
       have ea := reps_nil r1
       subst ea
       exact q w _ H (Wd.Le.refl w) I ry'
     · subst e2
       have ea := reps_nil r2
       subst ea
       exact q w _ H (Wd.Le.refl w) I (by rw [List.append_nil]; exact rx')
     · have le := I.le_grow (o := .tup (xs ++ ys)) ht
       exact q _ _ _ le (I.grow ht) ⟨t, _, rfl, Wd.fz_at, (r1.append r2).mono le⟩
   · cases e
 · split at e
   · cases e
     obtain ⟨p, xs, rfl, hp, r1⟩ := rx
     obtain ⟨p2, ys, rfl, hp2, r2⟩ := ry
     refine .inr (.inr (.inl ⟨p, p2, xs, ys, rfl, rfl, hp, hp2, by rw [r1.length, r2.length]; assumption, fun t ht => ?_⟩))
     have le := I.le_grow (o := .lst (xs ++ ys)) ht
     exact q _ _ _ le (I.grow ht) ⟨t, _, rfl, Wd.fz_at, (r1.append r2).mono le⟩
   · cases e
theorem op2_sub : Op2 X (rI0 fun i j => .int (i - j)) subD := op2_ii0 fun _ _ _ _ => rfl
theorem op2_fdiv : Op2 X (rI CDivW fun i j => .int (i / j)) fdivD := op2_ii (fun i j h => by
 unfold divB at h
 rw [Bool.and_eq_true] at h
 exact ⟨of_decide_eq_true h.1, of_decide_eq_true h.2⟩) fun _ _ _ _ => rfl
theorem op2_mod : Op2 X (rI (fun _ j => 0 < j) fun i j => .int (i % j)) modD := op2_ii (fun i j h => of_decide_eq_true h) fun _ _ _ _ => rfl
theorem op2_pow : Op2 X (rI CPow fun i j => .int (i ^ j.toNat)) powD := op2_ii (fun i j h => by
 unfold powB at h
 rw [Bool.and_eq_true, Bool.and_eq_true] at h
 exact ⟨of_decide_eq_true h.1, of_decide_eq_true h.2.1, of_decide_eq_true h.2.2⟩) fun _ _ _ _ => rfl
def CMulX (i j : Int) : Prop := i.natAbs.log2 + j.natAbs.log2 < 1000000 ∨ j.natAbs.log2 < 63 ∨ i.natAbs.log2 < 63
theorem CMulX.ok {i j : Int} (h : CMulX i j) : IntMulOk i j := by
 have b : ∀ x : Int, x.natAbs.log2 < 63 → Builtin.Int.intBits x ≤ 64 := fun x hx => by
   unfold Builtin.Int.intBits
   split <;> omega
 rcases h with h | h | h
 · exact CMulW.ok h
 · exact IntMulOk.of_right (b _ h)
 · exact IntMulOk.of_left (b _ h)
theorem op_mulX : OpR X (binaryOp .Mult) (rI CMulX fun i j => .int (i * j)) := opI fun _ _ _ _ _ _ _ hc q => mul_int q hc.ok
theorem fold_cat : ∀ (n : Nat) (a z : Array Nat), ((List.replicate n z).foldl (· ++ ·) a).size = a.size + n * z.size
 | 0, a, z => by simp
 | n + 1, a, z => by
   rw [List.replicate_succ, List.foldl_cons, fold_cat n (a ++ z) z, Array.size_append, Nat.succ_mul]
   omega
theorem strMul_len (z : Str) (n : Nat) : (strMul z n).length = n * z.length := by
 show ((List.replicate n z.cps).foldl (· ++ ·) #[]).size = _
 rw [fold_cat]
 simp [Str.length]
def rStrM : R2 := fun x y H Q => ∃ z j, x = .str z ∧ y = .int j ∧ ((j = 1 ∧ Q (.str z) H) ∨ (j = 0 ∧ Q (.str "") H) ∨ ((2 ≤ j ∧ j ≤ 1000 ∧ 1 ≤ z.length ∧ z.length ≤ 1000) ∧ Q (.str (strMul z j.toNat)) H))
theorem op_strM : OpR X (binaryOp .Mult) rStrM := by
 intro pins s σ H x y v u Q I rx ry h
 obtain ⟨z, j, rfl, rfl, h⟩ := h
 obtain ⟨t, rfl⟩ := rx
 obtain ⟨t', rfl⟩ := ry
 rcases h with ⟨rfl, q⟩ | ⟨rfl, q⟩ | ⟨⟨h1, h2, h3, h4⟩, q⟩
 · exact PySem.P.mul_str (by decide) (fun _ h => by simp at h) (fun _ h => by simp at h) (by rw [if_neg (by decide), if_pos (by simp)]; exact ⟨.str z, H, I, ⟨t, rfl⟩, q⟩)
 · exact PySem.P.mul_str_none (by decide) (by decide) ⟨.str "", H, I.tok _, ⟨_, rfl⟩, q⟩
 · have hm : z.length * j.toNat ≤ 1000 * 1000 := Nat.mul_le_mul h4 (by omega)
   refine PySem.P.mul_str (by rw [decide_eq_false (by omega), decide_eq_false (by omega)]; rfl) (fun _ _ h => ?_) (fun _ _ => ?_) ?_
   · have h5 : (2 ^ 63 - 1) / j ≥ 9223372036854775 := (Int.le_ediv_iff_mul_le (by omega)).mpr (by omega)
     omega
   · exact decide_eq_false (by rw [sizeLine_eq]; omega)
   · rw [if_neg (by omega), if_neg (by
       rw [Bool.or_eq_true, not_or]
       exact ⟨by simp; omega, by simp; omega⟩)]
     exact ⟨by
       show (strMul z j.toNat).length ≤ sizeLine
       rw [strMul_len, sizeLine_eq, Nat.mul_comm]; omega, .str (strMul z j.toNat), H, I.tok _, ⟨_, rfl⟩, q⟩
abbrev rMulA (X : Cx) : R2 := fun x y H Q => rI CMulX (fun i j => .int (i * j)) x y H Q ∨ (rRepT X.K x y H Q ∨ (rRep1 X.K x y H Q ∨ (rRep x y H Q ∨ rStrM x y H Q)))
theorem or_mul : OpR X (binaryOp .Mult) (rMulA X) := op_mulX.or (op_repT.or (op_rep1.or (op_rep.or op_strM)))
theorem Reps.rep {k : Ky} {w : Wd} {ds : List D} {vs : List V} (r : Reps k w ds vs) : ∀ n : Nat, Reps k w (List.replicate n ds).flatten (List.replicate n vs).flatten
 | 0 => rfl
 | n + 1 => by
   rw [List.replicate_succ, List.replicate_succ, List.flatten_cons, List.flatten_cons]
   exact r.append (Reps.rep r n)
theorem op2_mul : Op2 X (rMulA X) mulD := by
 intro k P w env S σ H x y dx dy d Q hk I rx ry e q
 cases dx <;> cases dy <;> simp only [mulD] at e <;> try contradiction
 · split at e
   · rename_i h
     cases e
     have h : (decide (_ < 1000000) || (decide (_ < 63) || decide (_ < 63))) = true := h
     rw [Bool.or_eq_true, Bool.or_eq_true, decide_eq_true_eq, decide_eq_true_eq, decide_eq_true_eq] at h
     exact .inl ⟨_, _, rx, ry, h, q w _ H (Wd.Le.refl w) I rfl⟩
   · cases e
 · rename_i z j
   split at e
   · rename_i h
     cases e
     exact .inr (.inr (.inr (.inr ⟨z, j, rx, ry, .inl ⟨h, q w _ H (Wd.Le.refl w) I rfl⟩⟩)))
   · split at e
     · rename_i h
       cases e
       exact .inr (.inr (.inr (.inr ⟨z, j, rx, ry, .inr (.inl ⟨h, q w _ H (Wd.Le.refl w) I rfl⟩)⟩)))
     · split at e
       · rename_i h
         cases e
         exact .inr (.inr (.inr (.inr ⟨z, j, rx, ry, .inr (.inr ⟨h, q w _ H (Wd.Le.refl w) I rfl⟩)⟩)))
       · cases e
 · split at e
   · rename_i h
     cases e
     obtain ⟨h2, h3, h4⟩ := h
     rename_i l j
     obtain ⟨p, xs, rfl, hp, r1⟩ := rx
     have nil : xs = [] → l = [] := fun e => by subst e; exact reps_nil r1
     by_cases hx : xs = []
     · have e : (List.replicate j.toNat l).flatten = l := by rw [nil hx]; simp
       rw [e] at q
       exact .inr (.inr (.inl ⟨p, _, xs, rfl, ry, SqT.of (I.rs.frz _ _ hp), h2, by omega, .inl ⟨.inl hx, q w _ H (Wd.Le.refl w) I ⟨p, xs, rfl, hp, r1⟩⟩⟩))
     by_cases h5 : 2 ≤ j
     · refine .inr (.inl ⟨p, _, xs, rfl, ry, SqT.of (I.rs.frz _ _ hp), hx, h5, h3, by rw [r1.length]; exact h4, fun t ht => ?_⟩)
       exact q _ _ _ (I.le_grow ht) (I.grow ht) ⟨t, _, rfl, Wd.fz_at, (Reps.rep r1 _).mono (I.le_grow ht)⟩
     by_cases h6 : j = 1
     · subst h6
       have e : (List.replicate (1 : Int).toNat l).flatten = l := by simp
       rw [e] at q
       exact .inr (.inr (.inl ⟨p, _, xs, rfl, ry, SqT.of (I.rs.frz _ _ hp), h2, by omega, .inl ⟨.inr rfl, q w _ H (Wd.Le.refl w) I ⟨p, xs, rfl, hp, r1⟩⟩⟩))
     · have e : (List.replicate j.toNat l).flatten = [] := by rw [show j.toNat = 0 by omega]; rfl
       rw [e] at q
       exact .inr (.inr (.inl ⟨p, _, xs, rfl, ry, SqT.of (I.rs.frz _ _ hp), h2, by omega, .inr ⟨hx, by omega, fun t ht => q _ _ _ (I.le_grow ht) (I.grow ht) ⟨t, _, rfl, Wd.fz_at, rfl⟩⟩⟩))
   · cases e
 · split at e
   · rename_i h
     cases e
     obtain ⟨h1, h2, h3⟩ := h
     obtain ⟨p, xs, rfl, hp, r1⟩ := rx
     refine .inr (.inr (.inr (.inl ⟨p, _, xs, rfl, ry, hp, h1, h2, by rw [r1.length]; exact h3, fun t ht => ?_⟩)))
     exact q _ _ _ (I.le_grow ht) (I.grow ht) ⟨t, _, rfl, Wd.fz_at, (Reps.rep r1 _).mono (I.le_grow ht)⟩
   · cases e
theorem op1_neg : Op1 X (rU fun i => .int (-i)) negD := by
 intro k P w env S σ H x dx d Q hk I rx e q
 cases dx <;> simp only [negD] at e <;> try contradiction
 cases e
 exact ⟨_, rx, q w _ H (Wd.Le.refl w) I rfl⟩
theorem op2_le : Op2 X (rI0 fun i j => .bl (decide (i ≤ j))) leD := op2_ii0 fun _ _ _ _ => rfl
theorem op2_gt : Op2 X (rI0 fun i j => .bl (decide (j < i))) gtD := op2_ii0 fun _ _ _ _ => rfl
theorem op2_ge : Op2 X (rI0 fun i j => .bl (decide (j ≤ i))) geD := op2_ii0 fun _ _ _ _ => rfl
mutual
theorem toPy_ok : ∀ (n : Nat) (d : D), okD n d = true → (toPy d).canLay0 = true ∧ (toPy d).depth ≤ n
 | n, .non, _ => ⟨rfl, Nat.zero_le _⟩
 | n, .bl _, _ => ⟨rfl, Nat.zero_le _⟩
 | n, .int _, _ => ⟨rfl, Nat.zero_le _⟩
 | n, .str x, h => by
   have h : PyData.strOk x = true := by cases n <;> exact h
   exact ⟨h, Nat.zero_le _⟩
 | 0, .lst _, h => by cases h
 | 0, .rl _, h => by cases h
 | 0, .tup _, h => by cases h
 | 0, .rt _, h => by cases h
 | n + 1, .lst xs, h => let ⟨a, b⟩ := toPys_ok n xs h; ⟨a, Nat.succ_le_succ b⟩
 | n + 1, .rl xs, h => let ⟨a, b⟩ := toPys_ok n xs h; ⟨a, Nat.succ_le_succ b⟩
 | n + 1, .tup xs, h => let ⟨a, b⟩ := toPys_ok n xs h; ⟨a, Nat.succ_le_succ b⟩
 | n + 1, .rt xs, h => let ⟨a, b⟩ := toPys_ok n xs h; ⟨a, Nat.succ_le_succ b⟩
 | n, .dk _ _, h => by cases n <;> cases h
 | n, .dt _ _, h => by cases n <;> cases h
 | n, .ref _, h => by cases n <;> cases h
 | n, .own _, h => by cases n <;> cases h
theorem toPys_ok : ∀ (n : Nat) (ds : List D), okDs n ds = true → PyData.canLayAll0 (toPys ds) = true ∧ PyData.depthAll (toPys ds) ≤ n
 | n, [], _ => ⟨rfl, Nat.zero_le _⟩
 | n, x :: xs, h => by
   have h : (okD n x && okDs n xs) = true := by cases n <;> exact h
   rw [Bool.and_eq_true] at h
   obtain ⟨a, b⟩ := toPy_ok n x h.1
   obtain ⟨a2, b2⟩ := toPys_ok n xs h.2
   exact ⟨by show (_ && _) = true; rw [a, a2]; rfl, Nat.max_le.mpr ⟨b, b2⟩⟩
end
mutual
theorem eqv_eq : ∀ (n m : Nat) (a b : D), okD n a = true → okD m b = true → PyData.eqv (toPy a) (toPy b) = eqD a b
 | n, m, a, b, ha, hb => by
   cases a with
   | non => cases b <;> first | rfl | (cases m <;> cases hb)
   | bl x => cases b <;> first | rfl | (cases m <;> cases hb)
   | int x => cases b <;> first | rfl | (cases m <;> cases hb)
   | str x => cases b <;> first | rfl | (cases m <;> cases hb)
   | tup xs =>
     cases n with
     | zero => cases ha
     | succ n =>
       cases b with
       | tup ys => cases m with
         | zero => cases hb
         | succ m => exact eqvs_eq n m xs ys ha hb
       | rt ys => cases m with
         | zero => cases hb
         | succ m => exact eqvs_eq n m xs ys ha hb
       | _ => first | rfl | (cases m <;> cases hb)
   | rt xs =>
     cases n with
     | zero => cases ha
     | succ n =>
       cases b with
       | tup ys => cases m with
         | zero => cases hb
         | succ m => exact eqvs_eq n m xs ys ha hb
       | rt ys => cases m with
         | zero => cases hb
         | succ m => exact eqvs_eq n m xs ys ha hb
       | _ => first | rfl | (cases m <;> cases hb)
   | lst xs =>
     cases n with
     | zero => cases ha
     | succ n =>
       cases b with
       | lst ys => cases m with
         | zero => cases hb
         | succ m => exact eqvs_eq n m xs ys ha hb
       | rl ys => cases m with
         | zero => cases hb
         | succ m => exact eqvs_eq n m xs ys ha hb
       | _ => first | rfl | (cases m <;> cases hb)
   | rl xs =>
     cases n with
     | zero => cases ha
     | succ n =>
       cases b with
       | lst ys => cases m with
         | zero => cases hb
         | succ m => exact eqvs_eq n m xs ys ha hb
       | rl ys => cases m with
         | zero => cases hb
         | succ m => exact eqvs_eq n m xs ys ha hb
       | _ => first | rfl | (cases m <;> cases hb)
   | _ => cases n <;> cases ha
theorem eqvs_eq : ∀ (n m : Nat) (a b : List D), okDs n a = true → okDs m b = true → PyData.eqvAll (toPys a) (toPys b) = eqDs a b
 | n, m, [], [], _, _ => rfl
 | n, m, [], y :: ys, _, _ => rfl
 | n, m, x :: xs, [], _, _ => rfl
 | n, m, x :: xs, y :: ys, ha, hb => by
   have ha : (okD n x && okDs n xs) = true := by cases n <;> exact ha
   have hb : (okD m y && okDs m ys) = true := by cases m <;> exact hb
   rw [Bool.and_eq_true] at ha hb
   show (PyData.eqv _ _ && PyData.eqvAll _ _) = (eqD x y && eqDs xs ys)
   rw [eqv_eq n m x y ha.1 hb.1, eqvs_eq n m xs ys ha.2 hb.2]
end
mutual
theorem dp_rep {k : Ky} {w : Wd} : ∀ (n : Nat) (d : D) {v : V}, okD n d = true → Rep k w d v → Dp k.K w.F v (toPy d)
 | n, .non, v, _, r => by rw [show v = _ from r]; exact .non
 | n, .bl b, v, _, r => by rw [show v = _ from r]; exact .bl b
 | n, .int i, v, _, r => by rw [show v = _ from r]; exact .int i
 | n, .str x, v, _, r => by rw [show v = _ from r]; exact .str x
 | 0, .lst _, v, h, r => by cases h
 | 0, .rl _, v, h, r => by cases h
 | 0, .tup _, v, h, r => by cases h
 | 0, .rt _, v, h, r => by cases h
 | n + 1, .lst xs, v, h, r => by obtain ⟨a, vs, rfl, f, q⟩ := r; exact .lst (SqL.of f) (dp_reps n xs h q)
 | n + 1, .rl xs, v, h, r => by obtain ⟨a, vs, rfl, f, q⟩ := r; exact .lst f (dp_reps n xs h q)
 | n + 1, .tup xs, v, h, r => by obtain ⟨a, vs, rfl, f, q⟩ := r; exact .tup (SqT.of f) (dp_reps n xs h q)
 | n + 1, .rt xs, v, h, r => by obtain ⟨a, vs, rfl, f, q⟩ := r; exact .tup f (dp_reps n xs h q)
 | n, .dk _ _, v, h, r => by cases n <;> cases h
 | n, .dt _ _, v, h, r => by cases n <;> cases h
 | n, .ref _, v, h, r => by cases n <;> cases h
 | n, .own _, v, h, r => by cases n <;> cases h
theorem dp_reps {k : Ky} {w : Wd} : ∀ (n : Nat) (ds : List D) {vs : List V}, okDs n ds = true → Reps k w ds vs → DpAll k.K w.F vs (toPys ds)
 | n, [], vs, _, r => by rw [show vs = _ from r]; exact .nil
 | n, x :: xs, vs, h, r => by
   have h : (okD n x && okDs n xs) = true := by cases n <;> exact h
   rw [Bool.and_eq_true] at h
   obtain ⟨v, t, rfl, r1, r2⟩ := r
   exact .cons (dp_rep n x h.1 r1) (dp_reps n xs h.2 r2)
end
mutual
theorem dp_mono {K : PySem.W.Frag} {F H : Hp} (h : ∀ a o, F a = some o → H a = some o) : ∀ {v : V} (d : PyData), Dp K F v d → Dp K H v d
 | _, _, .non => .non
 | _, _, .bl b => .bl b
 | _, _, .int b => .int b
 | _, _, .str b => .str b
 | _, _, .lst q a => .lst (sqL_mono h q) (dps_mono h _ a)
 | _, _, .tup q a => .tup (sqT_mono h q) (dps_mono h _ a)
theorem dps_mono {K : PySem.W.Frag} {F H : Hp} (h : ∀ a o, F a = some o → H a = some o) : ∀ {v : List V} (d : List PyData), DpAll K F v d → DpAll K H v d
 | _, _, .nil => .nil
 | _, _, .cons a b => .cons (dp_mono h _ a) (dps_mono h _ b)
end
theorem dp_repH {k : Ky} {P : Hp} {w : Wd} {env : Envr} {S : Sto} {σ : L2.St} {H : Hp} {d : D} {v : V} (I : RB k P w env S σ H) (h : okD 64 d = true) (r : RepH k w H d v) : Dp k.K H v (toPy d) := by
 cases d with
 | lst xs => obtain ⟨a, vs, rfl, f, q⟩ := r; exact .lst (SqL.of f) (dps_mono I.rs.frz _ (dp_reps 63 xs h q))
 | own i => cases h
 | dk _ _ => cases h
 | dt _ _ => cases h
 | _ => exact dp_mono I.rs.frz _ (dp_rep 64 _ h r)
def rEqW (neg : Bool) (K : PySem.W.Frag) : R2 := fun x y H Q => ∃ d e, Dp K H x d ∧ Dp K H y e ∧ d.canLay0 = true ∧ e.canLay0 = true ∧ min d.depth e.depth ≤ 64 ∧ Q (.bl (neg != PyData.eqv d e)) H
theorem op_eqW (hu : X.A.units + 64 < cLine) : OpR X (compareOp .Eq) (rEqW false X.K) := by
 intro pins s σ H x y v u Q I rx ry h
 obtain ⟨d, e, hd, he, sd, se, sm, q⟩ := h
 obtain ⟨as, r1⟩ := Dp.reads I d x v hd rx
 obtain ⟨bs, r2⟩ := Dp.reads I e y u he ry
 exact SeqAt.compareEq_reads r1 r2 sd se (by omega) ⟨.bl _, H, I, rfl, by simpa using q⟩
theorem op_neW (hu : X.A.units + 64 < cLine) : OpR X (compareOp .NotEq) (rEqW true X.K) := by
 intro pins s σ H x y v u Q I rx ry h
 obtain ⟨d, e, hd, he, sd, se, sm, q⟩ := h
 obtain ⟨as, r1⟩ := Dp.reads I d x v hd rx
 obtain ⟨bs, r2⟩ := Dp.reads I e y u he ry
 exact SeqAt.compareNe_reads r1 r2 sd se (by omega) ⟨.bl _, H, I, rfl, by simpa using q⟩
def rEqN (neg : Bool) (K : PySem.W.Frag) : R2 := fun x y H Q => ∃ a b xs, x = .ref a ∧ y = .ref b ∧ ((SqL K H a xs ∧ SqL K H b []) ∨ (SqT K H a xs ∧ SqT K H b [])) ∧ Q (.bl (neg != xs.isEmpty)) H
theorem vals_emp {xs : List V} {us : List Value} (r : Vals xs us) : xs.isEmpty = (us.toArray.size == 0) := by
 cases r <;> rfl
theorem op_eqN (hu : X.A.units < cLine) : OpR X (compareOp .Eq) (rEqN false X.K) := by
 intro pins s σ H x y v u Q I rx ry h
 obtain ⟨a, b, xs, rfl, rfl, h, q⟩ := h
 cases rx; cases ry
 rcases h with ⟨h1, h2⟩ | ⟨h1, h2⟩
 · obtain ⟨its, r1, p1, _⟩ := I.list h1
   obtain ⟨its2, r2, p2, _⟩ := I.list h2
   cases r2
   rw [vals_emp r1] at q
   by_cases hz : its.toArray.size = 0
   · have e : (false != (its.toArray.size == 0)) = true := by rw [hz]; rfl
     rw [e] at q
     refine SeqAt.eq_listAt (e := fun _ => true) p1.isList p2.isList hz hu (fun j j1 j2 => absurd j2 (by simp)) ?_
     rw [hz]
     exact ⟨.bl true, H, I, rfl, q⟩
   · have e : (false != (its.toArray.size == 0)) = false := by simp at hz ⊢; simpa using hz
     rw [e] at q
     exact SeqAt.eq_list_lengthsAt p1.isList p2.isList (by simp at hz ⊢; simpa using hz) hu ⟨.bl false, H, I, rfl, q⟩
 · obtain ⟨its, r1, p1, _⟩ := I.tuple h1
   obtain ⟨its2, r2, p2, _⟩ := I.tuple h2
   cases r2
   rw [vals_emp r1] at q
   refine SeqAt.eq_tupleAt (e := fun _ => true) (show s.heap.IsTuple a its.toArray from p1) (show s.heap.IsTuple b (#[] : Array Value) from p2) hu (fun j j1 j2 => absurd j2 (by simp)) ?_
   refine ⟨.bl _, H, I, rfl, ?_⟩
   have e : ((List.range (min its.toArray.size (#[] : Array Value).size)).all (fun _ => true) && its.toArray.size == (#[] : Array Value).size) = (false != (its.toArray.size == 0)) := by simp
   rw [e]
   exact q
theorem op_neN (hu : X.A.units < cLine) : OpR X (compareOp .NotEq) (rEqN true X.K) := by
 intro pins s σ H x y v u Q I rx ry h
 obtain ⟨a, b, xs, rfl, rfl, h, q⟩ := h
 cases rx; cases ry
 rcases h with ⟨h1, h2⟩ | ⟨h1, h2⟩
 · obtain ⟨its, r1, p1, _⟩ := I.list h1
   obtain ⟨its2, r2, p2, _⟩ := I.list h2
   cases r2
   rw [vals_emp r1] at q
   by_cases hz : its.toArray.size = 0
   · have e : (true != (its.toArray.size == 0)) = false := by rw [hz]; rfl
     rw [e] at q
     refine SeqAt.RcNeAt.lists (e := fun _ => true) p1.isList p2.isList hz hu (fun j j1 j2 => absurd j2 (by simp)) _ _ _ _ ?_
     rw [hz]
     exact ⟨.bl false, H, I, rfl, q⟩
   · have e : (true != (its.toArray.size == 0)) = true := by simp at hz ⊢; simpa using hz
     rw [e] at q
     exact SeqAt.RcNeAt.lists_lengths p1.isList p2.isList (by simp at hz ⊢; simpa using hz) hu _ _ _ _ ⟨.bl true, H, I, rfl, q⟩
 · obtain ⟨its, r1, p1, _⟩ := I.tuple h1
   obtain ⟨its2, r2, p2, _⟩ := I.tuple h2
   cases r2
   rw [vals_emp r1] at q
   refine SeqAt.RcNeAt.tuples (e := fun _ => true) (show s.heap.IsTuple a its.toArray from p1) (show s.heap.IsTuple b (#[] : Array Value) from p2) hu (fun j j1 j2 => absurd j2 (by simp)) _ _ _ _ ?_
   refine ⟨.bl _, H, I, rfl, ?_⟩
   have e : (!((List.range (min its.toArray.size (#[] : Array Value).size)).all (fun _ => true) && its.toArray.size == (#[] : Array Value).size)) = (true != (its.toArray.size == 0)) := by simp
   rw [e]
   exact q
def rEqM (neg : Bool) : R2 := fun x y H Q => ∃ a b kvs, x = .ref a ∧ y = .ref b ∧ H a = some (.dK kvs) ∧ H b = some (.dK []) ∧ Q (.bl (neg != kvs.isEmpty)) H
theorem op_eqM (hu : X.A.units < cLine) : OpR X (compareOp .Eq) (rEqM false) := by
 intro pins s σ H x y v u Q I rx ry h
 obtain ⟨a, b, kvs, rfl, rfl, h1, h2, q⟩ := h
 cases rx; cases ry
 obtain ⟨_, m1, vs, r1, d1⟩ := dk_of I.hok h1
 obtain ⟨_, m2, us, r2, d2⟩ := dk_of I.hok h2
 cases r2
 have e : (vs.length == ([] : List (Key × Value)).length && true) = (false != kvs.isEmpty) := by
   rw [← r1.length]; cases kvs <;> simp
 refine PySem.W.keq_eq (r := true) m1 m2 d1 d2 hu (fun e => ?_) ?_
 · cases vs with
   | nil => exact .nil
   | cons _ _ => simp at e
 · rw [e]
   exact ⟨.bl _, H, I, rfl, q⟩
theorem op_neM (hu : X.A.units < cLine) : OpR X (compareOp .NotEq) (rEqM true) := by
 intro pins s σ H x y v u Q I rx ry h
 obtain ⟨a, b, kvs, rfl, rfl, h1, h2, q⟩ := h
 cases rx; cases ry
 obtain ⟨_, m1, vs, r1, d1⟩ := dk_of I.hok h1
 obtain ⟨_, m2, us, r2, d2⟩ := dk_of I.hok h2
 cases r2
 have e : (!(vs.length == ([] : List (Key × Value)).length && true)) = (true != kvs.isEmpty) := by
   rw [← r1.length]; cases kvs <;> simp
 refine PySem.W.keq_ne (r := true) m1 m2 d1 d2 hu (fun e => ?_) ?_
 · cases vs with
   | nil => exact .nil
   | cons _ _ => simp at e
 · rw [e]
   exact ⟨.bl _, H, I, rfl, q⟩
section
open SeqAt PySem.MeetsSeq PySem.MeetsSeq2 PySem.MeetsSeq3
theorem str_eq_declines_dict (b : Str) (u : Tok) (l : Addr) (c : Value) (es : Array DictEntry) (n : Nat) (dd : Option Addr) (sl : Array (Option Value)) :
   Meets (Builtin.«str.__eq__» ⟨[.str b u, .ref l], []⟩) (fun _ R s => s.heap.get? l = some { cls := c, dict := dd, data := .dict es n, slots := sl } ∧ R (.ok (.ret .notImplemented)) s) :=
 .of_wp fun prog w A R s h => by obtain ⟨hp, g, d, tk, os⟩ := s; obtain ⟨hl, h⟩ := h; wp_walk using wpAny_loadPart' hl, wpAny_load hl; exact ⟨_, rfl, h⟩
theorem str_ne_declines_dict (b : Str) (u : Tok) (l : Addr) (c : Value) (es : Array DictEntry) (n : Nat) (dd : Option Addr) (sl : Array (Option Value)) :
   Meets (Builtin.«str.__ne__» ⟨[.str b u, .ref l], []⟩) (fun _ R s => s.heap.get? l = some { cls := c, dict := dd, data := .dict es n, slots := sl } ∧ R (.ok (.ret .notImplemented)) s) :=
 .of_wp fun prog w A R s h => by obtain ⟨hp, g, d, tk, os⟩ := s; obtain ⟨hl, h⟩ := h; wp_walk using wpAny_loadPart' hl, wpAny_load hl; exact ⟨_, rfl, h⟩
theorem dict_eq_declines {P : Program} {w : World} {A : Around} {E : Value → Shared → Prop} {s : Shared} {l : Addr} {b : Str} {u : Tok} {Q : Value → Shared → Prop} (ht : s.TypeIs (.ref l) "dict") (q : Q .notImplemented s) : wpAny (model P w) A (call (.builtin "dict.__eq__") [.ref l, .str b u]) Q E s := by
 refine wpAny_call_entry PySem.F.slot_dict_eq ht PySem.F.entry_dict_eq ?_ (PySem.F.args_dict_eq_2 _ _)
 show wpAny _ _ (Builtin.Dict.dictSlotArgs "__eq__" ⟨[.ref l, .str b u], []⟩ >>= _) _ _ s
 refine wpAny_bind ?_
 unfold Builtin.Dict.dictSlotArgs
 refine wpAny_bind (wpAny_notOrdered_dict ht ?_)
 show wpAny _ _ (pure (Value.ref l, Value.str b u)) _ _ s
 refine wpAny_pure ?_
 refine wpAny_bind (wpAny_isInstance (T := "str") (typeIs_str s b u) PySem.F.sub_str_dict ?_)
 simp only [Bool.not_false, if_true]
 repeat wp_step
 exact ⟨_, rfl, q⟩
theorem RcAt.str_dict {A : Around} {s : Shared} {l : Addr} {o : Obj} {es : Array DictEntry} {n : Nat} (b : Str) (u : Tok) (ho : s.heap.get? l = some o) (hx : o.ExactDict) (hd : o.data = .dict es n) (hu : A.units < cLine) : PySem.SeqAt.RcAt A s (.str b u) (.ref l) false := fun prog w E Q h => by
 obtain ⟨cls, dd, data, sl⟩ := o
 obtain ⟨h1, h2, h3⟩ := hx
 simp only at h1 h2 h3 hd
 subst h1 h2 h3 hd
 exact rc_eq_decline_or (k := false) (typeIs_str s b u) ⟨_, ho, rfl⟩ (by decide) F.sub_dict_str F.slot_str_eq F.slot_dict_eq_refl
   (fun _ hq => call_meets F.slot_str_eq (typeIs_str s b u) F.entry_str_eq (F.args_str_eq_2 _ _) (str_eq_declines_dict b u l (.type "dict") es n none #[]) ⟨ho, hq⟩)
   (fun _ hq => dict_eq_declines ⟨_, ho, rfl⟩ hq)
   (fun _ hq => wpAny_of_eq (rfl : isSame (.str b u) (.ref l) = pure false) hq) (.inr hu) h
theorem dict_ne_declines {P : Program} {w : World} {A : Around} {E : Value → Shared → Prop} {s : Shared} {l : Addr} {b : Str} {u : Tok} {Q : Value → Shared → Prop} (ht : s.TypeIs (.ref l) "dict") (q : Q .notImplemented s) : wpAny (model P w) A (call (.builtin "dict.__ne__") [.ref l, .str b u]) Q E s := by
 refine wpAny_call_entry PySem.F.slot_dict_ne ht PySem.F.entry_dict_ne ?_ (PySem.F.args_dict_ne_2 _ _)
 show wpAny _ _ (Builtin.Dict.dictSlotArgs "__ne__" ⟨[.ref l, .str b u], []⟩ >>= _) _ _ s
 refine wpAny_bind ?_
 unfold Builtin.Dict.dictSlotArgs
 refine wpAny_bind (wpAny_notOrdered_dict ht ?_)
 show wpAny _ _ (pure (Value.ref l, Value.str b u)) _ _ s
 refine wpAny_pure ?_
 refine wpAny_bind (wpAny_isInstance (T := "str") (typeIs_str s b u) PySem.F.sub_str_dict ?_)
 simp only [Bool.not_false, if_true]
 repeat wp_step
 exact ⟨_, rfl, q⟩
theorem RcNeAt.str_dict {A : Around} {s : Shared} {l : Addr} {o : Obj} {es : Array DictEntry} {n : Nat} (b : Str) (u : Tok) (ho : s.heap.get? l = some o) (hx : o.ExactDict) (hd : o.data = .dict es n) (hu : A.units < cLine) : PySem.SeqAt.RcNeAt A s (.str b u) (.ref l) true := fun prog w E Q h => by
 obtain ⟨cls, dd, data, sl⟩ := o
 obtain ⟨h1, h2, h3⟩ := hx
 simp only at h1 h2 h3 hd
 subst h1 h2 h3 hd
 exact rc_ne_decline_or (k := false) (typeIs_str s b u) ⟨_, ho, rfl⟩ (by decide) F.sub_dict_str F.slot_str_ne F.slot_dict_ne_refl
   (fun _ hq => call_meets F.slot_str_ne (typeIs_str s b u) F.entry_str_ne (F.args_str_ne_2 _ _) (str_ne_declines_dict b u l (.type "dict") es n none #[]) ⟨ho, hq⟩)
   (fun _ hq => dict_ne_declines ⟨_, ho, rfl⟩ hq)
   (fun _ hq => wpAny_of_eq (rfl : isSame (.str b u) (.ref l) = pure false) hq) (.inr hu) h
def rEqS (neg : Bool) (K : PySem.W.Frag) : R2 := fun x y H Q => ∃ t b, x = .str t ∧ y = .ref b ∧ ((∃ xs, SqL K H b xs) ∨ (∃ xs, SqT K H b xs) ∨ ∃ kvs, H b = some (.dK kvs)) ∧ Q (.bl neg) H
theorem op_eqS (hu : X.A.units < cLine) : OpR X (compareOp .Eq) (rEqS false X.K) := by
 intro pins s σ H x y v u Q I rx ry h
 obtain ⟨t, b, rfl, rfl, h, q⟩ := h
 obtain ⟨tk, rfl⟩ := rx
 cases ry
 rcases h with ⟨xs, h⟩ | ⟨xs, h⟩ | ⟨kvs, h⟩
 · obtain ⟨its, _, p1, _⟩ := I.list h
   exact PySem.SeqAt.RcAt.str_list t tk p1.isList hu _ _ _ _ ⟨.bl false, H, I, rfl, q⟩
 · obtain ⟨its, _, p1, _⟩ := I.tuple h
   exact PySem.SeqAt.RcAt.str_tuple t tk p1 hu _ _ _ _ ⟨.bl false, H, I, rfl, q⟩
 · obtain ⟨_, _, _, _, o, es, ep, ho, hx, hd, _⟩ := dk_of I.hok h
   exact RcAt.str_dict t tk ho hx hd hu _ _ _ _ ⟨.bl false, H, I, rfl, q⟩
theorem op_neS (hu : X.A.units < cLine) : OpR X (compareOp .NotEq) (rEqS true X.K) := by
 intro pins s σ H x y v u Q I rx ry h
 obtain ⟨t, b, rfl, rfl, h, q⟩ := h
 obtain ⟨tk, rfl⟩ := rx
 cases ry
 rcases h with ⟨xs, h⟩ | ⟨xs, h⟩ | ⟨kvs, h⟩
 · obtain ⟨its, _, p1, _⟩ := I.list h
   exact RcNeAt.str_list t tk p1.isList hu _ _ _ _ ⟨.bl true, H, I, rfl, q⟩
 · obtain ⟨its, _, p1, _⟩ := I.tuple h
   exact RcNeAt.str_tuple t tk p1 hu _ _ _ _ ⟨.bl true, H, I, rfl, q⟩
 · obtain ⟨_, _, _, _, o, es, ep, ho, hx, hd, _⟩ := dk_of I.hok h
   exact RcNeAt.str_dict t tk ho hx hd hu _ _ _ _ ⟨.bl true, H, I, rfl, q⟩
end
abbrev rEqA (X : Cx) : R2 := fun x y H Q => rEq x y H Q ∨ (rEqW false X.K x y H Q ∨ (rEqN false X.K x y H Q ∨ (rEqM false x y H Q ∨ (rEqS false X.K x y H Q ∨ rEqT false X.K x y H Q))))
abbrev rNeA (X : Cx) : R2 := fun x y H Q => rNe x y H Q ∨ (rEqW true X.K x y H Q ∨ (rEqN true X.K x y H Q ∨ (rEqM true x y H Q ∨ (rEqS true X.K x y H Q ∨ rEqT true X.K x y H Q))))
theorem dp_repB {k : Ky} {P : Hp} {w : Wd} {env : Envr} {S : Sto} {σ : L2.St} {H : Hp} {d : D} {v : V} (n : Nat) (I : RB k P w env S σ H) (h : okD n d = true) (r : RepH k w H d v) : Dp k.K H v (toPy d) := by
 cases d with
 | lst xs =>
   obtain ⟨a, vs, rfl, f, q⟩ := r
   cases n with
   | zero => cases h
   | succ n => exact .lst (SqL.of f) (dps_mono I.rs.frz _ (dp_reps n xs h q))
 | own i => cases n <;> cases h
 | dk _ _ => cases n <;> cases h
 | dt _ _ => cases n <;> cases h
 | _ => exact dp_mono I.rs.frz _ (dp_rep n _ h r)
theorem reps_emp {k : Ky} {w : Wd} {ds : List D} {vs : List V} (r : Reps k w ds vs) : vs.isEmpty = ds.isEmpty := by
 cases ds with
 | nil => rw [show vs = [] from r]; rfl
 | cons d ds => obtain ⟨_, _, rfl, _⟩ := r; rfl
def mkT : List (List Key × V) → List D → List TPr
 | p :: k1, d :: ds => (p.1, p.2, toPy d) :: mkT k1 ds
 | _, _ => []
theorem mkT_ok {k : Ky} {P : Hp} {w : Wd} {env : Envr} {S : Sto} {σ : L2.St} {H : Hp} (I : RB k P w env S σ H) : ∀ {k1 : List (List Key × V)} {ds : List D}, Reps k w ds (k1.map (·.2)) → okDs 60 ds = true → kvT (mkT k1 ds) = k1 ∧ okTP k.K H (mkT k1 ds)
 | [], ds, r, _ => by
   cases ds with
   | nil => exact ⟨rfl, fun _ h => nomatch h⟩
   | cons d ds => obtain ⟨_, _, e, _⟩ := r; cases e
 | p :: k1, [], r, _ => by cases (show (p :: k1).map (·.2) = [] from r)
 | p :: k1, d :: ds, r, ho => by
   obtain ⟨v, vs, e, r1, r2⟩ := r
   rw [List.map_cons] at e
   injection e with e1 e2
   subst e1 e2
   rw [okDs, Bool.and_eq_true] at ho
   obtain ⟨h1, h2⟩ := mkT_ok I r2 ho.2
   refine ⟨?_, fun x hx => ?_⟩
   · show (p.1, p.2) :: kvT (mkT k1 ds) = _
     rw [h1]
   · rcases List.mem_cons.mp hx with rfl | hx
     · exact ⟨dp_mono I.rs.frz _ (dp_rep 60 d ho.1 r1), (toPy_ok 60 d ho.1).1, (toPy_ok 60 d ho.1).2⟩
     · exact h2 x hx
theorem mkT_hit {q : List Key} {v : V} {d : D} (hd : okD 60 d = true) : ∀ {k2 : List (List Key × V)} {ds : List D}, okDs 60 ds = true → hitT (mkT k2 ds) (q, v, toPy d) = hitD (k2.map (·.1)) ds q d
 | [], _, _ => rfl
 | p :: k2, [], _ => rfl
 | p :: k2, x :: ds, ho => by
   rw [okDs, Bool.and_eq_true] at ho
   have ih := mkT_hit (q := q) (v := v) hd (k2 := k2) ho.2
   unfold hitT hitD at ih ⊢
   rw [List.map_cons]
   unfold mkT lookT
   rw [List.find?_cons]
   by_cases e : p.1 = q
   · rw [decide_eq_true e, if_pos e]
     exact eqv_eq 60 60 d x hd ho.1
   · rw [decide_eq_false e, if_neg e]
     exact ih
theorem mkT_all {k2 : List (List Key × V)} {ds' : List D} (ho' : okDs 60 ds' = true) : ∀ {k1 : List (List Key × V)} {ds : List D}, okDs 60 ds = true → (mkT k1 ds).all (hitT (mkT k2 ds')) = hitsD (k2.map (·.1)) ds' (k1.map (·.1)) ds
 | [], _, _ => rfl
 | p :: k1, [], _ => rfl
 | p :: k1, d :: ds, ho => by
   rw [okDs, Bool.and_eq_true] at ho
   show (hitT (mkT k2 ds') (p.1, p.2, toPy d) && (mkT k1 ds).all (hitT (mkT k2 ds'))) = (hitD (k2.map (·.1)) ds' p.1 d && hitsD (k2.map (·.1)) ds' (k1.map (·.1)) ds)
   rw [mkT_hit ho.1 ho', mkT_all ho' ho.2]
theorem mkT_len {k : Ky} {w : Wd} {k1 : List (List Key × V)} {ds : List D} (h : kvT (mkT k1 ds) = k1) : (mkT k1 ds).length = (k1.map (·.1)).length := by
 have := congrArg List.length h
 unfold kvT at this
 rw [List.length_map] at this
 rw [this, List.length_map]
theorem op2_eqD (neg : Bool) : Op2 X (fun x y H Q => (scal x y = true ∧ Q (.bl (neg != decide (x = y))) H) ∨ (rEqW neg X.K x y H Q ∨ (rEqN neg X.K x y H Q ∨ (rEqM neg x y H Q ∨ (rEqS neg X.K x y H Q ∨ rEqT neg X.K x y H Q))))) (cmpEq neg) := by
 intro k P w env S σ H x y dx dy d Q hk I rx ry e q
 have two : ∀ n m, min n m ≤ 64 → okD n dx = true → okD m dy = true → D.bl (neg != eqD dx dy) = d → rEqW neg X.K x y H Q := by
   intro n m hnm c1 c2 e
   subst e
   obtain ⟨a1, a2⟩ := toPy_ok n dx c1
   obtain ⟨b1, b2⟩ := toPy_ok m dy c2
   refine ⟨toPy dx, toPy dy, hk ▸ dp_repB n I c1 rx, hk ▸ dp_repB m I c2 ry, a1, b1, by omega, ?_⟩
   rw [eqv_eq n m dx dy c1 c2]
   exact q w _ H (Wd.Le.refl w) I rfl
 have deep : (if (okD 64 dx && okD 100000 dy) || (okD 100000 dx && okD 64 dy) then some (D.bl (neg != eqD dx dy)) else none) = some d → rEqW neg X.K x y H Q := by
   intro e
   by_cases c : ((okD 64 dx && okD 100000 dy) || (okD 100000 dx && okD 64 dy)) = true
   · rw [if_pos c] at e
     rw [Bool.or_eq_true, Bool.and_eq_true, Bool.and_eq_true] at c
     rcases c with ⟨c1, c2⟩ | ⟨c1, c2⟩
     · exact two 64 100000 (by decide) c1 c2 (Option.some.inj e)
     · exact two 100000 64 (by decide) c1 c2 (Option.some.inj e)
   · rw [if_neg c] at e; cases e
 unfold cmpEq at e
 split at e
 · cases e
   have rx : x = _ := rx
   have ry : y = _ := ry
   subst rx ry
   refine .inl ⟨rfl, ?_⟩
   rw [show decide (V.str _ = V.str _) = decide (_ = _) from decide_eq_decide.mpr ⟨fun h => V.str.inj h, fun h => by rw [h]⟩]
   exact q w _ H (Wd.Le.refl w) I rfl
 all_goals first
   | exact .inr (.inl (deep e))
   | (cases e
      have rx : x = _ := rx
      obtain ⟨a2, vs2, rfl, f2, r2⟩ := ry
      subst rx
      exact .inr (.inr (.inr (.inr (.inl ⟨_, a2, rfl, rfl, .inl ⟨vs2, SqL.of f2⟩, q w _ H (Wd.Le.refl w) I rfl⟩)))))
   | (cases e
      have rx : x = _ := rx
      obtain ⟨a2, vs2, rfl, f2, r2⟩ := ry
      subst rx
      exact .inr (.inr (.inr (.inr (.inl ⟨_, a2, rfl, rfl, .inr (.inl ⟨vs2, SqT.of (I.rs.frz _ _ f2)⟩), q w _ H (Wd.Le.refl w) I rfl⟩)))))
   | (cases e
      have rx : x = _ := rx
      obtain ⟨a2, k2, rfl, f2, e2, r2⟩ := ry
      subst rx
      exact .inr (.inr (.inr (.inr (.inl ⟨_, a2, rfl, rfl, .inr (.inr ⟨k2, f2⟩), q w _ H (Wd.Le.refl w) I rfl⟩)))))
   | (cases e
      obtain ⟨a1, vs1, rfl, f1, r1⟩ := rx
      obtain ⟨a2, vs2, rfl, f2, r2⟩ := ry
      cases (show vs2 = [] from r2)
      refine .inr (.inr (.inl ⟨a1, a2, vs1, rfl, rfl, .inl ⟨SqL.of f1, SqL.of f2⟩, ?_⟩))
      rw [reps_emp r1]
      exact q w _ H (Wd.Le.refl w) I rfl)
   | (cases e
      obtain ⟨a1, vs1, rfl, f1, r1⟩ := rx
      obtain ⟨a2, vs2, rfl, f2, r2⟩ := ry
      cases (show vs2 = [] from r2)
      refine .inr (.inr (.inl ⟨a1, a2, vs1, rfl, rfl, .inr ⟨SqT.of (I.rs.frz _ _ f1), SqT.of (I.rs.frz _ _ f2)⟩, ?_⟩))
      rw [reps_emp r1]
      exact q w _ H (Wd.Le.refl w) I rfl)
   | (cases e
      obtain ⟨a1, k1, rfl, f1, e1, r1⟩ := rx
      obtain ⟨a2, k2, rfl, f2, e2, r2⟩ := ry
      cases (List.map_eq_nil_iff.mp e2)
      refine .inr (.inr (.inr (.inl ⟨a1, a2, k1, rfl, rfl, f1, f2, ?_⟩)))
      rw [show k1.isEmpty = (k1.map (·.1)).isEmpty by cases k1 <;> rfl, e1]
      exact q w _ H (Wd.Le.refl w) I rfl)
   | (obtain ⟨a1, k1, rfl, f1, e1, r1⟩ := rx
      obtain ⟨a2, k2, rfl, f2, e2, r2⟩ := ry
      split at e
      · rename_i c
        rw [Bool.and_eq_true] at c
        cases e
        obtain ⟨m1, o1⟩ := mkT_ok I r1 c.1
        obtain ⟨m2, o2⟩ := mkT_ok I r2 c.2
        refine .inr (.inr (.inr (.inr (.inr ⟨a1, a2, _, _, rfl, rfl, by rw [m1]; exact f1, by rw [m2]; exact f2, hk ▸ o1, hk ▸ o2, ?_⟩))))
        unfold dtE
        rw [mkT_all c.2 c.1, mkT_len (k := k) (w := w) m1, mkT_len (k := k) (w := w) m2, e1, e2]
        exact q w _ H (Wd.Le.refl w) I rfl
      · cases e)
   | (cases e
      have rx : x = _ := rx
      have ry : y = _ := ry
      subst rx ry
      refine .inl ⟨rfl, ?_⟩
      rw [decide_eq_false (by intro z; cases z)]
      exact q w _ H (Wd.Le.refl w) I (by show _ = V.bl _; cases neg <;> rfl))
theorem or_eq (hu : X.A.units + 64 < cLine) : OpR X (compareOp .Eq) (rEqA X) := op_eq.or ((op_eqW hu).or ((op_eqN (by omega)).or ((op_eqM (by omega)).or ((op_eqS (by omega)).or (op_eqT hu)))))
theorem or_ne (hu : X.A.units + 64 < cLine) : OpR X (compareOp .NotEq) (rNeA X) := op_ne.or ((op_neW hu).or ((op_neN (by omega)).or ((op_neM (by omega)).or ((op_neS (by omega)).or (op_neT hu)))))
theorem op2_eq : Op2 X (rEqA X) (cmpEq false) := by
 intro k P w env S σ H x y dx dy d Q hk I rx ry e q
 rcases op2_eqD false k P w env S σ H x y dx dy d Q hk I rx ry e q with ⟨h1, h2⟩ | h
 · exact .inl ⟨h1, by simpa using h2⟩
 · exact .inr h
theorem op2_ne : Op2 X (rNeA X) (cmpEq true) := by
 intro k P w env S σ H x y dx dy d Q hk I rx ry e q
 rcases op2_eqD true k P w env S σ H x y dx dy d Q hk I rx ry e q with ⟨h1, h2⟩ | h
 · exact .inl ⟨h1, by simpa using h2⟩
 · exact .inr h
def rLtD (K : PySem.W.Frag) : R2 := fun x y H Q => ∃ d e, Dp K H x d ∧ Dp K H y e ∧ PySem.W.alike d e = true ∧ d ≠ .none ∧ min d.depth e.depth ≤ 64 ∧ Q (.bl (PySem.W.dataLt d e)) H
theorem op_ltD (hu : X.A.units + 64 < cLine) : OpR X (compareOp .Lt) (rLtD X.K) := by
 intro pins s σ H x y v u Q I rx ry h
 obtain ⟨d, e, hd, he, al, ne, sm, q⟩ := h
 obtain ⟨as, r1⟩ := Dp.reads I d x v hd rx
 obtain ⟨bs, r2⟩ := Dp.reads I e y u he ry
 exact PySem.W.rcLt_alike d e X.A s v u as bs r1 r2 al ne (by omega) X.prog X.w X.xe _ ⟨.bl _, H, I, rfl, q⟩
abbrev rLtA (X : Cx) : R2 := fun x y H Q => (rI0 (fun i j => .bl (decide (i < j))) x y H Q ∨ (∃ i j, x = .str i ∧ y = .str j ∧ Q (.bl (decide (i.cps.toList < j.cps.toList))) H)) ∨ rLtD X.K x y H Q
theorem op2_lt : Op2 X (rLtA X) ltD := by
 intro k P w env S σ H x y dx dy d Q hk I rx ry e q
 unfold ltD at e
 split at e
 · cases e; exact .inl (.inl ⟨_, _, rx, ry, q w _ H (Wd.Le.refl w) I rfl⟩)
 · cases e; exact .inl (.inr ⟨_, _, rx, ry, q w _ H (Wd.Le.refl w) I rfl⟩)
 · rename_i a b
   split at e
   · rename_i hc
     rw [Bool.and_eq_true, Bool.and_eq_true] at hc
     obtain ⟨h1, h2, h3⟩ := hc
     cases e
     have g1 : okD 61 (.lst a) = true := by rw [okD]; exact h1
     have g2 : okD 61 (.lst b) = true := by rw [okD]; exact h2
     exact .inr ⟨_, _, hk ▸ dp_repB 61 I g1 rx, hk ▸ dp_repB 61 I g2 ry, h3, (fun z => by simp [toPy] at z), Nat.le_trans (Nat.min_le_left _ _) (Nat.le_trans (toPy_ok 61 _ g1).2 (by decide)), q w _ H (Wd.Le.refl w) I rfl⟩
   · cases e
 · rename_i a b
   split at e
   · rename_i hc
     rw [Bool.and_eq_true, Bool.and_eq_true] at hc
     obtain ⟨h1, h2, h3⟩ := hc
     cases e
     have g1 : okD 61 (.tup a) = true := by rw [okD]; exact h1
     have g2 : okD 61 (.tup b) = true := by rw [okD]; exact h2
     exact .inr ⟨_, _, hk ▸ dp_repB 61 I g1 rx, hk ▸ dp_repB 61 I g2 ry, h3, (fun z => by simp [toPy] at z), Nat.le_trans (Nat.min_le_left _ _) (Nat.le_trans (toPy_ok 61 _ g1).2 (by decide)), q w _ H (Wd.Le.refl w) I rfl⟩
   · cases e
 · cases e
theorem or_lt (hu : X.A.units + 64 < cLine) : OpR X (compareOp .Lt) (rLtA X) := (op_lt.or op_lt_str).or (op_ltD hu)
end
end L2.MP
end
section
namespace L2.MP
open PySem PySem.Spec PyProof.Rows
theorem seqL_of {k : Ky} {P : Hp} {w : Wd} {env : Envr} {S : Sto} {σ : L2.St} {H : Hp} {d : D} {v : V} {l : List D} (I : RB k P w env S σ H) (r : RepH k w H d v) (e : d = .lst l ∨ d = .rl l) : ∃ a vs, v = .ref a ∧ SqL k.K H a vs ∧ Reps k w l vs := by
 rcases e with rfl | rfl
 · obtain ⟨a, vs, rfl, h, q⟩ := r; exact ⟨a, vs, rfl, SqL.of h, q⟩
 · obtain ⟨a, vs, rfl, h, q⟩ := r; exact ⟨a, vs, rfl, sqL_mono I.rs.frz h, q⟩
theorem seqT_of {k : Ky} {P : Hp} {w : Wd} {env : Envr} {S : Sto} {σ : L2.St} {H : Hp} {d : D} {v : V} {l : List D} (I : RB k P w env S σ H) (r : RepH k w H d v) (e : d = .tup l ∨ d = .rt l) : ∃ a vs, v = .ref a ∧ SqT k.K H a vs ∧ Reps k w l vs := by
 rcases e with rfl | rfl
 · obtain ⟨a, vs, rfl, h, q⟩ := r; exact ⟨a, vs, rfl, SqT.of (I.rs.frz _ _ h), q⟩
 · obtain ⟨a, vs, rfl, h, q⟩ := r; exact ⟨a, vs, rfl, sqT_mono I.rs.frz h, q⟩
theorem flat_rep {k : Ky} {w : Wd} {d : D} {v : V} (h : flatD d = true) (r : Rep k w d v) : flatV v = true := by
 cases d <;> first | (rw [show v = _ from r]; rfl) | cases h
theorem flats_rep {k : Ky} {w : Wd} : ∀ {ds : List D} {vs : List V}, ds.all flatD = true → Reps k w ds vs → vs.all flatV = true
 | [], _, _, r => by rw [show _ = _ from r]; rfl
 | d :: ds, _, h, r => by
   obtain ⟨v, t, rfl, r1, r2⟩ := r
   rw [List.all_cons, Bool.and_eq_true] at h ⊢
   exact ⟨flat_rep h.1 r1, flats_rep h.2 r2⟩
theorem eqV_rep {k : Ky} {w : Wd} {d e : D} {v u : V} (h : flatD d = true) (g : flatD e = true) (r : Rep k w d v) (q : Rep k w e u) : eqV v u = eqD d e := by
 cases d with
 | non => cases e <;> first | (rw [show v = _ from r, show u = _ from q]; rfl) | cases g
 | bl b => cases e <;> first | (rw [show v = _ from r, show u = _ from q]; rfl) | cases g
 | int b => cases e <;> first | (rw [show v = _ from r, show u = _ from q]; rfl) | cases g
 | str b => cases e <;> first | (rw [show v = _ from r, show u = _ from q]; rfl) | cases g
 | _ => cases h
theorem inV_rep {k : Ky} {w : Wd} {d : D} {v : V} (h : flatD d = true) (r : Rep k w d v) : ∀ {ds : List D} {vs : List V}, ds.all flatD = true → Reps k w ds vs → inV v vs = memD d ds
 | [], _, _, q => by rw [show _ = _ from q]; rfl
 | e :: ds, _, g, q => by
   obtain ⟨u, t, rfl, r1, r2⟩ := q
   rw [List.all_cons, Bool.and_eq_true] at g
   have ih := inV_rep h r g.2 r2
   unfold inV memD at *
   rw [List.any_cons, List.any_cons, ih, eqV_rep g.1 h r1 r]
theorem flat_repH {k : Ky} {w : Wd} {H : Hp} {d : D} {v : V} (h : flatD d = true) (r : RepH k w H d v) : Rep k w d v := by
 cases d <;> first | exact r | cases h
theorem keyOf_rep {k : Ky} {w : Wd} {d : D} {v : V} {q : Key} (e : keyOf d = some q) (r : Rep k w d v) : v = kV q := by
 cases d <;> simp only [keyOf] at e <;> first | (cases e; exact r) | cases e
theorem keysOf_rep {k : Ky} {w : Wd} : ∀ {ds : List D} {vs : List V} {q : List Key}, keysOf ds = some q → Reps k w ds vs → vs = q.map kV
 | [], _, _, e, r => by rw [show _ = _ from r]; cases e; rfl
 | d :: ds, _, _, e, r => by
   obtain ⟨v, t, rfl, r1, r2⟩ := r
   unfold keysOf at e
   split at e
   · rename_i a as h1 h2
     cases e
     rw [keyOf_rep h1 r1, keysOf_rep h2 r2]; rfl
   · cases e
theorem valV_cons {κ : Type} [DecidableEq κ] {a q : κ} {v : V} {kvs : List (κ × V)} : valV ((a, v) :: kvs) q = if a = q then some v else valV kvs q := by
 unfold valV
 rw [List.find?_cons]
 by_cases h : a = q
 · simp [h]
 · simp [h]
theorem look_rep {κ : Type} [DecidableEq κ] {k : Ky} {w : Wd} {q : κ} : ∀ {kvs : List (κ × V)} {ds : List D}, Reps k w ds (kvs.map (·.2)) → (∀ d, lookK q (kvs.map (·.1)) ds = some d → ∃ v, valV kvs q = some v ∧ Rep k w d v) ∧ (lookK q (kvs.map (·.1)) ds = none → valV kvs q = none)
 | [], ds, r => by
   refine ⟨fun d e => ?_, fun _ => rfl⟩
   cases ds <;> cases e
 | (a, v) :: kvs, [], r => by
   have r : (((a, v) :: kvs).map (·.2)) = ([] : List V) := r
   cases r
 | (a, v) :: kvs, d :: ds, r => by
   obtain ⟨v', t, e, r1, r2⟩ := r
   rw [List.map_cons] at e
   obtain ⟨e1, e2⟩ := List.cons.inj e
   have e1 : v = v' := e1
   subst e1
   rw [← e2] at r2
   obtain ⟨i1, i2⟩ := look_rep (q := q) r2
   rw [List.map_cons, valV_cons]
   show (∀ d', (if a = q then some d else lookK q (kvs.map (·.1)) ds) = some d' → _) ∧ ((if a = q then some d else lookK q (kvs.map (·.1)) ds) = none → _)
   by_cases h : a = q
   · rw [if_pos h, if_pos h]
     exact ⟨fun d' e => by cases e; exact ⟨v, rfl, r1⟩, fun e => by cases e⟩
   · rw [if_neg h, if_neg h]
     exact ⟨i1, i2⟩
section
variable {X : Cx} {k : Ky} {W : WX} {a b c : Expr} {ma mb mc : M D} {pos : Pos}
abbrev rInA (X : Cx) (neg : Bool) : R2 := fun x y H Q => (∃ (c : Nat) (z : Str), x = .str ⟨#[c]⟩ ∧ y = .str z ∧ Q (.bl (neg != decide (c ∈ z.cps.toList))) H) ∨
 ((∃ p xs, y = .ref p ∧ (SqL X.K H p xs ∨ SqT X.K H p xs) ∧ flatV x = true ∧ xs.all flatV = true ∧ Q (.bl (neg != inV x xs)) H) ∨
 ((∃ d ds, Dp X.K H x d ∧ Dp X.K H y (.list ds) ∧ SeqAt.shaped d = true ∧ SeqAt.shaped (.list ds) = true ∧ Q (.bl (neg != ds.any fun z => PyData.eqv z d)) H) ∨
 ((∃ a o, y = .ref a ∧ DGet H a x o ∧ Q (.bl (neg != o.isSome)) H) ∨
 ∃ z1 z2, x = .str z1 ∧ y = .str z2 ∧ Q (.bl (neg != hasS z2 z1)) H)))
theorem has_occ (x y : Str) : (!(PySem.Builtin.Str.occurrences x y 0 x.length 1).isEmpty) = hasS x y := by
 have h := PySem.StrLaws.found_iff x y
 have h2 : hasS x y = true ↔ ∃ i, i + y.length ≤ x.length ∧ PySem.Builtin.Str.subAt x y i = true := by
   unfold hasS
   rw [List.any_eq_true]
   constructor
   · rintro ⟨i, _, hi⟩
     rw [Bool.and_eq_true] at hi
     exact ⟨i, of_decide_eq_true hi.1, hi.2⟩
   · rintro ⟨i, h1, h2⟩
     exact ⟨i, List.mem_range.mpr (by omega), by rw [Bool.and_eq_true]; exact ⟨decide_eq_true h1, h2⟩⟩
 cases e : hasS x y with
 | true => exact h.mpr (h2.mp e)
 | false =>
   cases e2 : (!(PySem.Builtin.Str.occurrences x y 0 x.length 1).isEmpty) with
   | false => rfl
   | true => exact absurd (h2.mpr (h.mp e2)) (by rw [e]; simp)
theorem op_in_has {X : Cx} : OpR X (compareOp .In) (fun x y H Q => ∃ z1 z2, x = .str z1 ∧ y = .str z2 ∧ Q (.bl (hasS z2 z1)) H) := by
 intro pins s σ H x y v u Q I rx ry h
 obtain ⟨c, z, rfl, rfl, q⟩ := h
 obtain ⟨t, rfl⟩ := rx
 obtain ⟨t', rfl⟩ := ry
 exact PyProof.Rows.in_str (fin_bl I q (has_occ z c).symm)
theorem op_notIn_has {X : Cx} : OpR X (compareOp .NotIn) (fun x y H Q => ∃ z1 z2, x = .str z1 ∧ y = .str z2 ∧ Q (.bl (!hasS z2 z1)) H) := by
 intro pins s σ H x y v u Q I rx ry h
 obtain ⟨c, z, rfl, rfl, q⟩ := h
 obtain ⟨t, rfl⟩ := rx
 obtain ⟨t', rfl⟩ := ry
 exact PyProof.Rows.notIn_str (fin_bl I q (congrArg Bool.not (has_occ z c).symm))
theorem bxt (b : Bool) : (true != b) = !b := by cases b <;> rfl
theorem bxf (b : Bool) : (false != b) = b := by cases b <;> rfl
theorem or_in (hu : X.A.units + 65 < cLine) : OpR X (compareOp .In) (rInA X false) := by
 intro pins s σ H x y v u Q I rx ry h
 rcases h with ⟨c, z, e1, e2, q⟩ | ⟨p, xs, e1, h1, h2, h3, q⟩ | ⟨d, ds, h1, h2, h3, h4, q⟩ | ⟨a, o, rfl, h1, q⟩ | ⟨z1, z2, e1, e2, q⟩
 · exact op_in_sign pins s σ H x y v u Q I rx ry ⟨c, z, e1, e2, by rw [bxf] at q; exact q⟩
 · exact op_in_seq pins s σ H x y v u Q I rx ry ⟨p, xs, e1, h1, h2, h3, by rw [bxf] at q; simpa using q⟩
 · exact op_inD hu pins s σ H x y v u Q I rx ry ⟨d, ds, h1, h2, h3, h4, by rw [bxf] at q; exact q⟩
 · cases ry
   exact d_in (by omega) I h1 rx fun s' I' => ⟨.bl o.isSome, H, I', rfl, by rw [bxf] at q; exact q⟩
 · exact op_in_has pins s σ H x y v u Q I rx ry ⟨z1, z2, e1, e2, by rw [bxf] at q; exact q⟩
theorem or_notIn (hu : X.A.units + 65 < cLine) : OpR X (compareOp .NotIn) (rInA X true) := by
 intro pins s σ H x y v u Q I rx ry h
 rcases h with ⟨c, z, e1, e2, q⟩ | ⟨p, xs, e1, h1, h2, h3, q⟩ | ⟨d, ds, h1, h2, h3, h4, q⟩ | ⟨a, o, rfl, h1, q⟩ | ⟨z1, z2, e1, e2, q⟩
 · exact op_notIn_sign pins s σ H x y v u Q I rx ry ⟨c, z, e1, e2, by rw [bxt] at q; exact q⟩
 · exact op_notIn_seq pins s σ H x y v u Q I rx ry ⟨p, xs, e1, h1, h2, h3, by rw [bxt] at q; simpa using q⟩
 · exact op_notInD hu pins s σ H x y v u Q I rx ry ⟨d, ds, h1, h2, h3, h4, by rw [bxt] at q; exact q⟩
 · cases ry
   exact d_notIn (by omega) I h1 rx fun s' I' => ⟨.bl (!o.isSome), H, I', rfl, by rw [bxt] at q; exact q⟩
 · exact op_notIn_has pins s σ H x y v u Q I rx ry ⟨z1, z2, e1, e2, by rw [bxt] at q; exact q⟩
theorem any_eqv {x : D} (hx : okD 64 x = true) : ∀ (n : Nat) (ys : List D), okDs n ys = true → ((toPys ys).any fun z => PyData.eqv z (toPy x)) = memD x ys
 | n, [], _ => rfl
 | n, y :: ys, h => by
   have h : (okD n y && okDs n ys) = true := by cases n <;> exact h
   rw [Bool.and_eq_true] at h
   unfold memD
   show (PyData.eqv (toPy y) (toPy x) || _) = (eqD y x || _)
   rw [eqv_eq n 64 y x h.1 hx]
   congr 1
   exact any_eqv hx n ys h.2
theorem op2_in (neg : Bool) : Op2 X (rInA X neg) (fun x y => (inD x y).map fun b => .bl (neg != b)) := by
 intro k P w env S σ H x y dx dy d Q hk I rx ry e q
 obtain ⟨b, eb, rfl⟩ := Option.map_eq_some_iff.mp e
 have fin := q w (.bl (neg != b)) H (Wd.Le.refl w) I rfl
 have flat : ∀ {ys : List D}, (flatD dx && ys.all flatD) = true → b = memD dx ys → (∃ a vs, y = .ref a ∧ (SqL X.K H a vs ∨ SqT X.K H a vs) ∧ Reps k w ys vs) → rInA X neg x y H Q := fun {ys} c eb ⟨a, vs, e1, h1, r⟩ => by
   rw [Bool.and_eq_true] at c
   refine .inr (.inl ⟨a, vs, e1, h1, flat_rep c.1 (flat_repH c.1 rx), flats_rep c.2 r, ?_⟩)
   rw [inV_rep c.1 (flat_repH c.1 rx) c.2 r, ← eb]
   exact fin
 have dict : ∀ {q1 : Key} {ks : List Key} {vs : List D}, keyOf dx = some q1 → (lookK q1 ks vs).isSome = b → RepH k w H (.dk ks vs) y → rInA X neg x y H Q := fun {q1 ks vs} e1 e2 ry => by
   obtain ⟨a, kvs, rfl, h1, rfl, r⟩ := ry
   have ex : x = kV q1 := keyOf_rep e1 (by cases dx <;> first | exact rx | cases e1)
   subst ex
   obtain ⟨l1, l2⟩ := look_rep (q := q1) r
   refine .inr (.inr (.inr (.inl ⟨a, valV kvs q1, rfl, DGet.k h1, ?_⟩)))
   have : (valV kvs q1).isSome = b := by
     rw [← e2]
     cases el : lookK q1 (kvs.map (·.1)) vs with
     | none => simp [l2 el]
     | some d => obtain ⟨v, e, _⟩ := l1 d el; simp [e]
   rw [this]
   exact fin
 unfold inD at eb
 split at eb
 · split at eb
   · rename_i z1 z2 _ c hc
     cases eb
     have ea : z1 = ⟨#[c]⟩ := by
       obtain ⟨cps⟩ := z1
       have : cps = #[c] := Array.toList_inj.mp hc
       rw [this]
     subst ea
     exact .inl ⟨c, z2, rx, ry, fin⟩
   · rename_i z1 z2 _ _
     cases eb
     exact .inr (.inr (.inr (.inr ⟨z1, z2, rx, ry, fin⟩)))
 · split at eb
   · rename_i c
     obtain ⟨a, vs, e1, h1, r⟩ := seqT_of I ry (.inl rfl)
     exact flat c (Option.some.inj eb).symm ⟨a, vs, e1, .inr (hk ▸ h1), r⟩
   · cases eb
 · split at eb
   · rename_i c
     obtain ⟨a, vs, e1, h1, r⟩ := seqT_of I ry (.inr rfl)
     exact flat c (Option.some.inj eb).symm ⟨a, vs, e1, .inr (hk ▸ h1), r⟩
   · cases eb
 · rename_i ys
   split at eb
   · rename_i c
     obtain ⟨a, vs, e1, h1, r⟩ := seqL_of I ry (.inl rfl)
     exact flat c (Option.some.inj eb).symm ⟨a, vs, e1, .inl (hk ▸ h1), r⟩
   · split at eb
     · rename_i c
       cases eb
       rw [Bool.and_eq_true] at c
       obtain ⟨c1, c2⟩ := c
       obtain ⟨a1, a2⟩ := toPy_ok 64 dx c1
       obtain ⟨b1, b2⟩ := toPy_ok 64 (.lst ys) c2
       refine .inr (.inr (.inl ⟨toPy dx, toPys ys, hk ▸ dp_repH I c1 rx, hk ▸ dp_repH (d := .lst ys) I c2 ry, ?_, ?_, ?_⟩))
       · unfold SeqAt.shaped; rw [a1, decide_eq_true a2]; rfl
       · unfold SeqAt.shaped; exact (by rw [show (PyData.list (toPys ys)) = toPy (.lst ys) from rfl, b1, decide_eq_true b2]; rfl)
       · rw [any_eqv c1 63 ys c2]
         exact fin
     · cases eb
 · split at eb
   · rename_i c
     obtain ⟨a, vs, e1, h1, r⟩ := seqL_of I ry (.inr rfl)
     exact flat c (Option.some.inj eb).symm ⟨a, vs, e1, .inl (hk ▸ h1), r⟩
   · cases eb
 · obtain ⟨q1, e1, e2⟩ := Option.map_eq_some_iff.mp eb
   exact dict e1 e2 ry
 · obtain ⟨q1, e1, e2⟩ := Option.map_eq_some_iff.mp eb
   obtain ⟨a, kvs, rfl, h1, rfl, r⟩ := ry
   obtain ⟨p, us, rfl, h2, r2⟩ := rx
   have ex := keysOf_rep e1 r2
   subst ex
   obtain ⟨l1, l2⟩ := look_rep (q := q1) r
   refine .inr (.inr (.inr (.inl ⟨a, valV kvs q1, rfl, DGet.t h1 (I.rs.frz _ _ h2), ?_⟩)))
   have : (valV kvs q1).isSome = b := by
     rw [← e2]
     cases el : lookK q1 (kvs.map (·.1)) _ with
     | none => simp [l2 el]
     | some d => obtain ⟨v, e, _⟩ := l1 d el; simp [e]
   rw [this]
   exact fin
 · cases eb
end
end L2.MP
end
section
namespace L2.MP
open PySem PySem.Spec PyProof.Rows
open AutoSeq1 (wpAny_loadPart')
theorem new_enumT (l : Addr) (items : Array Value) (n : Nat) (dct : Option Addr) (sl : Array (Option Value)) :
   Meets (Builtin.«enumerate.__new__» ⟨[.type "enumerate", .ref l], []⟩) (fun _ R s => s.heap.get? l = some { cls := .type "tuple", dict := dct, data := .seq items n, slots := sl } ∧
     R (.ok (.ret (.ref (s.heap.push { cls := .type "tuple_iterator", data := .fields #[.ref l, .int 0 0] }).objs.size)))
       { s with heap := (s.heap.push { cls := .type "tuple_iterator", data := .fields #[.ref l, .int 0 0] }).push { cls := .type "enumerate", data := .fields #[.none, .bool false, .ref s.heap.objs.size, rawInt 0, .none, .none] } }) :=
 .of_wp fun prog w A R s h => by
   obtain ⟨hp, g, d, tk, os⟩ := s
   obtain ⟨hl, h⟩ := h
   have sub1 := sub_enumerate
   have tp : Heap.IsTuple (Shared.heap ⟨hp, g, d, tk, os⟩) l items := ⟨_, hl, rfl, n, rfl⟩
   wp_walk using wpAny_loadPart' hl
   refine wpAny_stack_any fun st => wpAny_pure ?_
   split
   · rename_i c _ _ _ _ _
     cases (c == Value.type "enumerate") <;> (wp_walk using wpAny_loadPart' hl, wpAny_pyIter_tuple tp; exact ⟨_, rfl, h⟩)
   · wp_walk using wpAny_loadPart' hl, wpAny_pyIter_tuple tp
     exact ⟨_, rfl, h⟩
section
variable {prog : Program} {w : World} {A : Around} {E : Value → Shared → Prop} {s : Shared}
theorem call_enumT {l : Addr} {items : Array Value} {Q : Value → Shared → Prop} (tp : s.heap.IsTuple l items)
   (h : ∀ h', IsEnum h' (s.heap.objs.size + 1) s.heap.objs.size 0 .none → h'.IsTupleIter s.heap.objs.size l 0 → (∀ b o, s.heap.get? b = some o → h'.get? b = some o) → Q (.ref (s.heap.objs.size + 1)) { s with heap := h' }) :
   wpAny (model prog w) A (call (.type "enumerate") [.ref l]) Q E s := by
 obtain ⟨⟨c, dct, dt, sl⟩, hl, hc, n, hd⟩ := tp
 replace hc : c = .type "tuple" := hc
 replace hd : dt = .seq items n := hd
 subst hc hd
 refine callType_new F.called_enumerate (by decide) (F.typeCall_enumerate_1 _) (F.newCall_enumerate_1 _) (fun obj => F.args_object_init_2 obj _) F.entry_enumerate_new (new_enumT l items n dct sl) ⟨hl, ?_⟩
 let o1 : Obj := { cls := .type "tuple_iterator", data := .fields #[.ref l, .int 0 0] }
 have z1 : (s.heap.push o1).objs.size = s.heap.objs.size + 1 := Heap.size_push ..
 show _ ∧ _
 rw [z1]
 have ie : IsEnum ((s.heap.push o1).push { cls := .type "enumerate", data := .fields #[.none, .bool false, .ref s.heap.objs.size, rawInt 0, .none, .none] }) (s.heap.objs.size + 1) s.heap.objs.size 0 .none := by
   have q := Heap.get?_push_size (s.heap.push o1) (o := { cls := .type "enumerate", data := .fields #[.none, .bool false, .ref s.heap.objs.size, rawInt 0, .none, .none] }) rfl
   rw [z1] at q; exact q
 exact ⟨⟨_, ie, rfl⟩, h _ ie ⟨_, Heap.get?_push_of_some _ (Heap.get?_push_size _ rfl), rfl, rfl⟩ fun b o x => Heap.get?_push_of_some _ (Heap.get?_push_of_some _ x)⟩
end
def IteT (K : PySem.W.Frag) (a : Addr) : It :=
 ⟨fun i H => ∃ (xs : List V) (x : V), SqT K H a xs ∧ xs[i]? = some x, fun i H v H' => ∃ T x, v = .ref T ∧ H T = none ∧ H' = upd H T (.tup [.int (i : Nat), x]) ∧ ∀ xs, SqT K H a xs → xs[i]? = some x, fun i H => ∃ xs : List V, SqT K H a xs ∧ xs.length = i⟩
theorem turn_enumT {P : Program} {w : World} {K : PySem.W.Frag} {elts : List Expr} {kk : Nat} {tpos : Pos} (a e it : Addr) :
   Turn P w K (.Tuple elts kk tpos) (IteT K a) [e, it] e (fun i h => (∃ old, IsEnum h e it ((i : Nat) : Int) old) ∧ h.IsTupleIter it a i ∧ e ≠ it ∧ a ≠ it ∧ e ≠ a) where
 mem := by simp
 obj := fun i h st b hb => by
   obtain ⟨⟨old, he⟩, ⟨o, ho, hc, hd⟩, _⟩ := st
   have e' : b = e ∨ b = it := by simpa using hb
   rcases e' with rfl | rfl
   · exact ⟨_, he, fun v q => nomatch q⟩
   · exact ⟨o, ho, fun v q => by rw [hd] at q; cases q⟩
 keep := fun i h h' st k => let ⟨⟨old, he⟩, hi, hne⟩ := st; ⟨⟨old, k e (by simp) _ he⟩, hi.at fun o q => k it (by simp) o q, hne⟩
 item := by
   intro X hP hw hK hc i pins s σ H E I hf st hg
   subst hP hw hK
   obtain ⟨⟨old, he⟩, hit, hne, hai, hea⟩ := st
   obtain ⟨xs, x, hq, hx⟩ := hg
   obtain ⟨its, rv, p, hz⟩ := I.tuple hq
   obtain ⟨u, hu, ru⟩ := rv.get hx
   have hel : e < s.heap.objs.size := Heap.lt_size he
   have hil : it < s.heap.objs.size := by obtain ⟨_, q, _⟩ := hit; exact Heap.lt_size q
   have hlt : i < its.toArray.size := by
     have := (List.getElem?_eq_some_iff.mp hu).1
     rw [List.size_toArray]; exact this
   have hd : (X.A.in1).handled = none := I.ok.hd hc
   refine wpAny_pyNext_enum_itemD (Draws.tuple hd it a hai its.toArray) he ⟨hit, p⟩ hlt hne (by simp [hne, hea]) fun y h' tk hy ho st' hT hsz hk => ?_
   have ey : y = u := by
     have hu' : its.toArray[i]? = some u := by simpa using hu
     rw [hu'] at hy; exact (Option.some.inj hy).symm
   subst ey
   refine ⟨_, rfl, wpAny_letOwnedTupleGo_enum (s := { s with heap := h', toks := tk + 1 }) ho fun h'' he' sb => ?_⟩
   have hT2 : h''.get? s.heap.objs.size = some { cls := .type "tuple", data := .seq #[.int i tk, y] } := (sb.2 _ (Nat.ne_of_gt hel)).trans hT
   have new : ObjOk X.prog X.w (upd H s.heap.objs.size (.tup [.int (i : Nat), x])) h'' s.heap.objs.size (.tup [.int (i : Nat), x]) :=
     ⟨by show 2 ≤ sizeLine; decide, [.int i tk, y], .cons ⟨_, rfl⟩ (.cons ru .nil), ⟨_, hT2, rfl, _, rfl⟩⟩
   have I1 : Inv X pins σ (upd H s.heap.objs.size (.tup [.int (i : Nat), x])) { s with heap := h'', toks := tk + 1 } :=
     I.turnedNew (ch := [e, it]) (fun b ob hb q => (sb.2 b (fun z => hb (by simp [z]))).trans (hk b ob (fun z => hb (by simp [z])) (fun z => hb (by simp [z])) q)) hf (Nat.le_refl _) new
   refine ⟨.ref s.heap.objs.size, _, I1, rfl, ⟨_, x, rfl, I.hok.fresh (Nat.le_refl _), rfl, fun ys hy => by rw [I.tuple_inj hy hq]; exact hx⟩, ⟨⟨y, ?_⟩, st'.1.at fun o q => (sb.2 it (Ne.symm hne)).trans q, hne, hai, hea⟩, fun b hb => ?_⟩
   · have e1 : ((i + 1 : Nat) : Int) = (i : Int) + 1 := by omega
     rw [e1]; exact he'
   · have hb' : b < s.heap.objs.size := by
       have e' : b = e ∨ b = it := by simpa using hb
       rcases e' with rfl | rfl
       · exact hel
       · exact hil
     rw [upd_ne (Nat.ne_of_lt hb')]
     exact (hf b hb).1
 done := by
   intro X hP hw hK hc i pins s σ H E I hf st hg
   subst hP hw hK
   obtain ⟨⟨old, he⟩, hit, hne, hai, hea⟩ := st
   obtain ⟨xs, hq, hx⟩ := hg
   obtain ⟨its, rv, p, hz⟩ := I.tuple hq
   obtain ⟨f0, f1, f2, f3, f4, f5⟩ := hf it (by simp)
   have hl := rv.length
   have hd : (X.A.in1).handled = none := I.ok.hd hc
   have en : i = its.toArray.size := by rw [List.size_toArray]; omega
   subst en
   exact wpAny_pyNext_enum_endD (Draws.tuple hd it a hai its.toArray) he ⟨hit, p⟩ fun h' eb => ⟨rfl, I.turned (t' := s.toks) (fun b o hb q => eb b o hb q) f0 f1 f3 f4 f5⟩
 self := fun A i s Q E st h => let ⟨⟨_, he⟩, _⟩ := st; wpAny_pyIter_enum he h
def iEnumA (K : PySem.W.Frag) (ta : TA) : TI := fun σ H R => ta σ H fun vs H1 => ∃ a xs, vs = [.ref a] ∧ ((SqL K H1 a xs ∧ R (Ite K a) H1) ∨ (SqT K H1 a xs ∧ R (IteT K a) H1))
theorem pi_enumA {X : Cx} {e : Expr} {ta : TA} {p pos tpos : Pos} {elts : List Expr} {kk : Nat} (hg : Gl X "enumerate") (hm : X.mg "enumerate" = none) (ha : PA X [e] ta) (hs : starEach [e] X.env = [(false, eval e X.env)] := by rfl) :
   PI X (.Tuple elts kk tpos) (.Call (.Name "enumerate" p) [e] [] pos) (iEnumA X.K ta) := by
 refine ⟨fun pins s σ H R I h => Call_ (ld_blt I hg hm boot_enumerate (PyProof.Rows.callWith_type1 (thn (ha.run pos pins s σ H _ I h) fun us s1 ⟨vs, H1, I1, r1, q1⟩ => ?_) hs rfl))⟩
 obtain ⟨a, xs, rfl, q1⟩ := q1
 cases r1 with
 | cons r rr =>
   cases rr
   cases r
   have fresh : ∀ b ∈ [s1.heap.objs.size + 1, s1.heap.objs.size], FpOk X pins H1 b := fun b hb => by
     have hle : s1.heap.objs.size ≤ b := by
       rcases List.mem_cons.mp hb with z | z
       · rw [z]; exact Nat.le_add_right _ _
       · rw [List.mem_singleton.mp z]; exact Nat.le_refl _
     exact I1.fpOk hle (I1.hok.fresh hle)
   rcases q1 with ⟨hq, q⟩ | ⟨hq, q⟩
   · obtain ⟨its, rv, p', hz⟩ := I1.list hq
     refine call_enumerate_list p'.isList fun h' he hit hsz hk => wpAny_pyIter_enum he ?_
     have I2 : Inv X pins σ H1 { s1 with heap := h' } := I1.kept (t' := s1.toks) hk
     exact ⟨s1.heap.objs.size + 1, [s1.heap.objs.size + 1, s1.heap.objs.size], _, _, H1, rfl, I2, turn_enum a (s1.heap.objs.size + 1) s1.heap.objs.size, ⟨⟨.none, he⟩, hit, Nat.succ_ne_self _⟩, fresh, q⟩
   · obtain ⟨its, rv, p', hz⟩ := I1.tuple hq
     have hal : a < s1.heap.objs.size := by
       have ⟨o, ho, _⟩ := p'
       exact Heap.lt_size ho
     refine call_enumT p' fun h' he hit hk => wpAny_pyIter_enum he ?_
     have I2 : Inv X pins σ H1 { s1 with heap := h' } := I1.kept (t' := s1.toks) hk
     exact ⟨s1.heap.objs.size + 1, [s1.heap.objs.size + 1, s1.heap.objs.size], _, _, H1, rfl, I2, turn_enumT a (s1.heap.objs.size + 1) s1.heap.objs.size, ⟨⟨.none, he⟩, hit, Nat.succ_ne_self _, Nat.ne_of_lt hal, fun z => absurd (Nat.lt_trans (Nat.lt_succ_self _) (z ▸ hal : s1.heap.objs.size + 1 < s1.heap.objs.size)) (Nat.lt_irrefl _)⟩, fresh, q⟩
theorem walk_enumT {K : PySem.W.Frag} {a : Addr} {xs : List V} : Walk (IteT K a) xs.length (fun H => SqT K H a xs) (YPair (fun i => some (.int (i : Nat))) (fun i => xs[i]?)) := by
 refine ⟨fun i _ hi q => ⟨xs, xs[i]'hi, q, by simp [hi]⟩, fun _ q => ⟨xs, q, rfl⟩, fun i H v H' _ q y => ?_⟩
 obtain ⟨T, x, e1, e2, e3, e4⟩ := y
 exact ⟨T, .int (i : Nat), x, e1, e2, e3, rfl, e4 xs q⟩
end L2.MP
end
section
namespace L2.MP
open PySem PySem.Spec PyProof.Rows
section
variable {P : Program} {w : World} {K : Type} [DecidableEq K]
open Classical in
noncomputable def kOf [Inhabited K] (kd : PySem.KeyKind P w K) (v : Value) : K := if h : ∃ k, kd.is k v = true then h.choose else default
theorem kOf_eq [Inhabited K] {kd : PySem.KeyKind P w K} {v : Value} {k : K} (h : kd.is k v = true) : kOf kd v = k := by
 have e : ∃ k, kd.is k v = true := ⟨k, h⟩
 unfold kOf
 rw [dif_pos e]
 exact kd.inj v _ _ e.choose_spec h
structure Tb [Inhabited K] (kd : PySem.KeyKind P w K) (es : Array (Int × Value)) (t : SetTable) (L : List K) : Prop where
 el : ElemsOf kd es.toList
 pm : (es.toList.map fun e => kOf kd e.2).Perm L
 nd : L.Nodup
 sz : es.size < scanBound
 fit : t.fits es.size = true
 ris : Ris t.place.toList
 led : w.params.followText "set-order" = true ∨ t.led = true
def SetL [Inhabited K] (kd : PySem.KeyKind P w K) (h : Heap) (a : Addr) (L : List K) : Prop := ∃ o es ep t, h.get? a = some o ∧ o.ExactSet ∧ o.data = .set es ep t ∧ Tb kd es t L
variable [Inhabited K] {kd : PySem.KeyKind P w K} {h h' : Heap} {a : Addr} {L : List K} {es : Array (Int × Value)} {t : SetTable}
theorem SetL.keep (R : SetL kd h a L) (k : ∀ o, h.get? a = some o → h'.get? a = some o) : SetL kd h' a L := let ⟨o, es, ep, t, ho, r⟩ := R; ⟨o, es, ep, t, k o ho, r⟩
theorem Tb.mem (T : Tb kd es t L) (k : K) : k ∈ L ↔ ∃ e ∈ es.toList, kd.is k e.2 = true := by
 rw [← T.pm.mem_iff, List.mem_map]
 constructor
 · rintro ⟨e, he, q⟩
   obtain ⟨⟨k1, h1, _⟩, _⟩ := T.el e he
   rw [kOf_eq h1] at q
   exact ⟨e, he, q ▸ h1⟩
 · rintro ⟨e, he, q⟩
   exact ⟨e, he, kOf_eq q⟩
theorem Tb.len (T : Tb kd es t L) : es.size = L.length := by rw [← T.pm.length_eq, List.length_map, Array.length_toList]
end
section
variable {P : Program} {w : World} {K : Type} [DecidableEq K] [Inhabited K] {kd : PySem.KeyKind P w K} {A : Around} {E : Value → Shared → Prop} {s : Shared} {a : Addr} {L : List K}
theorem set_tail {g : Bool → Sem Unit} (hg : ∀ (b : Bool) (s₁ : Shared) (Q' : Unit → Shared → Prop), Q' () s₁ → wpAny (model P w) A (g b) Q' E s₁) {o : Obj} {es es1 : Array (Int × Value)} {ep : Nat} {t t2 : SetTable}
   (ho : s.heap.get? a = some o) (hex : o.ExactSet) (hd : o.data = .set es ep t) (T : Tb kd es1 t2 L) {wd : Bool} {R : Option Bool → Shared → Prop} (hR : ∀ h', Heap.SameBut a s.heap h' → SetL kd h' a L → R (some true) { s with heap := h' }) :
   wpAny (model P w) A (storeSet a es1 t2 >>= fun _ => if (!wd && t2.tooFull) = true then (g (relayAll t2 es1 (SetTable.grown es1.size)).2.2 >>= fun _ =>
       storeSet a (relayAll t2 es1 (SetTable.grown es1.size)).1 (relayAll t2 es1 (SetTable.grown es1.size)).2.1 >>= fun _ => pure (some true)) else pure (some true)) R E s := by
 refine wpAny_bind (wpAny_storeSet_of ho hd ?_ (fits_of_scanBound T.sz))
 have o1 := store_at (es' := es1) (t' := t2) ho hd
 have b1 := Heap.SameBut.update s.heap a (Obj.putSet es1 t2)
 by_cases c : (!wd && t2.tooFull) = true
 · rw [if_pos c]
   have r1 := relayAll_perm t2 es1 (SetTable.grown es1.size)
   have r2 := relayAll_fits t2 es1 (SetTable.grown es1.size)
   have r3 := relayAll_ris t2 es1 (SetTable.grown es1.size)
   have r4 := relayAll_led t2 es1 (SetTable.grown es1.size)
   revert r1 r2 r3 r4
   generalize relayAll t2 es1 (SetTable.grown es1.size) = Z
   obtain ⟨es2, t3, gv⟩ := Z
   intro r1 r2 r3 r4
   have z : es2.size = es1.size := by have := r1.length_eq; simpa using this
   have z2 : es2.size < scanBound := z ▸ T.sz
   refine wpAny_bind (hg _ _ _ (wpAny_bind (wpAny_storeSet_of o1 rfl ?_ (fits_of_scanBound z2))))
   have o2 := store_at (es' := es2) (t' := t3) o1 rfl
   refine wpAny_pure (hR _ (b1.trans (Heap.SameBut.update _ a _)) ⟨_, es2, _, t3, o2, hex, rfl, ⟨fun e he => T.el e (r1.mem_iff.mp he), (r1.map _).trans T.pm, T.nd, z2, r2, r3, T.led.imp id fun q => ?_⟩⟩)
   show t3.led = true
   rw [show t3.led = t2.led from r4]; exact q
 · rw [if_neg c]
   exact wpAny_pure (hR _ b1 ⟨_, es1, _, t2, o1, hex, rfl, T⟩)
theorem set_put {k : K} {v : Value} (hk : kd.is k v = true) (hs : v.scannable = true) {Q : Bool → Shared → Prop} (R : SetL kd s.heap a L) (room : L.length + 1 < scanBound)
   (q0 : k ∈ L → Q false s) (q1 : k ∉ L → ∀ h', Heap.SameBut a s.heap h' → SetL kd h' a (k :: L) → Q true { s with heap := h' }) : wpAny (model P w) A (setAddHashed a v (kd.hash k)) Q E s := by
 obtain ⟨o, es, ep, t, ho, hex, hd, T⟩ := R
 unfold setAddHashed setAddHashedIn
 refine wpAny_holding (wpAny_bind (wpAny_setState_of ho hd T.fit ?_))
 dsimp only
 rw [byScan_of hs T.sz T.el, if_pos rfl]
 unfold setAddByScan
 refine wpAny_bind (wpAny_bind (wpAny_rule (wpAny_bind (wpAny_setScan_of hk ho hd T.fit T.el ?_))))
 cases fi : List.findIdx? (fun e => kd.is k e.2) es.toList with
 | some j =>
   obtain ⟨j1, j2, _⟩ := List.findIdx?_eq_some_iff_getElem.mp fi
   exact wpAny_pure (wpAny_pure (q0 ((T.mem k).2 ⟨_, List.getElem_mem j1, j2⟩)))
 | none =>
   dsimp only
   have hn : k ∉ L := fun z => by
     obtain ⟨e, he, q⟩ := (T.mem k).1 z
     have := List.findIdx?_eq_none_iff.mp fi e he
     rw [q] at this; cases this
   have y1 := layNew_perm t es (kd.hash k) v
   have y2 := layNew_fits t es (kd.hash k) v
   have y3 := layNew_ris t es (kd.hash k) v T.ris
   have y4 := layNew_led t es (kd.hash k) v
   revert y1 y2 y3 y4
   generalize layNew t es (kd.hash k) v = Z
   obtain ⟨es1, t1, wd, gv⟩ := Z
   dsimp only
   intro y1 y2 y3 y4
   have pc : es1.toList.Perm ((kd.hash k, v) :: es.toList) := by
     rw [Array.toList_push] at y1
     exact y1.trans (List.perm_append_singleton _ _)
   have mk : ∀ t2 : SetTable, t2.fits es1.size = true → Ris t2.place.toList → t2.led = t1.led → Tb kd es1 t2 (k :: L) := fun t2 f r l => ⟨fun e he => by
       rcases List.mem_cons.mp (pc.mem_iff.mp he) with rfl | z
       · exact ⟨⟨k, hk, rfl⟩, hs⟩
       · exact T.el e z, by
       refine (pc.map _).trans ?_
       rw [List.map_cons, kOf_eq hk]
       exact T.pm.cons k, List.nodup_cons.mpr ⟨hn, T.nd⟩, by
       have := pc.length_eq
       rw [Array.length_toList, List.length_cons, Array.length_toList, T.len] at this
       omega, f, r, T.led.imp id fun q => by rw [l, y4]; exact q⟩
   have fin : ∀ h', Heap.SameBut a s.heap h' → SetL kd h' a (k :: L) → Q true { s with heap := h' } := q1 hn
   have gw : ∀ (b : Bool) (s₁ : Shared) (Q' : Unit → Shared → Prop), Q' () s₁ → wpAny (model P w) A (match b with | true => rule "set.scan.the-table-gave-way" | false => pure ()) Q' E s₁ := fun b s₁ Q' q => by
     cases b
     · exact wpAny_pure q
     · exact wpAny_rule q
   refine wpAny_bind (gw gv _ _ ?_)
   split
   · refine wpAny_bind ?_
     rw [hashByValue_scannable 8 hs]
     refine wpAny_pure ?_
     split
     · exact set_tail gw ho hex hd (mk _ y2 y3 rfl) fun h' b r => wpAny_pure (fin h' b r)
     · exact set_tail gw ho hex hd (mk { t1 with plain := false } (SetTable.fits_plain_off y2) y3 rfl) fun h' b r => wpAny_pure (fin h' b r)
   · refine wpAny_bind (wpAny_pure ?_)
     rw [if_pos rfl]
     exact set_tail gw ho hex hd (mk _ y2 y3 rfl) fun h' b r => wpAny_pure (fin h' b r)
end
section
variable {P : Program} {w : World} {K : Type} [DecidableEq K] [Inhabited K] {kd : PySem.KeyKind P w K} {A : Around} {E : Value → Shared → Prop} {s : Shared}
theorem set_loop {I S : Addr} {fp wr : List Addr} {G : Array GenState → Array GenState → Prop} {n : Nat} {Pv : Nat → Value → Prop} {St : Nat → Shared → Prop} {R : Result → Shared → Prop} (V : WalksS P w A.in1 I fp wr G n Pv St) (hS : S ∉ fp) :
   ∀ (xs : List K) (i : Nat) (L : List K) (s : Shared), i + xs.length = n → (∀ j v, Pv (i + j) v → j < xs.length → ∃ k, xs[j]? = some k ∧ kd.is k v = true ∧ v.scannable = true) → xs.length + L.length + 1 < scanBound → St i s → SetL kd s.heap S L →
     (∀ s', Moved (S :: wr) G s s' → SetL kd s'.heap S (onto xs L) → R (.ok (.ret .none)) s') → codeAny (model P w) A (.builtin "set.update.loop" ⟨[.ref S, .ref I], []⟩) R s := by
 have nw : S ∉ wr := fun z => hS (V.sub _ z)
 have up : ∀ b ∈ wr, b ∈ S :: wr := fun b hb => List.mem_cons_of_mem _ hb
 intro xs
 induction xs with
 | nil =>
   intro i L s hi _ _ st T fin
   have : i = n := by simpa using hi
   subst this
   refine codeAny_builtin PyProof.Rows.F.entry_set_update_loop ?_
   rw [Around.under_plainId PyProof.Rows.F.plain_set_update_loop _]
   refine wpAny_bind (V.done s _ _ st fun s' m => ?_)
   exact wpAny_pure (fin s' (m.mono up) (T.keep fun o e => m.heap S o nw e))
 | cons x xs ih =>
   intro i L s hi hv room st T fin
   rw [List.length_cons] at hi room
   refine codeAny_builtin PyProof.Rows.F.entry_set_update_loop ?_
   rw [Around.under_plainId PyProof.Rows.F.plain_set_update_loop _]
   refine wpAny_bind (V.item i s _ _ (by omega) st fun v s' pv st' m => ?_)
   obtain ⟨k, e, hk, hs⟩ := hv 0 v pv (by simp)
   obtain rfl : x = k := by simpa using e
   have T1 : SetL kd s'.heap S L := T.keep fun o e => m.heap S o nw e
   show wpAny _ A.in1 (holding [v] (setAdd S v) >>= _) _ _ s'
   refine wpAny_bind (wpAny_holding ?_)
   unfold setAdd
   refine wpAny_holding (wpAny_bind (kd.pyHash hk ?_))
   refine set_put (s := { s' with toks := s'.toks + 1 }) hk hs T1 (by omega) (fun hm => ?_) fun hm h' sb T2 => ?_
   · refine wpAny_pure ⟨plainId_quiet PyProof.Rows.F.plain_set_update_loop _, ih (i + 1) L _ (by omega) (fun j v p hj => ?_) (by omega) (V.frame _ s' _ _ st' (Nat.le_succ _) fun b _ o e => e) T1 fun s2 m2 T3 => ?_⟩
     · have := hv (j + 1) v (by rw [← Nat.add_assoc, Nat.add_right_comm]; exact p) (by simpa using hj)
       simpa using this
     · refine fin s2 (Moved.trans V.gtrans ((m.mono up).then_heap (Nat.le_succ _) fun b o _ e => e) m2) ?_
       have e : onto (x :: xs) L = onto xs L := by show onto xs (if x ∈ L then L else x :: L) = _; rw [if_pos hm]
       rw [e]; exact T3
   · refine wpAny_pure ⟨plainId_quiet PyProof.Rows.F.plain_set_update_loop _, ih (i + 1) (x :: L) _ (by omega) (fun j v p hj => ?_) (by rw [List.length_cons]; omega) (V.frame _ s' _ _ st' (Nat.le_succ _) fun b hb o e => ?_) T2 fun s2 m2 T3 => ?_⟩
     · have := hv (j + 1) v (by rw [← Nat.add_assoc, Nat.add_right_comm]; exact p) (by simpa using hj)
       simpa using this
     · exact (sb.2 b fun z => hS (z ▸ hb)).trans e
     · refine fin s2 (Moved.trans V.gtrans ((m.mono up).then_heap (Nat.le_succ _) fun b o hb e => (sb.2 b fun z => hb (by rw [z]; exact List.mem_cons_self)).trans e) m2) ?_
       have e : onto (x :: xs) L = onto xs (x :: L) := by show onto xs (if x ∈ L then L else x :: L) = _; rw [if_neg hm]
       rw [e]; exact T3
end
theorem ad_lt {a n : Nat} (h : a < n) : a ≠ n + 1 := by omega
theorem ad_eq {n : Nat} (h : n = n + 1) : False := by omega
theorem ad_ir {b n : Nat} (h : b < n) (z : b = n) : False := by omega
section
variable {P : Program} {w : World} {K : Type} [DecidableEq K] [Inhabited K] {kd : PySem.KeyKind P w K} {A : Around} {E : Value → Shared → Prop} {s : Shared}
namespace ST
theorem PySem.wpAny_mkStr' : True := True.intro
set_option maxHeartbeats 4000000 in
theorem _root_.L2.MP.setL_list {l : Addr} {items : Array Value} (xs : List K) {Q : Value → Shared → Prop} (hh : A.handled = none) (hl : s.heap.IsList l items) (hv : ∀ (i : Nat) v, items[i]? = some v → ∃ k, xs[i]? = some k ∧ kd.is k v = true ∧ v.scannable = true) (hn : xs.length = items.size) (room : xs.length + 1 < scanBound)
   (q : ∀ h' tk, SetL kd h' s.heap.objs.size (onto xs []) → (∀ b o, s.heap.get? b = some o → h'.get? b = some o) → Q (.ref s.heap.objs.size) { s with heap := h', toks := tk }) : wpAny (model P w) A (call (.type "set") [.ref l]) Q E s := by
 have _k : True := PySem.wpAny_mkStr'
 clear _k
 obtain ⟨_, _, mro0⟩ := PySem.F.called_set.mro
 have made0 := PySem.F.called_set.made
 have sub0 := PySem.F.called_set.sub
 have nt0 := PySem.F.called_set.notType
 have cc0 := PySem.F.called_set.canCreate
 have tc0 := PySem.F.typeCall_set_1 (.ref l)
 refine wpAny_call (codeAny_of_tree ?_)
 show wpAny _ _ (callAny (.type "set") _) _ _ _
 refine wpAny_pure ⟨Code.quiet_builtin _ (by decide +kernel), codeAny_builtin PySem.F.entry_type_call ?_⟩
 rw [Around.under_plain (weight_type_call_type "set" [.ref l] []) rfl]
 repeat (any_goals (first | assumption | wp_step))
 let o0 : Obj := { cls := .type "set", dict := none, data := .set #[] 0 (.fresh 0 0 (!w.params.followText "set-order")) }
 refine codeAny_mono (code_set_led1 (.ref l) (E := E) (Q₁ := fun obj s₁ => obj = .ref s.heap.objs.size ∧ s₁ = { s with heap := s.heap.push o0 }) ⟨rfl, rfl⟩) fun r s₁ hr => ?_
 cases r with
 | error e => exact hr
 | ok fl =>
   cases fl with
   | ret obj =>
     obtain ⟨rfl, rfl⟩ := hr
     have g0 : (s.heap.push o0).get? s.heap.objs.size = some o0 := Heap.get?_push_size _ rfl
     have ty0 : Shared.TypeIs { s with heap := s.heap.push o0 } (.ref s.heap.objs.size) "set" := ⟨_, g0, rfl⟩
     have li0 := PySem.F.called_set.init.lookup
     have bi0 := PySem.F.called_set.init.bind (.ref s.heap.objs.size)
     repeat (any_goals (first | assumption | wp_step))
     refine codeAny_mono (codeAny_call_builtin (R := wants (fun r s₂ => r = .none ∧ ∃ h' tk, s₂ = { s with heap := h', toks := tk } ∧ SetL kd h' s.heap.objs.size (onto xs []) ∧ ∀ b o, s.heap.get? b = some o → h'.get? b = some o) E) PySem.F.called_set.init.plain PySem.F.entry_set_init (check_set_init_1 ty0 ?_)) fun r₂ s₂ hr₂ => ?_
     · obtain ⟨ol, hol, hcl, nl, hdl⟩ := hl
       obtain ⟨ocls, odict, odata, oslots⟩ := ol
       dsimp only at hcl hdl
       subst hcl hdl
       have gl : (s.heap.push o0).get? l = some { cls := .type "list", dict := odict, data := .seq items nl, slots := oslots } := Heap.get?_push_of_some _ hol
       have sb1 := PySem.F.sub_list_set
       have sb2 := PySem.F.sub_list_frozenset
       have nd1 : (Value.type "list" == Value.type "dict") = false := by decide
       have hl1 : (s.heap.push o0).IsList l items := ⟨_, gl, rfl, nl, rfl⟩
       unfold Builtin.«set.__init__» noKeywords Builtin.Frozenset.updateFrom
       generalize hPI : pyIter = PI
       wp_walk
       subst hPI
       refine wpAny_pyIter_list hl1 (wpAny_bind (wpAny_runValue ?_))
       have ll := Heap.lt_size hol
       have sz1 : (s.heap.push o0).objs.size = s.heap.objs.size + 1 := Heap.size_push ..
       have ne1 : l ≠ (s.heap.push o0).objs.size := by rw [sz1]; exact ad_lt ll
       refine set_loop (kd := kd) (Walks.list (A := A.in1.in1.in1) (by simp [hh]) _ l ne1 items).toS (S := s.heap.objs.size) (fun z => ?_) xs 0 [] _ (by omega) (fun j v p _ => hv j v (by simpa using p)) (by simpa using room) ⟨⟨_, Heap.get?_push_size _ rfl, rfl, rfl⟩, hl1.push _⟩ ?_ fun s' m T => ?_
       · rcases List.mem_cons.mp z with z | z
         · rw [sz1] at z; exact ad_eq z
         · exact ad_ir ll (List.mem_singleton.mp z).symm
       · refine ⟨o0, #[], 0, _, Heap.get?_push_of_some _ g0, ⟨rfl, rfl, rfl⟩, rfl, ⟨fun e he => by simp at he, List.Perm.refl _, List.nodup_nil, by decide, by rfl, List.Pairwise.nil, ?_⟩⟩
         show _ ∨ (!w.params.followText "set-order") = true
         cases w.params.followText "set-order"
         · exact .inr rfl
         · exact .inl rfl
       · obtain ⟨h', g2, d', tk', os'⟩ := s'
         obtain rfl : g2 = s.gens := m.gens
         obtain rfl : d' = s.drawn := m.drawn
         obtain rfl : os' = s.os := m.os
         refine wpAny_pure (wpAny_pure ⟨rfl, h', tk', rfl, T, fun b o e => ?_⟩)
         have lb := Heap.lt_size e
         refine m.heap b o (fun z => ?_) (Heap.get?_push_of_some _ (Heap.get?_push_of_some _ e))
         rcases List.mem_cons.mp z with z | z
         · exact ad_ir lb z
         · rw [List.mem_singleton, sz1] at z; exact ad_lt lb z
     · cases r₂ with
       | error e => exact hr₂
       | ok fl₂ =>
         cases fl₂ with
         | ret r =>
           obtain ⟨rfl, h', tk, rfl, T, hk⟩ := hr₂
           repeat (any_goals (first | assumption | wp_step))
           exact q _ _ T hk
         | _ => exact hr₂.elim
   | _ => exact hr.elim
set_option maxHeartbeats 4000000 in
theorem _root_.L2.MP.set_tuple {l : Addr} {items : Array Value} (xs : List K) {Q : Value → Shared → Prop} (hh : A.handled = none) (hl : s.heap.IsTuple l items) (hv : ∀ (i : Nat) v, items[i]? = some v → ∃ k, xs[i]? = some k ∧ kd.is k v = true ∧ v.scannable = true) (hn : xs.length = items.size) (room : xs.length + 1 < scanBound)
   (q : ∀ h' tk, SetL kd h' s.heap.objs.size (onto xs []) → (∀ b o, s.heap.get? b = some o → h'.get? b = some o) → Q (.ref s.heap.objs.size) { s with heap := h', toks := tk }) : wpAny (model P w) A (call (.type "set") [.ref l]) Q E s := by
 have _k : True := PySem.wpAny_mkStr'
 clear _k
 obtain ⟨_, _, mro0⟩ := PySem.F.called_set.mro
 have made0 := PySem.F.called_set.made
 have sub0 := PySem.F.called_set.sub
 have nt0 := PySem.F.called_set.notType
 have cc0 := PySem.F.called_set.canCreate
 have tc0 := PySem.F.typeCall_set_1 (.ref l)
 refine wpAny_call (codeAny_of_tree ?_)
 show wpAny _ _ (callAny (.type "set") _) _ _ _
 refine wpAny_pure ⟨Code.quiet_builtin _ (by decide +kernel), codeAny_builtin PySem.F.entry_type_call ?_⟩
 rw [Around.under_plain (weight_type_call_type "set" [.ref l] []) rfl]
 repeat (any_goals (first | assumption | wp_step))
 let o0 : Obj := { cls := .type "set", dict := none, data := .set #[] 0 (.fresh 0 0 (!w.params.followText "set-order")) }
 refine codeAny_mono (code_set_led1 (.ref l) (E := E) (Q₁ := fun obj s₁ => obj = .ref s.heap.objs.size ∧ s₁ = { s with heap := s.heap.push o0 }) ⟨rfl, rfl⟩) fun r s₁ hr => ?_
 cases r with
 | error e => exact hr
 | ok fl =>
   cases fl with
   | ret obj =>
     obtain ⟨rfl, rfl⟩ := hr
     have g0 : (s.heap.push o0).get? s.heap.objs.size = some o0 := Heap.get?_push_size _ rfl
     have ty0 : Shared.TypeIs { s with heap := s.heap.push o0 } (.ref s.heap.objs.size) "set" := ⟨_, g0, rfl⟩
     have li0 := PySem.F.called_set.init.lookup
     have bi0 := PySem.F.called_set.init.bind (.ref s.heap.objs.size)
     repeat (any_goals (first | assumption | wp_step))
     refine codeAny_mono (codeAny_call_builtin (R := wants (fun r s₂ => r = .none ∧ ∃ h' tk, s₂ = { s with heap := h', toks := tk } ∧ SetL kd h' s.heap.objs.size (onto xs []) ∧ ∀ b o, s.heap.get? b = some o → h'.get? b = some o) E) PySem.F.called_set.init.plain PySem.F.entry_set_init (check_set_init_1 ty0 ?_)) fun r₂ s₂ hr₂ => ?_
     · obtain ⟨ol, hol, hcl, nl, hdl⟩ := hl
       obtain ⟨ocls, odict, odata, oslots⟩ := ol
       dsimp only at hcl hdl
       subst hcl hdl
       have gl : (s.heap.push o0).get? l = some { cls := .type "tuple", dict := odict, data := .seq items nl, slots := oslots } := Heap.get?_push_of_some _ hol
       have sb1 := PySem.F.sub_tuple_set
       have sb2 := PySem.F.sub_tuple_frozenset
       have nd1 : (Value.type "tuple" == Value.type "dict") = false := by decide
       have hl1 : (s.heap.push o0).IsTuple l items := ⟨_, gl, rfl, nl, rfl⟩
       unfold Builtin.«set.__init__» noKeywords Builtin.Frozenset.updateFrom
       generalize hPI : pyIter = PI
       wp_walk
       subst hPI
       refine wpAny_pyIter_tuple hl1 (wpAny_bind (wpAny_runValue ?_))
       have ll := Heap.lt_size hol
       have sz1 : (s.heap.push o0).objs.size = s.heap.objs.size + 1 := Heap.size_push ..
       have ne1 : l ≠ (s.heap.push o0).objs.size := by rw [sz1]; exact ad_lt ll
       refine set_loop (kd := kd) (Walks.tuple (A := A.in1.in1.in1) (by simp [hh]) _ l ne1 items).toS (S := s.heap.objs.size) (fun z => ?_) xs 0 [] _ (by omega) (fun j v p _ => hv j v (by simpa using p)) (by simpa using room) ⟨⟨_, Heap.get?_push_size _ rfl, rfl, rfl⟩, hl1.push _⟩ ?_ fun s' m T => ?_
       · rcases List.mem_cons.mp z with z | z
         · rw [sz1] at z; exact ad_eq z
         · exact ad_ir ll (List.mem_singleton.mp z).symm
       · refine ⟨o0, #[], 0, _, Heap.get?_push_of_some _ g0, ⟨rfl, rfl, rfl⟩, rfl, ⟨fun e he => by simp at he, List.Perm.refl _, List.nodup_nil, by decide, by rfl, List.Pairwise.nil, ?_⟩⟩
         show _ ∨ (!w.params.followText "set-order") = true
         cases w.params.followText "set-order"
         · exact .inr rfl
         · exact .inl rfl
       · obtain ⟨h', g2, d', tk', os'⟩ := s'
         obtain rfl : g2 = s.gens := m.gens
         obtain rfl : d' = s.drawn := m.drawn
         obtain rfl : os' = s.os := m.os
         refine wpAny_pure (wpAny_pure ⟨rfl, h', tk', rfl, T, fun b o e => ?_⟩)
         have lb := Heap.lt_size e
         refine m.heap b o (fun z => ?_) (Heap.get?_push_of_some _ (Heap.get?_push_of_some _ e))
         rcases List.mem_cons.mp z with z | z
         · exact ad_ir lb z
         · rw [List.mem_singleton, sz1] at z; exact ad_lt lb z
     · cases r₂ with
       | error e => exact hr₂
       | ok fl₂ =>
         cases fl₂ with
         | ret r =>
           obtain ⟨rfl, h', tk, rfl, T, hk⟩ := hr₂
           repeat (any_goals (first | assumption | wp_step))
           exact q _ _ T hk
         | _ => exact hr₂.elim
   | _ => exact hr.elim
end ST
end
end L2.MP
end
section
namespace L2.MP
open PySem PySem.Spec PyProof.Rows
def cntF (l : List D) (y : D) : Option D := if flatD y && l.all flatD then some (.int ((l.countP fun x => eqD x y : Nat) : Int)) else none
def dCount (o a : M D) : M D := fun env S => match o env S with
 | .ok (.str _) _ _ => dSm1 countD o a env S
 | _ => dLm1 cntF o a env S
end L2.MP
end
section
namespace L2.MP
open PySem PySem.Spec PyProof.Rows
def stpD (x : D) (o : Option Int) : Option D := match x, o with
 | .lst l, some (.ofNat 1) => some (.lst l)
 | .lst l, some (.negSucc 0) => some (.lst l.reverse)
 | _, _ => none
def dStp (a st : M D) : M D := M.bind a fun x => M.bind (dPart (some st)) fun o => M.bind getS fun z => M.opt (stpD (view z.1 z.2 x) o)
end L2.MP
end
section
namespace L2.MP
open PySem PySem.Spec PyProof.Rows
def minDf (x y : D) : Option D := (lstOf x).bind fun l => (getInts l).bind fun ns => match y with
 | .int j => some (.int (if 0 < ns.length then minI ns else j))
 | _ => none
def dkD : D → Option D
 | .dk ks vs => some (.dk ks vs)
 | _ => none
def getD2 (x y z : D) : Option D := match x with
 | .dk ks vs => (keyOf y).map fun q => (lookK q ks vs).getD z
 | _ => none
def dGet2 (o k z : M D) : M D := M.bind o fun x => M.bind getS fun s => M.bind (M.opt (dkD (view s.1 s.2 x))) fun _ => M.bind k fun y => M.bind z fun u => M.bind getS fun s => M.opt (getD2 (view s.1 s.2 x) (view s.1 s.2 y) u)
def dGet1 (o k : M D) : M D := M.bind o fun x => M.bind getS fun s => M.bind (M.opt (dkD (view s.1 s.2 x))) fun _ => M.bind k fun y => M.bind getS fun s => M.opt (getD2 (view s.1 s.2 x) (view s.1 s.2 y) .non)
end L2.MP
end
section
set_option autoImplicit false
namespace PySem.W
open PySem PySem.Calls PyProof.Rows
section
variable {prog : Program} {w : World} {A : Around} {E : Value → Shared → Prop} {s : Shared} {β : Type} {vs : List Value} {bs : List β} {enc : β → PyData} {R : Value → β → Prop}
theorem sorted_tup {l : Addr} {o : Obj} {n : Nat} {Q : Value → Shared → Prop} (ho : s.heap.get? l = some o) (hc : o.cls = .type "tuple") (hd : o.data = .seq vs.toArray n) (e : EachIs R vs bs) (er : EachIs (fun v b => ∃ as, Reads s.heap v (enc b) as) vs bs) (hal : AllAlike (bs.map enc)) (hk : Sortable (bs.map enc)) (hL : bs.length ≤ sizeLine)
   (hu : ∀ b, b ∈ bs → A.units + 2 + (enc b).depth < cLine)
   (h : ∀ h' : Heap, (∀ b o, s.heap.get? b = some o → h'.get? b = some o) → ∀ (out : List Value) (h2 : Heap), out.length = bs.length → EachIs R out (bs.mergeSort (dataLe false enc)) → (∀ b o, h'.get? b = some o → h2.get? b = some o) → (∃ c, h2.get? h'.objs.size = some (seqObj "list" (List.toArray out) c)) → Q (.ref h'.objs.size) { s with heap := h2 }) :
   wpAny (model prog w) A (call (.builtin "sorted") [.ref l]) Q E s := by
 have hlen : vs.length = bs.length := e.length
 have hL' : vs.length ≤ sizeLine := by rw [hlen]; exact hL
 refine call_function_entry_kw kind_sorted plain_sorted entry_sorted (args_sorted1 _) ?_
 unfold Builtin.«sorted»
 refine wpAny_bind (m := checkCount "sorted" 1 1 _) (wpAny_pure ?_)
 refine wpAny_bind (wpAny_collect_seq (hsz := by rw [List.size_toArray]; exact hL') l (.inr rfl) ho hc hd fun h' hk' => ?_)
 refine wpAny_bind (wpAny_newList ?_ hL')
 have at_ : (h'.push (seqObj "list" vs.toArray 0)).get? h'.objs.size = some (seqObj "list" vs.toArray 0) := Heap.get?_push_size _ rfl
 have old2 : ∀ b o, h'.get? b = some o → (h'.push (seqObj "list" vs.toArray 0)).get? b = some o ∧ b ≠ h'.objs.size := fun b o h1 => by
   have hlt := Heap.lt_size h1
   exact ⟨by rw [Heap.get?_push_ne _ _ _ (Nat.ne_of_lt hlt)]; exact h1, Nat.ne_of_lt hlt⟩
 have old : ∀ b o, s.heap.get? b = some o → (h'.push (seqObj "list" vs.toArray 0)).get? b = some o ∧ b ≠ h'.objs.size := fun b o hb => old2 b o (hk' b o hb)
 have er' : EachIs (fun v b => ∃ as, Reads (sortingHeap (h'.push (seqObj "list" vs.toArray 0)) h'.objs.size vs) v (enc b) as) vs bs := er.mono fun _ _ ⟨as, r⟩ => ⟨as, PyProof.Rows.Reads.keeps (fun b o hb => sortingHeap_old (old _ _ hb).2 (old _ _ hb).1) r⟩
 show wpAny _ _ _ _ _ { s with heap := h'.push (seqObj "list" vs.toArray 0) }
 refine wpAny_bind (wpAny_holding (wpAny_call_entry_kw slot_list_sort ⟨_, at_, rfl⟩ entry_list_sort ?body (args_list_sort _)))
 case body =>
   show wpAny (model prog w) A.in1.in1 (Builtin.«list.sort» ⟨[.ref h'.objs.size], []⟩) _ _ _
   refine wpAny_mono (list_sort_vals (s := { s with heap := h'.push (seqObj "list" vs.toArray 0) }) (P := fun f s' => f = .done (.ret .none) ∧ Q (.ref h'.objs.size) s') at_ (SortsAt.data (s := { s with heap := sortingHeap (h'.push (seqObj "list" vs.toArray 0)) h'.objs.size vs }) (each_map (R := fun v d => ∃ as, Reads (sortingHeap (h'.push (seqObj "list" vs.toArray 0)) h'.objs.size vs) v d as) enc er') hal hk (bound_map hu)) hL' ⟨rfl, ?_⟩) (fun f s' hf => ?_) fun _ _ e => e
   · refine h h' hk' _ _ (by rw [sortVals_length false rfl]; exact hlen) (sortVals_data false e er' hal) (fun b o hb => ?_) (sortedHeap_at at_)
     rw [sortedHeap_old (old2 _ _ hb).2 (Heap.lt_size (old2 _ _ hb).1)]
     exact (old2 _ _ hb).1
   · obtain ⟨rfl, hq⟩ := hf
     exact ⟨_, rfl, wpAny_pure ⟨_, rfl, hq⟩⟩
end
end PySem.W
end
section
namespace L2.MP
def view2 (env : Envr) (S : Sto) : D → D
 | .tup ds => .tup (ds.map (view env S))
 | d => view env S d
def cmpV (x y : D) : Option D := if okD 64 x && okD 64 y then some (.bl (true != eqD x y)) else none
def dOpV (a b : M D) : M D := M.bind a fun x => M.bind b fun y => M.bind getS fun z => M.opt (cmpV (view2 z.1 z.2 x) (view2 z.1 z.2 y))
end L2.MP
end
section
namespace L2.MP
def clrC : Cell → Option Cell
 | .lst _ => some (.lst [])
 | .dk _ _ => some (.dk [] [])
 | .dt _ _ => some (.dt [] [])
 | .ins _ _ => none
def dClr (o : M D) : M D := M.bind o fun x => M.bind getS fun z => M.bind (M.opt ((cellOf z.1 z.2 x).bind clrC)) fun c => M.bind (setCell x c) fun _ => M.ret .non
end L2.MP
end
section
namespace L2.MP
def rgNB (j : Int) : Bool := decide (0 ≤ j) && decide (j ≤ 16777216)
def dTupRg (a : M D) : M D := M.bind a fun d => match d with
 | .int j => if rgNB j = true then M.ret (.tup (upto 0 j)) else M.fail
 | _ => M.fail
end L2.MP
end
section
namespace L2.MP
def dOrV (a b : M D) : M D := M.bind a fun x => M.bind getS fun z => M.bind (M.opt (truD (view z.1 z.2 x))) fun t => if t = true then M.ret x else b
end L2.MP
end
section
namespace HotX
open PySem PySem.Spec PyProof.Rows
section
variable {prog : Program} {w : World} {A : Around} {E : Value → Shared → Prop} {s : Shared}
theorem HotAt.keep {x1 : Addr} {h h' : Heap} (hot : HotAt A x1 h) (k : ∀ o, h.get? x1 = some o → h'.get? x1 = some o) : HotAt A x1 h' := by
 obtain ⟨hh, o, vs, h1, h2, h3⟩ := hot
 exact ⟨hh, o, vs, k o h1, h2, h3⟩
theorem HotAt.ne {x1 a : Addr} {h : Heap} {o : Obj} {vs : Array Value} (hot : HotAt A x1 h) (ha : h.get? a = some o) (hd : o.data = .fields vs) (hv : vs[2]? ≠ some .none) : x1 ≠ a := by
 obtain ⟨_, o1, vs1, h1, h2, h3⟩ := hot
 rintro rfl
 rw [h1] at ha; cases ha
 rw [h2] at hd; cases hd
 exact hv h3
theorem HotAt.neS {x1 a : Addr} {h : Heap} {o : Obj} {vs : Array Value} {n : Nat} (hot : HotAt A x1 h) (ha : h.get? a = some o) (hd : o.data = .seq vs n) : x1 ≠ a := by
 obtain ⟨_, o1, vs1, h1, h2, h3⟩ := hot
 rintro rfl
 rw [h1] at ha; cases ha
 rw [h2] at hd; cases hd
theorem next_tuple_end_hot {it t x1 : Addr} {i : Nat} {items} {Q : Option Value → Shared → Prop} (hot : HotAt A x1 s.heap)
   (hit : IsTupIter s.heap it t i) (ht : IsTup s.heap t items) (hx : items[i]? = none)
   (hQ : ∀ h', Heap.ExtBut it s.heap h' → Q none { s with heap := h' }) : wpAny (model prog w) A (pyNext (.ref it)) Q E s := by
 obtain ⟨o, ho, hc, hd⟩ := id hit
 obtain ⟨ol, hol, _, nl, hdl⟩ := ht
 have hne : x1 ≠ it := hot.ne ho hd (by simp)
 unfold pyNext
 refine wpAny_bind (wpAny_attempt (wpAny_callSpecial?_slot (name := Str.ofString "__next__") hit.typeIs slot_tupleiter_next
   (wpAny_call_entry slot_tupleiter_next hit.typeIs entry_tupleiter_next ?_ (args_tupleiter_next _))))
 show wpAny _ _ (field (.ref it) 0 >>= _) _ _ s
 refine wpAny_bind (wpAny_field ho hd (x := .ref t) rfl ?_)
 show wpAny _ _ (if (Value.ref t == Value.none) = true then _ else _) _ _ s
 rw [if_neg (show ¬ ((Value.ref t == Value.none) = true) from Bool.false_ne_true)]
 show wpAny _ _ (field (.ref it) 1 >>= _) _ _ s
 refine wpAny_bind (wpAny_field ho hd (x := .int i 0) rfl ?_)
 show wpAny _ _ (seqItems? (.ref t) >>= _) _ _ s
 refine wpAny_bind (wpAny_seqItems hol hdl ?_)
 simp only [Int.toNat_natCast, hx]
 refine wpAny_bind (wpAny_rule (wpAny_bind (wpAny_setField ho hd (by simp) ?_)))
 show wpAny _ _ (newExc (.type "StopIteration") [] >>= _) _ _ _
 refine wpAny_bind ?_
 simp only [newExc, newTuple]
 refine wpAny_bind (wpAny_newObj_type ?_ (by size_fits))
 refine wpAny_bind (m := firstArgMember _ _) (wpAny_of_eq (a := Value.none) (by first | rfl | (simp only [firstArgMember]; rfl)) ?_)
 refine wpAny_newObj_type ?_ (by size_fits)
 have hot2 := hot.keep (h' := s.heap.update it (Obj.mapFields (·.setIfInBounds 0 .none))) fun o e => (Heap.get?_update_other _ _ hne.symm).trans e
 obtain ⟨hh, o1, vs1, h1, d1, c1⟩ := hot2
 refine raiseNew_hot (x1 := x1) ⟨hh, o1, vs1, Heap.get?_push_of_some _ (Heap.get?_push_of_some _ h1), d1, c1⟩ (Nat.ne_of_lt (Heap.lt_size (Heap.get?_push_of_some _ h1))) (Heap.get?_push_size _ rfl) rfl (by first | (simp; done) | (simp; omega) | (simp only [Array.size_append]; simp; omega)) ?_
 refine wpAny_bind (wpAny_isInstance (T := "StopIteration") (b := true) ⟨_, Heap.get?_update_self _ (Heap.get?_push_size _ rfl) rfl, rfl⟩ isSubtype_stop ?_)
 refine wpAny_pure (hQ _ fun b o hb e => ?_)
 have e1 : (s.heap.update it (Obj.mapFields (·.setIfInBounds 0 .none))).get? b = some o := (Heap.get?_update_other _ _ (Ne.symm hb)).trans e
 rw [Heap.get?_update_other _ _ (Nat.ne_of_gt (Heap.lt_size (Heap.get?_push_of_some _ e1)))]
 exact Heap.get?_push_of_some _ (Heap.get?_push_of_some _ e1)
theorem unpackItems_tuple_hot {t x1 : Addr} {items : Array Value} {Q : List Value → Shared → Prop} (hot : HotAt A x1 s.heap) (ht : IsTup s.heap t items)
   (hQ : ∀ h', Heap.ExtBut s.heap.objs.size s.heap h' → Q items.toList { s with heap := h' }) : wpAny (model prog w) A (unpackItems (.ref t) items.size none) Q E s := by
 have hlt : t ≠ s.heap.objs.size := by obtain ⟨o, ho, _⟩ := ht; exact Nat.ne_of_lt (Heap.lt_size ho)
 have hx1 : x1 ≠ s.heap.objs.size := by obtain ⟨_, o, _, ho, _⟩ := hot; exact Nat.ne_of_lt (Heap.lt_size ho)
 unfold unpackItems
 refine wpAny_bind ?_
 · unfold notIterableAtAll
   refine wpAny_bind (wpAny_specialOf ht.typeIs slot_tuple_iter.lookup ?_)
   refine wpAny_pure ?_
   simp only [Bool.false_eq_true, if_false]
   refine wpAny_bind (wpAny_holding (iter_tuple ht ?_))
   refine wpAny_bind (wpAny_holding (draw_tuple hlt items.size 0 _ _ ⟨_, Heap.get?_push_size _ rfl, rfl, rfl⟩ (ht.push _) (by omega) fun h₁ hit₁ hs₁ => ?_))
   have hall : List.take items.size (List.drop 0 items.toList) = items.toList := by
     rw [List.drop_zero]; exact List.take_of_length_le (by simp)
   rw [hall]
   rw [if_neg (by simp)]
   have ht₁ : IsTup h₁ t items := (ht.push _).extBut hs₁.extBut hlt
   have hot₁ : HotAt A x1 h₁ := hot.keep fun o e => hs₁.extBut _ _ hx1 (Heap.get?_push_of_some _ e)
   refine wpAny_bind (wpAny_holding (next_tuple_end_hot (s := { s with heap := h₁ }) hot₁ hit₁ ht₁ (by simp) fun h₂ he₂ => ?_))
   simp only [Option.isSome_none, Bool.false_eq_true, if_false]
   refine wpAny_pure (hQ h₂ fun b o hb e => he₂ b o hb (hs₁.extBut b o hb (Heap.get?_push_of_some _ e)))
theorem assign_Tuple_tuple_hot {env : Env} {elts : List Expr} {k1} {pos : Pos} {t x1 : Addr} {items : Array Value} {Q : Unit → Shared → Prop} (hot : HotAt A x1 s.heap) (ht : IsTup s.heap t items)
   (hn : (assignEach elts env).length = items.size) (hstar : (assignEach elts env).findIdx? (·.1) = none)
   (h : ∀ h', Heap.ExtBut s.heap.objs.size s.heap h' → wpAny (model prog w) A (assignInOrder ((assignEach elts env).map (·.2)) items.toList) Q E { s with heap := h' }) :
   wpAny (model prog w) A (assign (.Tuple elts k1 pos) env (.ref t)) Q E s := by
 rw [assign_Tuple]
 refine wpAny_bind (wpAny_standAt ?_)
 unfold unpack
 rw [hn, hstar]
 exact wpAny_bind (wpAny_holding (unpackItems_tuple_hot hot ht h))
theorem nextOf_list_end_hot {it l x1 : Addr} {i : Nat} {items} {Q : Value → Shared → Prop} (hot : HotAt A x1 s.heap)
   (hit : s.heap.IsListIter it l i) (hl : s.heap.IsList l items) (hx : items[i]? = none)
   (hE : ∀ h' e, Heap.ExtBut it s.heap h' → (∃ o, h'.get? e = some o ∧ o.cls = .type "StopIteration") → E (.ref e) { s with heap := h' }) :
   wpAny (model prog w) A (Builtin.SmallTypes.nextOf (.ref it)) Q E s := by
 obtain ⟨o, ho, hc, hd⟩ := id hit
 obtain ⟨ol, hol, _, nl, hdl⟩ := hl
 have hne : x1 ≠ it := hot.ne ho hd (by simp)
 unfold Builtin.SmallTypes.nextOf
 refine wpAny_bind (wpAny_callSpecial?_slot (name := Str.ofString "__next__") hit.typeIs slot_listiter_next
   (wpAny_call_entry slot_listiter_next hit.typeIs entry_listiter_next ?_ (args_listiter_next _)))
 show wpAny _ _ (field (.ref it) 0 >>= _) _ _ s
 refine wpAny_bind (wpAny_field ho hd (x := .ref l) rfl ?_)
 show wpAny _ _ (if (Value.ref l == Value.none) = true then _ else _) _ _ s
 rw [if_neg (show ¬ ((Value.ref l == Value.none) = true) from Bool.false_ne_true)]
 show wpAny _ _ (field (.ref it) 1 >>= _) _ _ s
 refine wpAny_bind (wpAny_field ho hd (x := .int i 0) rfl ?_)
 show wpAny _ _ (seqItems? (.ref l) >>= _) _ _ s
 refine wpAny_bind (wpAny_seqItems hol hdl ?_)
 simp only [Int.toNat_natCast, hx]
 refine wpAny_bind (wpAny_rule (wpAny_bind (wpAny_setField ho hd (by simp) ?_)))
 show wpAny _ _ (newExc (.type "StopIteration") [] >>= _) _ _ _
 refine wpAny_bind ?_
 simp only [newExc, newTuple]
 refine wpAny_bind (wpAny_newObj_type ?_ (by size_fits))
 refine wpAny_bind (m := firstArgMember _ _) (wpAny_of_eq (a := Value.none) (by first | rfl | (simp only [firstArgMember]; rfl)) ?_)
 refine wpAny_newObj_type ?_ (by size_fits)
 have hot2 := hot.keep (h' := s.heap.update it (Obj.mapFields (·.setIfInBounds 0 .none))) fun o e => (Heap.get?_update_other _ _ hne.symm).trans e
 obtain ⟨hh, o1, vs1, h1, d1, c1⟩ := hot2
 refine raiseNew_hot (x1 := x1) ⟨hh, o1, vs1, Heap.get?_push_of_some _ (Heap.get?_push_of_some _ h1), d1, c1⟩ (Nat.ne_of_lt (Heap.lt_size (Heap.get?_push_of_some _ h1))) (Heap.get?_push_size _ rfl) rfl (by first | (simp; done) | (simp; omega) | (simp only [Array.size_append]; simp; omega)) ?_
 refine hE _ _ (fun b o hb e => ?_) ⟨_, Heap.get?_update_self _ (Heap.get?_push_size _ rfl) rfl, rfl⟩
 have e1 : (s.heap.update it (Obj.mapFields (·.setIfInBounds 0 .none))).get? b = some o := (Heap.get?_update_other _ _ (Ne.symm hb)).trans e
 show (Heap.update _ _ _).get? b = some o
 rw [Heap.get?_update_other _ _ (Nat.ne_of_gt (Heap.lt_size (Heap.get?_push_of_some _ e1)))]
 exact Heap.get?_push_of_some _ (Heap.get?_push_of_some _ e1)
theorem zip_next_end_hot {z TI TO i1 i2 l1 l2 x1 : Addr} {k1 k2 : Nat} {xs ys : Array Value} {a b : Value} {Q : Fin → Shared → Prop} (hot : HotAt A x1 s.heap) (D : ZipApart z TI TO i1 i2 l1 l2)
   (hz : IsZip s.heap z TI TO .none) (hTI : IsPair s.heap TI (.ref i1) (.ref i2)) (hTO : IsPair s.heap TO a b)
   (h1 : s.heap.IsListIter i1 l1 k1) (h2 : s.heap.IsListIter i2 l2 k2) (hl1 : s.heap.IsList l1 xs) (hl2 : s.heap.IsList l2 ys) (hend : xs[k1]? = none ∨ ys[k2]? = none)
   (hE : ∀ h' e, (∀ c o, c ≠ z → c ≠ TO → c ≠ i1 → c ≠ i2 → s.heap.get? c = some o → h'.get? c = some o) → (∃ o, h'.get? e = some o ∧ o.cls = .type "StopIteration") → E (.ref e) { s with heap := h' }) :
   wpAny (model prog w) A (Builtin.«zip.__next__» ⟨[.ref z], []⟩) Q E s := by
 have nz : x1 ≠ z := hot.ne hz rfl (by simp)
 have nTO : x1 ≠ TO := hot.neS hTO rfl
 have n1 : x1 ≠ i1 := by obtain ⟨_, e, _, d⟩ := id h1; exact hot.ne e d (by simp)
 show wpAny _ _ (field (.ref z) 2 >>= _) _ _ _
 refine wpAny_bind (wpAny_field hz rfl (x := .bool false) rfl ?_)
 show wpAny _ _ (field (.ref z) 3 >>= _) _ _ _
 refine wpAny_bind (wpAny_field hz rfl (x := .ref TI) rfl ?_)
 refine wpAny_bind (wpAny_seqItems hTI rfl ?_)
 show wpAny _ _ (Builtin.SmallTypes.ownedTupleIsFree (.ref z) >>= _) _ _ _
 refine wpAny_bind ?_
 unfold Builtin.SmallTypes.ownedTupleIsFree
 refine wpAny_bind (wpAny_field hz rfl (x := .none) rfl (wpAny_pure ?_))
 simp only [if_true]
 refine wpAny_bind (wpAny_rule ?_)
 refine wpAny_bind (wpAny_field hz rfl (x := .ref TO) rfl ?_)
 refine wpAny_bind (wpAny_setField_rec hz (by simp) fun h₁ hz₁ hs₁ => ?_)
 replace hz₁ : IsZip h₁ z TI TO .ellipsis := hz₁
 have hot₁ : HotAt A x1 h₁ := hot.keep fun o e => hs₁.extBut _ _ nz e
 refine wpAny_bind ?_
 simp only [List.zipIdx_cons, List.zipIdx_nil, List.forIn_cons, List.forIn_nil]
 refine wpAny_bind (wpAny_bind (wpAny_onRaise ?_))
 show wpAny _ _ (Builtin.SmallTypes.nextOf (.ref i1) >>= _) _ _ _
 cases hx : xs[k1]? with
 | none =>
   refine wpAny_bind (nextOf_list_end_hot (x1 := x1) hot₁ (h1.extBut hs₁.extBut D.i1z) (hl1.extBut hs₁.extBut D.l1z) hx fun h₂ e hs₂ he => ?_)
   obtain ⟨oe, hoe, hce⟩ := he
   have hz₂ : IsZip h₂ z TI TO .ellipsis := hs₂ _ _ D.i1z.symm hz₁
   have hez : e ≠ z := fun x => by subst x; rw [hz₂] at hoe; cases hoe; simp at hce
   refine wpAny_setField_rec hz₂ (by simp) fun h₃ _ hs₃ => hE h₃ e (fun c o c1 _ c3 _ x => hs₃.extBut _ _ c1 (hs₂ _ _ c3 (hs₁.extBut _ _ c1 x))) ⟨oe, hs₃.extBut _ _ hez hoe, hce⟩
 | some x =>
   have hy : ys[k2]? = none := by rcases hend with h | h; rw [hx] at h; cases h; exact h
   refine wpAny_bind (wpAny_nextOf_list_item (h1.extBut hs₁.extBut D.i1z) (hl1.extBut hs₁.extBut D.l1z) hx fun h₂ h1₂ hs₂ => wpAny_pure ?_)
   have hTO₂ : IsPair h₂ TO a b := hs₂.extBut _ _ D.TOi1 (hs₁.extBut _ _ D.TOz hTO)
   refine wpAny_bind (wpAny_seqItems hTO₂ rfl ?_)
   refine wpAny_bind (wpAny_updateSeq_pair hTO₂ fun h₃ hTO₃ hs₃ => ?_)
   have hot₃ : HotAt A x1 h₃ := hot₁.keep fun o e => hs₃.extBut _ _ nTO (hs₂.extBut _ _ n1 e)
   refine wpAny_bind (wpAny_letGo (wpAny_pure ?_))
   refine wpAny_bind (wpAny_bind (wpAny_onRaise ?_))
   show wpAny _ _ (Builtin.SmallTypes.nextOf (.ref i2) >>= _) _ _ _
   refine wpAny_bind (nextOf_list_end_hot (x1 := x1) hot₃ (((h2.extBut hs₁.extBut D.i2z).extBut hs₂.extBut D.i12.symm).extBut hs₃.extBut D.TOi2.symm)
     (((hl2.extBut hs₁.extBut D.l2z).extBut hs₂.extBut D.l2i1).extBut hs₃.extBut D.l2TO) hy fun h₄ e hs₄ he => ?_)
   obtain ⟨oe, hoe, hce⟩ := he
   have hz₄ : IsZip h₄ z TI TO .ellipsis := hs₄ _ _ D.i2z.symm (hs₃.extBut _ _ D.TOz.symm (hs₂.extBut _ _ D.i1z.symm hz₁))
   have hez : e ≠ z := fun x => by subst x; rw [hz₄] at hoe; cases hoe; simp at hce
   refine wpAny_setField_rec hz₄ (by simp) fun h₅ _ hs₅ => hE h₅ e (fun c o c1 c2 c3 c4 x => hs₅.extBut _ _ c1 (hs₄ _ _ c4 (hs₃.extBut _ _ c2 (hs₂.extBut _ _ c3 (hs₁.extBut _ _ c1 x))))) ⟨oe, hs₅.extBut _ _ hez hoe, hce⟩
theorem pyNext_zip_end_hot {z TI TO i1 i2 l1 l2 x1 : Addr} {k1 k2 : Nat} {xs ys : Array Value} {a b : Value} {Q : Option Value → Shared → Prop} (hot : HotAt A x1 s.heap) (D : ZipApart z TI TO i1 i2 l1 l2)
   (hz : IsZip s.heap z TI TO .none) (hTI : IsPair s.heap TI (.ref i1) (.ref i2)) (hTO : IsPair s.heap TO a b)
   (h1 : s.heap.IsListIter i1 l1 k1) (h2 : s.heap.IsListIter i2 l2 k2) (hl1 : s.heap.IsList l1 xs) (hl2 : s.heap.IsList l2 ys) (hend : xs[k1]? = none ∨ ys[k2]? = none)
   (hQ : ∀ h', (∀ c o, c ≠ z → c ≠ TO → c ≠ i1 → c ≠ i2 → s.heap.get? c = some o → h'.get? c = some o) → Q none { s with heap := h' }) : wpAny (model prog w) A (pyNext (.ref z)) Q E s := by
 have hT : s.TypeIs (.ref z) "zip" := ⟨_, hz, rfl⟩
 unfold pyNext
 refine wpAny_bind (wpAny_attempt (wpAny_callSpecial?_slot (name := Str.ofString "__next__") hT F.slot_zip_next
   (wpAny_call_entry F.slot_zip_next hT F.entry_zip_next (zip_next_end_hot (x1 := x1) hot D hz hTI hTO h1 h2 hl1 hl2 hend fun h' e hk he => ?_) (F.args_zip_next_1 _))))
 obtain ⟨o, ho, hc⟩ := he
 refine wpAny_bind (wpAny_isInstance (T := "StopIteration") (b := true) ⟨o, ho, hc⟩ isSubtype_stop ?_)
 exact wpAny_pure (hQ _ hk)
end
end HotX
end
section
namespace L2H
open PySem PySem.Spec PyProof.Rows L2 HotX
def HotB (X : Cx) : Prop := ∃ p : Addr × Obj, Hot1 X.A p ∧ X.s_0.heap.get? p.1 = some p.2 ∧ X.H_0 p.1 = none ∧ p.1 ∉ X.fs ∧ p.1 ∉ X.ex
theorem HotB.at {X : Cx} {pins : List (Addr × Obj)} {σ : St} {H : Hp} {s : Shared} (c : HotB X) (I : Inv X pins σ H s) : ∃ x1, HotAt X.A x1 s.heap := by
 obtain ⟨p, ⟨hh, vs, e1, c1⟩, g, n, f, x⟩ := c
 exact ⟨p.1, hh, p.2, vs, I.base.keep p.1 p.2 g n f x, e1, c1⟩
theorem pg_tupX {X : Cx} {pos : Pos} {es : List Expr} {k : Nat} {t : TGs} {n : Nat} (hb : HotB X) (h : PGs X es t) (hn : (assignEach es X.env).length = n) (hst : (assignEach es X.env).findIdx? (·.1) = none) : PG X (.Tuple es k pos) (gTup X.K n t) := by
 refine ⟨fun pins s σ H v u Q I r ⟨a, xs, ev, hq, hl, hw⟩ => ?_⟩
 subst ev
 cases r
 obtain ⟨its, rv, ht, _⟩ := I.tuple hq
 obtain ⟨x1, hot⟩ := hb.at I
 exact assign_Tuple_tuple_hot hot ht (by simp [hn, ← hl, rv.length]) hst fun h' hx => h.run pins _ σ H xs _ Q (I.kept (t' := s.toks) fun b o e => hx b o (Nat.ne_of_lt (Heap.lt_size e)) e) (by simpa using rv) hw
structure TurnX (P : Program) (w : World) (K : PySem.W.Frag) (tg : Expr) (J : It) (fp : List Addr) (it : Addr) (tn : Nat → Heap → Prop) : Prop where
 obj : ∀ i h, tn i h → ∀ b ∈ fp, ∃ o, h.get? b = some o ∧ ∀ v, o.data ≠ .cell v
 keep : ∀ i h h', tn i h → (∀ b ∈ fp, ∀ o, h.get? b = some o → h'.get? b = some o) → tn i h'
 item : ∀ (X : Cx), X.prog = P → X.w = w → X.K = K → ∀ (i : Nat) (pins : List (Addr × Obj)) (s : Shared) (σ : St) (H : Hp) (E : Value → Shared → Prop), Inv X pins σ H s → (∀ b ∈ fp, FpOk X pins H b) → tn i s.heap → J.go i H →
   wpAny (model P w) X.A (pyNext (.ref it)) (fun r s1 => ∃ u, r = some u ∧
     wpAny (model P w) X.A (letOwnedTupleGo tg (.ref it) u) (fun _ s2 => ∃ x H', Inv X pins σ H' s2 ∧ RelV x u ∧ J.yld i H x H' ∧ tn (i + 1) s2.heap ∧ ∀ b ∈ fp, H' b = none) E s1) E s
 done : ∀ (X : Cx), X.prog = P → X.w = w → X.K = K → ∀ (i : Nat) (pins : List (Addr × Obj)) (s : Shared) (σ : St) (H : Hp) (E : Value → Shared → Prop), (∃ x1, HotAt X.A x1 s.heap) → Inv X pins σ H s → (∀ b ∈ fp, FpOk X pins H b) → tn i s.heap → J.stop i H →
   wpAny (model P w) X.A (pyNext (.ref it)) (fun r s1 => r = none ∧ Inv X pins σ H s1) E s
 self : ∀ (A : Around) (i : Nat) (s : Shared) (Q : Value → Shared → Prop) (E : Value → Shared → Prop), tn i s.heap → Q (.ref it) s → wpAny (model P w) A (pyIter (.ref it)) Q E s
theorem turn_zipX {P : Program} {w : World} {K : PySem.W.Frag} {elts : List Expr} {kk : Nat} {tpos : Pos} {a b z TI TO i1 i2 : Addr} (D : ZipApart z TI TO i1 i2 a b) :
   TurnX P w K (.Tuple elts kk tpos) (Itz K a b) [z, TI, TO, i1, i2] z (fun i h => IsZip h z TI TO .none ∧ IsPair h TI (.ref i1) (.ref i2) ∧ (∃ x y, IsPair h TO x y) ∧ h.IsListIter i1 a i ∧ h.IsListIter i2 b i) where
 obj := (turn_zip (P := P) (w := w) (K := K) (elts := elts) (kk := kk) (tpos := tpos) D).obj
 keep := (turn_zip (P := P) (w := w) (K := K) (elts := elts) (kk := kk) (tpos := tpos) D).keep
 self := (turn_zip (P := P) (w := w) (K := K) (elts := elts) (kk := kk) (tpos := tpos) D).self
 item := by
   intro X hP hw hK i pins s σ H E I hf ⟨hz, hTI, ⟨x0, y0, hTO⟩, h1, h2⟩ ⟨xs, ys, x, y, hqx, hqy, hx, hy⟩
   subst hP hw hK
   obtain ⟨_, rv, p, _⟩ := I.list hqx
   obtain ⟨_, rv2, p2, _⟩ := I.list hqy
   obtain ⟨u, hu, ru⟩ := rv.get hx
   obtain ⟨u2, hu2, ru2⟩ := rv2.get hy
   have hzl := Heap.lt_size hz
   refine wpAny_pyNext_zip_item D hz hTI hTO h1 h2 p.isList p2.isList (x := u) (y := u2) (by simpa using hu) (by simpa using hu2) fun h' z' TO' h1' h2' hT hsz hk => ⟨_, rfl, wpAny_letOwnedTupleGo_zip (s := { s with heap := h' }) z' fun h'' z'' sb => ?_⟩
   have up : ∀ c o, c ≠ z → h'.get? c = some o → h''.get? c = some o := fun c o n q => (sb.2 _ n).trans q
   have hT2 := up _ _ (Nat.ne_of_gt hzl) hT
   have out : ∀ c o, c ∉ [z, TI, TO, i1, i2] → s.heap.get? c = some o → h''.get? c = some o := fun c o hb q => by
     simp only [List.mem_cons, List.not_mem_nil, or_false, not_or] at hb
     exact up c o hb.1 (hk c o hb.1 hb.2.2.1 hb.2.2.2.1 hb.2.2.2.2 q)
   refine ⟨.ref s.heap.objs.size, _, I.turnedNew (t' := s.toks) (ch := [z, TI, TO, i1, i2]) out hf (Nat.le_refl _) (ob := .tup [x, y]) ⟨by show 2 ≤ sizeLine; decide, [u, u2], .cons ru (.cons ru2 .nil), ⟨_, hT2, rfl, _, rfl⟩⟩, rfl,
     ⟨_, x, y, rfl, I.hok.fresh (Nat.le_refl _), rfl, fun l hl => by rw [I.list_inj hl hqx]; exact hx, fun l hl => by rw [I.list_inj hl hqy]; exact hy⟩,
     ⟨z'', up _ _ D.TIz (hk _ _ D.TIz D.TITO D.TIi1 D.TIi2 hTI), ⟨u, u2, up _ _ D.TOz TO'⟩, h1'.at fun o q => up _ _ D.i1z q, h2'.at fun o q => up _ _ D.i2z q⟩, fun c hcm => ?_⟩
   have hlt : c < s.heap.objs.size := by
     obtain ⟨o, e, _⟩ := (turn_zip (P := X.prog) (w := X.w) (K := X.K) (elts := elts) (kk := kk) (tpos := tpos) D).obj i s.heap ⟨hz, hTI, ⟨x0, y0, hTO⟩, h1, h2⟩ c hcm
     exact Heap.lt_size e
   rw [upd_ne (Nat.ne_of_lt hlt)]
   exact (hf c hcm).1
 done := by
   intro X hP hw hK i pins s σ H E ⟨x1, hot⟩ I hf ⟨hz, hTI, ⟨x0, y0, hTO⟩, h1, h2⟩ ⟨xs, ys, hqx, hqy, hend⟩
   subst hP hw hK
   obtain ⟨its, rv, p, _⟩ := I.list hqx
   obtain ⟨its2, rv2, p2, _⟩ := I.list hqy
   have l1 := rv.length
   have l2 := rv2.length
   refine pyNext_zip_end_hot hot D hz hTI hTO h1 h2 p.isList p2.isList (hend.imp (fun q => by simp; omega) fun q => by simp; omega) fun h' hk => ⟨rfl, I.turnedL (t' := s.toks) (ch := [z, TI, TO, i1, i2]) (fun c o hb q => ?_) hf⟩
   simp only [List.mem_cons, List.not_mem_nil, or_false, not_or] at hb
   exact hk c o hb.1 hb.2.2.1 hb.2.2.2.1 hb.2.2.2.2 q
def PIEX (X : Cx) (pins : List (Addr × Obj)) (σ : St) (tg : Expr) (R : It → Hp → Prop) (itv : Value) (s2 : Shared) : Prop :=
 ∃ (it : Addr) (fp : List Addr) (tn : Nat → Heap → Prop) (J : It) (H' : Hp), itv = .ref it ∧ Inv X pins σ H' s2 ∧ TurnX X.prog X.w X.K tg J fp it tn ∧ tn 0 s2.heap ∧ (∀ b ∈ fp, FpOk X pins H' b) ∧ R J H'
structure PIX (X : Cx) (tg iter : Expr) (wi : TI) : Prop where
 run : ∀ (pins : List (Addr × Obj)) (s : Shared) (σ : St) (H : Hp) (R : It → Hp → Prop), Inv X pins σ H s → wi σ H R →
   wpAny (model X.prog X.w) X.A (eval iter X.env) (fun v s1 => wpAny (model X.prog X.w) X.A (pyIter v) (PIEX X pins σ tg R) X.xe s1) X.xe s
theorem pi_zipX {X : Cx} {e e2 : Expr} {ta : TA} {p pos tpos : Pos} {elts : List Expr} {kk : Nat} (hg : Gl X "zip") (hm : X.mg "zip" = none) (ha : PA X [e, e2] ta)
   (hs : starEach [e, e2] X.env = (false, eval e X.env) :: starEach [e2] X.env) (hpl : (backTo pos (starEach [e2] X.env)).any (·.1) = false) :
   PIX X (.Tuple elts kk tpos) (.Call (.Name "zip" p) [e, e2] [] pos) (iZip X.K ta) := by
 refine ⟨fun pins s σ H R I h => Call_ (ld_blt I hg hm PyProof.Rows.boot_zip (PyProof.Rows.callWith_type1 (thn (ha.run pos pins s σ H _ I h) fun us s1 ⟨vs, H1, I1, r1, a, b, xs, ys, ex, hqx, hqy, q⟩ => ?_) hs hpl))⟩
 subst ex
 obtain ⟨u1, u2, rfl, rfl, rfl⟩ : ∃ u1 u2, us = [u1, u2] ∧ u1 = Value.ref a ∧ u2 = Value.ref b := by
   cases r1 with
   | cons r rr => cases rr with
     | cons r' rr => cases rr; exact ⟨_, _, rfl, r, r'⟩
 obtain ⟨its, _, p1, _⟩ := I1.list hqx
 obtain ⟨its2, _, p2, _⟩ := I1.list hqy
 refine call_zip_2 p1.isList p2.isList fun h' hz hTI hTO h1 h2 hsz hk => wpAny_pyIter_zip hz ⟨s1.heap.objs.size + 4, [s1.heap.objs.size + 4, s1.heap.objs.size + 2, s1.heap.objs.size + 3, s1.heap.objs.size, s1.heap.objs.size + 1], _, _, H1, rfl, I1.kept (t' := s1.toks) hk, turn_zipX (PySem.W.ktu_apart s1.heap.objs.size a b p1.lt p2.lt), ⟨hz, hTI, ⟨_, _, hTO⟩, h1, h2⟩, fun c hcm => ?_, q⟩
 have hle : s1.heap.objs.size ≤ c := by
   simp only [List.mem_cons, List.not_mem_nil, or_false] at hcm
   rcases hcm with z | z | z | z | z <;> rw [z] <;> first | exact Nat.le_add_right _ _ | exact Nat.le_refl _
 exact I1.fpOk hle (I1.hok.fresh hle)
section
variable {X : Cx}
theorem lc_coreX {pins : List (Addr × Obj)} {s : Shared} {σ : St} {H : Hp} {Q : VK} {elt tg iter : Expr} {ifs : List Expr} {scope : Scope} {own : List (Str × Nat)} {pos pos' : Pos} {wi : TI} {g : TG} {tt : TT} {te : TE} {use : Option (Value → Sem Unit)} {Qf : Value → Shared → Prop}
   (hc : HotC X) (hN : X.N.Nodup) (I : Inv X pins σ H s) (hi : PIX X tg iter wi) (ok : BlkOk X.N X.env.scope scope own)
   (hg : ∀ (s : Shared) (H : Hp) (C : Addr) (cl : List (Str × Addr)) (fp : List Addr), HotB (X.blk s H scope (compEnvC scope cl C X.env) fp) → PG (X.blk s H scope (compEnvC scope cl C X.env) fp) tg g) (ht : ∀ (s : Shared) (H : Hp) (C : Addr) (cl : List (Str × Addr)) (fp : List Addr), PTs (X.blk s H scope (compEnvC scope cl C X.env) fp) ifs tt)
   (he : ∀ (s : Shared) (H : Hp) (C : Addr) (cl : List (Str × Addr)) (fp : List Addr), PE (X.blk s H scope (compEnvC scope cl C X.env) fp) elt te) (hs : ∀ x, foldedSetIterable iter X.env x = pure x)
   (h : tLc wi g tt te (own.map (·.2)) σ H Q)
   (hRR : ∀ D C s' m H', Inv X pins σ H' s' → Q (.ref D) H' → s'.heap.Ns C m → FpOk X pins H' C → compPost (model X.prog X.w) X.A X.xe use Qf (.ref D) C (.ok .next) s') :
   wpAny (model X.prog X.w) X.A (comprehension (.ListComp elt [⟨tg, iter, ifs, 0⟩] scope pos) scope X.env pos' (newList []) false (eval iter X.env) use) Qf X.xe s := by
 have hfree : ∀ y ∈ scope.names, y.2 = .free → ∃ c, X.env.cells.lookup y.1 = some c := fun y hy e => (ok.free y hy e).elim (fun k => I.ok.has _ (.inl k)) fun k => I.ok.has _ (.inr k)
 refine wpAny_comprehension_free (use := use) rfl hs (closure_ok hfree) ok.kind (fun y hy e => by rw [ok.uniq y hy, e])
   (thn (hi.run pins s σ H _ I h) fun xv s1 hx => thn hx fun itv s2 ⟨it, fp, tn, J, H2, e, I2, T, st2, f2, q⟩ => ?_)
 subst e
 refine wpAny_newObj_type (newEnv_comp ?_) (by show 0 ≤ sizeLine; decide)
 generalize hD : s2.heap.objs.size = D
 obtain ⟨W, ⟨m0, w0⟩, turn⟩ := q D (I2.hok.fresh (Nat.le_of_eq hD))
 generalize hs3 : ({ s2 with heap := s2.heap.push { cls := .type "list", data := .seq ([] : List Value).toArray } } : Shared) = s3
 have h3 : s3.heap = s2.heap.push { cls := .type "list", data := .seq ([] : List Value).toArray } := by rw [← hs3]
 have I3 : Inv X pins σ (upd H2 D (.lst [])) s3 := by
   subst hs3
   exact I2.laid (t' := s2.toks) (fun b o e => Heap.get?_push_of_some _ e) (Nat.le_of_eq hD) ⟨Nat.zero_le _, [], 0, .nil, by subst hD; exact Heap.get?_push_size _ rfl⟩
 have f3 : ∀ b ∈ fp, FpOk X pins (upd H2 D (.lst [])) b ∧ b < s3.heap.objs.size := fun b hb => by
   obtain ⟨o, e, _⟩ := T.obj _ _ st2 b hb
   have hlt := Heap.lt_size e
   refine ⟨⟨?_, (f2 b hb).2⟩, by rw [h3, Heap.size_push]; exact Nat.lt_succ_of_lt hlt⟩
   rw [upd_ne (by subst hD; exact Nat.ne_of_lt hlt)]
   exact (f2 b hb).1
 have st3 : tn 0 s3.heap := T.keep _ _ _ st2 fun b _ o e => by rw [h3]; exact Heap.get?_push_of_some _ e
 have I4 := block_start I3 ok hN f3
 have hB : ∀ cenv, HotB (X.blk s3 (upd H2 D (.lst [])) scope cenv fp) := fun cenv => by
   obtain ⟨p, h1, hp⟩ := hc
   have P1 := I3.pin p (List.mem_append_left _ hp)
   exact ⟨p, h1, P1.1, P1.2.1, fun hm => (List.mem_cons.mp (I3.stkSub p.1 hm)).elim P1.2.2.1 P1.2.2.2.1, fun hm => (f3 p.1 hm).1.2.2.2.2.2 p (List.mem_append_left _ hp) rfl⟩
 have pg := hg s3 (upd H2 D (.lst [])) s3.heap.objs.size (cellsFrom (s3.heap.objs.size + 1) scope.names (cloFrom X.env.cells scope.names [])) fp (hB _)
 have pt := ht s3 (upd H2 D (.lst [])) s3.heap.objs.size (cellsFrom (s3.heap.objs.size + 1) scope.names (cloFrom X.env.cells scope.names [])) fp
 have pe := he s3 (upd H2 D (.lst [])) s3.heap.objs.size (cellsFrom (s3.heap.objs.size + 1) scope.names (cloFrom X.env.cells scope.names [])) fp
 show codeAny _ _ (.compStart (.ListComp elt [⟨tg, iter, ifs, 0⟩] scope pos) 0 (.ref it) (.ref D) (compEnvC scope (cellsFrom (s3.heap.objs.size + 1) scope.names (cloFrom X.env.cells scope.names [])) s3.heap.objs.size X.env)) (compPost (model X.prog X.w) X.A X.xe use Qf (.ref D) s3.heap.objs.size) { s3 with heap := pushCells (s3.heap.push { cls := .type "dict", data := .dict #[] }) scope.names }
 have nfp : ∀ b ∈ fp, (upd H2 D (.lst [])) b = none := fun b hb => (f3 b hb).1.1
 have hB := hB (compEnvC scope (cellsFrom (s3.heap.objs.size + 1) scope.names (cloFrom X.env.cells scope.names [])) s3.heap.objs.size X.env)
 generalize hce : compEnvC scope (cellsFrom (s3.heap.objs.size + 1) scope.names (cloFrom X.env.cells scope.names [])) s3.heap.objs.size X.env = ce at I4 pg pt pe hB ⊢
 have cL : ce.locals = s3.heap.objs.size := by subst hce; rfl
 generalize hH3 : upd H2 D (.lst []) = H3 at I3 I4 pg pt pe w0 nfp f3 hB
 generalize hs4 : ({ s3 with heap := pushCells (s3.heap.push { cls := .type "dict", data := .dict #[] }) scope.names } : Shared) = s4 at I4 ⊢
 have st4 : tn 0 s4.heap := T.keep _ _ _ st3 fun b _ o e => by rw [← hs4]; exact pushCells_keeps _ _ _ _ (Heap.get?_push_of_some _ e)
 have stat : ∀ {σ' : St} {H' : Hp} {s' : Shared}, Inv (X.blk s3 H3 scope ce fp) [] σ' H' s' → (∀ b ∈ fp, H' b = none) → ∀ b ∈ fp, FpOk (X.blk s3 H3 scope ce fp) [] H' b := fun {σ' H' s'} I' hn b hb =>
   ⟨hn b hb, (I'.ok.exf b hb).1, I'.ok.exfs b hb, .inl hb, fun x c e => (I'.ok.exf b hb).2 x c e, fun p hp => absurd (show p ∈ ([] : List (Addr × Obj)) ++ [] from hp) (by simp)⟩
 have loop : codeAny (model X.prog X.w) X.A (.compLoop (.ListComp elt [⟨tg, iter, ifs, 0⟩] scope pos) 0 (.ref it) (.ref D) ce) (compPost (model X.prog X.w) X.A X.xe use Qf (.ref D) s3.heap.objs.size) s4 := by
   refine compLoop_any (fun n s' => ∃ i H', Inv (X.blk s3 H3 scope ce fp) [] (wipe σ (own.map (·.2))) H' s' ∧ tn i s'.heap ∧ (∀ b ∈ fp, H' b = none) ∧ W i n H') ?_ m0 ⟨0, H3, I4, st4, nfp, w0⟩
   rintro n s5 ⟨i, H5, I5, st5, n5, w5⟩
   rcases turn i n H5 w5 with ⟨stop, qq⟩ | ⟨go, Nx, hNx, step⟩
   · refine thnF (T.done (X.blk s3 H3 scope ce fp) rfl rfl rfl i [] s5 _ H5 (fun _ _ => False) (hB.at I5) I5 (stat I5 n5) st5 stop) fun r s6 ⟨hr, I6⟩ => ?_
     subst hr
     have I7 : Inv X pins σ H5 s6 := I3.call' (ch := fp) I6.os I6.base I6.hok I6.bare fun b hb => ⟨(f3 b hb).1.2.2.2.1, (f3 b hb).1.2.1, (f3 b hb).1.2.2.2.2.1, (f3 b hb).1.2.2.2.2.2⟩
     have nC : H5 ce.locals = none := I6.free
     obtain ⟨m, hn, _⟩ := I6.loc
     have hn : s6.heap.Ns ce.locals m := hn
     rw [cL] at hn nC
     exact hRR D s3.heap.objs.size s6 m H5 I7 qq hn (I3.fpOk (Nat.le_refl _) nC)
   · refine thnF (T.item (X.blk s3 H3 scope ce fp) rfl rfl rfl i [] s5 _ H5 (fun _ _ => False) I5 (stat I5 n5) st5 go) fun r s6 ⟨u, hr, h6⟩ => ?_
     subst hr
     refine thnF h6 fun _ s7 ⟨x, H7, I7, r7, y7, st7, n7⟩ => ?_
     refine thnF (pg.run _ s7 _ H7 x u _ (I7.pinned (stat I7 n7) (T.obj _ _ st7)) r7 (step x H7 y7)) fun _ s8 ⟨σ8, H8, I8, hw8, q8⟩ => ?_
     refine thnF (pt.run _ s8 σ8 H8 _ I8 q8) fun b s9 ⟨H9, I9, q9⟩ => ?_
     have fin : ∀ {s' : Shared} {H' : Hp}, Inv (X.blk s3 H3 scope ce fp) ([] ++ pinsAt fp s7.heap) σ8 H' s' → Nx H' → ∃ m, m < n ∧ ∃ i H', Inv (X.blk s3 H3 scope ce fp) [] (wipe σ (own.map (·.2))) H' s' ∧ tn i s'.heap ∧ (∀ b ∈ fp, H' b = none) ∧ W i m H' := fun {s' H'} I' nx => by
       obtain ⟨m', hm, w'⟩ := hNx H' nx
       have pin' : ∀ b ∈ fp, ∀ o, s7.heap.get? b = some o → s'.heap.get? b = some o ∧ H' b = none := fun b hb o e =>
         let z := I'.pin (b, o) (List.mem_append_right _ (List.mem_append_right _ (mem_pinsAt hb e)))
         ⟨z.1, z.2.1⟩
       refine ⟨m', hm, i + 1, H', (I'.unpinned (pins := [])).weak (by rw [← hw8, wipe_length]) (fun j v e => (wipe_some (hw8 ▸ e)).1), T.keep _ _ _ st7 fun b hb o e => (pin' b hb o e).1, fun b hb => ?_, w'⟩
       obtain ⟨o, e, _⟩ := T.obj _ _ st7 b hb
       exact (pin' b hb o e).2
     cases b with
     | false =>
       simp only [Bool.false_eq_true, if_false] at q9 ⊢
       exact fin I9 q9
     | true =>
       simp only [if_true] at q9 ⊢
       exact thnF (pe.run _ s9 σ8 H9 _ I9 q9) fun z s10 ⟨yv, H10, I10, r10, acc, hD10, hz10, nx⟩ => app_ok (X := X.blk s3 H3 scope ce fp) I10 hD10 hz10 r10 fun s11 I11 => fin I11 nx
 exact codeAny_compStart_list loop (T.self X.A 0 _ _ _ st4 loop)
theorem pe_lcX {elt tg iter : Expr} {ifs : List Expr} {scope : Scope} {own : List (Str × Nat)} {pos : Pos} {wi : TI} {g : TG} {tt : TT} {te : TE} (hc : HotC X) (hN : X.N.Nodup) (hi : PIX X tg iter wi) (ok : BlkOk X.N X.env.scope scope own)
   (hg : ∀ (s : Shared) (H : Hp) (C : Addr) (cl : List (Str × Addr)) (fp : List Addr), HotB (X.blk s H scope (compEnvC scope cl C X.env) fp) → PG (X.blk s H scope (compEnvC scope cl C X.env) fp) tg g) (ht : ∀ (s : Shared) (H : Hp) (C : Addr) (cl : List (Str × Addr)) (fp : List Addr), PTs (X.blk s H scope (compEnvC scope cl C X.env) fp) ifs tt)
   (he : ∀ (s : Shared) (H : Hp) (C : Addr) (cl : List (Str × Addr)) (fp : List Addr), PE (X.blk s H scope (compEnvC scope cl C X.env) fp) elt te) (hs : ∀ x, foldedSetIterable iter X.env x = pure x) :
   PE X (.ListComp elt [⟨tg, iter, ifs, 0⟩] scope pos) (tLc wi g tt te (own.map (·.2))) := by
 refine ⟨fun pins s σ H Q I h => ?_⟩
 rw [eval_ListComp]
 refine lc_coreX hc hN I hi ok hg ht he hs h fun D C s' m H' I' q hn ⟨f0, f1, f2, f3, f4, f5⟩ => ⟨m, hn, fun h'' sb => ⟨.ref D, H', I'.turned (t' := s'.toks) (fun b o hb e => (sb.2 b hb).trans e) f0 f1 f3 f4 f5, rfl, q⟩⟩
theorem ps_setLcX {i : Nat} {y : Str} {py : Pos} {elt tg iter : Expr} {ifs : List Expr} {scope : Scope} {own : List (Str × Nat)} {pos spos : Pos} {wi : TI} {g : TG} {tt : TT} {te : TE} (hc : HotC X) (hN : X.N.Nodup) (hy : X.N[i]? = some y) (hyl : X.env.scope.names.lookup y = some .local)
   (hsw : swapsWith (.ListComp elt [⟨tg, iter, ifs, 0⟩] scope pos) (some (.Name y py)) spos.line X.env = pure true) (hi : PIX X tg iter wi) (ok : BlkOk X.N X.env.scope scope own)
   (hg : ∀ (s : Shared) (H : Hp) (C : Addr) (cl : List (Str × Addr)) (fp : List Addr), HotB (X.blk s H scope (compEnvC scope cl C X.env) fp) → PG (X.blk s H scope (compEnvC scope cl C X.env) fp) tg g) (ht : ∀ (s : Shared) (H : Hp) (C : Addr) (cl : List (Str × Addr)) (fp : List Addr), PTs (X.blk s H scope (compEnvC scope cl C X.env) fp) ifs tt)
   (he : ∀ (s : Shared) (H : Hp) (C : Addr) (cl : List (Str × Addr)) (fp : List Addr), PE (X.blk s H scope (compEnvC scope cl C X.env) fp) elt te) (hs : ∀ x, foldedSetIterable iter X.env x = pure x) :
   PS X (.Assign [.Name y py] (.ListComp elt [⟨tg, iter, ifs, 0⟩] scope pos) spos) (tAsg (tLc wi g tt te (own.map (·.2))) (gName i)) := by
 refine ⟨fun pins s σ H D I h => ?_⟩
 rw [exec_Assign_Name_used _ _ _ _ hsw]
 refine wpAny_bind (wpAny_standAt (wpAny_bind ?_))
 show wpAny _ X.A (do let _ ← comprehension (.ListComp elt [⟨tg, iter, ifs, 0⟩] scope pos) scope X.env (firstIterPos [⟨tg, iter, ifs, 0⟩] pos) (newList []) false (eval iter X.env) (some (assign (.Name y py) X.env))) _ _ s
 have h : tLc wi g tt te (own.map (·.2)) σ H (fun x H1 => gName i x σ H1 D.nx) := h
 refine wpAny_bind (thn (lc_coreX (Qf := fun _ s' => SP X pins D .next s') hc hN I hi ok hg ht he hs h fun L C s' m H' I' q hn ⟨f0, f1, f2, f3, f4, f5⟩ => ?_) fun _ s' hq => wpAny_pure (wpAny_pure hq))
 show wpAny _ _ (assign (.Name y py) X.env (.ref L)) _ _ _
 refine wpAny_assign_Name (store_ok2 (v := V.ref L) I' hN hy (.inl hyl) rfl (fun s2 I2 ⟨a, sb, ha⟩ => ?_) (.inr hyl))
 have haC : C ≠ a := ha.elim (fun z => by rw [z]; exact f1) fun z e => f4 y a z e.symm
 exact ⟨m, hn.sameBut sb haC, fun h3 sb3 => ⟨_, H', I2.turned (t' := s2.toks) (fun b o hb e => (sb3.2 b hb).trans e) f0 f1 f3 f4 f5, q⟩⟩
end
end L2H
end
section
namespace L2H
open PySem PySem.Spec PyProof.Rows L2 HotX
theorem not_frame {B h : Heap} {l : List Env} {a : Addr} {o : Obj} {vs : Array Value} (ff : h.FunFrames B l) (e : h.get? a = some o) (dd : o.data = .fields vs) : a ∉ frs l := fun hm => by
 obtain ⟨_, o', e', hnf⟩ := ff.mem hm
 rw [e] at e'; cases e'
 exact hnf _ dd
section
variable {X : Cx} {x n : Str} {c : Value} {i : Nat} {body suite : List Stmt} {b₀ : Stmt} {np pos pos' : Pos} {tb : WX → TS} {ts : Addr → Value → Option Addr → TS} {Wout : WX}
theorem ps_try_asC (hs : X.stack = X.env :: X.outer) (hf : X.env.frame = some X.env.locals) (hN : X.N.Nodup) (hi : X.N[i]? = some n) (hln : X.env.kindOf n = some .local) (hc : Names X x c) (tk : L2N.Takes X Wout)
   (hb : ∀ (W : WX) (pn : List (Addr × Obj)) (xe : Value → Shared → Prop), L2N.Takes (X.tr pn xe) W → PassesOwn (model X.prog X.w) X.A X.env xe → PSs (X.tr pn xe) body (tb W))
   (hsu : ∀ (a : Addr) (oe : Obj) (cls : Value) (d : Option Addr) (pn : List (Addr × Obj)), L2N.Zn cls d oe → (∃ vs, oe.data = .fields vs) → PSs (X.suite a ((a, oe) :: pn)) (b₀ :: suite) (ts a cls d)) :
   PS X (.Try body [.ExceptHandler (some (.Name x np)) (some n) (b₀ :: suite) pos'] [] [] pos) (fun D σ H => tb (wAs X.K c i ts Wout D) D σ H) := by
 refine ⟨fun pins s σ H D I h => ?_⟩
 have ok := I.ok
 have hfr : X.A.frames = some (X.env :: X.outer) := by rw [ok.frames, hs]
 refine wpAny_Try_except ?_
 refine wpAny_mono ((hb (wAs X.K c i ts Wout D) (X.pn ++ pins) (fun e s₁ => wpAny (model X.prog X.w) X.A (noteFrame e X.env) (fun _ s₂ => wpAny (model X.prog X.w) X.A (setFlight e none) (fun _ s₃ =>
   wpAny (model X.prog X.w) X.A (handleBy e X.env [.ExceptHandler (some (.Name x np)) (some n) (b₀ :: suite) pos']) (SP X pins D) X.xe s₃) X.xe s₂) X.xe s₁) (fun u s' xx => ?_) PassesOwn.looking).run [] s σ H D (I.toTry _) h) (fun f s1 hsp => ?_) (fun e s1 he => he)
 · obtain ⟨a, B, sI, pins', σ', H', cls, d, rfl, J', nb, up, sky, na, os, ag, b, hb1, hyes, hno⟩ := xx
   have J : Inv X pins σ' H' sI := J'.ofTry ok
   have sky' : Sky B (X.env :: X.outer) a (L2N.Zn cls d) X.env.locals s'.heap := by rw [← hs]; exact sky
   show wpAny (model X.prog X.w) X.A (noteFrame (.ref a) X.env) _ _ _
   refine L2N.Sky.land L2N.Zn.steady hfr hf sky' fun h3 fl3 up3 => ?_
   obtain ⟨oe3, vs3, he3, hz3, hd3⟩ := fl3.there
   have nfr := not_frame fl3.2.2.1 he3 hd3
   have nL : a ≠ X.env.locals := fun z => nfr (List.mem_filterMap.mpr ⟨X.env, List.mem_cons_self, by rw [hf, z]⟩)
   have nF : a ∉ X.fs := fun hm => by
     obtain ⟨e, he, q⟩ := List.mem_filterMap.mp hm
     exact nfr (List.mem_filterMap.mpr ⟨e, List.mem_cons_of_mem _ he, q⟩)
   have J3 : Inv X pins σ' H' { s' with heap := h3 } := J.landed nb fl3.1 (up.trans up3) os ag
   have S3 := J3.suite he3 hd3 na nL nF
   refine wpAny_handleBy_cons (codeAny_handlers_test ?_) (by intro q; cases q)
   have LT : PySem.W.Looks (model X.prog X.w) h3 (typeOf (.ref a)) cls := fun A Q E s k q => wpAny_typeOf_ref (k _ _ he3) (by rw [hz3.1]; exact q)
   have LM := PySem.W.exm_one (M := model X.prog X.w) (J3.kIn) LT hb1
   have test : ∀ {Q : Value → Shared → Prop} {E : Value → Shared → Prop}, Q c { s' with heap := h3 } → wpAny (model X.prog X.w) (X.A.mark (some (.ref a))) (eval (.Name x np) X.env) Q E { s' with heap := h3 } := fun {Q E} q => by
     obtain ⟨hg, hdbg, hm | ⟨hm, hv, hnn⟩⟩ := hc
     · exact ld_glob (X := X.suite a ((a, oe3) :: (X.pn ++ pins))) S3 hg hm q hdbg
     · exact ld_blt (X := X.suite a ((a, oe3) :: (X.pn ++ pins))) S3 hg hm hv q hnn hdbg
   refine test (LM.here ?_)
   cases b with
   | true =>
     refine codeAny_handlers_suite_as (HandSPX.lands_againZ fl3 fun h4 fl4 up4 => ?_)
     obtain ⟨oe4, vs4, he4, hz4, hd4⟩ := fl4.there
     have J4 : Inv X pins σ' H' { s' with heap := h4 } := J.landed nb fl4.1 ((up.trans up3).trans up4) os ag
     refine store_ok (X := X.suite a ((a, oe4) :: (X.pn ++ pins))) (v := .ref a) (J4.suite he4 hd4 na nL nF) hN hi (.inl hln) rfl (fun s5 S5 => ?_) (.inr hln)
     refine wpAny_mono ((hsu a oe4 cls d (X.pn ++ pins) hz4 ⟨_, hd4⟩).run [] s5 _ H' _ S5 (hyes rfl a na)) (fun f s6 hsp => ?_) (fun _ _ z => False.elim z)
     have end_ : ∀ {σ6 : St} {H6 : Hp} {Q : Shared → Prop}, Inv (X.suite a ((a, oe4) :: (X.pn ++ pins))) [] σ6 H6 s6 → (∀ s7, Inv X pins (σ6.set i none) H6 s7 → Q s7) →
         wpAny (model X.prog X.w) X.A (do bindName X.env n .none; unbindBehindTheSuite X.env n pos') (fun _ s7 => Q s7) X.xe s6 := fun {σ6 H6 Q} S6 hq => gone_ok (S6.unsuite ok) hN hi hln hq
     cases f with
     | ret u =>
       obtain ⟨v6, σ6, H6, S6, r6, q6⟩ := hsp
       exact end_ S6 fun s7 J7 => ⟨_, _, _, J7, r6, q6⟩
     | _ =>
       obtain ⟨σ6, H6, S6, q6⟩ := hsp
       exact end_ S6 fun s7 J7 => ⟨_, _, J7, q6⟩
   | false =>
     show wpAny _ X.A (handleBy (.ref a) X.env []) _ _ _
     refine wpAny_handleBy_nil ?_
     obtain ⟨_, _, _, _, _, T, _, _, he, _, hd, h1, _⟩ := id fl3
     unfold PySem.passOn
     refine wpAny_bind (wpAny_field he hd h1 ?_)
     rw [if_neg (show ¬ ((Value.ref T == Value.none) = true) from by simp)]
     have fin : wpAny (model X.prog X.w) X.A (setFlight (.ref a) X.env.frame) (fun _ s4 => wpAny (model X.prog X.w) X.A (throw (.ref a) : Sem Flow) (SP X pins D) X.xe s4) X.xe { s' with heap := h3 } := by
       rw [hf]
       exact HandSPX.setFlight_upZ fl3 fun h4 hh4 up4 => wpAny_throw (tk _ _ ⟨a, B, sI, pins, σ', H', cls, d, rfl, J, nb, (up.trans up3).trans up4, .inr (.inr (by rw [hs]; exact hh4)), na, os, ag, hno rfl⟩)
     first
       | exact wpAny_bind (wpAny_pure (wpAny_bind fin))
       | exact wpAny_bind fin
 · cases f with
   | next =>
     obtain ⟨σ', H', J', q⟩ := hsp
     exact wpAny_execs_nil ⟨σ', H', J'.ofTry ok, q⟩
   | ret u =>
     obtain ⟨v, σ', H', J', r, q⟩ := hsp
     exact ⟨v, σ', H', J'.ofTry ok, r, q⟩
   | _ =>
     obtain ⟨σ', H', J', q⟩ := hsp
     exact ⟨σ', H', J'.ofTry ok, q⟩
theorem ps_try_noC (hs : X.stack = X.env :: X.outer) (hf : X.env.frame = some X.env.locals) (hc : Names X x c) (tk : L2N.Takes X Wout)
   (hb : ∀ (W : WX) (pn : List (Addr × Obj)) (xe : Value → Shared → Prop), L2N.Takes (X.tr pn xe) W → PassesOwn (model X.prog X.w) X.A X.env xe → PSs (X.tr pn xe) body (tb W))
   (hsu : ∀ (a : Addr) (oe : Obj) (cls : Value) (d : Option Addr) (pn : List (Addr × Obj)), L2N.Zn cls d oe → (∃ vs, oe.data = .fields vs) → PSs (X.suite a ((a, oe) :: pn)) (b₀ :: suite) (ts a cls d)) :
   PS X (.Try body [.ExceptHandler (some (.Name x np)) none (b₀ :: suite) pos'] [] [] pos) (fun D σ H => tb (wOnly X.K c ts Wout D) D σ H) := by
 refine ⟨fun pins s σ H D I h => ?_⟩
 have ok := I.ok
 have hfr : X.A.frames = some (X.env :: X.outer) := by rw [ok.frames, hs]
 refine wpAny_Try_except ?_
 refine wpAny_mono ((hb (wOnly X.K c ts Wout D) (X.pn ++ pins) (fun e s₁ => wpAny (model X.prog X.w) X.A (noteFrame e X.env) (fun _ s₂ => wpAny (model X.prog X.w) X.A (setFlight e none) (fun _ s₃ =>
   wpAny (model X.prog X.w) X.A (handleBy e X.env [.ExceptHandler (some (.Name x np)) none (b₀ :: suite) pos']) (SP X pins D) X.xe s₃) X.xe s₂) X.xe s₁) (fun u s' xx => ?_) PassesOwn.looking).run [] s σ H D (I.toTry _) h) (fun f s1 hsp => ?_) (fun e s1 he => he)
 · obtain ⟨a, B, sI, pins', σ', H', cls, d, rfl, J', nb, up, sky, na, os, ag, b, hb1, hyes, hno⟩ := xx
   have J : Inv X pins σ' H' sI := J'.ofTry ok
   have sky' : Sky B (X.env :: X.outer) a (L2N.Zn cls d) X.env.locals s'.heap := by rw [← hs]; exact sky
   show wpAny (model X.prog X.w) X.A (noteFrame (.ref a) X.env) _ _ _
   refine L2N.Sky.land L2N.Zn.steady hfr hf sky' fun h3 fl3 up3 => ?_
   obtain ⟨oe3, vs3, he3, hz3, hd3⟩ := fl3.there
   have nfr := not_frame fl3.2.2.1 he3 hd3
   have nL : a ≠ X.env.locals := fun z => nfr (List.mem_filterMap.mpr ⟨X.env, List.mem_cons_self, by rw [hf, z]⟩)
   have nF : a ∉ X.fs := fun hm => by
     obtain ⟨e, he, q⟩ := List.mem_filterMap.mp hm
     exact nfr (List.mem_filterMap.mpr ⟨e, List.mem_cons_of_mem _ he, q⟩)
   have J3 : Inv X pins σ' H' { s' with heap := h3 } := J.landed nb fl3.1 (up.trans up3) os ag
   have S3 := J3.suite he3 hd3 na nL nF
   refine wpAny_handleBy_cons (codeAny_handlers_test ?_) (by intro q; cases q)
   have LT : PySem.W.Looks (model X.prog X.w) h3 (typeOf (.ref a)) cls := fun A Q E s k q => wpAny_typeOf_ref (k _ _ he3) (by rw [hz3.1]; exact q)
   have LM := PySem.W.exm_one (M := model X.prog X.w) (J3.kIn) LT hb1
   have test : ∀ {Q : Value → Shared → Prop} {E : Value → Shared → Prop}, Q c { s' with heap := h3 } → wpAny (model X.prog X.w) (X.A.mark (some (.ref a))) (eval (.Name x np) X.env) Q E { s' with heap := h3 } := fun {Q E} q => by
     obtain ⟨hg, hdbg, hm | ⟨hm, hv, hnn⟩⟩ := hc
     · exact ld_glob (X := X.suite a ((a, oe3) :: (X.pn ++ pins))) S3 hg hm q hdbg
     · exact ld_blt (X := X.suite a ((a, oe3) :: (X.pn ++ pins))) S3 hg hm hv q hnn hdbg
   refine test (LM.here ?_)
   cases b with
   | true =>
     refine codeAny_handlers_suite (HandSPX.lands_againZ fl3 fun h4 fl4 up4 => ?_)
     obtain ⟨oe4, vs4, he4, hz4, hd4⟩ := fl4.there
     have J4 : Inv X pins σ' H' { s' with heap := h4 } := J.landed nb fl4.1 ((up.trans up3).trans up4) os ag
     refine wpAny_mono ((hsu a oe4 cls d (X.pn ++ pins) hz4 ⟨_, hd4⟩).run [] _ _ H' _ (J4.suite he4 hd4 na nL nF) (hyes rfl a na)) (fun f s6 hsp => ?_) (fun _ _ z => False.elim z)
     cases f with
     | ret u =>
       obtain ⟨v6, σ6, H6, S6, r6, q6⟩ := hsp
       exact ⟨_, _, _, S6.unsuite ok, r6, q6⟩
     | _ =>
       obtain ⟨σ6, H6, S6, q6⟩ := hsp
       exact ⟨_, _, S6.unsuite ok, q6⟩
   | false =>
     show wpAny _ X.A (handleBy (.ref a) X.env []) _ _ _
     refine wpAny_handleBy_nil ?_
     obtain ⟨_, _, _, _, _, T, _, _, he, _, hd, h1, _⟩ := id fl3
     unfold PySem.passOn
     refine wpAny_bind (wpAny_field he hd h1 ?_)
     rw [if_neg (show ¬ ((Value.ref T == Value.none) = true) from by simp)]
     have fin : wpAny (model X.prog X.w) X.A (setFlight (.ref a) X.env.frame) (fun _ s4 => wpAny (model X.prog X.w) X.A (throw (.ref a) : Sem Flow) (SP X pins D) X.xe s4) X.xe { s' with heap := h3 } := by
       rw [hf]
       exact HandSPX.setFlight_upZ fl3 fun h4 hh4 up4 => wpAny_throw (tk _ _ ⟨a, B, sI, pins, σ', H', cls, d, rfl, J, nb, (up.trans up3).trans up4, .inr (.inr (by rw [hs]; exact hh4)), na, os, ag, hno rfl⟩)
     first
       | exact wpAny_bind (wpAny_pure (wpAny_bind fin))
       | exact wpAny_bind fin
 · cases f with
   | next =>
     obtain ⟨σ', H', J', q⟩ := hsp
     exact wpAny_execs_nil ⟨σ', H', J'.ofTry ok, q⟩
   | ret u =>
     obtain ⟨v, σ', H', J', r, q⟩ := hsp
     exact ⟨v, σ', H', J'.ofTry ok, r, q⟩
   | _ =>
     obtain ⟨σ', H', J', q⟩ := hsp
     exact ⟨σ', H', J'.ofTry ok, q⟩
end
structure FnX (P : Program) (w : World) (K : PySem.W.Frag) (mg : Str → Option Value) (base : Heap) (k : Nat) (f : Addr) (fd : FuncData) (ps : List Str) (sp : Addr × Obj → List V → Hp → VK → Prop) : Prop where
 len : ∀ p vs H Q, sp p vs H Q → vs.length = ps.length
 run : ∀ (A : Around) (outer : List Env) (s : Shared) (H : Hp) (args : Args) (us : List Value) (vs : List V) (Q : VK) (p : Addr × Obj), RoomH k A → Hot1 A p → PinOk outer H s p → Env0 P w K mg base A outer s H → BindsTo s fd args (ps.zip us) → Vals vs us → sp p vs H Q →
   codeAny (model P w) A (.call (.ref f) args) (CR (fun _ _ _ _ _ _ => False) outer P w H s Q (fun _ _ _ => False)) s
abbrev cxX (P : Program) (w : World) (K : PySem.W.Frag) (mg : Str → Option Value) (base : Heap) (N : List Str) (qual : Str) (scope : Scope) (f : Addr) (cd : Value) (A : Around) (outer : List Env) (s : Shared) (H : Hp) (p : Addr × Obj) : Cx :=
 Cx.suite (cxH (fun _ _ _ _ _ _ => False) P w K mg base N qual scope f cd A outer s H (fun _ _ _ => False) p) p.1 [p]
theorem mark_self {A : Around} {v : Option Value} (h : A.handled = v) : A.mark v = A := by
 subst h
 obtain ⟨h, d, f, g, u⟩ := A
 cases h <;> rfl
theorem cxX_eq {P : Program} {w : World} {K : PySem.W.Frag} {mg : Str → Option Value} {base : Heap} {N : List Str} {qual : Str} {scope : Scope} {f : Addr} {cd : Value} {A : Around} {outer : List Env} {s : Shared} {H : Hp} {p : Addr × Obj} (h : Hot1 A p) :
   cxX P w K mg base N qual scope f cd A outer s H p = { cxH (fun _ _ _ _ _ _ => False) P w K mg base N qual scope f cd A outer s H (fun _ _ _ => False) p with xe := fun _ _ => False } := by
 have e : (A.deeper (envOfC qual scope s.heap.objs.size f cd)).mark (some (.ref p.1)) = A.deeper (envOfC qual scope s.heap.objs.size f cd) := mark_self (show (A.deeper _).handled = _ from h.1)
 show ({ cxH _ P w K mg base N qual scope f cd A outer s H _ p with A := (A.deeper (envOfC qual scope s.heap.objs.size f cd)).mark (some (.ref p.1)), calm := false, pn := [p], xe := fun _ _ => False } : Cx) = _
 rw [e]
 rfl
theorem fn_ofX {P : Program} {w : World} {K : PySem.W.Frag} {mg : Str → Option Value} {base : Heap} {k : Nat} {f : Addr} {name qual : Str} {params : Arguments} {body : List Stmt} {scope : Scope} {dV kV doc pm cdv ct oc : Value} {an od : Option Addr}
   {osl : Array (Option Value)} {N ps : List Str} {sp : Addr × Obj → List V → Hp → VK → Prop} (lk : K.lookup f = some ⟨oc, od, .func (PySem.W.fnOf name qual params body scope dV kV doc pm an cdv ct), osl⟩) (hcd : PySem.W.codeIn K cdv qual = true) (S : FnScope N ps scope)
   (len : ∀ p vs H Q, sp p vs H Q → vs.length = ps.length)
   (hbody : ∀ (A : Around) (outer : List Env) (s : Shared) (H : Hp) (vs : List V) (Q : VK) (p : Addr × Obj), Hot1 A p → RoomH k (A.deeper (envOfC qual scope s.heap.objs.size f cdv)) → sp p vs H Q →
     ∃ t, PSs (cxX P w K mg base N qual scope f cdv A outer s H p) body t ∧ t { nx := fun _ H' => Q .non H', rt := Q } (L2.start N vs) H) :
   FnX P w K mg base (k + 1) f (PySem.W.fnOf name qual params body scope dV kV doc pm an cdv ct) ps sp := by
 refine ⟨len, fun A outer s H args us vs Q p hr hot hpin e0 hb r hsp => ?_⟩
 have hl := len _ _ _ _ hsp
 have KX : K.In s.heap := e0.mod.kin.keeps fun b o e => (e0.bs b o e).1
 have lim : s.heap.NoLimit := e0.mod.nolimit.keeps fun b o e => (e0.bs b o e).1
 refine codeAny_call_function hr.depth (KX _ _ lk) rfl S.co S.gen rfl (PySem.W.codeRec_of KX hcd) (hb _ _ _ _ (wpAny_newFunctionEnv_cells S.kind (fun ⟨n, v⟩ hy => ?_) fun env he s1 x => ?_))
 · exact (S.par n (List.of_mem_zip hy).1).imp id fun q => ⟨q, PySem.W.cellsFrom_some _ _ _ (.inl q)⟩
 subst he
 refine ⟨lim.keeps x.toInCall.keep, codeAny_func ?_⟩
 obtain ⟨t, ht, hq⟩ := hbody A outer s H vs Q p hot (hr.deeper _) hsp
 have I := inv_startH (CX := fun _ _ _ _ _ _ => False) (E := fun _ _ _ => False) S hpin e0 hl r x
 rw [cxX_eq hot] at ht
 have run := ht.run [] s1 (L2.start N vs) H _ (I.wish fun _ _ => False) hq
 refine wpAny_mono run (fun fl s' hs => ?_) fun e s' hs => False.elim hs
 have fin : ∀ {σ' : St} {H' : Hp} {v : V} {u : Value}, Inv { cxH (fun _ _ _ _ _ _ => False) P w K mg base N qual scope f cdv A outer s H (fun _ _ _ => False) p with xe := fun _ _ => False } [] σ' H' s' → RelV v u → Q v H' → CE outer P w H s Q u s' :=
   fun {σ' H' v u} J rv q => ⟨v, H', J.os, J.bare, J.base, J.hok, rv, q⟩
 cases fl with
 | ret u =>
   obtain ⟨v, σ', H', J, rv, q⟩ := hs
   exact fin J rv q
 | next =>
   obtain ⟨σ', H', J, q⟩ := hs
   exact fin (v := V.non) (u := Value.none) J rfl q
 | _ =>
   obtain ⟨_, _, _, q⟩ := hs
   exact False.elim q
theorem pe_callX {X : Cx} {k : Nat} {f : Addr} {fd : FuncData} {ps : List Str} {sp : Addr × Obj → List V → Hp → VK → Prop} {x : Str} {q pos : Pos} {e : Expr} {te : TE} {p : Addr × Obj} (F : FnX X.prog X.w X.K X.mg X.base k f fd ps sp) (hr : RoomH k X.A) (h1 : Hot1 X.A p) (hp : p ∈ X.pn) (hg : Gl X x) (hm : X.mg x = some (.ref f)) (hk : PySem.W.keepIn X.K (.ref f) = true) (hb : Binds X.K fd ps [])
   (ha : PA X [e] (fun σ H Q => te σ H fun v H1 => Q [v] H1)) (hdb : (x == ("__debug__" : Str)) = false) (hst : starEach [e] X.env = (false, eval e X.env) :: starEach [] X.env) :
   PE X (.Call (.Name x q) [e] [] pos) (fun σ H Q => te σ H fun v H1 => sp p [v] H1 Q) := by
 refine ⟨fun pins s σ H Q I h => ?_⟩
 refine wpAny_Call_Name_kw (ld_glob I hg hm ?_ hdb)
 refine PySem.W.callWith_K (h₀ := X.base) I.ok.mod.kin hk (thn (ha.run pos pins s σ H (fun vs H1 => sp p vs H1 Q) I h) fun us s1 ⟨vs, H1, I1, r1, q1⟩ => ⟨I1.kIn, ?_⟩) hst rfl
 have hl : us.length = ps.length := by rw [← r1.length]; exact F.len _ _ _ _ q1
 have b := hb s1 us I1.kIn (by rw [List.append_nil]; exact hl)
 rw [List.append_nil] at b
 have P1 := I1.pin p (List.mem_append_left _ hp)
 have hpin : PinOk X.stack H1 s1 p := ⟨P1.1, P1.2.1, fun hm => (List.mem_cons.mp (I1.stkSub p.1 hm)).elim P1.2.2.1 P1.2.2.2.1, P1.2.2.2.2⟩
 show wpAny _ _ (call (.ref f) us) _ _ _
 refine wpAny_call (codeAny_mono (F.run X.A X.stack s1 H1 ⟨us, []⟩ us vs Q p hr h1 hpin I1.env0 b r1 q1) fun r s' hq => ?_)
 cases r with
 | error e => exact False.elim hq
 | ok fl =>
   cases fl with
   | ret u => exact I1.after hq
   | next => exact False.elim hq
   | brk => exact False.elim hq
   | cont => exact False.elim hq
end L2H
end
section
namespace L2.MP
open PySem PySem.Spec PyProof.Rows
def CXw (b : Bool) (P : Program) (w : World) : CXT := if b = true then L2.CX P w else L2N.CX P w
def TkW (b : Bool) (X : Cx) (W : WX) : Prop := if b = true then L2.Takes X W else L2N.Takes X W
theorem cx_cold {P : Program} {w : World} {l : List Env} {H : Hp} {s : Shared} {E : XK} {e : Value} {s' : Shared} (h : L2N.CX P w l H s E e s') : L2.CX P w l H s E e s' := by
 obtain ⟨a, B, H', cls, d, h1, h2, h3⟩ := h
 exact ⟨a, B, H', cls, d, h1, L2H.flyingZ_imp (fun o z => L2N.Zn.zc z) h2, h3⟩
theorem xe_cold {X : Cx} {W : WX} {u : Value} {s' : Shared} (h : L2N.XE X W u s') : L2.XE X W u s' := by
 obtain ⟨a, B, sI, pins, σ, H, cls, d, h1, h2, h3, h4, sky, h5⟩ := h
 refine ⟨a, B, sI, pins, σ, H, cls, d, h1, h2, h3, h4, ?_, h5⟩
 rcases sky with ⟨k1, k2, k3, oe, vs, k4, k5, k6⟩ | k | ⟨k1, k2, k3, k4⟩
 · exact .inl ⟨k1, k2, k3, oe, vs, k4, k5.zc, k6⟩
 · exact .inr (.inl (L2H.flyingZ_imp (fun o z => L2N.Zn.zc z) k))
 · exact .inr (.inr ⟨k1, k2, k3, L2H.tracedZ_imp (fun o z => L2N.Zn.zc z) k4⟩)
theorem tk_cold {X : Cx} {W : WX} (t : L2.Takes X W) : L2N.Takes X W := fun u s' h => t u s' (xe_cold h)
theorem TkW.cold {b : Bool} {X : Cx} {W : WX} (t : TkW b X W) : L2N.Takes X W := by
 unfold TkW at t
 cases b with
 | true => exact tk_cold t
 | false => exact t
theorem passW {b b' : Bool} (h : b' = true → b = true) {X : Cx} {W : WX} (tk : TkW b X W) (σ : L2.St) : PassesAt (CXw b' X.prog X.w) X σ (WE W σ) := by
 cases b' with
 | true =>
   have := h rfl
   subst this
   exact passAt (show L2.Takes X W from tk) σ
 | false => exact L2N.passAt tk.cold σ
theorem TkW.of {b : Bool} {X : Cx} {W : WX} (t : L2.Takes X W) : TkW b X W := by
 unfold TkW
 cases b with
 | true => exact t
 | false => exact tk_cold t
theorem tkW_of {b : Bool} {X : Cx} {E : XK} (hs : X.stack = X.env :: X.outer) (hf : X.env.frame = some X.env.locals) (hex : X.ex = []) {E₁ : Value → Shared → Prop}
   (hx : X.xe = fun e s' => wpAny (model X.prog X.w) X.A (leaving X.env e) (fun _ s'' => CXw b X.prog X.w X.outer X.H_0 X.s_0 E e s'') E₁ s') : TkW b X (fun cls d _ H => E cls d H) := by
 cases b with
 | true => exact takes_of hs hf hex hx
 | false => exact L2N.takes_of hs hf hex hx
theorem cxw_none {b : Bool} {P : Program} {w : World} (H : Hp) (s : Shared) (e : Value) (s' : Shared) (h : CXw b P w [] H s (fun _ _ _ => False) e s') : False := by
 have h : L2.CX P w [] H s (fun _ _ _ => False) e s' := by
   cases b with
   | true => exact h
   | false => exact cx_cold h
 obtain ⟨_, _, _, _, _, _, _, _, _, _, _, _, z⟩ := h
 exact z
end L2.MP
end
section
namespace L2.MP
open PySem PySem.Spec PyProof.Rows
structure InitQ where
 b : Str
 f : Str
 s : Str
 t : Str
 y : Str
def initQ : List Stmt → Option InitQ
 | [.Expr (.Call (.Attribute (.Name b _) m p2) [.Name s _, .Name t _] [] pos) _, .Assign [.Attribute (.Name s2 _) f _] (.Name y _) _] => if (p2.endLine == pos.line) && ((m == ("__init__" : Str)) && (s2 == s)) then some ⟨b, f, s, t, y⟩ else none
 | _ => none
def oexB (K : PySem.W.Frag) (C : Addr) : Bool := (match K.lookup C with
 | some ⟨.type "type", _, .cls cd, sl⟩ => (match cd.mro, sl.toList with
   | .ref C' :: bm, [_, _, _, _, some (.builtin n), _] => C' == C && (n == "ValueError.__new__" && (!cd.hasDel && (cd.hasDict && PySem.HandSPX.refsVE bm)))
   | _, _ => false)
 | _ => false) && (decide (PySem.W.findIn K (.ref C) "__setattr__" = some (some (.builtin "object.__setattr__"))) && (decide (PySem.W.subIn K (.ref C) (.type "BaseException") = some true) && (decide (PySem.W.typeIn K (.ref C) = some (.type "type")) && PySem.W.keepIn K (.ref C))))
structure DefX where
 at_ : Str × Option Str
 name : Str
 qual : Str
 params : Arguments
 body : List Stmt
 ps : List Str
 C : Ct
def DefX.m (d : DefX) : DefM := ⟨d.C, d.body, d.ps⟩
structure XinD where
 c : Nat
 f : Str
 d : He.DefD
structure Sys where
 G : Gm
 gl : List (Nat × Str × Gd)
 cls : List Str
 defs : List DefX
 fu : Nat
 xd : List XinD
 tn : List Str
def Sys.ts (Y : Sys) : List He.Tab := (Y.tn.zip Y.G.tb).map fun q => ((fun K => He.ga K q.1), q.2.map (·.1))
def dvOf : D → Option He.Dv
 | .non => some .non
 | .bl b => some (.bl b)
 | .int i => some (.int i)
 | .str s => some (.str s)
 | _ => none
def dvsOf : List D → Option (List He.Dv)
 | [] => some []
 | d :: ds => match dvOf d, dvsOf ds with
   | some v, some vs => some (v :: vs)
   | _, _ => none
def conB (K : PySem.W.Frag) (x : Str) : D → Bool
 | .int i => (He.Fa.int x i).ok K
 | .str s => (He.Fa.str x s).ok K
 | .rt ds => (He.Fa.glo x).ok K && (match dvsOf ds with
   | some vs => He.tupB K x vs
   | none => false)
 | .rl ds => (He.Fa.glo x).ok K && (match dvsOf ds with
   | some vs => He.lstB K x vs
   | none => false)
 | _ => false
def atB (Y : Sys) (i : Nat) (p : Str × Option Str) : Bool := match Y.defs[i]? with
 | some d => decide (d.at_ = p)
 | none => false
def dvT : List (Str × D) → Option (List (Str × He.Dv))
 | [] => some []
 | (x, d) :: r => match dvOf d, dvT r with
   | some v, some vs => some ((x, v) :: vs)
   | _, _ => none
def tabB (K : PySem.W.Frag) (x : Str) (t : List (Str × D)) : Bool := match dvT t with
 | some vs => He.valsB K (He.ga K x) vs
 | none => false
def gdB (Y : Sys) (K : PySem.W.Frag) (x : Str) : Gd → Bool
 | .tab j => (He.Fa.glo x).ok K && (decide (Y.tn[j]? = some x) && (match Y.G.tb[j]? with
   | some t => tabB K x t
   | none => false))
 | .xcl c => (He.Fa.glo x).ok K && (decide (Y.cls[c]? = some x) && (PySem.W.keepIn K (.ref (He.ga K x)) && (decide (PySem.W.subIn K (.ref (He.ga K x)) (.type "BaseException") = some true) && (decide (PySem.W.typeIn K (.ref (He.ga K x)) = some (.type "type")) && ((Y.G.xin.lookup c).isSome || (He.Fa.exc x).ok K)))))
 | .blt b => decide (x = b.name) && (He.Fa.free x).ok K
 | .con j => (match Y.G.con[j]? with
   | some d => conB K x d
   | none => false)
 | .fn i => (He.Fa.glo x).ok K && ((He.Fa.keep x).ok K && atB Y i (x, none))
 | .cls c i => (He.Fa.glo x).ok K && ((He.Fa.mkr x).ok K && (decide (Y.cls[c]? = some x) && atB Y i (x, some "__init__")))
def fldB (Y : Sys) (K : PySem.W.Frag) (f : Str) (cs : List Nat) : Bool := cs.all fun c => match Y.cls[c]? with
 | some x => (He.Fa.cls x).ok K && (He.Fa.noat x f).ok K
 | none => false
def mnB (Y : Sys) (K : PySem.W.Frag) (m : Str) : Mn → Bool
 | .own l => l.all fun q => match Y.cls[q.1]? with
   | some x => (He.Fa.cls x).ok K && ((He.Fa.meth x m).ok K && atB Y q.2 (x, some m))
   | none => false
 | n => decide (m = n.name)
def excB (K : PySem.W.Frag) (D : Addr) : Bool := decide (PySem.W.findIn K (.ref D) "__getattribute__" = some (some (.builtin "BaseException.__getattribute__"))) && (decide (PySem.W.findIn K (.ref D) "__getattr__" = some none) && (decide (PySem.W.subIn K (.ref D) (.type "BaseException") = some true) && (PySem.W.hasDictIn K D && (decide (PySem.W.findIn K (.ref D) "__class__" = some (some (.builtin "object.__class__"))) &&
 (decide (PySem.W.specialIn K (.builtin "object.__class__") "__get__" = some (some (.builtin "getset_descriptor.__get__"))) && (decide (PySem.W.takesIn K (.builtin "object.__class__") = some true) && decide (PySem.W.mroIn K D (.type "object") = some true)))))))
def Sys.ky (Y : Sys) (K : PySem.W.Frag) : Ky := ⟨⟨K, fun c => He.ga K (Y.cls.getD c ""), fun i => match Y.defs[i]? with | some d => He.fAd K d.at_ | none => 0⟩, none⟩
def xcB (K : PySem.W.Frag) (k : Kz) (t : Xt) (fl : List Str) (x : Nat) : Bool := excB K (k.cl x) && (xfB K (k.cl x) && (fl.all (fun f => decide (PySem.W.findIn K (.ref (k.cl x)) f = some none)) && (decide (PySem.W.kitOne K (.ref (k.cl x)) (.type "ValueError") = some true) &&
 t.all fun c => decide (PySem.W.kitOne K (.ref (k.cl x)) (.ref (k.cl c.1)) = some (subX t x (some c.1))) && decide (PySem.W.exmOne K (.ref (k.cl x)) (.ref (k.cl c.1)) = some (subX t x (some c.1))))))
def xinB (Y : Sys) (K : PySem.W.Frag) (e : XinD) : Bool := (match Y.cls[e.c]? with
 | some x => decide (e.d.at_ = (x, some ("__init__" : Str))) && (oexB K (He.ga K x) && (decide (PySem.W.findIn K (.ref (He.ga K x)) "__init__" = some (some (.ref (He.fAd K e.d.at_)))) && (decide (PySem.W.typeIn K (.ref (He.fAd K e.d.at_)) = some (.type "function")) && decide (PySem.W.findIn K (.ref (He.ga K x)) e.f = some none))))
 | none => false) && (match initQ e.d.body with
 | some q => (He.Fa.glo q.b).ok K && (PySem.W.readsIn K (He.ga K q.b) (.type "type") && (decide (PySem.W.specialIn K (.ref (He.ga K q.b)) "__getattribute__" = some (some (.builtin "type.__getattribute__"))) && (match PySem.W.findCls K (.ref (He.ga K q.b)) (.type "type") "__init__" with
   | some (.val (.builtin n)) => n == "ValueError.__init__"
   | _ => false)))
 | none => false)
def Sys.ex (Y : Sys) (K : PySem.W.Frag) : Bool := (Y.G.xcs.all (fun e => xcB K (Y.ky K).toKz Y.G.xcs Y.G.xfl e.1) && Y.xd.all (xinB Y K)) && ((Y.defs.all fun d => d.at_.2.isSome || (He.Fa.glo d.at_.1).ok K) && ((Y.gl.all fun e => gdB Y K e.2.1 e.2.2) && ((Y.G.fld.all fun e => fldB Y K e.2.1 e.2.2) && ((Y.G.mth.all fun e => mnB Y K e.2.1 e.2.2) && (Y.G.hotD.all fun m => decide (m < 200000) || (match Y.defs[m - 200000]? with
 | some d => d.at_.2.isNone && (He.Fa.keep d.at_.1).ok K
 | none => false))))))
def DefX.he (d : DefX) : He.DefD := ⟨d.at_, d.name, d.qual, d.params, d.body, d.C.sc, [], []⟩
def Sys.fn (Y : Sys) : List He.DefD := Y.defs.map DefX.he ++ Y.xd.map (·.d)
def seenM (m a : Nat) : Bool := Nat.beq (Nat.land (Nat.shiftRight m a) 1) 1
def addM : List Addr → Nat → List Addr → List Addr → Nat × List Addr × List Addr
 | [], m, acc, fr => (m, acc, fr)
 | a :: r, m, acc, fr => match seenM m a with
   | true => addM r m acc fr
   | false => HandSHeadRun.frNat (Nat.lor m (Nat.shiftLeft 1 a)) fun m => addM r m (a :: acc) (a :: fr)
def goM (g : Addr → Option Obj) : List Addr → Nat → List Addr → List Addr → Nat × List Addr × List Addr
 | [], m, acc, fr => (m, acc, fr)
 | a :: r, m, acc, fr => match g a with
   | some o => match addM (He.refsD o) m acc fr with
     | (m, acc, fr) => goM g r m acc fr
   | none => goM g r m acc fr
def asL (g : Addr → Option Obj) : Nat → List Addr → Nat → List Addr → List Addr
 | 0, _, _, acc => acc
 | n + 1, fr, m, acc => match goM g fr m acc [] with
   | (m, acc, fr) => asL g n fr m acc
def asM (g : Addr → Option Obj) (n : Nat) : List Addr := asL g n [mainGlobals] (Nat.shiftLeft 1 mainGlobals) [mainGlobals] ++ [cStatics]
theorem run_join {Z A1 A2 A3 A4 A5 A6 : Type} {E : Option Z} {f1 : Z → A1} {f2 : Z → A2} {f3 : Z → A3} {f4 : Z → A4} {f5 : Z → A5} {f6 : Z → A6} {a1 : A1} {a2 : A2} {a3 : A3} {a4 : A4} {a5 : A5} {a6 : A6}
   (h1 : E.map (fun s => (f1 s, f2 s)) = some (a1, a2)) (h2 : E.map (fun s => (f3 s, f4 s)) = some (a3, a4)) (h3 : E.map (fun s => (f5 s, f6 s)) = some (a5, a6)) :
   E.map (fun s => (f1 s, f2 s, (((f3 s, f4 s), f5 s), f6 s))) = some (a1, a2, (((a3, a4), a5), a6)) := by
 cases E with
 | none => cases h1
 | some s =>
   injection h1 with h1
   injection h1 with e1 e2
   injection h2 with h2
   injection h2 with e3 e4
   injection h3 with h3
   injection h3 with e5 e6
   show some (f1 s, f2 s, (((f3 s, f4 s), f5 s), f6 s)) = _
   rw [e1, e2, e3, e4, e5, e6]
def obsM (n : Nat) (fn : List He.DefD) (ts : List He.Tab) (ex : PySem.W.Frag → Bool) (g : Addr → Option Obj) : He.AlX := (He.obsT [] fn ts (He.frT g (asM g n)), ex (He.frT g (asM g n)))
def hookM (n : Nat) (fn : List He.DefD) (ts : List He.Tab) (ex : PySem.W.Frag → Bool) : PySem.W.Hook where
 α := He.AlX
 obs := fun s => obsM n fn ts ex s.heap.get?
 val := fun w => (He.valT fn ts w, true)
 says := fun w h => ∃ K : PySem.W.Frag, K.In h ∧ He.SaysX [] fn ts [] ex w h K
 of := fun _ _ e => ⟨_, He.frT_in, ⟨congrArg (fun z : He.AlX => z.1) e, congrArg (fun z : He.AlX => z.2) e, fun _ h => (nomatch h), fun _ h => (nomatch h), fun _ h => (nomatch h)⟩⟩
 keeps := fun _ _ _ ⟨K, hK, c⟩ k => ⟨K, PySem.W.Frag.In.keeps hK k, ⟨c.t, c.more, c.hd, c.out, fun _ h => (nomatch h)⟩⟩
theorem obsM_eq {n : Nat} {fn : List He.DefD} {ts : List He.Tab} {ex : PySem.W.Frag → Bool} {g : Addr → Option Obj} {s : Shared} (h : ∀ a, g a = s.heap.get? a) : obsM n fn ts ex g = (hookM n fn ts ex).obs s := by
 have e : g = s.heap.get? := funext h
 rw [e] <;> rfl
end L2.MP
end
section
namespace L2.MP
open PySem PySem.Spec PyProof.Rows
section
section
variable {X : Cx} {k : Ky} {W : WX} {a b c : Expr} {ma mb mc : M D} {pos : Pos}
abbrev rIsA (neg : Bool) : R2 := fun x y H Q => (y = .non ∧ Q (.bl (neg != decide (x = .non))) H) ∨ (∃ a b, x = .bl a ∧ y = .bl b ∧ Q (.bl (neg != decide (a = b))) H)
theorem or_is : OpR X (compareOp .Is) (rIsA false) := by
 intro pins s σ H x y v u Q I rx ry h
 rcases h with ⟨e, q⟩ | ⟨a, b, e1, e2, q⟩
 · exact op_isN pins s σ H x y v u Q I rx ry ⟨e, by rw [bxf] at q; exact q⟩
 · exact op_is_bl pins s σ H x y v u Q I rx ry ⟨a, b, e1, e2, by rw [bxf] at q; exact q⟩
theorem or_isnot : OpR X (compareOp .IsNot) (rIsA true) := by
 intro pins s σ H x y v u Q I rx ry h
 rcases h with ⟨e, q⟩ | ⟨a, b, e1, e2, q⟩
 · exact op_notN pins s σ H x y v u Q I rx ry ⟨e, by rw [bxt] at q; exact q⟩
 · exact op_isnot_bl pins s σ H x y v u Q I rx ry ⟨a, b, e1, e2, by rw [bxt] at q; exact q⟩
theorem repH_ne_non {k : Ky} {w : Wd} {H : Hp} {d : D} {v : V} (r : RepH k w H d v) (h : d ≠ .non) (h2 : ∀ i, d ≠ .own i) : v ≠ .non := by
 intro e
 subst e
 cases d with
 | non => exact h rfl
 | own i => exact h2 i rfl
 | bl b => cases (show V.non = _ from r)
 | int b => cases (show V.non = _ from r)
 | str b => cases (show V.non = _ from r)
 | fn b => cases (show V.non = V.ref _ from r)
 | ref n => obtain ⟨a, e, _⟩ := r; cases e
 | _ => obtain ⟨a, vs, e, _⟩ := r; cases e
theorem op2_is (neg : Bool) : Op2 X (rIsA neg) (isD neg) := by
 intro k P w env S σ H x y dx dy d Q hk I rx ry e q
 unfold isD at e
 split at e
 · cases e
   exact .inr ⟨_, _, rx, ry, q w _ H (Wd.Le.refl w) I rfl⟩
 · have ry : y = .non := ry
   refine .inl ⟨ry, ?_⟩
   split at e
   · cases e
     have rx : x = .non := rx
     subst rx
     exact q w _ H (Wd.Le.refl w) I rfl
   · cases e
   · cases e
     rename_i h1 h2
     have := repH_ne_non rx (by intro z; exact h1 z) (fun i z => h2 i z)
     rw [decide_eq_false this]
     exact q w _ H (Wd.Le.refl w) I rfl
 · cases e
theorem atI_rep {k : Ky} {w : Wd} {ds : List D} {vs : List V} {i : Int} {d : D} (r : Reps k w ds vs) (e : atI ds i = some d) : ∃ v, atI vs i = some v ∧ Rep k w d v := by
 unfold atI at *
 obtain ⟨j, e1, e2⟩ := Option.bind_eq_some_iff.mp e
 obtain ⟨v, e3, r2⟩ := r.getD e2
 exact ⟨v, by rw [r.length, e1]; exact e3, r2⟩
def rIxDict : R2 := fun x y H Q => ∃ a v, x = .ref a ∧ DGet H a y (some v) ∧ Q v H
theorem ix_dict (hu : X.A.units + 1 < cLine) : IxR X rIxDict := by
 intro value slice pins s σ H x y v u Q I rx ry h hs
 obtain ⟨a, z, rfl, g, q⟩ := h
 cases rx
 exact tail_any (ops := [.ref a, u]) (dict_typeIs I g) PySem.F.slot_dict_getitem.lookup (d_getItem hu I g ry fun w' s' I' rw' => ⟨z, H, I', rw', q⟩) hs
abbrev rIxA (X : Cx) : R2 := fun x y H Q => rIx X.K x y H Q ∨ rIxDict x y H Q
theorem or_ix (hu : X.A.units + 1 < cLine) : IxR X (rIxA X) := ix_seq.or (ix_dict hu)
theorem op2_ix : Op2 X (rIxA X) ixD := by
 intro k P w env S σ H x y dx dy d Q hk I rx ry e q
 have stay : ∀ {v : V}, Rep k w d v → Q v H := fun r => q w _ H (Wd.Le.refl w) I r
 unfold ixD at e
 split at e
 · obtain ⟨a, vs, rfl, h, r⟩ := seqL_of I rx (.inl rfl)
   obtain ⟨v, e1, r1⟩ := atI_rep r e
   exact .inl (.inl ⟨a, vs, _, v, rfl, ry, hk ▸ h, e1, stay r1⟩)
 · obtain ⟨a, vs, rfl, h, r⟩ := seqL_of I rx (.inr rfl)
   obtain ⟨v, e1, r1⟩ := atI_rep r e
   exact .inl (.inl ⟨a, vs, _, v, rfl, ry, hk ▸ h, e1, stay r1⟩)
 · obtain ⟨a, vs, rfl, h, r⟩ := seqT_of I rx (.inl rfl)
   obtain ⟨v, e1, r1⟩ := atI_rep r e
   exact .inl (.inr (.inl ⟨a, vs, _, v, rfl, ry, hk ▸ h, e1, stay r1⟩))
 · obtain ⟨a, vs, rfl, h, r⟩ := seqT_of I rx (.inr rfl)
   obtain ⟨v, e1, r1⟩ := atI_rep r e
   exact .inl (.inr (.inl ⟨a, vs, _, v, rfl, ry, hk ▸ h, e1, stay r1⟩))
 · split at e
   · rename_i hz
     obtain ⟨c, e1, rfl⟩ := Option.map_eq_some_iff.mp e
     exact .inl (.inr (.inr ⟨_, _, c, rx, ry, hz, e1, stay rfl⟩))
   · cases e
 · obtain ⟨q1, e1, e2⟩ := Option.bind_eq_some_iff.mp e
   obtain ⟨a, kvs, rfl, h1, rfl, r⟩ := rx
   have ex : y = kV q1 := keyOf_rep e1 (by cases dy <;> first | exact ry | cases e1)
   subst ex
   obtain ⟨v, e3, r3⟩ := (look_rep (q := q1) r).1 d e2
   exact .inr ⟨a, v, rfl, e3 ▸ DGet.k h1, stay r3⟩
 · obtain ⟨q1, e1, e2⟩ := Option.bind_eq_some_iff.mp e
   obtain ⟨a, kvs, rfl, h1, rfl, r⟩ := rx
   obtain ⟨p, us, rfl, h2, r2⟩ := ry
   have ex := keysOf_rep e1 r2
   subst ex
   obtain ⟨v, e3, r3⟩ := (look_rep (q := q1) r).1 d e2
   exact .inr ⟨a, v, rfl, e3 ▸ DGet.t h1 (I.rs.frz _ _ h2), stay r3⟩
 · cases e
abbrev rSlAll (X : Cx) : V → Option Int → Option Int → Hp → VK → Prop := fun x lo hi H Q => rSlL X.K x lo hi H Q ∨ (rSlA X.K x lo hi H Q ∨ rSlS x lo hi H Q)
theorem or_sl : SlR X (rSlAll X) := sl_list.or (sl_tupA.or sl_str)
theorem cut_rep {k : Ky} {w : Wd} {ds : List D} {vs : List V} (r : Reps k w ds vs) (lo hi : Option Int) : Reps k w (cutD ds lo hi) (cutV vs lo hi) := by
 unfold cutD cutV
 rw [r.length]
 exact (r.drop _).take _
theorem sl_ok {k : Ky} {P : Hp} {w : Wd} {env : Envr} {S : Sto} {σ : L2.St} {H : Hp} {x : V} {dx d : D} {lo hi : Option Int} {Q : VK} (hk : k.K = X.K) (I : RB k P w env S σ H) (rx : RepH k w H dx x) (e : slD dx lo hi = some d)
   (q : ∀ w' v H', Wd.Le w w' → RB k P w' env S σ H' → Rep k w' d v → Q v H') : rSlAll X x lo hi H Q := by
 have lists : ∀ {l : List D}, (∃ a vs, x = .ref a ∧ SqL k.K H a vs ∧ Reps k w l vs) → d = .lst (cutD l lo hi) → rSlAll X x lo hi H Q := fun {l} ⟨a, vs, e1, h, r⟩ ed => by
   subst ed
   refine .inl ⟨a, vs, e1, hk ▸ h, fun p hp => ?_⟩
   have le := I.le_grow (o := .lst (cutV vs lo hi)) hp
   exact q _ _ _ le (I.grow hp) ⟨p, _, rfl, Wd.fz_at, (cut_rep r lo hi).mono le⟩
 unfold slD at e
 split at e
 · exact lists (seqL_of I rx (.inl rfl)) (Option.some.inj e).symm
 · exact lists (seqL_of I rx (.inr rfl)) (Option.some.inj e).symm
 · rename_i l
   cases e
   have rx' : Rep k w (.tup l) x := rx
   obtain ⟨a, vs, rfl, h, r⟩ := rx
   refine .inr (.inl ⟨a, vs, rfl, SqT.of (I.rs.frz _ _ h), fun ⟨e1, e2⟩ => ?_, fun _ p hp => ?_⟩)
   · have : cutD l lo hi = l := by
       unfold cutD
       rw [← r.length, e1, e2, r.length]
       simp
     rw [this] at q
     exact q w _ H (Wd.Le.refl w) I rx'
   · have le := I.le_grow (o := .tup (cutV vs lo hi)) hp
     exact q _ _ _ le (I.grow hp) ⟨p, _, rfl, Wd.fz_at, (cut_rep r lo hi).mono le⟩
 · split at e
   · rename_i hz
     cases e
     exact .inr (.inr ⟨_, rx, hz, q w _ H (Wd.Le.refl w) I rfl⟩)
   · cases e
 · cases e
def rP (k : Ky) (P : Hp) (σ : L2.St) (Q : Option Int → Hp → Prop) : Option Int → Wd → Envr → Sto → Prop := fun i w env S => ∀ H, RB k P w env S σ H → Q i H
def tPt (k : Ky) (W : WX) (m : M (Option Int)) : TO := fun σ H Q => ∃ P w env S, RB k P w env S σ H ∧ Aft k W P w (m env S) (rP k P σ Q)
theorem po_sub {e : Option Expr} {t t' : TO} (h : PO X e t) (hs : ∀ σ H Q, t' σ H Q → t σ H Q) : PO X e t' := ⟨fun pins s σ H Q I q => h.run pins s σ H Q I (hs σ H Q q)⟩
theorem dp_none : PO X none (tPt k W (dPart none)) := po_sub po_none fun σ H Q ⟨P, w, env, S, I, h⟩ => h.ret H I
theorem dp_some (ha : DE X k W a ma) : PO X (some a) (tPt k W (dPart (some ma))) := po_sub (po_some ha) fun σ H Q ⟨P, w, env, S, I, h⟩ => thenE I h fun d w1 env1 S1 v H1 l1 I1 r1 h1 => by
 cases d <;> first | exact h1.elim | skip
 exact ⟨_, r1, h1.ret H1 I1⟩
theorem thenP {β : Type} {P : Hp} {w : Wd} {env : Envr} {S : Sto} {σ : L2.St} {H : Hp} {m : M (Option Int)} {f : Option Int → M β} {R : β → Wd → Envr → Sto → Prop} {Q : Option Int → Hp → Prop} (I : RB k P w env S σ H) (h : Aft k W P w (M.bind m f env S) R)
   (nx : ∀ i w1 env1 S1 H1, Wd.Le w w1 → RB k P w1 env1 S1 σ H1 → Aft k W P w1 (f i env1 S1) R → Q i H1) : tPt k W m σ H Q :=
 ⟨P, w, env, S, I, h.bind.imp fun d w1 env1 S1 l1 q H1 I1 => nx d w1 env1 S1 H1 l1 I1 q⟩
theorem de_sl {lo hi : Option Expr} {ml mh : Option (M D)} {p2 : Pos} (hk : k.K = X.K) (ha : DO X k W a ma) (hl : PO X lo (tPt k W (dPart ml))) (hh : PO X hi (tPt k W (dPart mh))) : DE X k W (.Subscript a (.Slice lo hi none p2) pos) (dSl ma ml mh) :=
 PE.sub (pe_slice or_sl ha hl hh) fun σ H Q ⟨P, w, env, S, I, h⟩ => thenO I h fun dx w1 env1 S1 x H1 l1 I1 r1 h1 => thenP I1 h1 fun l w2 env2 S2 H2 l2 I2 h2 => thenP I2 h2 fun u w3 env3 S3 H3 l3 I3 h3 => by
   obtain ⟨d, e, h4⟩ := h3.getS.opt
   exact sl_ok hk I3 (I3.view ((r1.up l2).up l3)) e fun w' v H' le J q => (h4.up le).ret v H' J q
theorem df_sl {lo hi : Option Expr} {ml mh : Option (M D)} {p2 : Pos} (hk : k.K = X.K) (ha : DO X k W a ma) (hl : PO X lo (tPt k W (dPart ml))) (hh : PO X hi (tPt k W (dPart mh))) : DF X k W (.Subscript a (.Slice lo hi none p2) pos) (dSlF ma ml mh) :=
 PE.sub (pe_slice sl_list ha hl hh) fun σ H Q ⟨P, w, env, S, I, h⟩ => thenO I h fun dx w1 env1 S1 x H1 l1 I1 r1 h1 => thenP I1 h1 fun l w2 env2 S2 H2 l2 I2 h2 => thenP I2 h2 fun u w3 env3 S3 H3 l3 I3 h3 => by
   obtain ⟨d, e, h4⟩ := h3.getS.opt
   have rx := I3.view ((r1.up l2).up l3)
   have : ∃ ds, (view env3 S3 dx = .lst ds ∨ view env3 S3 dx = .rl ds) ∧ d = .lst (cutD ds l u) := by
     unfold slF at e
     split at e
     · rename_i z; cases e; exact ⟨_, .inl (by assumption), rfl⟩
     · rename_i z; cases e; exact ⟨_, .inr (by assumption), rfl⟩
     · cases e
   obtain ⟨ds, e1, rfl⟩ := this
   obtain ⟨p, vs, rfl, hs, r⟩ := seqL_of I3 rx e1
   refine ⟨p, vs, rfl, hk ▸ hs, fun t ht => ?_⟩
   obtain ⟨J, L⟩ := I3.new (o := .lst (cutV vs l u)) ht
   exact h4.ret t _ _ J upd_same ⟨_, rfl, cut_rep r l u⟩ L
theorem chain_ok {r r' : R2} {f g : D → D → Option D} (hk : k.K = X.K) (hf : Op2 X r f) (hg : Op2 X r' g) {σ : L2.St} {H : Hp} {Q : VK} (h : tE k W (dChain f g ma mb mc) σ H Q) : tChain r r' (tO k W ma) (tO k W mb) (tO k W mc) σ H Q := by
 obtain ⟨P, w, env, S, I, h⟩ := h
 refine thenO I h fun dx w1 env1 S1 x H1 l1 I1 r1 h1 => thenO I1 h1 fun dy w2 env2 S2 y H2 l2 I2 r2 h2 => ?_
 obtain ⟨d, e, h3⟩ := h2.getS.bind.opt
 refine hf k P w2 env2 S2 σ H2 x y _ _ d _ hk I2 (I2.view (r1.up l2)) (I2.view r2) e fun w' v H' le J q => ?_
 have h4 := (h3.up le).ret
 cases d with
 | bl t =>
   have q : v = .bl t := q
   refine ⟨t, q, ?_⟩
   cases t with
   | false => exact iteF (h4.ret _ H' J rfl)
   | true =>
     refine iteT (thenO J h4 fun du w5 env5 S5 u H5 l5 I5 r5 h5 => ?_)
     obtain ⟨d2, e2, h6⟩ := h5.getS.opt
     exact hg k P w5 env5 S5 σ H5 y u _ _ d2 Q hk I5 (I5.view ((r2.up le).up l5)) (I5.view r5) e2 fun w' v H' le J q => (h6.up le).ret v H' J q
 | _ => exact h4.elim
theorem de_chain {op op' : CmpOp} {r r' : R2} {f g : D → D → Option D} (hk : k.K = X.K) (ho : OpR X (compareOp op) r) (ho' : OpR X (compareOp op') r') (hf : Op2 X r f) (hg : Op2 X r' g) (ha : DO X k W a ma) (hb : DO X k W b mb) (hc : DO X k W c mc) (hm : lastMarks [op, op'] [b, c] = false) :
   DE X k W (.Compare a [op, op'] [b, c] pos) (dChain f g ma mb mc) := PE.sub (pe_chain ho ho' ha hb hc hm) fun σ H Q h => chain_ok hk hf hg h
theorem thenBl {β : Type} {P : Hp} {w : Wd} {env : Envr} {S : Sto} {σ : L2.St} {H : Hp} {f : Bool → M β} {R : β → Wd → Envr → Sto → Prop} {Q : VK} (I : RB k P w env S σ H) (h : Aft k W P w (M.bind (dBl ma) f env S) R)
   (nx : ∀ t w1 env1 S1 H1, Wd.Le w w1 → RB k P w1 env1 S1 σ H1 → Aft k W P w1 (f t env1 S1) R → Q (.bl t) H1) : tE k W ma σ H Q :=
 tE_mk I (h.bind.bind.imp fun d w1 env1 S1 l1 q v H1 I1 r1 => by
   cases d <;> first | exact q.elim | skip
   rw [show v = _ from r1]
   exact nx _ w1 env1 S1 H1 l1 I1 q.ret)
variable {rest : List Expr}
theorem de_one {op} (h : DE X k W a ma) : DE X k W (.BoolOp op [a] pos) ma := pe_one h
theorem de_and (ha : DE X k W a ma) (hb : DE X k W (.BoolOp .And (b :: rest) pos) mb) : DE X k W (.BoolOp .And (a :: b :: rest) pos) (dAnd ma mb) :=
 PE.sub (pe_and ha hb) fun σ H Q ⟨P, w, env, S, I, h⟩ => thenBl I h fun t w1 env1 S1 H1 l1 I1 h1 => by
   refine ⟨t, rfl, ?_⟩
   cases t with
   | true => exact iteT ⟨P, w1, env1, S1, I1, h1⟩
   | false => exact iteF (h1.ret _ H1 I1 rfl)
theorem de_or (ha : DE X k W a ma) (hb : DE X k W (.BoolOp .Or (b :: rest) pos) mb) : DE X k W (.BoolOp .Or (a :: b :: rest) pos) (dOr ma mb) :=
 PE.sub (pe_or ha hb) fun σ H Q ⟨P, w, env, S, I, h⟩ => thenBl I h fun t w1 env1 S1 H1 l1 I1 h1 => by
   refine ⟨t, rfl, ?_⟩
   cases t with
   | true => exact iteT (h1.ret _ H1 I1 rfl)
   | false => exact iteF ⟨P, w1, env1, S1, I1, h1⟩
theorem de_not (ha : DE X k W a ma) : DE X k W (.UnaryOp .Not a pos) (dNot ma) :=
 PE.sub (pe_not ha) fun σ H Q ⟨P, w, env, S, I, h⟩ => thenBl I h fun t w1 env1 S1 H1 l1 I1 h1 => ⟨t, rfl, h1.ret _ H1 I1 rfl⟩
theorem de_if {mt : M Bool} (hc : DT X k W c mt) (ha : DE X k W a ma) (hb : DE X k W b mb) : DE X k W (.IfExp c a b pos) (dIf mt ma mb) :=
 PE.sub (pe_ifExp hc ha hb) fun σ H Q ⟨P, w, env, S, I, h⟩ => thenT I h fun t w1 env1 S1 H1 l1 I1 h1 => by
   cases t with
   | true => exact iteT ⟨P, w1, env1, S1, I1, h1⟩
   | false => exact iteF ⟨P, w1, env1, S1, I1, h1⟩
theorem tru_rep {P : Hp} {w : Wd} {env : Envr} {S : Sto} {σ : L2.St} {H : Hp} {d : D} {v : V} {t : Bool} (hk : k.K = X.K) (I : RB k P w env S σ H) (r : RepH k w H d v) (e : truD d = some t) : TruV X.K v H t := by
 have em : ∀ {l : List D} {vs : List V}, Reps k w l vs → (!l.isEmpty) = !vs.isEmpty := fun {l vs} r => by
   cases l with
   | nil =>
     have e : vs = [] := r
     subst e
     rfl
   | cons d l => obtain ⟨v, t, rfl, _⟩ := r; rfl
 unfold truD at e
 split at e
 · cases e; rw [show v = _ from r]; exact rfl
 · cases e; rw [show v = _ from r]; exact rfl
 · cases e; rw [show v = _ from r]; exact rfl
 · split at e
   · cases e; rw [show v = _ from r]; exact ⟨by assumption, rfl⟩
   · cases e
 · cases e
   obtain ⟨a, vs, rfl, h, q⟩ := seqL_of I r (.inl rfl)
   exact .inl ⟨vs, hk ▸ h, em q⟩
 · cases e
   obtain ⟨a, vs, rfl, h, q⟩ := seqL_of I r (.inr rfl)
   exact .inl ⟨vs, hk ▸ h, em q⟩
 · cases e
   obtain ⟨a, vs, rfl, h, q⟩ := seqT_of I r (.inl rfl)
   exact .inr (.inl ⟨vs, hk ▸ h, em q⟩)
 · cases e
   obtain ⟨a, vs, rfl, h, q⟩ := seqT_of I r (.inr rfl)
   exact .inr (.inl ⟨vs, hk ▸ h, em q⟩)
 · cases e
   obtain ⟨a, kvs, rfl, h, rfl, q⟩ := r
   refine .inr (.inr ⟨kvs, h, ?_⟩)
   cases kvs <;> rfl
 · cases e
theorem dt_tru (hk : k.K = X.K) (ha : DO X k W a ma) (he : ∀ whole, isTrue a X.env whole = (do let v ← whole; standAt a.pos; holding [v] (truthy v))) : DT X k W a (dTru ma) :=
 PT.sub (pt_truth ha he) fun σ H Q ⟨P, w, env, S, I, h⟩ => thenO I h fun dx w1 env1 S1 x H1 l1 I1 r1 h1 => by
   obtain ⟨t, e, h2⟩ := h1.getS.opt
   exact ⟨t, tru_rep hk I1 (I1.view r1) e, h2.ret H1 I1⟩
theorem dt_cmp {op : CmpOp} {r : R2} {f : D → D → Option D} (hk : k.K = X.K) (ho : OpR X (compareOp op) r) (hf : Op2 X r f) (ha : DO X k W a ma) (hb : DO X k W b mb) (hm : behindInMarks op b = false) : DT X k W (.Compare a [op] [b] pos) (dBl (dOp2 f ma mb)) :=
 PT.sub (pt_cmpR ho ha hb hm) fun σ H Q ⟨P, w, env, S, I, h⟩ => two hk hf (thenBl (R := rT k P σ Q) I (f := M.ret) (by
   have : M.bind (dBl (dOp2 f ma mb)) M.ret = dBl (dOp2 f ma mb) := by
     funext e s
     unfold M.bind
     cases dBl (dOp2 f ma mb) e s <;> rfl
   rw [this]; exact h) fun t w1 env1 S1 H1 l1 I1 h1 => ⟨t, rfl, h1.ret H1 I1⟩)
theorem dt_chain {op op' : CmpOp} {r r' : R2} {f g : D → D → Option D} (hk : k.K = X.K) (ho : OpR X (compareOp op) r) (ho' : OpR X (compareOp op') r') (hf : Op2 X r f) (hg : Op2 X r' g) (ha : DO X k W a ma) (hb : DO X k W b mb) (hc : DO X k W c mc) (hm : lastMarks [op, op'] [b, c] = false) :
   DT X k W (.Compare a [op, op'] [b, c] pos) (dBl (dChain f g ma mb mc)) :=
 PT.sub (pt_chain ho ho' ha hb hc hm) fun σ H Q ⟨P, w, env, S, I, h⟩ => chain_ok hk hf hg (thenBl (R := rT k P σ Q) I (f := M.ret) (by
   have : M.bind (dBl (dChain f g ma mb mc)) M.ret = dBl (dChain f g ma mb mc) := by
     funext e s
     unfold M.bind
     cases dBl (dChain f g ma mb mc) e s <;> rfl
   rw [this]; exact h) fun t w1 env1 S1 H1 l1 I1 h1 => ⟨t, rfl, h1.ret H1 I1⟩)
variable {ta tb : M Bool}
abbrev DW (X : Cx) (k : Ky) (W : WX) (e : Expr) (m : M Bool) : Prop := PW X e (tTt k W m)
theorem dt_not (h : DT X k W a ta) : DT X k W (.UnaryOp .Not a pos) (dNotT ta) :=
 PT.sub (pt_not h) fun σ H Q ⟨P, w, env, S, I, h⟩ => thenT I h fun t w1 env1 S1 H1 l1 I1 h1 => h1.ret H1 I1
theorem dw_and1 (h : DT X k W a ta) : DW X k W (.BoolOp .And [a] pos) ta := pw_and1 h
theorem dw_or1 (h : DT X k W a ta) : DW X k W (.BoolOp .Or [a] pos) ta := pw_or1 h
theorem dw_and (ha : DT X k W a ta) (hb : DW X k W (.BoolOp .And (b :: rest) pos) tb) : DW X k W (.BoolOp .And (a :: b :: rest) pos) (dAndT ta tb) :=
 PW.sub (pw_and ha hb) fun σ H Q ⟨P, w, env, S, I, h⟩ => thenT I h fun t w1 env1 S1 H1 l1 I1 h1 => by
   cases t with
   | true => exact iteT ⟨P, w1, env1, S1, I1, h1⟩
   | false => exact iteF (h1.ret H1 I1)
theorem dw_or (ha : DT X k W a ta) (hb : DW X k W (.BoolOp .Or (b :: rest) pos) tb) : DW X k W (.BoolOp .Or (a :: b :: rest) pos) (dOrT ta tb) :=
 PW.sub (pw_or ha hb) fun σ H Q ⟨P, w, env, S, I, h⟩ => thenT I h fun t w1 env1 S1 H1 l1 I1 h1 => by
   cases t with
   | true => exact iteT (h1.ret H1 I1)
   | false => exact iteF ⟨P, w1, env1, S1, I1, h1⟩
end
end
section
section
variable {X : Cx} {k : Ky} {W : WX} {a b : Expr} {ma mb : M D} {pos : Pos}
theorem dp_views {P : Hp} {w : Wd} {env : Envr} {S : Sto} {σ : L2.St} {H : Hp} (n : Nat) (I : RB k P w env S σ H) : ∀ (ds : List D) {vs : List V}, okDs n (ds.map (view env S)) = true → Reps k w ds vs → DpAll k.K H vs (toPys (ds.map (view env S)))
 | [], vs, _, r => by rw [show vs = _ from r]; exact .nil
 | d :: ds, vs, h, r => by
   obtain ⟨v, r', rfl, r1, r2⟩ := r
   rw [List.map_cons, okDs, Bool.and_eq_true] at h
   rw [List.map_cons, toPys]
   exact .cons (dp_repB n I h.1 (I.view (RepO.of r1))) (dp_views n I ds h.2 r2)
theorem dp_view2 {P : Hp} {w : Wd} {env : Envr} {S : Sto} {σ : L2.St} {H : Hp} {d : D} {v : V} (n : Nat) (I : RB k P w env S σ H) (h : okD n (view2 env S d) = true) (r : RepO k w σ d v) : Dp k.K H v (toPy (view2 env S d)) := by
 cases d with
 | tup ds =>
   obtain ⟨a, vs, rfl, f, q⟩ := r
   cases n with
   | zero => cases h
   | succ n =>
     unfold view2 at h ⊢
     rw [okD] at h
     exact .tup (SqT.of (I.rs.frz _ _ f)) (dp_views n I ds h q)
 | _ => exact dp_repB n I h (I.view r)
theorem twoV (hk : k.K = X.K) {σ : L2.St} {H : Hp} {Q : VK} (h : tE k W (dOpV ma mb) σ H Q) : tOp (rNeA X) (tO k W ma) (tO k W mb) σ H Q := by
 obtain ⟨P, w, env, S, I, h⟩ := h
 refine thenO I h fun dx w1 env1 S1 x H1 l1 I1 r1 h1 => thenO I1 h1 fun dy w2 env2 S2 y H2 l2 I2 r2 h2 => ?_
 obtain ⟨d, e, h3⟩ := h2.getS.opt
 unfold cmpV at e
 split at e
 · rename_i c
   rw [Bool.and_eq_true] at c
   cases e
   obtain ⟨a1, a2⟩ := toPy_ok 64 _ c.1
   obtain ⟨b1, b2⟩ := toPy_ok 64 _ c.2
   refine .inr (.inl ⟨_, _, hk ▸ dp_view2 64 I2 c.1 (r1.up l2), hk ▸ dp_view2 64 I2 c.2 r2, a1, b1, by omega, ?_⟩)
   rw [eqv_eq 64 64 _ _ c.1 c.2]
   exact h3.ret _ H2 I2 rfl
 · cases e
theorem dt_cmpV (hk : k.K = X.K) (ho : OpR X (compareOp .NotEq) (rNeA X)) (ha : DO X k W a ma) (hb : DO X k W b mb) (hm : behindInMarks .NotEq b = false) : DT X k W (.Compare a [.NotEq] [b] pos) (dBl (dOpV ma mb)) :=
 PT.sub (pt_cmpR ho ha hb hm) fun σ H Q ⟨P, w, env, S, I, h⟩ => twoV hk (thenBl (R := rT k P σ Q) I (f := M.ret) (by
   have : M.bind (dBl (dOpV ma mb)) M.ret = dBl (dOpV ma mb) := by
     funext e s
     unfold M.bind
     cases dBl (dOpV ma mb) e s <;> rfl
   rw [this]; exact h) fun t w1 env1 S1 H1 l1 I1 h1 => ⟨t, rfl, h1.ret H1 I1⟩)
end
end
end L2.MP
end
section
namespace L2.MP
open PySem PySem.Spec PyProof.Rows
section
variable {k : Ky} {w : Wd}
theorem ints_rep : ∀ {ds : List D} {vs : List V} {ns : List Int}, getInts ds = some ns → Reps k w ds vs → vs = ns.map V.int
 | [], _, _, e, r => by cases e; rw [show _ = _ from r]; rfl
 | d :: ds, _, _, e, r => by
   obtain ⟨v, t, rfl, r1, r2⟩ := r
   cases d <;> simp only [getInts] at e <;> try contradiction
   obtain ⟨q, e1, rfl⟩ := Option.map_eq_some_iff.mp e
   rw [show v = _ from r1, ints_rep e1 r2]; rfl
theorem bools_rep : ∀ {ds : List D} {vs : List V} {ns : List Bool}, getBools ds = some ns → Reps k w ds vs → vs = ns.map V.bl
 | [], _, _, e, r => by cases e; rw [show _ = _ from r]; rfl
 | d :: ds, _, _, e, r => by
   obtain ⟨v, t, rfl, r1, r2⟩ := r
   cases d <;> simp only [getBools] at e <;> try contradiction
   obtain ⟨q, e1, rfl⟩ := Option.map_eq_some_iff.mp e
   rw [show v = _ from r1, bools_rep e1 r2]; rfl
theorem strs_rep : ∀ {ds : List D} {vs : List V} {ns : List Str}, getStrs ds = some ns → Reps k w ds vs → vs = ns.map V.str
 | [], _, _, e, r => by cases e; rw [show _ = _ from r]; rfl
 | d :: ds, _, _, e, r => by
   obtain ⟨v, t, rfl, r1, r2⟩ := r
   cases d <;> simp only [getStrs] at e <;> try contradiction
   obtain ⟨q, e1, rfl⟩ := Option.map_eq_some_iff.mp e
   rw [show v = _ from r1, strs_rep e1 r2]; rfl
theorem reps_ints (ns : List Int) : Reps k w (ns.map D.int) (ns.map V.int) := by
 induction ns with
 | nil => rfl
 | cons a r ih => exact ⟨_, _, rfl, rfl, ih⟩
theorem reps_strs (ns : List Str) : Reps k w (ns.map D.str) (ns.map V.str) := by
 induction ns with
 | nil => rfl
 | cons a r ih => exact ⟨_, _, rfl, rfl, ih⟩
end
theorem lstOf_ok {d : D} {l : List D} (e : lstOf d = some l) : d = .lst l ∨ d = .rl l := by
 unfold lstOf at e
 split at e
 · cases e; exact .inl rfl
 · cases e; exact .inr rfl
 · cases e
theorem tupOf_ok {d : D} {l : List D} (e : tupOf d = some l) : d = .tup l ∨ d = .rt l := by
 unfold tupOf at e
 split at e
 · cases e; exact .inl rfl
 · cases e; exact .inr rfl
 · cases e
section
variable {X : Cx} {k : Ky} {W : WX} {a b c e : Expr} {ma mb mc : M D} {pos : Pos}
def OpF1 (X : Cx) (r : V → Hp → VK → Prop) (f : D → Option Cell) : Prop :=
 ∀ (k : Ky) (P : Hp) (w : Wd) (env : Envr) (S : Sto) (σ : L2.St) (H : Hp) (x : V) (dx : D) (c : Cell) (Q : VK), k.K = X.K → RB k P w env S σ H → RepH k w H dx x → f dx = some c →
   (∀ a o, H a = none → RepC k w c o → Q (.ref a) (upd H a o)) → r x H Q
def OpF2 (X : Cx) (r : R2) (f : D → D → Option Cell) : Prop :=
 ∀ (k : Ky) (P : Hp) (w : Wd) (env : Envr) (S : Sto) (σ : L2.St) (H : Hp) (x y : V) (dx dy : D) (c : Cell) (Q : VK), k.K = X.K → RB k P w env S σ H → RepH k w H dx x → RepH k w H dy y → f dx dy = some c →
   (∀ a o, H a = none → RepC k w c o → Q (.ref a) (upd H a o)) → r x y H Q
theorem df_op {op : Operator} {r : R2} {f : D → D → Option Cell} (hk : k.K = X.K) (ho : OpR X (binaryOp op) r) (hf : OpF2 X r f) (ha : DO X k W a ma) (hb : DO X k W b mb) : DF X k W (.BinOp a op b pos) (dOpF2 f ma mb) :=
 PE.sub (pe_op ho ha hb) fun σ H Q ⟨P, w, env, S, I, h⟩ => thenO I h fun dx w1 env1 S1 x H1 l1 I1 r1 h1 => thenO I1 h1 fun dy w2 env2 S2 y H2 l2 I2 r2 h2 => by
   obtain ⟨c, e, h3⟩ := h2.getS.opt
   exact hf k P w2 env2 S2 σ H2 x y _ _ c Q hk I2 (I2.view (r1.up l2)) (I2.view r2) e fun a o n q => by
     obtain ⟨J, L⟩ := I2.new (o := o) n
     exact h3.ret a o _ J upd_same q L
theorem opf_cat : OpF2 X (rAddA X) catF := by
 intro k P w env S σ H x y dx dy c Q hk I rx ry e q
 unfold catF at e
 split at e
 · split at e
   · cases e
     obtain ⟨p, xs, rfl, hp, r1⟩ := rx
     obtain ⟨p2, ys, rfl, hp2, r2⟩ := ry
     exact .inr (.inr (.inl ⟨p, p2, xs, ys, rfl, rfl, hp, hp2, by rw [r1.length, r2.length]; assumption, fun t ht => q t _ ht ⟨_, rfl, r1.append r2⟩⟩))
   · cases e
 · cases e
theorem star1 (e : Expr) (h : ∀ x p, e ≠ .Starred x p) (es : List Expr) (env : Env) : starEach (e :: es) env = (false, eval e env) :: starEach es env := by
 cases e <;> first | rfl | exact absurd rfl (h _ _)
theorem star_false : ∀ (es : List Expr), (∀ e ∈ es, ∀ x p, e ≠ .Starred x p) → ∀ (pos : Pos) (env : Env), (backTo pos (starEach es env)).any (·.1) = false
 | [], _, pos, env => rfl
 | e :: es, h, pos, env => by
   rw [star1 e (h e List.mem_cons_self) es env]
   have ih := star_false es (fun x hx => h x (List.mem_cons_of_mem _ hx)) pos env
   unfold backTo at *
   simpa using ih
inductive Cal where
 | f (id : String) | t (n : String)
def Cal.v : Cal → Value
 | .f id => .builtin id
 | .t n => .type n
theorem pe_blt {x : Str} {c : Cal} {r : List V → Hp → VK → Prop} {es : List Expr} {t : TA} {p : Pos} (hc : CallR X c.v r) (hg : Gl X x) (hm : X.mg x = none) (hv : bootBuiltins x = some c.v) (ha : PA X (e :: es) t) (hn : x ≠ "__name__") (hdb : (x == ("__debug__" : Str)) = false)
   (hs : ∀ q ∈ e :: es, ∀ x p, q ≠ .Starred x p) : PE X (.Call (.Name x p) (e :: es) [] pos) (tCB r t) := by
 cases c with
 | f id => exact pe_callB hc hg hm hv ha hn hdb (star1 e (hs e List.mem_cons_self) es _) (star_false es (fun q hq => hs q (List.mem_cons_of_mem _ hq)) _ _)
 | t n => exact pe_callTy hc hg hm hv ha hn hdb (star1 e (hs e List.mem_cons_self) es _) (star_false es (fun q hq => hs q (List.mem_cons_of_mem _ hq)) _ _)
theorem pa_one {t : TE} (h : PE X a t) (hs : ∀ x p, a ≠ .Starred x p) : PA X [a] (tCons t tNil) := pa_cons h pa_nil (star1 a hs [] _)
theorem de_call1 {x : Str} {c : Cal} {r : List V → Hp → VK → Prop} {f : D → Option D} {p : Pos} (hk : k.K = X.K) (hc : CallR X c.v r) (hf : Op1 X (fun x => r [x]) f) (hg : Gl X x) (hm : X.mg x = none) (hv : bootBuiltins x = some c.v) (hn : x ≠ "__name__") (hdb : (x == ("__debug__" : Str)) = false)
   (ha : DO X k W a ma) (hs : ∀ x p, a ≠ .Starred x p) : DE X k W (.Call (.Name x p) [a] [] pos) (dOp1 f ma) :=
 PE.sub (pe_blt hc hg hm hv (pa_one ha hs) hn hdb fun q hq => by simp at hq; subst hq; exact hs) fun σ H Q ⟨P, w, env, S, I, h⟩ => thenO I h fun dx w1 env1 S1 x H1 l1 I1 r1 h1 => by
   obtain ⟨d, e, h3⟩ := h1.getS.opt
   exact hf k P w1 env1 S1 σ H1 x _ d Q hk I1 (I1.view r1) e fun w' v H' le J q => (h3.up le).ret v H' J q
theorem df_call1 {x : Str} {c : Cal} {r : List V → Hp → VK → Prop} {f : D → Option Cell} {p : Pos} (hk : k.K = X.K) (hc : CallR X c.v r) (hf : OpF1 X (fun x => r [x]) f) (hg : Gl X x) (hm : X.mg x = none) (hv : bootBuiltins x = some c.v) (hn : x ≠ "__name__") (hdb : (x == ("__debug__" : Str)) = false)
   (ha : DO X k W a ma) (hs : ∀ x p, a ≠ .Starred x p) : DF X k W (.Call (.Name x p) [a] [] pos) (dOpF1 f ma) :=
 PE.sub (pe_blt hc hg hm hv (pa_one ha hs) hn hdb fun q hq => by simp at hq; subst hq; exact hs) fun σ H Q ⟨P, w, env, S, I, h⟩ => thenO I h fun dx w1 env1 S1 x H1 l1 I1 r1 h1 => by
   obtain ⟨d, e, h3⟩ := h1.getS.opt
   exact hf k P w1 env1 S1 σ H1 x _ d Q hk I1 (I1.view r1) e fun a o n q => by
     obtain ⟨J, L⟩ := I1.new (o := o) n
     exact h3.ret a o _ J upd_same q L
theorem de_call2 {x : Str} {c : Cal} {r : List V → Hp → VK → Prop} {f : D → D → Option D} {p : Pos} (hk : k.K = X.K) (hc : CallR X c.v r) (hf : Op2 X (fun x y => r [x, y]) f) (hg : Gl X x) (hm : X.mg x = none) (hv : bootBuiltins x = some c.v) (hn : x ≠ "__name__") (hdb : (x == ("__debug__" : Str)) = false)
   (ha : DO X k W a ma) (hb : DO X k W b mb) (hs : ∀ x p, a ≠ .Starred x p) (hs2 : ∀ x p, b ≠ .Starred x p) : DE X k W (.Call (.Name x p) [a, b] [] pos) (dOp2 f ma mb) :=
 PE.sub (pe_blt hc hg hm hv (pa_cons ha (pa_one hb hs2) (star1 a hs _ _)) hn hdb fun q hq => by simp at hq; rcases hq with rfl | rfl <;> assumption) fun σ H Q h => two (r := fun x y => r [x, y]) hk hf h
abbrev rLenA (X : Cx) : List V → Hp → VK → Prop := fun xs H Q => ((∃ x n, xs = [x] ∧ LenV X.K x H n ∧ Q (.int n) H) ∨ rLenT xs H Q) ∨ ∃ a kvs, xs = [V.ref a] ∧ H a = some (.dK kvs) ∧ Q (.int kvs.length) H
theorem cr_len : CallR X (Cal.f "len").v (rLenA X) := (call_len.or call_len_dT).or call_lenD
theorem op1_len : Op1 X (fun x => rLenA X [x]) lenD := by
 intro k P w env S σ H x dx d Q hk I rx e q
 have stay : ∀ {v : V}, Rep k w d v → Q v H := fun r => q w _ H (Wd.Le.refl w) I r
 unfold lenD at e
 split at e
 · split at e
   · cases e; rw [show x = _ from rx]; exact .inl (.inl ⟨_, _, rfl, ⟨by assumption, rfl⟩, stay rfl⟩)
   · cases e
 · cases e
   obtain ⟨a, vs, rfl, h, r⟩ := seqL_of I rx (.inl rfl)
   exact .inl (.inl ⟨_, _, rfl, .inl ⟨vs, hk ▸ h, rfl⟩, stay (by rw [r.length]; rfl)⟩)
 · cases e
   obtain ⟨a, vs, rfl, h, r⟩ := seqL_of I rx (.inr rfl)
   exact .inl (.inl ⟨_, _, rfl, .inl ⟨vs, hk ▸ h, rfl⟩, stay (by rw [r.length]; rfl)⟩)
 · cases e
   obtain ⟨a, vs, rfl, h, r⟩ := seqT_of I rx (.inl rfl)
   exact .inl (.inl ⟨_, _, rfl, .inr ⟨vs, hk ▸ h, rfl⟩, stay (by rw [r.length]; rfl)⟩)
 · cases e
   obtain ⟨a, vs, rfl, h, r⟩ := seqT_of I rx (.inr rfl)
   exact .inl (.inl ⟨_, _, rfl, .inr ⟨vs, hk ▸ h, rfl⟩, stay (by rw [r.length]; rfl)⟩)
 · cases e
   obtain ⟨a, kvs, rfl, h, rfl, r⟩ := rx
   exact .inl (.inr ⟨a, kvs, rfl, h, stay (by rw [List.length_map]; rfl)⟩)
 · cases e
   obtain ⟨a, kvs, rfl, h, rfl, r⟩ := rx
   exact .inr ⟨a, kvs, rfl, h, stay (by rw [List.length_map]; rfl)⟩
 · cases e
abbrev rIntA : List V → Hp → VK → Prop := fun xs H Q => ((∃ i, xs = [.int i] ∧ Q (.int i) H) ∨ ∃ k, xs = [.bl k] ∧ Q (.int (if k then 1 else 0)) H) ∨ ∃ a n, xs = [.str a] ∧ PySem.intText? a = some n ∧ a.length ≤ 640 ∧ Q (.int n) H
theorem cr_int : CallR X (Cal.t "int").v rIntA := call_int1.or call_int_str
theorem op1_int : Op1 X (fun x => rIntA [x]) intD := by
 intro k P w env S σ H x dx d Q hk I rx e q
 have stay : ∀ {v : V}, Rep k w d v → Q v H := fun r => q w _ H (Wd.Le.refl w) I r
 unfold intD at e
 split at e
 · cases e; rw [show x = _ from rx]; exact .inl (.inl ⟨_, rfl, stay rfl⟩)
 · cases e; rw [show x = _ from rx]; exact .inl (.inr ⟨_, rfl, stay rfl⟩)
 · split at e
   · obtain ⟨n, e1, rfl⟩ := Option.map_eq_some_iff.mp e
     rw [show x = _ from rx]; exact .inr ⟨_, n, rfl, e1, by assumption, stay rfl⟩
   · cases e
 · cases e
abbrev rStrA : List V → Hp → VK → Prop := fun xs H Q => (∃ i, xs = [.int i] ∧ i.natAbs.log2 < 1920 ∧ Q (.str (toString i)) H) ∨ ∃ a, xs = [.str a] ∧ Q (.str a) H
theorem cr_str : CallR X (Cal.t "str").v rStrA := call_str_int.or SkE.call_str_str
theorem op1_str : Op1 X (fun x => rStrA [x]) strD := by
 intro k P w env S σ H x dx d Q hk I rx e q
 unfold strD at e
 split at e
 · split at e
   · cases e; rw [show x = _ from rx]; exact .inl ⟨_, rfl, by assumption, q w _ H (Wd.Le.refl w) I rfl⟩
   · cases e
 · cases e; rw [show x = _ from rx]; exact .inr ⟨_, rfl, q w _ H (Wd.Le.refl w) I rfl⟩
 · cases e
theorem op1_all : Op1 X (fun x => rAll X.K [x]) allD := by
 intro k P w env S σ H x dx d Q hk I rx e q
 obtain ⟨l, e1, e⟩ := Option.bind_eq_some_iff.mp e
 obtain ⟨bs, e2, rfl⟩ := Option.map_eq_some_iff.mp e
 obtain ⟨a, vs, rfl, h, r⟩ := seqL_of I rx (lstOf_ok e1)
 exact ⟨a, bs, rfl, bools_rep e2 r ▸ hk ▸ h, q w _ H (Wd.Le.refl w) I rfl⟩
theorem op1_any : Op1 X (fun x => rAny X.K [x]) anyD := by
 intro k P w env S σ H x dx d Q hk I rx e q
 obtain ⟨l, e1, e⟩ := Option.bind_eq_some_iff.mp e
 obtain ⟨bs, e2, rfl⟩ := Option.map_eq_some_iff.mp e
 obtain ⟨a, vs, rfl, h, r⟩ := seqL_of I rx (lstOf_ok e1)
 exact ⟨a, bs, rfl, bools_rep e2 r ▸ hk ▸ h, q w _ H (Wd.Le.refl w) I rfl⟩
theorem op1_sum : Op1 X (fun x => rSum X.K [x]) sumD := by
 intro k P w env S σ H x dx d Q hk I rx e q
 obtain ⟨l, e1, e⟩ := Option.bind_eq_some_iff.mp e
 obtain ⟨bs, e2, rfl⟩ := Option.map_eq_some_iff.mp e
 obtain ⟨a, vs, rfl, h, r⟩ := seqL_of I rx (lstOf_ok e1)
 exact ⟨a, bs, rfl, ints_rep e2 r ▸ hk ▸ h, q w _ H (Wd.Le.refl w) I rfl⟩
theorem minI_uniq : ∀ {l : List Int} {m : Int}, m ∈ l → (∀ y, y ∈ l → m ≤ y) → m = minI l
 | [], _, h, _ => by cases h
 | [a], m, h, _ => (List.mem_singleton.mp h)
 | a :: b :: r, m, h, g => by
   show m = min a (minI (b :: r))
   have hb : minI (b :: r) ∈ b :: r := by
     have key : ∀ (l : List Int) (x : Int), minI (x :: l) ∈ x :: l := by
       intro l
       induction l with
       | nil => intro x; simp [minI]
       | cons y l ih =>
         intro x
         show min x (minI (y :: l)) ∈ _
         by_cases hx : x ≤ minI (y :: l)
         · rw [Int.min_eq_left hx]; exact List.mem_cons_self
         · rw [Int.min_eq_right (by omega)]; exact List.mem_cons_of_mem _ (ih y)
     exact key r b
   have h1 := g a List.mem_cons_self
   have h2 := g _ (List.mem_cons_of_mem _ hb)
   rcases List.mem_cons.mp h with rfl | h
   · omega
   · have := minI_uniq h fun y hy => g y (List.mem_cons_of_mem _ hy)
     omega
theorem maxI_uniq : ∀ {l : List Int} {m : Int}, m ∈ l → (∀ y, y ∈ l → y ≤ m) → m = maxI l
 | [], _, h, _ => by cases h
 | [a], m, h, _ => (List.mem_singleton.mp h)
 | a :: b :: r, m, h, g => by
   show m = max a (maxI (b :: r))
   have hb : maxI (b :: r) ∈ b :: r := by
     have key : ∀ (l : List Int) (x : Int), maxI (x :: l) ∈ x :: l := by
       intro l
       induction l with
       | nil => intro x; simp [maxI]
       | cons y l ih =>
         intro x
         show max x (maxI (y :: l)) ∈ _
         by_cases hx : maxI (y :: l) ≤ x
         · rw [Int.max_eq_left hx]; exact List.mem_cons_self
         · rw [Int.max_eq_right (by omega)]; exact List.mem_cons_of_mem _ (ih y)
     exact key r b
   have h1 := g a List.mem_cons_self
   have h2 := g _ (List.mem_cons_of_mem _ hb)
   rcases List.mem_cons.mp h with rfl | h
   · omega
   · have := maxI_uniq h fun y hy => g y (List.mem_cons_of_mem _ hy)
     omega
theorem op1_min : Op1 X (fun x => rMin X.K [x]) minLD := by
 intro k P w env S σ H x dx d Q hk I rx e q
 obtain ⟨l, e1, e⟩ := Option.bind_eq_some_iff.mp e
 obtain ⟨bs, e2, e⟩ := Option.bind_eq_some_iff.mp e
 split at e
 · cases e
   obtain ⟨a, vs, rfl, h, r⟩ := seqL_of I rx (lstOf_ok e1)
   exact ⟨a, bs, rfl, ints_rep e2 r ▸ hk ▸ h, by assumption, fun m h1 h2 => q w _ H (Wd.Le.refl w) I (by rw [minI_uniq h1 h2]; rfl)⟩
 · cases e
theorem op1_max : Op1 X (fun x => rMax X.K [x]) maxD := by
 intro k P w env S σ H x dx d Q hk I rx e q
 obtain ⟨l, e1, e⟩ := Option.bind_eq_some_iff.mp e
 obtain ⟨bs, e2, e⟩ := Option.bind_eq_some_iff.mp e
 split at e
 · cases e
   obtain ⟨a, vs, rfl, h, r⟩ := seqL_of I rx (lstOf_ok e1)
   exact ⟨a, bs, rfl, ints_rep e2 r ▸ hk ▸ h, by assumption, fun m h1 h2 => q w _ H (Wd.Le.refl w) I (by rw [maxI_uniq h1 h2]; rfl)⟩
 · cases e
theorem op2_min2 : Op2 X (fun x y => (fun (xs : List V) (H : Hp) (Q : VK) => ∃ i j, xs = [.int i, .int j] ∧ Q (.int (if j < i then j else i)) H) [x, y]) min2D := by
 intro k P w env S σ H x y dx dy d Q hk I rx ry e q
 unfold min2D at e
 split at e
 · cases e
   rw [show x = _ from rx, show y = _ from ry]
   exact ⟨_, _, rfl, q w _ H (Wd.Le.refl w) I rfl⟩
 · cases e
theorem op2_max2 : Op2 X (fun x y => (fun (xs : List V) (H : Hp) (Q : VK) => ∃ i j, xs = [.int i, .int j] ∧ Q (.int (if j > i then j else i)) H) [x, y]) max2D := by
 intro k P w env S σ H x y dx dy d Q hk I rx ry e q
 unfold max2D at e
 split at e
 · cases e
   rw [show x = _ from rx, show y = _ from ry]
   exact ⟨_, _, rfl, q w _ H (Wd.Le.refl w) I rfl⟩
 · cases e
abbrev rTupA (X : Cx) : List V → Hp → VK → Prop := fun xs H Q => ∃ p ys, xs = [.ref p] ∧ ((SqL X.K H p ys ∧ ∀ l, H l = none → Q (.ref l) (upd H l (.tup ys))) ∨ (SqT X.K H p ys ∧ Q (.ref p) H))
theorem cr_tuple : CallR X (Cal.t "tuple").v (rTupA X) := call_tuple_of
theorem op1_tuple : Op1 X (fun x => rTupA X [x]) tupleLD := by
 intro k P w env S σ H x dx d Q hk I rx e q
 have lists : ∀ {l : List D}, (∃ a vs, x = .ref a ∧ SqL k.K H a vs ∧ Reps k w l vs) → d = .tup l → rTupA X [x] H Q := fun {l} ⟨a, vs, e1, h, r⟩ ed => by
   subst ed e1
   refine ⟨a, vs, rfl, .inl ⟨hk ▸ h, fun p hp => ?_⟩⟩
   have le := I.le_grow (o := .tup vs) hp
   exact q _ _ _ le (I.grow hp) ⟨p, _, rfl, Wd.fz_at, r.mono le⟩
 unfold tupleLD at e
 split at e
 · exact lists (seqL_of I rx (.inl rfl)) (Option.some.inj e).symm
 · exact lists (seqL_of I rx (.inr rfl)) (Option.some.inj e).symm
 · cases e
   obtain ⟨a, vs, e1, h, r⟩ := seqT_of I rx (.inl rfl)
   exact ⟨a, vs, by rw [e1], .inr ⟨hk ▸ h, e1 ▸ q w _ H (Wd.Le.refl w) I rx⟩⟩
 · cases e
   obtain ⟨a, vs, e1, h, r⟩ := seqT_of I rx (.inr rfl)
   exact ⟨a, vs, by rw [e1], .inr ⟨hk ▸ h, e1 ▸ q w _ H (Wd.Le.refl w) I rx⟩⟩
 · cases e
abbrev rListA (X : Cx) : List V → Hp → VK → Prop := fun xs H Q => ∃ p ys, xs = [.ref p] ∧ (SqL X.K H p ys ∨ SqT X.K H p ys) ∧ ∀ l, H l = none → Q (.ref l) (upd H l (.lst ys))
theorem cr_list : CallR X (Cal.t "list").v (rListA X) := call_list_of
theorem opf_list : OpF1 X (fun x => rListA X [x]) listLF := by
 intro k P w env S σ H x dx c Q hk I rx e q
 unfold listLF at e
 split at e
 · cases e
   obtain ⟨a, vs, rfl, h, r⟩ := seqL_of I rx (.inl rfl)
   exact ⟨a, vs, rfl, .inl (hk ▸ h), fun p hp => q p _ hp ⟨vs, rfl, r⟩⟩
 · cases e
   obtain ⟨a, vs, rfl, h, r⟩ := seqL_of I rx (.inr rfl)
   exact ⟨a, vs, rfl, .inl (hk ▸ h), fun p hp => q p _ hp ⟨vs, rfl, r⟩⟩
 · cases e
   obtain ⟨a, vs, rfl, h, r⟩ := seqT_of I rx (.inl rfl)
   exact ⟨a, vs, rfl, .inr (hk ▸ h), fun p hp => q p _ hp ⟨vs, rfl, r⟩⟩
 · cases e
   obtain ⟨a, vs, rfl, h, r⟩ := seqT_of I rx (.inr rfl)
   exact ⟨a, vs, rfl, .inr (hk ▸ h), fun p hp => q p _ hp ⟨vs, rfl, r⟩⟩
 · cases e
theorem ty_list {K : PySem.W.Frag} {H : Hp} {a : Addr} {vs : List V} (h : SqL K H a vs) : TyX K H (.ref a) (.type "list") := by
 rcases h with (h | ⟨o, h⟩) | ⟨o, its, n, h1, h2, h3, h4, _⟩
 · exact .base (.lst h)
 · exact .base (.frz h)
 · exact .kList h1 h2
theorem ty_tup {K : PySem.W.Frag} {H : Hp} {a : Addr} {vs : List V} (h : SqT K H a vs) : TyX K H (.ref a) (.type "tuple") := by
 rcases h with (h | ⟨o, h⟩) | ⟨o, its, n, h1, h2, h3, _⟩
 · exact .base (.tup h)
 · exact .fTuple h
 · exact .kTuple h1 h2
theorem type_rep {P : Hp} {w : Wd} {env : Envr} {S : Sto} {σ : L2.St} {H : Hp} {d : D} {v : V} {t : String} (I : RB k P w env S σ H) (r : RepH k w H d v) (e : typeD d = some t) : TyX k.K H v (.type t) := by
 unfold typeD at e
 split at e
 · cases e; rw [show v = _ from r]; exact .base .non
 · cases e; rw [show v = _ from r]; exact .base (.bl _)
 · cases e; rw [show v = _ from r]; exact .base (.int _)
 · cases e; rw [show v = _ from r]; exact .base (.str _)
 · cases e; obtain ⟨a, vs, rfl, h, _⟩ := seqT_of I r (.inl rfl); exact ty_tup h
 · cases e; obtain ⟨a, vs, rfl, h, _⟩ := seqT_of I r (.inr rfl); exact ty_tup h
 · cases e; obtain ⟨a, vs, rfl, h, _⟩ := seqL_of I r (.inl rfl); exact ty_list h
 · cases e; obtain ⟨a, vs, rfl, h, _⟩ := seqL_of I r (.inr rfl); exact ty_list h
 · cases e; obtain ⟨a, vs, rfl, h, _⟩ := r; exact .base (.dK h)
 · cases e; obtain ⟨a, vs, rfl, h, _⟩ := r; exact .base (.dT h)
 · cases e
theorem kit_all {t T : String} (ht : t ∈ ["NoneType", "bool", "int", "str", "tuple", "list", "dict"]) (hT : T ∈ ["bool", "int", "str", "tuple", "list", "dict"]) : kitB t T = some (t == T || (t == "bool" && T == "int")) := by
 have h : (["NoneType", "bool", "int", "str", "tuple", "list", "dict"].all fun t => ["bool", "int", "str", "tuple", "list", "dict"].all fun T => decide (kitB t T = some (t == T || (t == "bool" && T == "int")))) = true := by decide +kernel
 exact of_decide_eq_true (List.all_eq_true.mp (List.all_eq_true.mp h t ht) T hT)
theorem typeD_mem {d : D} {t : String} (e : typeD d = some t) : t ∈ ["NoneType", "bool", "int", "str", "tuple", "list", "dict"] := by
 cases d <;> simp only [typeD] at e <;> first | (cases e; decide) | cases e
theorem de_isi {T : Str} {Tn : String} {x : Str} {p p2 : Pos} (hk : k.K = X.K) (hx : x = "isinstance") (hT : Tn ∈ ["bool", "int", "str", "tuple", "list", "dict"]) (hg : Gl X x) (hm : X.mg x = none) (hg2 : Gl X T) (hm2 : X.mg T = none) (hv2 : bootBuiltins T = some (.type Tn)) (hn2 : T ≠ "__name__") (hdb2 : (T == ("__debug__" : Str)) = false)
   (ha : DO X k W a ma) (hs : ∀ x p, a ≠ .Starred x p) : DE X k W (.Call (.Name x p) [a, .Name T p2] [] pos) (dOp1 (isiD Tn) ma) := by
 subst hx
 refine PE.sub (pe_blt (c := .f "isinstance") call_isi hg hm (by decide +kernel) (pa_cons ha (pa_one (pe_bltn hg2 hm2 hv2 (v := .ty Tn) rfl hn2 hdb2) (fun _ _ z => by cases z)) (star1 a hs _ _)) (by decide +kernel) (by decide +kernel) fun q hq => by simp at hq; rcases hq with rfl | rfl; exact hs; intro x p z; cases z) fun σ H Q ⟨P, w, env, S, I, h⟩ => thenO I h fun dx w1 env1 S1 x H1 l1 I1 r1 h1 => ?_
 obtain ⟨d, e, h3⟩ := h1.getS.opt
 obtain ⟨t, e1, rfl⟩ := Option.map_eq_some_iff.mp e
 exact ⟨x, .ty Tn, .type t, .type Tn, _, rfl, .ty Tn, hk ▸ type_rep I1 (I1.view r1) e1, kit_ty (kit_all (typeD_mem e1) hT), h3.ret _ H1 I1 rfl⟩
def TyOk (X : Cx) : List Expr → List String → Prop
 | [], [] => True
 | e :: es, T :: Ts => (∃ (t : Str) (p : Pos), e = .Name t p ∧ T ∈ ["bool", "int", "str", "tuple", "list", "dict"] ∧ Gl X t ∧ X.mg t = none ∧ bootBuiltins t = some (.type T) ∧ t ≠ "__name__" ∧ (t == ("__debug__" : Str)) = false) ∧ TyOk X es Ts
 | _, _ => False
theorem pa_types : ∀ {es : List Expr} {Ts : List String}, TyOk X es Ts → PA X es (fun σ H Q => Q (Ts.map V.ty) H)
 | [], [], _ => pa_nil
 | e :: es, T :: Ts, ⟨⟨t, p, he, _, g, m, b, n, d⟩, h⟩ => by
   subst he
   exact pa_cons (pe_bltn g m b (v := .ty T) rfl n d) (pa_types h) (star1 _ (fun _ _ z => by cases z) _ _)
 | [], _ :: _, h => h.elim
 | _ :: _, [], h => h.elim
theorem ty_len : ∀ {es : List Expr} {Ts : List String}, TyOk X es Ts → ∀ T ∈ Ts, T ∈ ["bool", "int", "str", "tuple", "list", "dict"]
 | [], [], _, _, h => nomatch h
 | e :: es, T :: Ts, ⟨⟨_, _, _, z, _⟩, h⟩, U, hU => by
   rcases List.mem_cons.mp hU with rfl | hU
   · exact z
   · exact ty_len h U hU
 | [], _ :: _, h, _, _ => h.elim
 | _ :: _, [], h, _, _ => h.elim
theorem ty_paired : ∀ Ts : List String, Paired ClsV (Ts.map V.ty) (Ts.map Value.type)
 | [] => .nil
 | T :: Ts => .cons (.ty T) (ty_paired Ts)
theorem kit_any {K : PySem.W.Frag} {t : String} (ht : t ∈ ["NoneType", "bool", "int", "str", "tuple", "list", "dict"]) : ∀ {Ts : List String}, (∀ T ∈ Ts, T ∈ ["bool", "int", "str", "tuple", "list", "dict"]) → PySem.W.kitAny K (.type t) (Ts.map Value.type) = some (Ts.any fun T => t == T || (t == "bool" && T == "int"))
 | [], _ => rfl
 | T :: Ts, h => by
   refine kitAny_cons (kit_ty (kit_all ht (h T List.mem_cons_self))) (fun hb => ?_) (fun hb => ?_)
   · rw [List.any_cons, hb, Bool.false_or]
     exact kit_any ht fun U hU => h U (List.mem_cons_of_mem _ hU)
   · rw [List.any_cons, hb]; rfl
theorem de_isiT {Ts : List String} {es : List Expr} {kk : Nat} {x : Str} {p p2 : Pos} (hk : k.K = X.K) (hx : x = "isinstance") (hT : TyOk X es Ts) (hz : Ts.length ≤ sizeLine) (hg : Gl X x) (hm : X.mg x = none)
   (ha : DO X k W a ma) (hs : ∀ x p, a ≠ .Starred x p) : DE X k W (.Call (.Name x p) [a, .Tuple es kk p2] [] pos) (dOp1 (isiTD Ts) ma) := by
 subst hx
 refine PE.sub (pe_blt (c := .f "isinstance") call_isiT hg hm (by decide +kernel) (pa_cons ha (pa_one (pe_tup (pa_types hT)) (fun _ _ z => by cases z)) (star1 a hs _ _)) (by decide +kernel) (by decide +kernel) fun q hq => by simp at hq; rcases hq with rfl | rfl; exact hs; intro x p z; cases z) fun σ H Q ⟨P, w, env, S, I, h⟩ => thenO I h fun dx w1 env1 S1 x H1 l1 I1 r1 h1 => ?_
 obtain ⟨d, e, h3⟩ := h1.getS.opt
 obtain ⟨t, e1, rfl⟩ := Option.map_eq_some_iff.mp e
 refine ⟨by rw [List.length_map]; exact hz, fun q hq => ?_⟩
 have J := I1.at (keep_new (o := .tup (Ts.map V.ty)) hq)
 exact ⟨x, q, Ts.map V.ty, .type t, Ts.map Value.type, _, rfl, upd_same, ty_paired Ts, hk ▸ type_rep J (J.view r1) e1, kit_any (typeD_mem e1) (ty_len hT), h3.ret _ _ J rfl⟩
theorem sortI_uniq {ns ms : List Int} (p : ms.Perm ns) (s : ms.Pairwise (· ≤ ·)) : ms = sortI ns := by
 refine List.Perm.eq_of_pairwise (le := (· ≤ ·)) (fun a b _ _ h1 h2 => Int.le_antisymm h1 h2) s ?_ (p.trans (List.mergeSort_perm _ _).symm)
 have := List.pairwise_mergeSort (le := fun a b : Int => decide (a ≤ b)) (fun a b c h1 h2 => by simp at *; omega) (fun a b => by simp; omega) ns
 exact this.imp fun h => by simpa using h
theorem rising_pw : ∀ (l : List Str) (p : Str), risingS p l = true → (p :: l).Pairwise fun a b => a.cps.toList ≤ b.cps.toList
 | [], p, _ => by simp
 | x :: r, p, h => by
   have h : (!ltCps x.cps.toList p.cps.toList && risingS x r) = true := h
   rw [Bool.and_eq_true] at h
   have ih := rising_pw r x h.2
   have h1 : p.cps.toList ≤ x.cps.toList := leS_iff.mp h.1
   refine List.pairwise_cons.mpr ⟨fun y hy => ?_, ih⟩
   rcases List.mem_cons.mp hy with rfl | hy
   · exact h1
   · exact List.le_trans h1 ((List.pairwise_cons.mp ih).1 y hy)
theorem sortS_uniq {ys xs : List Str} (p : ys.Perm xs) (s : sortedS ys = true) : ys = sortS xs := by
 have pw : ys.Pairwise fun a b => a.cps.toList ≤ b.cps.toList := by
   cases ys with
   | nil => exact List.Pairwise.nil
   | cons y ys => exact rising_pw ys y s
 exact List.Perm.eq_of_pairwise (le := fun a b : Str => a.cps.toList ≤ b.cps.toList) (fun a b _ _ h1 h2 => str_eq (List.le_antisymm h1 h2)) pw (sortS_pw xs) (p.trans (sortS_perm xs).symm)
theorem opf_sorted : OpF1 X (fun x H Q => rSorted X.K [x] H Q ∨ rSortedS X.K [x] H Q) sortedB := by
 intro k P w env S σ H x dx c Q hk I rx e q
 obtain ⟨l, e1, e⟩ := Option.bind_eq_some_iff.mp e
 split at e
 · rename_i hl
   obtain ⟨a, vs, rfl, h, r⟩ := seqL_of I rx (lstOf_ok e1)
   have hv := r.length
   split at e
   · rename_i ns e2
     cases e
     have ev := ints_rep e2 r
     refine .inl ⟨a, ns, rfl, ev ▸ hk ▸ h, by rw [ev, List.length_map] at hv; omega, fun ms p h1 h2 h3 => ?_⟩
     rw [sortI_uniq h1 h2]
     exact q p _ h3 ⟨_, rfl, reps_ints _⟩
   · obtain ⟨xs, e2, rfl⟩ := Option.map_eq_some_iff.mp e
     have ev := strs_rep e2 r
     refine .inr ⟨a, xs, rfl, ev ▸ hk ▸ h, by rw [ev, List.length_map] at hv; omega, fun ms p h1 h2 h3 => ?_⟩
     rw [sortS_uniq h1 h2]
     exact q p _ h3 ⟨_, rfl, reps_strs _⟩
 · cases e
end
end L2.MP
end
section
namespace L2.MP
open PySem PySem.Spec PyProof.Rows
def spOf (k : Ky) (n : Nat) (f : Fn) : Sp := fun vs H Q E => ∃ P w S ds, RS k P w S H ∧ Reps k w ds vs ∧ ds.length = n ∧ match f ds S with
 | .ok d S' => ∀ w' v H', Wd.Le w w' → RS k P w' S' H' → Rep k w' d v → Q v H'
 | .exc x S' => ∀ w' H' cls dx, Wd.Le w w' → RS k P w' S' H' → RepX k w' x cls dx → E cls dx H'
 | .bad => False
theorem spOf.len {k : Ky} {n : Nat} {f : Fn} {vs : List V} {H : Hp} {Q : VK} {E : XK} (h : spOf k n f vs H Q E) : vs.length = n := by
 obtain ⟨P, w, S, ds, _, r, e, _⟩ := h
 rw [r.length, e]
theorem spOf.imp {k : Ky} {n : Nat} {f g : Fn} (h : ∀ ds S, ds.length = n → g ds S ≠ .bad → f ds S = g ds S) {vs : List V} {H : Hp} {Q : VK} {E : XK} (p : spOf k n g vs H Q E) : spOf k n f vs H Q E := by
 obtain ⟨P, w, S, ds, i, r, e, q⟩ := p
 have nb : g ds S ≠ .bad := fun z => by rw [z] at q; exact q
 exact ⟨P, w, S, ds, i, r, e, by rw [h ds S e nb]; exact q⟩
section
variable {X : Cx} {k : Ky} {W : WX} {a b c e o : Expr} {ma mb mc : M D} {pos : Pos} {es : List Expr} {mas : M (List D)}
theorem call_sp {P : Hp} {w : Wd} {env : Envr} {S : Sto} {σ : L2.St} {H : Hp} {f : Fn} {n : Nat} {ds : List D} {vs : List V} {Q : VK} (I : RB k P w env S σ H) (r : Reps k w ds vs) (hn : ds.length = n) (h : Aft k W P w ((f ds S).out env) (rE k P σ Q)) : spOf k n f vs H Q (WE W σ) := by
 refine ⟨callP P env σ H, w, S, ds, I.toCall, r, hn, ?_⟩
 cases ef : f ds S with
 | ok d S' =>
   rw [ef] at h
   exact fun w' v H' le g q => h w' le v H' (I.ofCall g le) q
 | exc x S' =>
   rw [ef] at h
   exact fun w' H' cls dx le g q => h w' σ H' cls dx le (I.ofCall g le) q
 | bad => rw [ef] at h; exact h
theorem aft_len {α : Type} {P : Hp} {w : Wd} {env : Envr} {S : Sto} {R : α → Wd → Envr → Sto → Prop} {c : Prop} [Decidable c] {m : M α} (h : Aft k W P w ((if c then m else M.fail : M α) env S) R) : c ∧ Aft k W P w (m env S) R := if_ok h
theorem de_call {CX : CXT} {x : Str} {f : Addr} {fd : FuncData} {ps : List Str} {fn : Fn} {p : Pos} {lv n : Nat} (F : FnOk X.prog X.w X.K X.mg X.base CX lv f fd ps (spOf k n fn)) (hr : Room lv X.A) (hg : Gl X x) (hm : X.mg x = some (.ref f)) (hk : PySem.W.keepIn X.K (.ref f) = true) (hb : Binds X.K fd ps [])
   (pa : ∀ σ, PassesAt CX X σ (WE W σ)) (ha : DA X k W (e :: es) mas) (hdb : (x == ("__debug__" : Str)) = false) (hs : ∀ q ∈ e :: es, ∀ x p, q ≠ .Starred x p) :
   DE X k W (.Call (.Name x p) (e :: es) [] pos) (M.bind mas fun ds => if ds.length = n then (fun env S => (fn ds S).out env) else M.fail) :=
 PE.sub (pe_callSD F hr hg hm hk hb .nil pa ha hdb (star1 e (hs e List.mem_cons_self) es _) (star_false es (fun q hq => hs q (List.mem_cons_of_mem _ hq)) _ _)) fun σ H Q ⟨P, w, env, S, I, h⟩ =>
   thenA I h fun ds w1 env1 S1 vs H1 l1 I1 r1 h1 => by
     obtain ⟨hn, h1⟩ := if_ok h1
     rw [List.append_nil]
     exact call_sp I1 r1 hn h1
theorem lookF_eq {α : Type} (f : Str) : ∀ fs : List (Str × α), fs.lookup f = lookF f fs
 | [] => rfl
 | (g, x) :: r => by
   rw [List.lookup_cons]
   show _ = if g = f then some x else lookF f r
   by_cases h : g = f
   · subst h; simp
   · have : (f == g) = false := by simpa using fun e : f = g => h e.symm
     rw [this, if_neg h]
     exact lookF_eq f r
theorem lookF_rep {w : Wd} {f : Str} : ∀ {fd : List (Str × D)} {fs : List (Str × V)}, fs.map (·.1) = fd.map (·.1) → Reps k w (fd.map (·.2)) (fs.map (·.2)) → (lookF f fd = none → lookF f fs = none) ∧ ∀ d, lookF f fd = some d → ∃ v, lookF f fs = some v ∧ Rep k w d v
 | [], [], _, _ => ⟨fun _ => rfl, fun d e => by cases e⟩
 | [], _ :: _, e, _ => by simp at e
 | _ :: _, [], e, _ => by simp at e
 | (g, d) :: fd, (g', v) :: fs, e, r => by
   simp only [List.map_cons, List.cons.injEq] at e
   obtain ⟨v', t, e2, r1, r2⟩ := r
   simp only [List.map_cons, List.cons.injEq] at e2
   obtain ⟨rfl, rfl⟩ := e2
   obtain ⟨rfl, e⟩ := e
   obtain ⟨i1, i2⟩ := lookF_rep (f := f) e r2
   unfold lookF
   by_cases h : g' = f
   · rw [if_pos h, if_pos h]
     exact ⟨fun z => (by cases z), fun d' z => (by cases z; exact ⟨v, rfl, r1⟩)⟩
   · rw [if_neg h, if_neg h]
     exact ⟨i1, i2⟩
theorem insOf_ok {P : Hp} {w : Wd} {S : Sto} {H : Hp} {c n : Nat} {d : D} {v : V} {fs : List (Str × D)} (I : RS k P w S H) (r : Rep k w d v) (e : insOf c S d = some (n, fs)) :
   d = .ref n ∧ S[n]? = some (.ins c fs) ∧ ∃ a dx fv, v = .ref a ∧ w.R n = some a ∧ H a = some (.ins (k.cl c) dx fv) ∧ fv.map (·.1) = fs.map (·.1) ∧ Reps k w (fs.map (·.2)) (fv.map (·.2)) := by
 cases d <;> simp only [insOf] at e <;> try contradiction
 rename_i m
 split at e
 · rename_i c' gs he
   split at e
   · rename_i hc
     subst hc
     cases e
     obtain ⟨a, rfl, ra⟩ := r
     obtain ⟨cc, o, e1, e2, e3, e4⟩ := I.lt ra
     rw [he] at e1; cases e1
     obtain ⟨dx, fv, rfl, h1, h2⟩ := e4
     exact ⟨rfl, he, a, dx, fv, rfl, ra, e2, h1, h2⟩
   · cases e
 · cases e
theorem run_fnD {C : CXT} {lv : Nat} {f : Addr} {fd : FuncData} {ps : List Str} {sp : Sp} {E : St → XK} {pins : List (Addr × Obj)} {σ : L2.St} {H : Hp} {s : Shared} {Q : VK} {us : List Value} {vs : List V} (F : FnOk X.prog X.w X.K X.mg X.base C lv f fd ps sp) (hr : Room lv X.A) (hb : Binds X.K fd ps [])
   (hx : PassesAt C X σ (E σ)) (I : Inv X pins σ H s) (r : Vals vs us) (h : sp vs H Q (E σ)) : wpAny (model X.prog X.w) X.A (call (.ref f) us) (EP X pins σ Q) X.xe s := run_fnS F hr hb hx I r h
theorem make_sp {P : Hp} {w : Wd} {env : Envr} {S : Sto} {σ : L2.St} {H : Hp} {fn : Fn} {cn n : Nat} {ds : List D} {vs : List V} {Q : VK} (I : RB k P w env S σ H) (r : Reps k w ds vs) (hn : (D.non :: ds).length = n)
   (h : Aft k W P w (match fn (.ref S.length :: ds) (S ++ [.ins cn []]) with
     | .ok .non S' => .ok (.ref S.length) env S'
     | .ok _ _ => .bad
     | .exc x S' => .exc x env S'
     | .bad => .bad) (rE k P σ Q)) {x dx : Addr} (hx : H x = none) (hd : H dx = none) (ne : dx ≠ x) :
   spOf k n fn (.ref x :: vs) (upd (upd H dx (.own x)) x (.ins (k.cl cn) dx [])) (fun v H2 => v = .non ∧ Q (.ref x) H2) (WE W σ) := by
 have I1 : RB k P w env S σ (upd H dx (.own x)) := I.at (keep_new hd)
 have hx1 : (upd H dx (.own x)) x = none := (upd_ne (Ne.symm ne)).trans hx
 obtain ⟨I2, L⟩ := I1.new (o := .ins (k.cl cn) dx []) hx1
 have I3 := I2.alloc (c := .ins cn []) upd_same ⟨dx, [], rfl, rfl, rfl⟩ L
 have le := I2.rs.al_le (a := x)
 refine ⟨callP P env σ _, w.al S.length x, _, .ref S.length :: ds, I3.toCall, ⟨_, _, rfl, ⟨x, rfl, Wd.al_at⟩, r.mono le⟩, by simpa using hn, ?_⟩
 cases ef : fn (.ref S.length :: ds) (S ++ [.ins cn []]) with
 | ok d S' =>
   rw [ef] at h
   cases d <;> first | exact h.elim | skip
   exact fun w' v H' le2 g q => ⟨q, h w' (le.trans le2) _ H' (I3.ofCall g le2) ⟨x, rfl, le2.r _ _ Wd.al_at⟩⟩
 | exc x S' =>
   rw [ef] at h
   exact fun w' H' cls dx le2 g q => h w' σ H' cls dx (le.trans le2) (I3.ofCall g le2) q
 | bad => rw [ef] at h; exact h
theorem run_makeD {C : CXT} {lv : Nat} {f Ca : Addr} {fd : FuncData} {ps : List Str} {sp : Sp} {E : St → XK} {pins : List (Addr × Obj)} {σ : L2.St} {H : Hp} {s : Shared} {Q : VK} {us : List Value} {vs : List V} (Mk' : Mk X.K Ca f) (F : FnOk X.prog X.w X.K X.mg X.base C lv f fd ps sp) (hr : Room (lv + 1) X.A) (hb : Binds X.K fd ps [])
   (hx : PassesAt C X σ (E σ)) (I : Inv X pins σ H s) (r : Vals vs us)
   (h : ∀ x dx, H x = none → H dx = none → dx ≠ x → sp (.ref x :: vs) (upd (upd H dx (.own x)) x (.ins Ca dx [])) (fun v H2 => v = .non ∧ Q (.ref x) H2) (E σ)) :
   wpAny (model X.prog X.w) X.A (call (.ref Ca) us) (EP X pins σ Q) X.xe s := by
 have q0 := h (s.heap.objs.size + 1) s.heap.objs.size (I.hok.fresh (Nat.le_succ _)) (I.hok.fresh (Nat.le_refl _)) (Nat.ne_of_lt (Nat.lt_succ_self _))
 have J := Inv.made (C := Ca) I
 have rr : Vals (V.ref (s.heap.objs.size + 1) :: vs) (Value.ref (s.heap.objs.size + 1) :: us) := .cons rfl r
 have ln : (Value.ref (s.heap.objs.size + 1) :: us).length = ps.length := rr.length.symm.trans (F.len _ _ _ _ q0)
 have bb := hb _ (Value.ref (s.heap.objs.size + 1) :: us) J.kIn (by rw [List.append_nil]; exact ln)
 rw [List.append_nil] at bb
 refine wpAny_call (make_map (f := f) I.kIn Mk'.makes Mk'.init (beq_iff_eq.mp Mk'.fn) (codeAny_mono (F.run _ X.stack _ _ _ _ _ _ (E σ) (hr.make Ca us []) (J.env0.make Ca us []) bb rr q0) fun res s' hq => ?_))
 cases res with
 | error er => exact hx pins _ _ er s' J hq
 | ok fl =>
   cases fl with
   | ret u =>
     obtain ⟨v, H', J2, rv, ev, q3⟩ := J.after hq
     subst ev
     exact ⟨rv, V.ref (s.heap.objs.size + 1), H', J2, rfl, q3⟩
   | next => exact hq.elim
   | brk => exact hq.elim
   | cont => exact hq.elim
theorem de_make {CX : CXT} {x : Str} {f : Addr} {fd : FuncData} {ps : List Str} {fn : Fn} {p : Pos} {lv n cn : Nat} (Mk' : Mk X.K (k.cl cn) f) (F : FnOk X.prog X.w X.K X.mg X.base CX lv f fd ps (spOf k n fn)) (hr : Room (lv + 1) X.A) (hg : Gl X x) (hm : X.mg x = some (.ref (k.cl cn))) (hb : Binds X.K fd ps [])
   (pa : ∀ σ, PassesAt CX X σ (WE W σ)) (ha : DA X k W (e :: es) mas) (hdb : (x == ("__debug__" : Str)) = false) (hs : ∀ q ∈ e :: es, ∀ x p, q ≠ .Starred x p) :
   DE X k W (.Call (.Name x p) (e :: es) [] pos) (dMake cn n fn mas) := by
 refine ⟨fun pins s σ H Q I h => ?_⟩
 obtain ⟨P, w, env, S, J, h⟩ := h
 refine wpAny_Call_Name_kw (ld_glob I hg hm ?_ hdb)
 refine PySem.W.callWith_K (first := []) (h₀ := X.base) I.ok.mod.kin Mk'.kp (thn (ha.run pos pins s σ H (fun vs H1 => ∀ x dx, H1 x = none → H1 dx = none → dx ≠ x → spOf k n fn (.ref x :: vs) (upd (upd H1 dx (.own x)) x (.ins (k.cl cn) dx [])) (fun v H2 => v = .non ∧ Q (.ref x) H2) (WE W σ)) I
   (thenA J h fun ds w1 env1 S1 vs H1 l1 I1 r1 h1 x dx hx hd ne => by
     obtain ⟨hn, h1⟩ := if_ok h1
     exact make_sp I1 r1 hn h1 hx hd ne)) fun us s1 ⟨vs, H1, I1, r, q⟩ => ⟨I1.kIn, ?_⟩) (star1 e (hs e List.mem_cons_self) es _) (star_false es (fun q hq => hs q (List.mem_cons_of_mem _ hq)) _ _)
 exact run_makeD Mk' F hr hb (pa σ) I1 r q
theorem de_make0 {CX : CXT} {x : Str} {f : Addr} {fd : FuncData} {ps : List Str} {fn : Fn} {p : Pos} {lv n cn : Nat} (Mk' : Mk X.K (k.cl cn) f) (F : FnOk X.prog X.w X.K X.mg X.base CX lv f fd ps (spOf k n fn)) (hr : Room (lv + 1) X.A) (hg : Gl X x) (hm : X.mg x = some (.ref (k.cl cn))) (hb : Binds X.K fd ps [])
   (pa : ∀ σ, PassesAt CX X σ (WE W σ)) (hdb : (x == ("__debug__" : Str)) = false) :
   DE X k W (.Call (.Name x p) [] [] pos) (dMake cn n fn dNil) := by
 refine ⟨fun pins s σ H Q I h => ?_⟩
 obtain ⟨P, w, env, S, J, h⟩ := h
 refine wpAny_Call_Name_kw (ld_glob I hg hm ?_ hdb)
 have h1 : Aft k W P w ((if (D.non :: []).length = n then (fun env S => match fn (.ref S.length :: []) (S ++ [.ins cn []]) with
   | .ok .non S' => .ok (.ref S.length) env S'
   | .ok _ _ => .bad
   | .exc x S' => .exc x env S'
   | .bad => .bad) else M.fail : M D) env S) (rE k P σ Q) := h
 obtain ⟨hn, h1⟩ := if_ok h1
 exact PySem.W.callWith_K0 (first := []) I.kIn Mk'.kp (run_makeD (us := []) Mk' F hr hb (pa σ) I .nil fun x dx hx hd ne => make_sp (ds := []) J rfl hn h1 hx hd ne)
theorem de_fld {f : Str} {cs : List Nat} (hc : ∀ c ∈ cs, Cls X.K (k.cl c) ∧ NoAttr X.K (k.cl c) f) (ho : DE X k W o ma) (hb : attributeBase o f X.env (eval o X.env) = eval o X.env) : DE X k W (.Attribute o f pos) (dFld cs f ma) :=
 PE.sub (pe_fld ho hb) fun σ H Q ⟨P, w, env, S, I, h⟩ => thenE I h fun d w1 env1 S1 v H1 l1 I1 r1 h1 => by
   cases d <;> first | exact h1.elim | skip
   rename_i n
   dsimp only at h1
   obtain ⟨a, rfl, ra⟩ := r1
   obtain ⟨c, o, e1, e2, e3, e4⟩ := I1.rs.lt ra
   rw [e1] at h1
   cases c with
   | ins c fs =>
     dsimp only at h1
     obtain ⟨dx, fv, rfl, q1, q2⟩ := e4
     by_cases hm : c ∈ cs
     · rw [if_pos hm] at h1
       cases el : lookF f fs with
       | none => rw [el] at h1; exact h1.elim
       | some d =>
         rw [el] at h1
         obtain ⟨v, e5, r5⟩ := (lookF_rep q1 q2).2 d el
         exact ⟨a, _, dx, fv, v, rfl, e2, (hc c hm).1, (hc c hm).2, (lookF_eq f fv).trans e5, h1.ok v H1 I1 r5⟩
     · rw [if_neg hm] at h1; exact h1.elim
   | _ => exact h1.elim
theorem putG_V (f : Str) (v : V) : ∀ fs : List (Str × V), putF f v fs = putG f v fs
 | [] => rfl
 | (g, x) :: r => by
   show (if g = f then (g, v) :: r else (g, x) :: putF f v r) = if g = f then (g, v) :: r else (g, x) :: putG f v r
   rw [putG_V f v r]
theorem putG_rep {w : Wd} {f : Str} {d : D} {v : V} (g : Rep k w d v) : ∀ {fd : List (Str × D)} {fs : List (Str × V)}, fs.map (·.1) = fd.map (·.1) → Reps k w (fd.map (·.2)) (fs.map (·.2)) →
   (putG f v fs).map (·.1) = (putG f d fd).map (·.1) ∧ Reps k w ((putG f d fd).map (·.2)) ((putG f v fs).map (·.2))
 | [], [], _, _ => ⟨rfl, Reps.one g⟩
 | [], _ :: _, e, _ => by simp at e
 | _ :: _, [], e, _ => by simp at e
 | (a, x) :: fd, (b, y) :: fs, e, r => by
   simp only [List.map_cons, List.cons.injEq] at e
   obtain ⟨v', t, e2, r1, r2⟩ := r
   simp only [List.map_cons, List.cons.injEq] at e2
   obtain ⟨rfl, rfl⟩ := e2
   obtain ⟨rfl, e⟩ := e
   obtain ⟨i1, i2⟩ := putG_rep g e r2
   unfold putG
   by_cases h : b = f
   · rw [if_pos h, if_pos h]
     exact ⟨by simp [e], ⟨_, _, rfl, g, r2⟩⟩
   · rw [if_neg h, if_neg h]
     exact ⟨by simp [i1], ⟨_, _, rfl, r1, i2⟩⟩
theorem putS_ok {P : Hp} {w : Wd} {env : Envr} {S S' : Sto} {σ : L2.St} {H : Hp} {cs : List Nat} {f : Str} {d x : D} {v y : V} (hc : ∀ c ∈ cs, Cls X.K (k.cl c) ∧ NoAttr X.K (k.cl c) f) (I : RB k P w env S σ H) (r : Rep k w x v) (g : Rep k w d y) (e : putS cs f d x S = some S') :
   ∃ a C dx fs, v = .ref a ∧ H a = some (.ins C dx fs) ∧ Cls X.K C ∧ NoAttr X.K C f ∧ fs.length < 1000 ∧ RB k P w env S' σ (upd H a (.ins C dx (putF f y fs))) := by
 cases x <;> simp only [putS] at e <;> try contradiction
 rename_i n
 split at e
 · rename_i c fs he
   split at e
   · rename_i hcc
     cases e
     obtain ⟨a, rfl, ra⟩ := r
     obtain ⟨cc, o, e1, e2, e3, e4⟩ := I.rs.lt ra
     rw [he] at e1; cases e1
     obtain ⟨dx, fv, rfl, q1, q2⟩ := e4
     obtain ⟨p1, p2⟩ := putG_rep (f := f) g q1 q2
     refine ⟨a, _, dx, fv, rfl, e2, (hc c hcc.1).1, (hc c hcc.1).2, ?_, ?_⟩
     · have := congrArg List.length q1
       simp at this
       omega
     · rw [putG_V]
       exact I.updS ra ⟨dx, _, rfl, p1, p2⟩
   · cases e
 · cases e
theorem ds_fld {f : Str} {cs : List Nat} {p2 : Pos} (hc : ∀ c ∈ cs, Cls X.K (k.cl c) ∧ NoAttr X.K (k.cl c) f) (ho : DE X k W o ma) (hv : DE X k W e mb) (hs : swapsWith e (some (.Attribute o f p2)) pos.line X.env = pure false) : DS X k W (.Assign [.Attribute o f p2] e pos) (dSetFld cs f ma mb) :=
 PS.sub (ps_fld ho hv hs) fun Dn σ H ⟨P, w, env, S, I, h⟩ => thenE I h fun d w1 env1 S1 y H1 l1 I1 r1 h1 => thenE I1 h1 fun x w2 env2 S2 v H2 l2 I2 r2 h2 => by
   obtain ⟨S', e, h3⟩ := h2.getS.bind.opt
   obtain ⟨a, C, dx, fs, q1, q2, q3, q4, q5, q6⟩ := putS_ok hc I2 r2 (Rep.mono l2 d r1) e
   have h4 : Aft k W P w2 (M.ret Flo.nx env2 S') (rS k P Dn) := h3.ret
   exact ⟨a, C, dx, fs, q1, q2, q3, q4, q5, h4.ret σ _ q6⟩
theorem Aft.prot {α : Type} {P : Hp} {w : Wd} {o : Out α} {R : α → Wd → Envr → Sto → Prop} {p : Addr} {u : HO} (h : Aft k W P w o R) (n : P p = none) : Aft k W (upd P p u) w o R := by
 cases o with
 | ok a env S => exact h
 | exc x env S => exact fun w' σ H cls dx le I r => h w' σ H cls dx le (I.unprotect n).1 r
 | bad => exact h
theorem ds_fldF {f : Str} {cs : List Nat} {p2 : Pos} {mf : M Cell} (hc : ∀ c ∈ cs, Cls X.K (k.cl c) ∧ NoAttr X.K (k.cl c) f) (ho : DE X k W o ma) (hv : DF X k W e mf) (hs : swapsWith e (some (.Attribute o f p2)) pos.line X.env = pure false) : DS X k W (.Assign [.Attribute o f p2] e pos) (dSetFldF cs f ma mf) :=
 PS.sub (ps_fld ho hv hs) fun Dn σ H ⟨P, w, env, S, I, h⟩ => ⟨P, w, env, S, I, h.bind.imp fun c w1 env1 S1 l1 q p o H1 I1 e1 r1 L => by
   have I1' := I1.protect e1 L
   refine ⟨upd P p o, w1, env1, S1, I1', ((q.bind (m := ma)).prot L.p).imp fun x w2 env2 S2 l2 h2 v H2 I2 r2 => ?_⟩
   obtain ⟨I2, e2, L2⟩ := I2.unprotect L.p
   obtain ⟨S', e, h3⟩ := h2.getS.bind.opt
   have le := I2.rs.al_le (a := p)
   have I3 := I2.alloc e2 (r1.mono l2) L2
   obtain ⟨a, C, dx, fs, q1, q2, q3, q4, q5, q6⟩ := putS_ok (d := .ref S2.length) (y := .ref p) hc I3 (Rep.mono le x r2) ⟨p, rfl, Wd.al_at⟩ e
   have h4 : Aft k W P w2 (M.ret Flo.nx env2 S') (rS k P Dn) := h3.ret
   exact ⟨a, C, dx, fs, q1, q2, q3, q4, q5, (h4.up le).ret σ _ q6⟩⟩
end
end L2.MP
end
section
namespace L2.MP
open PySem PySem.Spec PyProof.Rows RZ
mutual
theorem sameD_eq : ∀ (a b : D), sameD a b = true → a = b
 | .non, b, h => by cases b <;> first | rfl | cases h
 | .bl x, b, h => by cases b <;> first | (rw [eq_of_beq (show (x == _) = true from h)]) | cases h
 | .int x, b, h => by cases b <;> first | (rw [eq_of_beq (show (x == _) = true from h)]) | cases h
 | .str x, b, h => by cases b <;> first | (rw [eq_of_beq (show (x == _) = true from h)]) | cases h
 | .ref x, b, h => by cases b <;> first | (rw [eq_of_beq (show (x == _) = true from h)]) | cases h
 | .tup x, b, h => by cases b <;> first | (rw [sameDs_eq x _ h]) | cases h
 | .lst x, b, h => by cases b <;> first | (rw [sameDs_eq x _ h]) | cases h
 | .rl x, b, h => by cases b <;> first | (rw [sameDs_eq x _ h]) | cases h
 | .rt x, b, h => by cases b <;> first | (rw [sameDs_eq x _ h]) | cases h
 | .dk _ _, b, h => by cases b <;> cases h
 | .dt _ _, b, h => by cases b <;> cases h
 | .own _, b, h => by cases b <;> cases h
theorem sameDs_eq : ∀ (a b : List D), sameDs a b = true → a = b
 | [], [], _ => rfl
 | [], _ :: _, h => by cases h
 | _ :: _, [], h => by cases h
 | a :: r, b :: s, h => by
   have h : (sameD a b && sameDs r s) = true := h
   rw [Bool.and_eq_true] at h
   rw [sameD_eq a b h.1, sameDs_eq r s h.2]
end
structure Agree (vs : List Nat) (σ σ' : L2.St) : Prop where
 len : σ'.length = σ.length
 at_ : ∀ j, j ∉ vs → σ'[j]? = σ[j]?
theorem Agree.refl {vs : List Nat} {σ : L2.St} : Agree vs σ σ := ⟨rfl, fun _ _ => rfl⟩
theorem Agree.trans {vs : List Nat} {a b c : L2.St} (h : Agree vs a b) (g : Agree vs b c) : Agree vs a c := ⟨g.len.trans h.len, fun j hj => (g.at_ j hj).trans (h.at_ j hj)⟩
theorem Agree.mono {vs us : List Nat} {a b : L2.St} (h : Agree vs a b) (s : ∀ j ∈ vs, j ∈ us) : Agree us a b := ⟨h.len, fun j hj => h.at_ j fun z => hj (s j z)⟩
theorem Agree.set {vs : List Nat} {σ : L2.St} {i : Nat} {v : Option V} (hi : i ∈ vs) : Agree vs σ (σ.set i v) := ⟨by simp, fun j hj => List.getElem?_set_ne (fun e => hj (by rw [← e]; exact hi))⟩
def tG (k : Ky) (vs : List Nat) (g : Tgt) : TG := fun v σ H Q => ∃ P w env S d env', RB k P w env S σ H ∧ Rep k w d v ∧ g d env = some env' ∧ ∀ σ', Agree vs σ σ' → RB k P w env' S σ' H → Q σ' H
def tGs (k : Ky) (vs : List Nat) (g : List Tgt) : TGs := fun us σ H Q => ∃ P w env S ds env', RB k P w env S σ H ∧ Reps k w ds us ∧ gTs g ds env = some env' ∧ ∀ σ', Agree vs σ σ' → RB k P w env' S σ' H → Q σ' H
theorem pg_sub' {X : Cx} {tg : Expr} {t t' : TG} (h : PG X tg t) (hs : ∀ v σ H Q, t' v σ H Q → t v σ H Q) : PG X tg t' := ⟨fun pins s σ H v u Q I r q => h.run pins s σ H v u Q I r (hs v σ H Q q)⟩
theorem pgs_sub' {X : Cx} {tg : List Expr} {t t' : TGs} (h : PGs X tg t) (hs : ∀ v σ H Q, t' v σ H Q → t v σ H Q) : PGs X tg t' := ⟨fun pins s σ H v u Q I r q => h.run pins s σ H v u Q I r (hs v σ H Q q)⟩
section
variable {X : Cx} {k : Ky} {pos : Pos} {vs : List Nat}
theorem dg_name {i : Nat} {x : Str} (hN : X.N.Nodup) (hi : X.N[i]? = some x) (hx : Loc X.env.scope x) (hf : X.fn x = true ∨ X.env.scope.names.lookup x = some .local) (hv : i ∈ vs) : PG X (.Name x pos) (tG k vs (gNm i)) :=
 pg_sub' (pg_name hN hi hx hf) fun v σ H Q ⟨P, w, env, S, d, env', I, r, e, q⟩ => by
   cases e
   exact q _ (.set hv) (I.setVal r)
theorem dgs_nil : PGs X [] (tGs k vs []) := pgs_sub' pgs_nil fun v σ H Q ⟨P, w, env, S, ds, env', I, r, e, q⟩ => by
 cases ds with
 | nil =>
   cases e
   exact ⟨r, q σ .refl I⟩
 | cons d ds => cases e
theorem dgs_cons {e : Expr} {es : List Expr} {g : Tgt} {gs : List Tgt} (h1 : PG X e (tG k vs g)) (h2 : PGs X es (tGs k vs gs)) (hs : (assignEach (e :: es) X.env).map (·.2) = assign e X.env :: (assignEach es X.env).map (·.2)) : PGs X (e :: es) (tGs k vs (g :: gs)) :=
 pgs_sub' (pgs_cons h1 h2 hs) fun us σ H Q ⟨P, w, env, S, ds, env', I, r, e, q⟩ => by
   cases ds with
   | nil => cases e
   | cons d ds =>
     obtain ⟨v, t, rfl, r1, r2⟩ := r
     obtain ⟨env1, e1, e2⟩ := Option.bind_eq_some_iff.mp e
     exact ⟨v, t, rfl, P, w, env, S, d, env1, I, r1, e1, fun σ1 a1 I1 => ⟨P, w, env1, S, ds, env', I1, r2, e2, fun σ2 a2 I2 => q σ2 (a1.trans a2) I2⟩⟩
theorem gTs_len : ∀ {gs : List Tgt} {ds : List D} {env env' : Envr}, gTs gs ds env = some env' → ds.length = gs.length
 | [], [], _, _, _ => rfl
 | [], _ :: _, _, _, e => by cases e
 | _ :: _, [], _, _, e => by cases e
 | g :: gs, d :: ds, env, env', e => by
   obtain ⟨_, _, e2⟩ := Option.bind_eq_some_iff.mp e
   simp [gTs_len e2]
theorem dg_tup {es : List Expr} {kk : Nat} {gs : List Tgt} (hk : k.K = X.K) (hc : X.calm = true) (h : PGs X es (tGs k vs gs)) (hn : (assignEach es X.env).length = gs.length) (hst : (assignEach es X.env).findIdx? (·.1) = none) : PG X (.Tuple es kk pos) (tG k vs (gTp gs)) :=
 pg_sub' (pg_tup hc h hn hst) fun v σ H Q ⟨P, w, env, S, d, env', I, r, e, q⟩ => by
   unfold gTp at e
   split at e
   · rename_i ds ed
     have key : ∃ a us, v = .ref a ∧ SqT k.K H a us ∧ Reps k w ds us := by
       rcases tupOf_ok ed with rfl | rfl
       · obtain ⟨a, us, e1, f, r⟩ := r; exact ⟨a, us, e1, SqT.of (I.rs.frz _ _ f), r⟩
       · obtain ⟨a, us, e1, f, r⟩ := r; exact ⟨a, us, e1, sqT_mono I.rs.frz f, r⟩
     obtain ⟨a, us, rfl, f, r⟩ := key
     exact ⟨a, us, rfl, hk ▸ f, by rw [r.length, gTs_len e], P, w, env, S, ds, env', I, r, e, q⟩
   · cases e
end
structure ItOk (k : Ky) (w0 : Wd) (src : Src) (J : It) : Prop where
 ex : ∃ G Y, Walk J src.1.length G Y ∧ (∀ P w env S σ H, Wd.Le w0 w → RB k P w env S σ H → gOk src.2 src.1 S = true → G H) ∧
   ∀ P w env S σ H i x H', Wd.Le w0 w → RB k P w env S σ H → gOk src.2 src.1 S = true → i < src.1.length → Y i H x H' → ∃ w' d, src.1[i]? = some d ∧ Wd.Le w w' ∧ RB k P w' env S σ H' ∧ Rep k w' d x
def rI' (k : Ky) (P : Hp) (σ : L2.St) (R : It → Hp → Prop) : Src → Wd → Envr → Sto → Prop := fun src w env S => ∀ H J, RB k P w env S σ H → ItOk k w src J → R J H
def tI (k : Ky) (W : WX) (m : M Src) : TI := fun σ H R => ∃ P w env S, RB k P w env S σ H ∧ Aft k W P w (m env S) (rI' k P σ R)
abbrev DI (X : Cx) (k : Ky) (W : WX) (tg e : Expr) (m : M Src) : Prop := PI X tg e (tI k W m)
theorem pi_sub {X : Cx} {tg e : Expr} {t t' : TI} (h : PI X tg e t) (hs : ∀ σ H R, t' σ H R → t σ H R) : PI X tg e t' := ⟨fun pins s σ H R I q => h.run pins s σ H R I (hs σ H R q)⟩
section
variable {X : Cx} {k : Ky} {W : WX} {a b e tg : Expr} {ma mb : M D} {pos : Pos}
def iAny (K : PySem.W.Frag) (t : TE) : TI := fun σ H R => t σ H fun x H1 => (∃ a, x = .ref a ∧ (∃ xs, SqL K H1 a xs) ∧ R (Itl K a) H1) ∨ ((∃ a, x = .ref a ∧ (∃ xs, SqT K H1 a xs) ∧ R (Itt K a) H1) ∨ ∃ z, x = .str z ∧ R (Its z) H1)
theorem pi_any {t : TE} (h : PE X e t) : PI X tg e (iAny X.K t) := by
 constructor
 intro pins s σ H R I hq
 refine thn (h.run pins s σ H _ I hq) ?_
 rintro v s1 ⟨x, H1, J, r, (⟨a, rfl, ⟨xs, hs⟩, q⟩ | ⟨a, rfl, ⟨xs, hs⟩, q⟩ | ⟨z, rfl, q⟩)⟩
 · cases r
   obtain ⟨its, _, pl, _⟩ := J.list hs
   exact wpAny_pyIter_list pl.isList (pi_one (tk := s1.toks) J _ (turn_list a _) ⟨_, Heap.get?_push_size _ rfl, rfl, rfl⟩ q)
 · cases r
   obtain ⟨its, _, pl, _⟩ := J.tuple hs
   exact wpAny_pyIter_tuple (show s1.heap.IsTuple a its.toArray from pl) (pi_one (tk := s1.toks) J _ (turn_tuple a _) ⟨_, Heap.get?_push_size _ rfl, rfl, rfl⟩ q)
 · obtain ⟨t, rfl⟩ := r
   cases hz : z.cps.all (· < 128) with
   | false => exact wpAny_pyIter_wide hz (pi_one (tk := s1.toks) J _ (turn_str _ z t "str_iterator" (.inr rfl)) ⟨_, Heap.get?_push_size _ rfl, rfl, rfl⟩ q)
   | true => exact wpAny_pyIter_ascii hz (pi_one (tk := s1.toks) J _ (turn_str _ z t "str_ascii_iterator" (.inl rfl)) ⟨_, Heap.get?_push_size _ rfl, rfl, rfl⟩ q)
theorem yAt_rep {w0 w : Wd} {P : Hp} {env : Envr} {S : Sto} {σ : L2.St} {H H' : Hp} {i : Nat} {x : V} {vs : List V} {l : List D} (r : Reps k w0 l vs) (le : Wd.Le w0 w) (I : RB k P w env S σ H) (y : YAt vs i H x H') : ∃ w' d, l[i]? = some d ∧ Wd.Le w w' ∧ RB k P w' env S σ H' ∧ Rep k w' d x := by
 obtain ⟨rfl, e⟩ := y
 obtain ⟨d, e1, r1⟩ := (r.mono le).get e
 exact ⟨w, d, e1, .refl w, I, r1⟩
theorem itOk_list {w : Wd} {H : Hp} {a : Addr} {vs : List V} {l : List D} (f : SqL k.K w.F a vs) (r : Reps k w l vs) : ItOk k w (l, none) (Itl k.K a) :=
 ⟨fun H => SqL k.K H a vs, YAt vs, by rw [show (l, (none : Option Nat)).1.length = vs.length from r.length.symm]; exact walk_list, fun P w1 env S σ H le I _ => sqL_mono (fun b o e => I.rs.frz b o (le.f b o e)) f, fun P w1 env S σ H i x H' le I _ _ y => yAt_rep r le I y⟩
theorem itOk_tup {w : Wd} {a : Addr} {vs : List V} {l : List D} (f : SqT k.K w.F a vs) (r : Reps k w l vs) : ItOk k w (l, none) (Itt k.K a) :=
 ⟨fun H => SqT k.K H a vs, YAt vs, by rw [show (l, (none : Option Nat)).1.length = vs.length from r.length.symm]; exact walk_tup, fun P w1 env S σ H le I _ => sqT_mono (fun b o e => I.rs.frz b o (le.f b o e)) f, fun P w1 env S σ H i x H' le I _ _ y => yAt_rep r le I y⟩
theorem itOk_ref {w : Wd} {n : Nat} {a : Addr} {l : List D} (ra : w.R n = some a) : ItOk k w (l, some (2 * n)) (Itl k.K a) := by
 have look : ∀ {P w1 env S σ H}, Wd.Le w w1 → RB k P w1 env S σ H → gOk (some (2 * n)) l S = true → ∃ vs, H a = some (.lst vs) ∧ Reps k w1 l vs := by
   intro P w1 env S σ H le I g
   obtain ⟨c, o, e1, e2, e3, e4⟩ := I.rs.lt (le.r _ _ ra)
   have g : (match S[2 * n / 2]? with
     | some (.lst m) => if 2 * n % 2 = 0 then sameDs m l else sameDs (enumFrom 0 m) l
     | _ => false) = true := g
   rw [show 2 * n / 2 = n by omega, e1] at g
   cases c with
   | lst m =>
     dsimp only at g
     rw [if_pos (show 2 * n % 2 = 0 by omega)] at g
     have := sameDs_eq m l g
     subst this
     obtain ⟨vs, rfl, r⟩ := e4
     exact ⟨vs, e2, r⟩
   | _ => cases g
 refine ⟨fun H => ∃ vs, H a = some (.lst vs) ∧ vs.length = l.length, fun i H x H' => H' = H ∧ ∀ vs, H a = some (.lst vs) → vs[i]? = some x, ⟨fun i H hi ⟨vs, h, e⟩ => ⟨vs, vs[i], SqL.of h, by simp [show i < vs.length by rw [e]; exact hi]⟩, fun H ⟨vs, h, e⟩ => ⟨vs, SqL.of h, Nat.le_of_eq e⟩, fun i H x H' hi g y => ⟨y.1, fun vs h => y.2 vs (SqL.of h)⟩⟩, ?_, ?_⟩
 · intro P w1 env S σ H le I g
   obtain ⟨vs, h, r⟩ := look le I g
   exact ⟨vs, h, r.length⟩
 · intro P w1 env S σ H i x H' le I g hi ⟨e, y⟩
   subst e
   obtain ⟨vs, h, r⟩ := look le I g
   obtain ⟨d, e1, r1⟩ := r.get (y vs h)
   exact ⟨w1, d, e1, .refl w1, I, r1⟩
theorem itOk_str {w : Wd} {z : Str} : ItOk k w (signs z, none) (Its z) := by
 refine ⟨fun _ => True, _, by rw [show (signs z, (none : Option Nat)).1.length = z.cps.size by simp [signs]]; exact walk_str, fun _ _ _ _ _ _ _ _ _ => trivial, ?_⟩
 intro P w1 env S σ H i x H' le I _ hi ⟨e, c, ec, ex⟩
 subst e
 refine ⟨w1, .str ⟨#[c]⟩, ?_, .refl w1, I, ex⟩
 show (z.cps.toList.map _)[i]? = _
 rw [List.getElem?_map, Array.getElem?_toList, ec]
 rfl
theorem di_walk (hk : k.K = X.K) (h : DE X k W e ma) : DI X k W tg e (dWalk ma) :=
 pi_sub (pi_any h) fun σ H R ⟨P, w, env, S, I, q⟩ => thenE I q fun d w1 env1 S1 v H1 l1 I1 r1 q1 => by
   obtain ⟨src, es, q2⟩ := q1.getS.opt
   have fin : ∀ J, ItOk k w1 src J → R J H1 := fun J ok => q2.ret H1 J I1 ok
   cases d <;> simp only [srcOf, itemsD] at es <;> try contradiction
   · cases es; exact .inr (.inr ⟨_, r1, fin _ itOk_str⟩)
   · cases es; obtain ⟨a, vs, e1, f, r⟩ := r1; exact .inr (.inl ⟨a, e1, ⟨vs, hk ▸ SqT.of (I1.rs.frz _ _ f)⟩, hk ▸ fin _ (itOk_tup (SqT.of f) r)⟩)
   · cases es; obtain ⟨a, vs, e1, f, r⟩ := r1; exact .inl ⟨a, e1, ⟨vs, hk ▸ SqL.of (I1.rs.frz _ _ f)⟩, hk ▸ fin _ (itOk_list (H := H1) (SqL.of f) r)⟩
   · cases es; obtain ⟨a, vs, e1, f, r⟩ := r1; exact .inl ⟨a, e1, ⟨vs, hk ▸ sqL_mono I1.rs.frz f⟩, hk ▸ fin _ (itOk_list (H := H1) f r)⟩
   · cases es; obtain ⟨a, vs, e1, f, r⟩ := r1; exact .inr (.inl ⟨a, e1, ⟨vs, hk ▸ sqT_mono I1.rs.frz f⟩, hk ▸ fin _ (itOk_tup f r)⟩)
   · split at es
     · rename_i n l el
       cases es
       obtain ⟨a, e1, ra⟩ := r1
       obtain ⟨c, o, y1, y2, y3, y4⟩ := I1.rs.lt ra
       rw [el] at y1; cases y1
       obtain ⟨vs, rfl, r⟩ := y4
       exact .inl ⟨a, e1, ⟨vs, SqL.of y2⟩, hk ▸ fin _ (itOk_ref ra)⟩
     · cases es
theorem itOk_rng {w : Wd} {lo hi : Int} : ItOk k w (upto lo hi, none) (Itr lo (hi - lo).toNat) := by
 refine ⟨fun _ => True, _, by rw [show (upto lo hi, (none : Option Nat)).1.length = (hi - lo).toNat by simp [upto]]; exact walk_range, fun _ _ _ _ _ _ _ _ _ => trivial, ?_⟩
 intro P w1 env S σ H i x H' le I _ hi' ⟨e, ex⟩
 subst e
 refine ⟨w1, .int (lo + i), ?_, .refl w1, I, ex⟩
 have : i < (hi - lo).toNat := by simpa [upto] using hi'
 show ((List.range _).map _)[i]? = _
 rw [List.getElem?_map, List.getElem?_range this]
 rfl
theorem di_rng1 {p : Pos} (hg : Gl X "range") (hm : X.mg "range" = none) (ha : DE X k W a ma) (hs : ∀ x p, a ≠ .Starred x p) : DI X k W tg (.Call (.Name "range" p) [a] [] pos) (dRng1 ma) :=
 pi_sub (pi_range1 hg hm (pa_one ha hs) (star1 a hs [] _)) fun σ H R ⟨P, w, env, S, I, q⟩ => thenE I q fun d w1 env1 S1 v H1 l1 I1 r1 q1 => by
   cases d <;> first | exact q1.elim | skip
   rename_i j
   obtain ⟨hb, q1⟩ := if_ok q1
   unfold rgB at hb
   rw [Bool.and_eq_true] at hb
   have ok : ItOk k w1 (upto 0 j, none) (Itr 0 j.toNat) := by
     have := itOk_rng (k := k) (w := w1) (lo := 0) (hi := j)
     rwa [Int.sub_zero] at this
   exact ⟨j, by rw [show v = _ from r1], of_decide_eq_true hb.1, of_decide_eq_true hb.2, q1.ret H1 _ I1 ok⟩
theorem di_rng2 {p : Pos} (hg : Gl X "range") (hm : X.mg "range" = none) (ha : DE X k W a ma) (hb : DE X k W b mb) (hs : ∀ x p, a ≠ .Starred x p) (hs2 : ∀ x p, b ≠ .Starred x p) : DI X k W tg (.Call (.Name "range" p) [a, b] [] pos) (dRng2 ma mb) :=
 pi_sub (pi_range2 hg hm (pa_cons ha (pa_one hb hs2) (star1 a hs _ _)) (by rw [star1 a hs, star1 b hs2]; rfl) (star1 b hs2 [] _)) fun σ H R ⟨P, w, env, S, I, q⟩ => thenE I q fun c w1 env1 S1 v H1 l1 I1 r1 q1 => thenE I1 q1 fun d w2 env2 S2 u H2 l2 I2 r2 q2 => by
   cases c <;> first | exact q2.elim | skip
   cases d <;> first | exact q2.elim | skip
   rename_i i j
   obtain ⟨hb, q2⟩ := if_ok q2
   unfold rgB at hb
   simp only [Bool.and_eq_true, decide_eq_true_eq] at hb
   exact ⟨i, j, by rw [show v = _ from r1, show u = _ from r2], ⟨hb.1.1, hb.1.2, hb.2.1, hb.2.2⟩, q2.ret H2 _ I2 itOk_rng⟩
theorem yPair_rep {w : Wd} {P : Hp} {env : Envr} {S : Sto} {σ : L2.St} {H H' : Hp} {i : Nat} {x : V} {f g : Nat → Option V} {ff gg : Nat → Option D} (hf : ∀ v, f i = some v → ∃ d, ff i = some d ∧ Rep k w d v) (hg : ∀ v, g i = some v → ∃ d, gg i = some d ∧ Rep k w d v) (I : RB k P w env S σ H) (y : YPair f g i H x H') :
   ∃ w' d e, ff i = some d ∧ gg i = some e ∧ Wd.Le w w' ∧ RB k P w' env S σ H' ∧ Rep k w' (.tup [d, e]) x := by
 obtain ⟨T, u, v, rfl, hT, rfl, h1, h2⟩ := y
 obtain ⟨d, e1, r1⟩ := hf u h1
 obtain ⟨e, e2, r2⟩ := hg v h2
 have le := I.le_grow (o := .tup [u, v]) hT
 exact ⟨_, d, e, e1, e2, le, I.grow hT, T, [u, v], rfl, Wd.fz_at, ⟨_, _, rfl, Rep.mono le _ r1, Reps.one (Rep.mono le _ r2)⟩⟩
theorem enumFrom_get : ∀ (n : Nat) (l : List D) (i : Nat), (enumFrom n l)[i]? = l[i]?.map fun d => .tup [.int ((n + i : Nat) : Int), d]
 | n, [], i => by simp [enumFrom]
 | n, d :: r, 0 => by simp [enumFrom]
 | n, d :: r, i + 1 => by
   show (enumFrom (n + 1) r)[i]? = _
   rw [enumFrom_get (n + 1) r i, List.getElem?_cons_succ]
   rw [show n + 1 + i = n + (i + 1) by omega]
theorem enumFrom_len : ∀ (n : Nat) (l : List D), (enumFrom n l).length = l.length
 | n, [] => rfl
 | n, d :: r => by simp [enumFrom, enumFrom_len (n + 1) r]
theorem enumFrom_inj : ∀ {k : Nat} {l m : List D}, enumFrom k l = enumFrom k m → l = m
 | k, [], [], _ => rfl
 | k, [], _ :: _, h => nomatch h
 | k, _ :: _, [], h => nomatch h
 | k, a :: l, b :: m, h => by
   have h : D.tup [.int k, a] :: enumFrom (k + 1) l = D.tup [.int k, b] :: enumFrom (k + 1) m := h
   injection h with h1 h2
   injection h1 with h1
   injection h1 with _ h1
   injection h1 with h1 _
   rw [h1, enumFrom_inj h2]
theorem itOk_enum {w : Wd} {n : Nat} {a : Addr} {l : List D} (ra : w.R n = some a) : ItOk k w (enumFrom 0 l, some (2 * n + 1)) (Ite k.K a) := by
 have look : ∀ {P w1 env S σ H}, Wd.Le w w1 → RB k P w1 env S σ H → gOk (some (2 * n + 1)) (enumFrom 0 l) S = true → ∃ vs, H a = some (.lst vs) ∧ Reps k w1 l vs := by
   intro P w1 env S σ H le I g
   obtain ⟨c, o, e1, e2, e3, e4⟩ := I.rs.lt (le.r _ _ ra)
   have g : (match S[(2 * n + 1) / 2]? with
     | some (.lst m) => if (2 * n + 1) % 2 = 0 then sameDs m (enumFrom 0 l) else sameDs (enumFrom 0 m) (enumFrom 0 l)
     | _ => false) = true := g
   rw [show (2 * n + 1) / 2 = n by omega, e1] at g
   cases c with
   | lst m =>
     dsimp only at g
     rw [if_neg (show ¬ (2 * n + 1) % 2 = 0 by omega)] at g
     have := enumFrom_inj (sameDs_eq _ _ g)
     subst this
     obtain ⟨vs, rfl, r⟩ := e4
     exact ⟨vs, e2, r⟩
   | _ => cases g
 have len : ∀ {vs : List V}, vs.length = l.length → vs.length = (enumFrom 0 l, some (2 * n + 1)).1.length := fun h => h.trans (enumFrom_len 0 l).symm
 refine ⟨fun H => ∃ vs, H a = some (.lst vs) ∧ vs.length = l.length, fun i H x H' => ∃ T y, x = .ref T ∧ H T = none ∧ H' = upd H T (.tup [.int (i : Nat), y]) ∧ ∀ vs, H a = some (.lst vs) → vs[i]? = some y, ⟨fun i H hi ⟨vs, h, e⟩ => ⟨vs, vs[i]'(by rw [len e]; exact hi), SqL.of h, by simp [show i < vs.length by rw [len e]; exact hi]⟩, fun H ⟨vs, h, e⟩ => ⟨vs, SqL.of h, Nat.le_of_eq (len e)⟩, fun i H x H' hi g ⟨T, y, e1, e2, e3, e4⟩ => ⟨T, y, e1, e2, e3, fun vs h => e4 vs (SqL.of h)⟩⟩, ?_, ?_⟩
 · intro P w1 env S σ H le I g
   obtain ⟨vs, h, r⟩ := look le I g
   exact ⟨vs, h, r.length⟩
 · intro P w1 env S σ H i x H' le I g hi ⟨T, y, e1, e2, e3, e4⟩
   obtain ⟨vs, h, r⟩ := look le I g
   obtain ⟨w', d, e, h1, h2, h3, h4, h5⟩ := yPair_rep (ff := fun i => some (.int (i : Nat))) (gg := fun i => l[i]?) (f := fun i => some (.int (i : Nat))) (g := fun i => vs[i]?) (fun v e => by cases e; exact ⟨_, rfl, rfl⟩) (fun v e => r.get e) I ⟨T, .int (i : Nat), y, e1, e2, e3, rfl, e4 vs h⟩
   refine ⟨w', _, ?_, h3, h4, h5⟩
   show (enumFrom 0 l)[i]? = _
   rw [enumFrom_get, h2]
   cases h1
   simp
theorem di_enum {p tpos : Pos} {elts : List Expr} {kk : Nat} (hk : k.K = X.K) (hg : Gl X "enumerate") (hm : X.mg "enumerate" = none) (ha : DE X k W a ma) (hs : ∀ x p, a ≠ .Starred x p) : DI X k W (.Tuple elts kk tpos) (.Call (.Name "enumerate" p) [a] [] pos) (dEnum ma) :=
 pi_sub (pi_enumA hg hm (pa_one ha hs) (star1 a hs [] _)) fun σ H R ⟨P, w, env, S, I, q⟩ => thenE I q fun d w1 env1 S1 v H1 l1 I1 r1 q1 => by
   obtain ⟨src, es, q2⟩ := q1.getS.opt
   by_cases hd : ∃ n, d = .ref n
   · obtain ⟨n, rfl⟩ := hd
     unfold enumOf at es
     dsimp only at es
     split at es
     · rename_i l el
       cases es
       obtain ⟨a, e1, ra⟩ := r1
       obtain ⟨c, o, y1, y2, y3, y4⟩ := I1.rs.lt ra
       rw [el] at y1; cases y1
       obtain ⟨vs, rfl, r⟩ := y4
       subst e1
       exact ⟨a, vs, rfl, .inl ⟨SqL.of y2, q2.ret H1 _ I1 (hk ▸ itOk_enum ra)⟩⟩
     · cases es
   have es : (enumSrc d).map (fun l => (enumFrom 0 l, (none : Option Nat))) = some src := by
     unfold enumOf at es
     split at es
     · exact absurd ⟨_, rfl⟩ hd
     · exact es
   obtain ⟨l, el, rfl⟩ := Option.map_eq_some_iff.mp es
   have key : (∃ a vs, v = .ref a ∧ SqL k.K w1.F a vs ∧ Reps k w1 l vs) ∨ ∃ a vs, v = .ref a ∧ SqT k.K w1.F a vs ∧ Reps k w1 l vs := by
     unfold enumSrc at el
     split at el
     · rename_i l' e'
       cases el
       rcases lstOf_ok e' with rfl | rfl
       · obtain ⟨a, vs, e1, f, r⟩ := r1; exact .inl ⟨a, vs, e1, SqL.of f, r⟩
       · exact .inl r1
     · rcases tupOf_ok el with rfl | rfl
       · obtain ⟨a, vs, e1, f, r⟩ := r1; exact .inr ⟨a, vs, e1, SqT.of f, r⟩
       · exact .inr r1
   have fin : ∀ {J : It} {vs : List V} {St : Hp → Prop}, Walk J vs.length St (YPair (fun i => some (.int (i : Nat))) (fun i => vs[i]?)) → Reps k w1 l vs → (∀ P w env S σ H, Wd.Le w1 w → RB k P w env S σ H → St H) → ItOk k w1 (enumFrom 0 l, none) J := fun {J vs St} wk r st =>
     ⟨St, _, by rw [show (enumFrom 0 l, (none : Option Nat)).1.length = vs.length by rw [r.length]; exact enumFrom_len 0 l]; exact wk, fun P w env S σ H le I _ => st P w env S σ H le I, fun P w2 env S σ H i x H' le I _ hi y => by
       obtain ⟨w', d, e, h1, h2, h3, h4, h5⟩ := yPair_rep (ff := fun i => some (.int (i : Nat))) (gg := fun i => l[i]?) (fun v e => by cases e; exact ⟨_, rfl, rfl⟩) (fun v e => (r.mono le).get e) I y
       refine ⟨w', _, ?_, h3, h4, h5⟩
       show (enumFrom 0 l)[i]? = _
       rw [enumFrom_get, h2]
       cases h1
       simp⟩
   rcases key with ⟨a, vs, rfl, f, r⟩ | ⟨a, vs, rfl, f, r⟩
   · have f : SqL X.K w1.F a vs := hk ▸ f
     exact ⟨a, vs, rfl, .inl ⟨sqL_mono I1.rs.frz f, q2.ret H1 _ I1 (fin walk_enum r fun P w env S σ H le I => sqL_mono (fun b o e => I.rs.frz b o (le.f b o e)) f)⟩⟩
   · have f : SqT X.K w1.F a vs := hk ▸ f
     exact ⟨a, vs, rfl, .inr ⟨sqT_mono I1.rs.frz f, q2.ret H1 _ I1 (fin walk_enumT r fun P w env S σ H le I => sqT_mono (fun b o e => I.rs.frz b o (le.f b o e)) f)⟩⟩
theorem zipD_get : ∀ (l m : List D) (i : Nat) (a b : D), l[i]? = some a → m[i]? = some b → (zipD l m)[i]? = some (.tup [a, b])
 | [], _, _, _, _, h, _ => by simp at h
 | _ :: _, [], _, _, _, _, h => by simp at h
 | a :: r, b :: s, 0, _, _, h, g => by simp at h g; subst h g; rfl
 | a :: r, b :: s, i + 1, _, _, h, g => by simp at h g; exact zipD_get r s i _ _ h g
theorem walk_zipT {K : PySem.W.Frag} {a b : Addr} {xs ys : List V} : Walk (ItzT K a b) (min xs.length ys.length) (fun H => SqT K H a xs ∧ SqT K H b ys) (YPair (fun i => xs[i]?) (fun i => ys[i]?)) := by
 refine ⟨fun i _ hi q => ?_, fun _ q => ⟨xs, ys, q.1, q.2, by omega⟩, fun i H v H' _ q y => ?_⟩
 · exact ⟨xs, ys, xs[i]'(by omega), ys[i]'(by omega), q.1, q.2, by simp [show i < xs.length by omega], by simp [show i < ys.length by omega]⟩
 · obtain ⟨T, x, z, h1, h2, h3, h4, h5⟩ := y
   exact ⟨T, x, z, h1, h2, h3, h4 xs q.1, h5 ys q.2⟩
theorem di_zip {p tpos : Pos} {elts : List Expr} {kk : Nat} (hk : k.K = X.K) (hg : Gl X "zip") (hm : X.mg "zip" = none) (ha : DE X k W a ma) (hb : DE X k W b mb) (hs : ∀ x p, a ≠ .Starred x p) (hs2 : ∀ x p, b ≠ .Starred x p) : DI X k W (.Tuple elts kk tpos) (.Call (.Name "zip" p) [a, b] [] pos) (dZip ma mb) :=
 pi_sub (pi_zipA hg hm (pa_cons ha (pa_one hb hs2) (star1 a hs _ _)) (star1 a hs _ _) (star_false [b] (fun q hq => by simp at hq; subst hq; exact hs2) _ _)) fun σ H R ⟨P, w, env, S, I, q⟩ => thenE I q fun c w1 env1 S1 v H1 l1 I1 r1 q1 => thenE I1 q1 fun d w2 env2 S2 u H2 l2 I2 r2 q2 => by
   obtain ⟨src, es, q3⟩ := q2.opt
   obtain ⟨l, el, rfl⟩ := Option.map_eq_some_iff.mp es
   have r1 := Rep.mono l2 c r1
   have pairs : ∀ {l m : List D} {xs ys : List V} {w3 : Wd} {P env S σ H i x H'}, Reps k w2 l xs → Reps k w2 m ys → Wd.Le w2 w3 → RB k P w3 env S σ H → YPair (fun i => xs[i]?) (fun i => ys[i]?) i H x H' → ∃ w' d, (zipD l m)[i]? = some d ∧ Wd.Le w3 w' ∧ RB k P w' env S σ H' ∧ Rep k w' d x := by
     intro l m xs ys w3 P env S σ H i x H' rl rm le I y
     obtain ⟨w', d, e, h1, h2, h3, h4, h5⟩ := yPair_rep (ff := fun i => l[i]?) (gg := fun i => m[i]?) (fun v e => (rl.mono le).get e) (fun v e => (rm.mono le).get e) I y
     exact ⟨w', _, zipD_get l m i d e h1 h2, h3, h4, h5⟩
   have lists : ∀ {l m : List D}, (∃ a vs, v = .ref a ∧ SqL k.K w2.F a vs ∧ Reps k w2 l vs) → (∃ a vs, u = .ref a ∧ SqL k.K w2.F a vs ∧ Reps k w2 m vs) → R = R → (∀ J, ItOk k w2 (zipD l m, none) J → R J H2) → ∃ a b xs ys, [v, u] = [.ref a, .ref b] ∧ ((SqL X.K H2 a xs ∧ SqL X.K H2 b ys ∧ R (Itz X.K a b) H2) ∨ (SqT X.K H2 a xs ∧ SqT X.K H2 b ys ∧ R (ItzT X.K a b) H2)) := by
     rintro l m ⟨a, xs, rfl, f1, rl⟩ ⟨b, ys, rfl, f2, rm⟩ _ fin
     have f1 : SqL X.K w2.F a xs := hk ▸ f1
     have f2 : SqL X.K w2.F b ys := hk ▸ f2
     refine ⟨a, b, xs, ys, rfl, .inl ⟨sqL_mono I2.rs.frz f1, sqL_mono I2.rs.frz f2, fin _ ⟨fun H => SqL X.K H a xs ∧ SqL X.K H b ys, _, by rw [show (zipD l m, (none : Option Nat)).1.length = min xs.length ys.length by rw [rl.length, rm.length]; exact zipD_len l m]; exact walk_zip rfl, fun P w env S σ H le I _ => ⟨sqL_mono (fun b o e => I.rs.frz b o (le.f b o e)) f1, sqL_mono (fun b o e => I.rs.frz b o (le.f b o e)) f2⟩, fun P w3 env S σ H i x H' le I _ hi y => pairs rl rm le I y⟩⟩⟩
   have tups : ∀ {l m : List D}, (∃ a vs, v = .ref a ∧ SqT k.K w2.F a vs ∧ Reps k w2 l vs) → (∃ a vs, u = .ref a ∧ SqT k.K w2.F a vs ∧ Reps k w2 m vs) → (∀ J, ItOk k w2 (zipD l m, none) J → R J H2) → ∃ a b xs ys, [v, u] = [.ref a, .ref b] ∧ ((SqL X.K H2 a xs ∧ SqL X.K H2 b ys ∧ R (Itz X.K a b) H2) ∨ (SqT X.K H2 a xs ∧ SqT X.K H2 b ys ∧ R (ItzT X.K a b) H2)) := by
     rintro l m ⟨a, xs, rfl, f1, rl⟩ ⟨b, ys, rfl, f2, rm⟩ fin
     have f1 : SqT X.K w2.F a xs := hk ▸ f1
     have f2 : SqT X.K w2.F b ys := hk ▸ f2
     refine ⟨a, b, xs, ys, rfl, .inr ⟨sqT_mono I2.rs.frz f1, sqT_mono I2.rs.frz f2, fin _ ⟨fun H => SqT X.K H a xs ∧ SqT X.K H b ys, _, by rw [show (zipD l m, (none : Option Nat)).1.length = min xs.length ys.length by rw [rl.length, rm.length]; exact zipD_len l m]; exact walk_zipT, fun P w env S σ H le I _ => ⟨sqT_mono (fun b o e => I.rs.frz b o (le.f b o e)) f1, sqT_mono (fun b o e => I.rs.frz b o (le.f b o e)) f2⟩, fun P w3 env S σ H i x H' le I _ hi y => pairs rl rm le I y⟩⟩⟩
   have asL : ∀ {d : D} {v : V} {l : List D}, Rep k w2 d v → lstOf d = some l → ∃ a vs, v = .ref a ∧ SqL k.K w2.F a vs ∧ Reps k w2 l vs := by
     intro d v l r e
     rcases lstOf_ok e with rfl | rfl
     · obtain ⟨a, vs, e1, f, r⟩ := r; exact ⟨a, vs, e1, SqL.of f, r⟩
     · exact r
   have asT : ∀ {d : D} {v : V} {l : List D}, Rep k w2 d v → tupOf d = some l → ∃ a vs, v = .ref a ∧ SqT k.K w2.F a vs ∧ Reps k w2 l vs := by
     intro d v l r e
     rcases tupOf_ok e with rfl | rfl
     · obtain ⟨a, vs, e1, f, r⟩ := r; exact ⟨a, vs, e1, SqT.of f, r⟩
     · exact r
   unfold seqOf2 at el
   split at el
   · rename_i l1 m1 h1 h2
     cases el
     exact lists (asL r1 h1) (asL r2 h2) rfl fun J ok => q3.ret H2 J I2 ok
   · split at el
     · rename_i l1 m1 h1 h2
       cases el
       exact tups (asT r1 h1) (asT r2 h2) fun J ok => q3.ret H2 J I2 ok
     · cases el
end
end L2.MP
end
section
namespace L2.MP
open PySem PySem.Spec PyProof.Rows
section
variable {X : Cx} {k : Ky} {W : WX} {a b e : Expr} {ma mb : M D} {pos : Pos} {body : List Stmt} {m : M Flo}
theorem drop_get {α : Type} {l : List α} {i : Nat} {d : α} (e : l[i]? = some d) : l.drop i = d :: l.drop (i + 1) := by
 obtain ⟨h, rfl⟩ := List.getElem?_eq_some_iff.mp e
 exact List.drop_eq_getElem_cons h
theorem ds_for {tg : Expr} {it : M Src} {g : Tgt} {vs : List Nat} (hp : PassesOwn (model X.prog X.w) X.A X.env X.xe) (hc : X.calm = true) (hi : DI X k W tg e it) (hg : PG X tg (tG k vs g)) (hb : DSs X k W body m) (hs : ∀ x, foldedSetIterable e X.env x = pure x) :
   DS X k W (.For tg e body [] pos) (dFor it g m) := by
 refine PS.sub (ps_for hp hc hi hg hb hs) fun Dn σ H ⟨P, w, env, S, I, h⟩ => ?_
 refine ⟨P, w, env, S, I, h.bind.imp fun src w1 env1 S1 l1 q H1 J I1 ok => ?_⟩
 obtain ⟨G, Y, walk, stay, yield_⟩ := ok.ex
 let Pv : Nat → L2.St → Hp → Prop := fun i σ H => ∃ w2 env2 S2, Wd.Le w1 w2 ∧ RB k P w2 env2 S2 σ H ∧ Aft k W P w2 (loopL src g m (src.1.drop i) env2 S2) (rS k P Dn)
 have guard : ∀ {i σ H}, Pv i σ H → ∃ w2 env2 S2, Wd.Le w1 w2 ∧ RB k P w2 env2 S2 σ H ∧ Aft k W P w2 (loopL src g m (src.1.drop i) env2 S2) (rS k P Dn) ∧ gOk src.2 src.1 S2 = true := by
   rintro i σ H ⟨w2, env2, S2, le, I2, q2⟩
   refine ⟨w2, env2, S2, le, I2, q2, ?_⟩
   by_cases hgk : gOk src.2 src.1 S2 = true
   · exact hgk
   · exfalso
     cases hd : src.1.drop i with
     | nil => rw [hd] at q2; unfold loopL at q2; rw [if_neg hgk] at q2; exact q2
     | cons d r => rw [hd] at q2; unfold loopL at q2; rw [if_neg hgk] at q2; exact q2
 refine for_it walk Pv ⟨w1, env1, S1, .refl w1, I1, q⟩ (fun i σ H _ pv => ?_) (fun i x σ H H' hi pv y => ?_) (fun σ H pv => ?_)
 · obtain ⟨w2, env2, S2, le, I2, q2, gk⟩ := guard pv
   exact stay P w2 env2 S2 σ H le I2 gk
 · obtain ⟨w2, env2, S2, le, I2, q2, gk⟩ := guard pv
   obtain ⟨w3, d, ed, le3, I3, r3⟩ := yield_ P w2 env2 S2 σ H i x H' le I2 gk hi y
   rw [drop_get ed] at q2
   unfold loopL at q2
   rw [if_pos gk] at q2
   cases et : g d env2 with
   | none => rw [et] at q2; exact q2.elim
   | some env3 =>
     rw [et] at q2
     refine ⟨P, w3, env2, S2, d, env3, I3, r3, et, fun σ' _ I4 => ⟨P, w3, env3, S2, I4, ?_⟩⟩
     dsimp only at q2
     have q3 := q2.up le3
     cases em : m env3 S2 with
     | bad => rw [em] at q3; exact q3
     | exc x env4 S4 => rw [em] at q3; exact q3
     | ok f env4 S4 =>
       rw [em] at q3
       intro w5 l5
       cases f with
       | nx => exact fun σ5 H5 I5 => ⟨w5, env4, S4, (le.trans le3).trans l5, I5, q3.up l5⟩
       | ct => exact fun σ5 H5 I5 => ⟨w5, env4, S4, (le.trans le3).trans l5, I5, q3.up l5⟩
       | bk => exact fun σ5 H5 I5 => q3 w5 l5 σ5 H5 I5
       | rt v => exact fun u σ5 H5 I5 r5 => q3 w5 l5 u σ5 H5 I5 r5
 · obtain ⟨w2, env2, S2, le, I2, q2, gk⟩ := guard pv
   rw [List.drop_length] at q2
   unfold loopL at q2
   rw [if_pos gk] at q2
   exact q2.ok σ H I2
theorem ds_while {mt : M Bool} {c : Expr} (fuel : Nat) (hp : PassesOwn (model X.prog X.w) X.A X.env X.xe) (hc : DT X k W c mt) (hb : DSs X k W body m) : DS X k W (.While c body [] pos) (dWhile mt m fuel) := by
 refine PS.sub (ps_while hp hc hb) fun Dn σ H ⟨P, w, env, S, I, h⟩ => ?_
 refine ⟨fun n σ H => ∃ w2 env2 S2, RB k P w2 env2 S2 σ H ∧ Aft k W P w2 (dWhile mt m n env2 S2) (rS k P Dn), ⟨fuel, w, env, S, I, h⟩, ?_⟩
 rintro n σ1 H1 ⟨w1, env1, S1, I1, h1⟩
 cases n with
 | zero => exact h1.elim
 | succ n =>
   refine thenT I1 h1 fun t w2 env2 S2 H2 l2 I2 h2 => ?_
   cases t with
   | false => exact iteF (h2.ret σ1 H2 I2)
   | true =>
     refine iteT ⟨fun σ H => ∃ w2 env2 S2, RB k P w2 env2 S2 σ H ∧ Aft k W P w2 (dWhile mt m n env2 S2) (rS k P Dn), fun σ' H' q => ⟨n, Nat.lt_succ_self n, q⟩, P, w2, env2, S2, I2, ?_⟩
     have h3 : Aft k W P w2 (match m env2 S2 with
       | .ok .nx env2 S2 => dWhile mt m n env2 S2
       | .ok .ct env2 S2 => dWhile mt m n env2 S2
       | .ok .bk env2 S2 => .ok .nx env2 S2
       | .ok (.rt v) env2 S2 => .ok (.rt v) env2 S2
       | .exc x env2 S2 => .exc x env2 S2
       | .bad => .bad) (rS k P Dn) := h2
     cases em : m env2 S2 with
     | bad => rw [em] at h3; exact h3
     | exc x env4 S4 => rw [em] at h3; exact h3
     | ok f env4 S4 =>
       rw [em] at h3
       intro w5 l5
       cases f with
       | nx => exact fun σ5 H5 I5 => ⟨w5, env4, S4, I5, h3.up l5⟩
       | ct => exact fun σ5 H5 I5 => ⟨w5, env4, S4, I5, h3.up l5⟩
       | bk => exact fun σ5 H5 I5 => h3 w5 l5 σ5 H5 I5
       | rt v => exact fun u σ5 H5 I5 r5 => h3 w5 l5 u σ5 H5 I5 r5
theorem RB.wipe {P : Hp} {w : Wd} {env : Envr} {S : Sto} {σ : L2.St} {H : Hp} (I : RB k P w env S σ H) : ∀ vs : List Nat, RB k P w (wipeE env vs) S (L2.wipe σ vs) H
 | [] => I
 | v :: vs => by
   have J := (I.wipe vs).setNo v
   refine J.less (by simp [L2.wipe]) fun i x e n => ?_
   show ((L2.wipe σ vs).set v none)[i]? = _
   rw [List.getElem?_set_ne, e]
   rintro rfl
   apply n
   show ((wipeE env vs).set v .no)[v]? = some .no
   have : v < (wipeE env vs).length := by
     have h1 := (List.getElem?_eq_some_iff.mp e).1
     rw [← (I.wipe vs).len]; exact h1
   rw [List.getElem?_set_self this]
theorem RB.unwipe {P : Hp} {w : Wd} {env : Envr} {S : Sto} {σ : L2.St} {H : Hp} {vs : List Nat} (I : RB k P w env S (L2.wipe σ vs) H) : RB k P w env S σ H :=
 I.less (L2.wipe_length σ vs).symm fun i v e _ => (L2.wipe_some e).1
theorem wipe_at {σ : L2.St} : ∀ {vs : List Nat} {i : Nat}, (L2.wipe σ vs)[i]? = if i ∈ vs ∧ i < σ.length then some none else σ[i]?
 | [], i => by simp [L2.wipe]
 | v :: vs, i => by
   show ((L2.wipe σ vs).set v none)[i]? = _
   by_cases h : v = i
   · subst h
     by_cases hl : v < σ.length
     · rw [List.getElem?_set_self (by rw [L2.wipe_length]; exact hl), if_pos ⟨List.mem_cons_self, hl⟩]
     · rw [List.getElem?_eq_none (by rw [List.length_set, L2.wipe_length]; omega), if_neg (by omega), List.getElem?_eq_none (by omega)]
   · rw [List.getElem?_set_ne h, wipe_at]
     have : i ∈ v :: vs ↔ i ∈ vs := by
       rw [List.mem_cons]
       exact ⟨fun q => q.resolve_left fun e => h e.symm, .inr⟩
     simp only [this]
theorem wipe_agree {σ σ' : L2.St} {vs : List Nat} (a : Agree vs (L2.wipe σ vs) σ') : L2.wipe σ' vs = L2.wipe σ vs := by
 have hl : σ'.length = σ.length := a.len.trans (L2.wipe_length σ vs)
 apply List.ext_getElem?
 intro i
 rw [wipe_at, wipe_at, hl]
 by_cases h : i ∈ vs ∧ i < σ.length
 · rw [if_pos h, if_pos h]
 · rw [if_neg h, if_neg h]
   by_cases hv : i ∈ vs
   · have : ¬ i < σ.length := fun q => h ⟨hv, q⟩
     rw [List.getElem?_eq_none (by omega), List.getElem?_eq_none (by omega)]
   · rw [a.at_ i hv, wipe_at, if_neg h]
abbrev W0 : WX := fun _ _ _ _ => False
theorem comp_lc {it : M Src} {g : Tgt} {tt : M Bool} {te : M D} {vs : List Nat} {σ : L2.St} {H : Hp} {Q : VK} (h : tF k W (dComp it g tt te vs) σ H Q) : tLc (tI k W it) (tG k vs g) (tTt k W0 tt) (tE k W0 te) vs σ H Q := by
 obtain ⟨P, w, env, S, I, h⟩ := h
 refine ⟨P, w, env, S, I, h.bind.imp fun src w1 env1 S1 l1 q H1 J I1 ok D hD => ?_⟩
 obtain ⟨hz, q⟩ := if_ok q
 obtain ⟨G, Y, walk, stay, yield_⟩ := ok.ex
 let Pv : Nat → Hp → Prop := fun i H => ∃ w2 env2 S2 acc us, Wd.Le w1 w2 ∧ RB k P w2 env2 S2 (L2.wipe σ vs) H ∧ Loose P w2 env2 (L2.wipe σ vs) D ∧ H D = some (.lst us) ∧ Reps k w2 acc us ∧ acc.length ≤ i ∧
   ∃ res envF SF, compL src g tt te vs (src.1.drop i) acc env2 S2 = .ok res envF SF ∧ ∀ w3, Wd.Le w2 w3 → rF k P σ Q (.lst res) w3 envF SF
 have guard : ∀ {i H}, Pv i H → ∃ w2 env2 S2 acc us, Wd.Le w1 w2 ∧ RB k P w2 env2 S2 (L2.wipe σ vs) H ∧ Loose P w2 env2 (L2.wipe σ vs) D ∧ H D = some (.lst us) ∧ Reps k w2 acc us ∧ acc.length ≤ i ∧
     (∃ res envF SF, compL src g tt te vs (src.1.drop i) acc env2 S2 = .ok res envF SF ∧ ∀ w3, Wd.Le w2 w3 → rF k P σ Q (.lst res) w3 envF SF) ∧ gOk src.2 src.1 S2 = true := by
   rintro i H ⟨w2, env2, S2, acc, us, le, I2, L2', e2, r2, hi, res, envF, SF, ec, fin⟩
   refine ⟨w2, env2, S2, acc, us, le, I2, L2', e2, r2, hi, ⟨res, envF, SF, ec, fin⟩, ?_⟩
   by_cases hgk : gOk src.2 src.1 S2 = true
   · exact hgk
   · exfalso
     cases hd : src.1.drop i with
     | nil => rw [hd] at ec; unfold compL at ec; rw [if_neg hgk] at ec; cases ec
     | cons d r => rw [hd] at ec; unfold compL at ec; rw [if_neg hgk] at ec; cases ec
 refine lc_it walk Pv ?_ (fun i H _ pv => ?_) (fun i x H H' hi pv y => ?_) (fun H pv => ?_)
 · obtain ⟨I2, L⟩ := I1.new (o := .lst []) hD
   have I3 := I2.wipe vs
   have L3 : Loose P w1 (wipeE env1 vs) (L2.wipe σ vs) D := ⟨L.f, L.r, L.p, fun i c e1 e2 => by
     have key : ∀ vs : List Nat, (wipeE env1 vs)[i]? = some (.own c) → env1[i]? = some (.own c) := by
       intro vs
       induction vs with
       | nil => exact id
       | cons v vs ih =>
         intro e
         rcases get_set (show ((wipeE env1 vs).set v .no)[i]? = some (.own c) from e) with ⟨_, z, _⟩ | ⟨_, e⟩
         · cases z
         · exact ih e
     exact L.o i c (key vs e1) (L2.wipe_some e2).1⟩
   cases ec : compL src g tt te vs src.1 [] (wipeE env1 vs) S1 with
   | ok res envF SF =>
     rw [ec] at q
     exact ⟨w1, _, S1, [], [], .refl w1, I3, L3, upd_same, rfl, Nat.le_refl _, res, envF, SF, ec, fun w3 l3 => q w3 l3⟩
   | exc x envF SF => rw [ec] at q; exact q.elim
   | bad => rw [ec] at q; exact q.elim
 · obtain ⟨w2, env2, S2, acc, us, le, I2, _, _, _, _, _, gk⟩ := guard pv
   exact stay P w2 env2 S2 _ H le I2 gk
 · obtain ⟨w2, env2, S2, acc, us, le, I2, L2', e2, r2, hi2, ⟨res, envF, SF, ec, fin⟩, gk⟩ := guard pv
   have I2p := I2.protect e2 L2'
   obtain ⟨w3, d, ed, le3, I3, r3⟩ := yield_ _ w2 env2 S2 _ H i x H' le I2p gk hi y
   rw [drop_get ed] at ec
   unfold compL at ec
   rw [if_pos gk] at ec
   cases et : g d env2 with
   | none => rw [et] at ec; cases ec
   | some env3 =>
     rw [et] at ec
     dsimp only at ec
     refine ⟨_, w3, env2, S2, d, env3, I3, r3, et, fun σ4 ag I4 => ⟨wipe_agree ag, ?_⟩⟩
     refine ⟨_, w3, env3, S2, I4, ?_⟩
     have hus : us.length = acc.length := r2.length
     have hlen : acc.length < sizeLine := by have : i < src.1.length := hi; omega
     cases em : tt env3 S2 with
     | bad => rw [em] at ec; cases ec
     | exc x env4 S4 => rw [em] at ec; cases ec
     | ok b env4 S4 =>
       rw [em] at ec
       intro w5 l5 H5 I5
       cases b with
       | false =>
         refine iteF ?_
         obtain ⟨I6, e6, L6⟩ := I5.unprotect L2'.p
         have I7 := I6.wipe vs
         rw [wipe_agree ag] at I7
         refine ⟨w5, _, S4, acc, us, (le.trans le3).trans l5, I7, ⟨L6.f, L6.r, L6.p, fun j c e1 e2 => ?_⟩, e6, r2.mono (le3.trans l5), by omega, res, envF, SF, ec, fun w6 l6 => fin w6 ((le3.trans l5).trans l6)⟩
         obtain ⟨a, o, x1, x2, x3, x4, x5, x6⟩ := I7.own j c e1
         rw [e2] at x1; cases x1
         have := (I5.wipe vs).own j c e1
         rw [wipe_agree ag] at this
         obtain ⟨a, o, y1, y2, y3, y4, y5, y6⟩ := this
         rw [e2] at y1; cases y1
         rw [upd_same] at y6; cases y6
       | true =>
         refine iteT ⟨_, w5, env4, S4, I5, ?_⟩
         dsimp only at ec
         cases ee : te env4 S4 with
         | bad => rw [ee] at ec; cases ec
         | exc x env6 S6 => rw [ee] at ec; cases ec
         | ok z env6 S6 =>
           rw [ee] at ec
           intro w7 l7 v H7 I7 r7
           obtain ⟨I8, e8, L8⟩ := I7.unprotect L2'.p
           refine ⟨us, e8, by rw [hus]; exact hlen, ?_⟩
           have le7 : Wd.Le w2 w7 := (le3.trans l5).trans l7
           -- the new list's cell is nobody's: it changes
           have I9 : RB k P w7 env6 S6 σ4 (upd H7 D (.lst (us ++ [v]))) := by
             refine ⟨⟨fun b o e => (upd_ne (fun q => by subst q; rw [L8.f] at e; cases e)).trans (I8.rs.frz b o e), fun n c e => ?_, I8.rs.bound, I8.rs.inj, fun b o e => ?_⟩, I8.len, I8.val, fun j c e => ?_, I8.sep, I8.exn⟩
             · obtain ⟨a, o, y1, y2, y3, y4⟩ := I8.rs.live n c e
               exact ⟨a, o, y1, (upd_ne (fun q => L8.r n (by rw [← q]; exact y1))).trans y2, y3, y4⟩
             · obtain ⟨y1, y2, y3⟩ := I8.rs.prot b o e
               exact ⟨(upd_ne (fun q => by subst q; rw [L8.p] at e; cases e)).trans y1, y2, y3⟩
             · obtain ⟨a, o, y1, y2, y3⟩ := I8.own j c e
               exact ⟨a, o, y1, (upd_ne (fun q => L8.o j c e (by rw [← q]; exact y1))).trans y2, y3⟩
           have I10 := I9.wipe vs
           rw [wipe_agree ag] at I10
           refine ⟨w7, _, S6, acc ++ [z], us ++ [v], (le.trans le7), I10, ⟨L8.f, L8.r, L8.p, fun j c e1 e2 => ?_⟩, upd_same, (r2.mono le7).append (Reps.one r7), by simp; omega, res, envF, SF, ec, fun w6 l6 => fin w6 (le7.trans l6)⟩
           have := (I7.wipe vs).own j c e1
           rw [wipe_agree ag] at this
           obtain ⟨a, o, y1, y2, y3, y4, y5, y6⟩ := this
           rw [e2] at y1; cases y1
           rw [upd_same] at y6; cases y6
 · obtain ⟨w2, env2, S2, acc, us, le, I2, L2', e2, r2, hi2, ⟨res, envF, SF, ec, fin⟩, gk⟩ := guard pv
   rw [List.drop_length] at ec
   unfold compL at ec
   rw [if_pos gk] at ec
   cases ec
   refine fin w2 (.refl w2) D _ H I2.unwipe e2 ⟨us, rfl, r2⟩ ⟨L2'.f, L2'.r, L2'.p, fun j c e1 e2 => ?_⟩
   obtain ⟨a, o, y1, y2, _⟩ := I2.own j c e1
   have := (L2.wipe_some y1).1
   rw [e2] at this; cases this
   exact L2'.o j c e1 y1
end
end L2.MP
end
section
namespace L2.MP
open PySem PySem.Spec PyProof.Rows
section
variable {X : Cx} {k : Ky} {W : WX} {a b e : Expr} {ma mb : M D} {mf : M Cell} {pos : Pos} {st : Stmt} {i : Nat}
theorem ds_set (h : PS X st (tAsg (tE k W ma) (gName i))) : DS X k W st (dSet i ma) := PS.sub h fun Dn σ H ⟨P, w, env, S, I, h⟩ => thenE I h fun d w1 env1 S1 v H1 l1 I1 r1 h1 => by
 have h2 : Aft k W P w1 (M.ret Flo.nx (env1.set i (.val d)) S1) (rS k P Dn) := h1
 exact h2.ret _ H1 (I1.setVal r1)
theorem ds_setOwn (h : PS X st (tAsg (tF k W mf) (gName i))) : DS X k W st (dSetOwn i mf) := PS.sub h fun Dn σ H ⟨P, w, env, S, I, h⟩ => ⟨P, w, env, S, I, h.bind.imp fun c w1 env1 S1 l1 q p o H1 I1 e1 r1 L => by
 have h2 : Aft k W P w1 (M.ret Flo.nx (env1.set i (.own c)) S1) (rS k P Dn) := q
 exact h2.ret _ H1 (I1.setOwn e1 r1 L)⟩
theorem ds_setHp (h : PS X st (tAsg (tF k W mf) (gName i))) : DS X k W st (dSetHp i mf) := PS.sub h fun Dn σ H ⟨P, w, env, S, I, h⟩ => ⟨P, w, env, S, I, h.bind.imp fun c w1 env1 S1 l1 q p o H1 I1 e1 r1 L => by
 have h2 : Aft k W P w1 (M.ret Flo.nx (env1.set i (.val (.ref S1.length))) (S1 ++ [c])) (rS k P Dn) := q
 have le := I1.rs.al_le (a := p)
 have I2 := I1.alloc e1 r1 L
 exact (h2.up le).ret _ H1 (I2.setVal ⟨p, rfl, Wd.al_at⟩)⟩
theorem as_fz (h : PS X st (tAsg (tF k W mf) (gName i))) : PS X st (tAsg (tE k W (dFz mf)) (gName i)) := PS.sub h fun Dn σ H ⟨P, w, env, S, I, h⟩ => ⟨P, w, env, S, I, h.bind.imp fun c w1 env1 S1 l1 q p o H1 I1 e1 r1 L => by
 obtain ⟨d, e, q⟩ := q.opt
 have le : Wd.Le w1 (w1.fz p o) := Wd.fz_le L.f
 exact (q.up le).ret _ _ (I1.freeze e1 L) (frozen_rep e (r1.mono le) Wd.fz_at)⟩
theorem ds_asg {g : Tgt} {vs : List Nat} (h : PS X st (tAsg (tE k W ma) (tG k vs g))) : DS X k W st (dAsg g ma) := PS.sub h fun Dn σ H ⟨P, w, env, S, I, h⟩ => thenE I h fun d w1 env1 S1 v H1 l1 I1 r1 h1 => by
 have h2 : Aft k W P w1 (M.bind (setTg g d) (fun _ => M.ret Flo.nx) env1 S1) (rS k P Dn) := h1
 unfold M.bind setTg at h2
 cases e : g d env1 with
 | none => rw [e] at h2; exact h2.elim
 | some env2 =>
   rw [e] at h2
   exact ⟨P, w1, env1, S1, d, env2, I1, r1, e, fun σ' _ J => h2.ok σ' H1 J⟩
variable {rest body els : List Stmt} {ms mt mu : M Flo}
theorem dss_nil : DSs X k W [] (M.ret .nx) := PSs.sub pss_nil fun Dn σ H ⟨P, w, env, S, I, h⟩ => h.ret σ H I
theorem dss_cons (h1 : DS X k W st ms) (h2 : DSs X k W rest mt) : DSs X k W (st :: rest) (dSeq ms mt) :=
 PSs.sub (pss_cons h1 h2) fun Dn σ H ⟨P, w, env, S, I, h⟩ => ⟨P, w, env, S, I, h.bind.imp fun f w1 env1 S1 l1 q => by
   cases f with
   | nx => exact fun σ' H' J => ⟨P, w1, env1, S1, J, q⟩
   | rt d => exact q.ret
   | bk => exact q.ret
   | ct => exact q.ret⟩
theorem dss_one (h : DS X k W st ms) : DSs X k W [st] ms := pss_one h
theorem ds_pass : DS X k W (.Pass pos) (M.ret .nx) := PS.sub ps_pass fun Dn σ H ⟨P, w, env, S, I, h⟩ => h.ret σ H I
theorem ds_break : DS X k W (.Break pos) (M.ret .bk) := PS.sub ps_break fun Dn σ H ⟨P, w, env, S, I, h⟩ => h.ret σ H I
theorem ds_continue : DS X k W (.Continue pos) (M.ret .ct) := PS.sub ps_continue fun Dn σ H ⟨P, w, env, S, I, h⟩ => h.ret σ H I
theorem ds_never {s : Stmt} : DS X k W s M.fail := PS.sub (ps_never (st := s)) fun Dn σ H ⟨P, w, env, S, I, h⟩ => h
theorem ds_expr (ha : DE X k W e ma) (hs : swapsWith e none pos.line X.env = pure false) : DS X k W (.Expr e pos) (dExpr ma) :=
 PS.sub (ps_expr ha hs) fun Dn σ H ⟨P, w, env, S, I, h⟩ => thenE I h fun d w1 env1 S1 v H1 l1 I1 r1 h1 => h1.ret σ H1 I1
theorem ds_ret (ha : DE X k W e ma) : DS X k W (.Return (some e) pos) (dRet ma) :=
 PS.sub (ps_ret ha) fun Dn σ H ⟨P, w, env, S, I, h⟩ => thenE I h fun d w1 env1 S1 v H1 l1 I1 r1 h1 => h1.ret v σ H1 I1 r1
theorem ds_retHp (ha : DF X k W e mf) : DS X k W (.Return (some e) pos) (dRetHp mf) :=
 PS.sub (ps_ret ha) fun Dn σ H ⟨P, w, env, S, I, h⟩ => ⟨P, w, env, S, I, h.bind.imp fun c w1 env1 S1 l1 q p o H1 I1 e1 r1 L => by
   have h2 : Aft k W P w1 (M.ret (Flo.rt (.ref S1.length)) env1 (S1 ++ [c])) (rS k P Dn) := q
   have le := I1.rs.al_le (a := p)
   exact (h2.up le).ret _ σ H1 (I1.alloc e1 r1 L) ⟨p, rfl, Wd.al_at⟩⟩
theorem ds_retN : DS X k W (.Return none pos) (M.ret (.rt .non)) := PS.sub ps_retN fun Dn σ H ⟨P, w, env, S, I, h⟩ => h.ret _ σ H I rfl
theorem ds_if {c : Expr} {mc : M Bool} (hc : DT X k W c mc) (ha : DSs X k W body mt) (hb : DSs X k W els mu) : DS X k W (.If c body els pos) (dIf mc mt mu) :=
 PS.sub (ps_if hc ha hb) fun Dn σ H ⟨P, w, env, S, I, h⟩ => thenT I h fun t w1 env1 S1 H1 l1 I1 h1 => by
   cases t with
   | true => exact iteT ⟨P, w1, env1, S1, I1, h1⟩
   | false => exact iteF ⟨P, w1, env1, S1, I1, h1⟩
theorem cell_ok {P : Hp} {w : Wd} {env : Envr} {S : Sto} {σ : L2.St} {H : Hp} {x : D} {v : V} {c : Cell} (I : RB k P w env S σ H) (r : RepO k w σ x v) (e : cellOf env S x = some c) :
   ∃ a o, v = .ref a ∧ H a = some o ∧ RepC k w c o ∧ ∀ c' o', RepC k w c' o' → ∃ env' S', setCell x c' env S = .ok () env' S' ∧ RB k P w env' S' σ (upd H a o') := by
 cases x <;> simp only [cellOf] at e <;> try contradiction
 · rename_i n
   obtain ⟨a, rfl, ra⟩ := r
   obtain ⟨c1, o, e1, e2, e3, e4⟩ := I.rs.lt ra
   rw [e] at e1; cases e1
   exact ⟨a, o, rfl, e2, e4, fun c' o' r' => ⟨env, _, rfl, I.updS ra r'⟩⟩
 · rename_i i
   split at e
   · rename_i c1 e1
     cases e
     obtain ⟨a, o, x1, x2, x3, _⟩ := I.own i _ e1
     have r : σ[i]? = some (some v) := r
     rw [x1] at r; cases r
     exact ⟨a, o, rfl, x2, x3, fun c' o' r' => ⟨_, S, rfl, I.updOwn e1 x1 r'⟩⟩
   · cases e
def OpMt (X : Cx) (r : V → List V → Hp → VK → Prop) (f : Cell → List D → Option (Cell × D)) : Prop :=
 ∀ (k : Ky) (P : Hp) (w : Wd) (env : Envr) (S : Sto) (σ : L2.St) (H : Hp) (a : Addr) (o : HO) (vs : List V) (ds : List D) (c c' : Cell) (d : D) (Q : VK), k.K = X.K → RB k P w env S σ H → H a = some o → RepC k w c o → Reps k w ds vs → f c ds = some (c', d) →
   (∀ o' v, RepC k w c' o' → Rep k w d v → Q v (upd H a o')) → r (.ref a) vs H Q
theorem mut_ok {r : V → List V → Hp → VK → Prop} {f : Cell → List D → Option (Cell × D)} (hk : k.K = X.K) (hf : OpMt X r f) {mo : M D} {mas : M (List D)} {σ : L2.St} {H : Hp} {Q : VK} (h : tE k W (dMut f mo mas) σ H Q) : tBM X.K "list" r (tO k W mo) (tAs k W mas) σ H Q := by
 obtain ⟨P, w, env, S, I, h⟩ := h
 refine thenO I h fun x w1 env1 S1 v H1 l1 I1 r1 h1 => ?_
 have h1 := h1.getS
 cases ec : (cellOf env1 S1 x).map isLst with
 | none => rw [ec] at h1; exact h1.elim
 | some b =>
   rw [ec] at h1
   cases b with
   | false => exact h1.elim
   | true =>
     obtain ⟨c, e1, e2⟩ := Option.map_eq_some_iff.mp ec
     obtain ⟨a, o, rfl, hH, rc, _⟩ := cell_ok I1 r1 e1
     refine ⟨?_, thenA I1 h1 fun ds w2 env2 S2 vs H2 l2 I2 r2 h2 => ?_⟩
     · cases c with
       | lst l => obtain ⟨us, rfl, _⟩ := rc; exact .inl ⟨rfl, us, SqL.of hH⟩
       | _ => cases e2
     obtain ⟨p, e3, h3⟩ := h2.getS.bind.opt
     obtain ⟨c2, e4, e5⟩ := Option.bind_eq_some_iff.mp e3
     obtain ⟨a2, o2, q1, q2, q3, q4⟩ := cell_ok I2 (r1.up l2) e4
     cases q1
     refine hf k P w2 env2 S2 σ H2 a o2 vs ds c2 p.1 p.2 Q hk I2 q2 q3 r2 e5 fun o' u rc' ru => ?_
     obtain ⟨env3, S3, e6, I3⟩ := q4 p.1 o' rc'
     have h4 := h3.ret
     unfold M.bind at h4
     rw [e6] at h4
     exact h4.ret u _ I3 ru
theorem om_append : OpMt X rAppend appF := by
 intro k P w env S σ H a o vs ds c c' d Q hk I hH rc rs e q
 unfold appF at e
 split at e
 · split at e
   · cases e
     obtain ⟨us, rfl, r⟩ := rc
     obtain ⟨v, t, rfl, r1, r2⟩ := rs
     rw [show t = [] from r2]
     exact ⟨a, us, v, rfl, rfl, hH, by rw [r.length]; assumption, q _ _ ⟨_, rfl, r.append (Reps.one r1)⟩ rfl⟩
   · cases e
 · cases e
theorem om_pop : OpMt X rPop popF := by
 intro k P w env S σ H a o vs ds c c' d Q hk I hH rc rs e q
 unfold popF at e
 split at e
 · obtain ⟨d', e1, e2⟩ := Option.map_eq_some_iff.mp e
   cases e2
   obtain ⟨us, rfl, r⟩ := rc
   obtain ⟨v, e3, r3⟩ := r.getD e1
   rw [show vs = [] from rs]
   exact ⟨a, us, v, rfl, rfl, hH, by rw [r.length]; exact e3, q _ _ ⟨_, rfl, r.dropLast⟩ r3⟩
 · cases e
theorem om_popAt : OpMt X rPopAt popAtF := by
 intro k P w env S σ H a o vs ds c c' d Q hk I hH rc rs e q
 unfold popAtF at e
 split at e
 · split at e
   · rename_i hb
     obtain ⟨j, e0, e⟩ := Option.bind_eq_some_iff.mp e
     obtain ⟨d', e1, e2⟩ := Option.map_eq_some_iff.mp e
     cases e2
     obtain ⟨us, rfl, r⟩ := rc
     obtain ⟨v, e3, r3⟩ := r.getD e1
     obtain ⟨u, t, rfl, r1, r2⟩ := rs
     rw [show t = [] from r2, show u = _ from r1]
     exact ⟨a, us, _, j, v, rfl, rfl, hH, hb.1, hb.2, by rw [r.length]; exact e0, e3, q _ _ ⟨_, rfl, r.eraseIdx j⟩ r3⟩
   · cases e
 · cases e
theorem om_extend : OpMt X rExtend extF := by
 intro k P w env S σ H a o vs ds c c' d Q hk I hH rc rs e q
 unfold extF at e
 split at e
 · split at e
   · cases e
     obtain ⟨us, rfl, r⟩ := rc
     obtain ⟨v, t, rfl, r1, r2⟩ := rs
     obtain ⟨b, zs, rfl, f, rz⟩ := r1
     rw [show t = [] from r2]
     exact ⟨a, b, us, zs, rfl, rfl, hH, I.rs.frz _ _ f, by rw [r.length, rz.length]; assumption, q _ _ ⟨_, rfl, r.append rz⟩ rfl⟩
   · cases e
 · cases e
theorem om_reverse : OpMt X rReverse revF := by
 intro k P w env S σ H a o vs ds c c' d Q hk I hH rc rs e q
 unfold revF at e
 split at e
 · cases e
   obtain ⟨us, rfl, r⟩ := rc
   rw [show vs = [] from rs]
   exact ⟨a, us, rfl, rfl, hH, q _ _ ⟨_, rfl, r.reverse⟩ rfl⟩
 · cases e
theorem putK_nil {κ : Type} [DecidableEq κ] (q : κ) (v : V) : putK ([] : List (κ × V)) q v = [(q, v)] := rfl
theorem map_id_of {α : Type} {l : List α} {f : α → α} (h : ∀ x ∈ l, f x = x) : l.map f = l := by
 induction l with
 | nil => rfl
 | cons a r ih => rw [List.map_cons, h a List.mem_cons_self, ih fun x hx => h x (List.mem_cons_of_mem _ hx)]
theorem putK_cons {κ : Type} [DecidableEq κ] {a q : κ} {x v : V} {kvs : List (κ × V)} (nd : a ∉ kvs.map (·.1)) : putK ((a, x) :: kvs) q v = if a = q then (a, v) :: kvs else (a, x) :: putK kvs q v := by
 unfold putK
 by_cases h : a = q
 · subst h
   rw [if_pos rfl, if_pos (by simp)]
   rw [List.map_cons]
   show (if a = a then (a, v) else (a, x)) :: _ = _
   rw [if_pos rfl]
   congr 1
   refine map_id_of fun kv hkv => ?_
   rw [if_neg]
   rintro rfl
   exact nd (List.mem_map.mpr ⟨kv, hkv, rfl⟩)
 · rw [if_neg h]
   rw [List.any_cons, decide_eq_false (show ¬ (a, x).1 = q from h), Bool.false_or]
   by_cases hb : (kvs.any fun kv => decide (kv.1 = q)) = true
   · rw [if_pos hb, if_pos hb, List.map_cons]
     show (if a = q then _ else _) :: _ = _
     rw [if_neg h]
   · rw [if_neg hb, if_neg hb]; rfl
theorem putD_rep {κ : Type} [DecidableEq κ] {w : Wd} {q : κ} {d : D} {v : V} (g : Rep k w d v) : ∀ {kvs : List (κ × V)} {ds : List D}, (kvs.map (·.1)).Nodup → Reps k w ds (kvs.map (·.2)) →
   (putK kvs q v).map (·.1) = (putD q d (kvs.map (·.1)) ds).1 ∧ Reps k w (putD q d (kvs.map (·.1)) ds).2 ((putK kvs q v).map (·.2))
 | [], [], _, _ => ⟨rfl, Reps.one g⟩
 | [], d :: ds, _, r => by obtain ⟨_, _, e, _⟩ := r; cases e
 | (a, x) :: kvs, [], _, r => by
   have r : (((a, x) :: kvs).map (·.2)) = ([] : List V) := r
   cases r
 | (a, x) :: kvs, y :: ds, nd, r => by
   rw [List.map_cons] at nd
   obtain ⟨n1, n2⟩ := List.nodup_cons.mp nd
   obtain ⟨v', t, e, r1, r2⟩ := r
   rw [List.map_cons] at e
   obtain ⟨e1, e2⟩ := List.cons.inj e
   have e1 : x = v' := e1
   subst e1
   rw [← e2] at r2
   obtain ⟨i1, i2⟩ := putD_rep g n2 r2
   rw [putK_cons n1, List.map_cons]
   show _ = (if a = q then (a :: kvs.map (·.1), d :: ds) else (a :: (putD q d (kvs.map (·.1)) ds).1, y :: (putD q d (kvs.map (·.1)) ds).2)).1 ∧ Reps k w (if a = q then (a :: kvs.map (·.1), d :: ds) else (a :: (putD q d (kvs.map (·.1)) ds).1, y :: (putD q d (kvs.map (·.1)) ds).2)).2 _
   by_cases h : a = q
   · rw [if_pos h, if_pos h]
     exact ⟨rfl, ⟨_, _, rfl, g, r2⟩⟩
   · rw [if_neg h, if_neg h]
     exact ⟨by rw [List.map_cons, i1], ⟨_, _, rfl, r1, i2⟩⟩
abbrev rSetA : V → V → V → Hp → (Hp → Prop) → Prop := fun o i v H Q => rSetL o i v H Q ∨ ∃ a H', o = .ref a ∧ DPut H a i v H' ∧ Q H'
theorem pset_any (hu : X.A.units + 1 < cLine) : PSet X rSetA := by
 intro pins s σ H o i v ov iv u Q I r1 r2 r3 h
 rcases h with h | ⟨a, H', rfl, g, q⟩
 · exact set_list pins s σ H o i v ov iv u Q I r1 r2 r3 h
 · cases r1
   exact d_setItem hu I g r2 r3 fun s' I' => ⟨H', I', q⟩
theorem upd_upd {H : Hp} {a : Addr} {x y : HO} : upd (upd H a x) a y = upd H a y := by
 funext b
 unfold upd
 split <;> rfl
theorem inv_dt {pins : List (Addr × Obj)} {X : Cx} {σ : L2.St} {H : Hp} {s : Shared} {a : Addr} (I : L2.Inv X pins σ H s) (e : H a = some (.dK [])) : L2.Inv X pins σ (upd H a (.dT [])) s := by
 obtain ⟨z, hd, vs, rel, o, es, ep, h1, h2, h3, h4, h5, h6⟩ := dk_of I.hok e
 cases rel
 have he : es.toList = [] := by cases h5' : es.toList with
   | nil => rfl
   | cons x y => rw [h5'] at h5; cases h5
 have := d_write (h' := s.heap) (t' := s.toks) (ob := .dT []) I (by rw [e]; exact True.intro) ⟨rfl, fun _ _ => rfl⟩ ⟨o, h1⟩ ⟨Nat.zero_le _, hd, [], .nil, o, es, ep, h1, h2, h3, he, List.nodup_nil⟩
 exact this
abbrev rSetB : V → V → V → Hp → (Hp → Prop) → Prop := fun o i v H Q => rSetA o i v H Q ∨ ∃ (a b : Addr) (q : List Key), o = .ref a ∧ i = .ref b ∧ H a = some (.dK []) ∧ H b = some (.tup (q.map kV)) ∧ Q (upd H a (.dT [(q, v)]))
theorem pset_ab {X : Cx} (hu : X.A.units + 1 < cLine) : PSet X rSetB := by
 intro pins s σ H o i v ov iv u Q I r1 r2 r3 h
 rcases h with h | ⟨a, b, q, rfl, rfl, ea, eb, h⟩
 · exact pset_any hu pins s σ H o i v ov iv u Q I r1 r2 r3 h
 · cases r1
   have hne : b ≠ a := fun e => by rw [e, ea] at eb; cases eb
   have e1 : upd H a (.dT []) a = some (.dT []) := by unfold upd; rw [if_pos rfl]
   have e2 : upd H a (.dT []) b = some (.tup (q.map kV)) := by unfold upd; rw [if_neg hne]; exact eb
   refine d_setItem hu (inv_dt I ea) (DPut.t (kvs := []) (v := v) e1 e2 (by decide)) r2 r3 fun s' I' => ⟨_, ?_, h⟩
   rw [upd_upd] at I'
   exact I'
theorem keyOf_repH {w : Wd} {H : Hp} {d : D} {v : V} {q : Key} (e : keyOf d = some q) (r : RepH k w H d v) : v = kV q := by
 cases d <;> simp only [keyOf] at e <;> first | (cases e; exact r) | cases e
theorem ds_setIx {mi mo mv : M D} (hk : k.K = X.K) (h : PS X st (tAsg (tE k W mv) (gSub (tO k W mo) (tO k W mi) rSetB))) : DS X k W st (dSetIx mv mo mi) :=
 PS.sub h fun Dn σ H ⟨P, w, env, S, I, h⟩ => thenE I h fun d w1 env1 S1 v H1 l1 I1 r1 h1 => thenO I1 h1 fun x w2 env2 S2 y H2 l2 I2 r2 h2 => thenO I2 h2 fun j w3 env3 S3 z H3 l3 I3 r3 h3 => by
   obtain ⟨c', e, h4⟩ := h3.getS.bind.opt
   obtain ⟨c, e1, e2⟩ := Option.bind_eq_some_iff.mp e
   obtain ⟨a, o, rfl, hH, rc, fin⟩ := cell_ok I3 (r2.up l3) e1
   have rd : Rep k w3 d v := Rep.mono (l2.trans l3) d r1
   have rj := I3.view r3
   have go : ∀ o', RepC k w3 c' o' → Dn.nx σ (upd H3 a o') := fun o' rc' => by
     obtain ⟨env4, S4, e5, I4⟩ := fin c' o' rc'
     have h5 := h4.ret
     unfold M.bind at h5
     rw [e5] at h5
     exact h5.ret σ _ I4
   unfold setIxF at e2
   split at e2
   · rename_i l n ej
     obtain ⟨m, e3, rfl⟩ := Option.map_eq_some_iff.mp e2
     obtain ⟨us, rfl, r⟩ := rc
     rw [ej] at rj
     exact .inl (.inl ⟨a, us, n, m, rfl, rj, hH, by rw [r.length]; exact e3, go _ ⟨_, rfl, Reps.set rd m r⟩⟩)
   · rename_i ks vs
     split at e2
     · rename_i l ej
       obtain ⟨q, e3, rfl⟩ := Option.map_eq_some_iff.mp e2
       obtain ⟨kvs, rfl, ek, r⟩ := rc
       cases (List.map_eq_nil_iff.mp ek)
       rw [ej] at rj
       obtain ⟨p, us, rfl, h2, r2⟩ := rj
       have ex := keysOf_rep e3 r2
       subst ex
       exact .inr ⟨a, p, q, rfl, rfl, hH, I3.rs.frz _ _ h2, go _ ⟨_, rfl, rfl, Reps.one rd⟩⟩
     · split at e2
       · rename_i hb
         obtain ⟨q, e3, rfl⟩ := Option.map_eq_some_iff.mp e2
         obtain ⟨kvs, rfl, rfl, r⟩ := rc
         have ez : z = kV q := keyOf_repH e3 rj
         subst ez
         obtain ⟨p1, p2⟩ := putD_rep (q := q) rd hb.1 r
         exact .inl (.inr ⟨a, _, rfl, DPut.k hH (by simpa using hb.2), go _ ⟨_, rfl, p1, p2⟩⟩)
       · cases e2
   · rename_i ks vs l ej
     split at e2
     · rename_i hb
       obtain ⟨q, e3, rfl⟩ := Option.map_eq_some_iff.mp e2
       obtain ⟨kvs, rfl, rfl, r⟩ := rc
       rw [ej] at rj
       obtain ⟨p, us, rfl, h2, r2⟩ := rj
       have ex := keysOf_rep e3 r2
       subst ex
       obtain ⟨p1, p2⟩ := putD_rep (q := q) rd hb.1 r
       exact .inl (.inr ⟨a, _, rfl, DPut.t hH (I3.rs.frz _ _ h2) (by simpa using hb.2), go _ ⟨_, rfl, p1, p2⟩⟩)
     · cases e2
   · cases e2
end
end L2.MP
end
section
namespace L2.MP
open PySem PySem.Spec PyProof.Rows
instance : Inhabited Str := ⟨Str.empty⟩
section
variable {P : Program} {w : World} {A : Around} {E : Value → Shared → Prop} {s : Shared} {a : Addr}
theorem strs_kof : ∀ (l : List Value), (∀ v ∈ l, ∃ k, (PySem.strKind P w).is k v = true) → StrsAre l (l.map (kOf (PySem.strKind P w)))
 | [], _ => .nil
 | v :: l, h => by
   obtain ⟨k, hk⟩ := h v List.mem_cons_self
   obtain ⟨t, rfl⟩ := Value.isStrOf_shape hk
   rw [List.map_cons, kOf_eq hk]
   exact .cons k t (strs_kof l fun u hu => h u (List.mem_cons_of_mem _ hu))
theorem ints_kof : ∀ (l : List Value), (∀ v ∈ l, ∃ k, (PySem.intKind P w).is k v = true) → IntsAre l (l.map (kOf (PySem.intKind P w)))
 | [], _ => .nil
 | v :: l, h => by
   obtain ⟨k, hk⟩ := h v List.mem_cons_self
   obtain ⟨t, rfl⟩ := Value.isInt_shape hk
   rw [List.map_cons, kOf_eq hk]
   exact .cons k t (ints_kof l fun u hu => h u (List.mem_cons_of_mem _ hu))
theorem sort_setS {L : List Str} {Q : Value → Shared → Prop} (R : SetL (PySem.strKind P w) s.heap a L) (hh : A.handled = none) (h64 : L.length < 64)
   (q : ∀ s' p (out : Array Value) (c : Nat) (ys : List Str), (∀ b o, s.heap.get? b = some o → s'.heap.get? b = some o) → s'.gens = s.gens → s'.os = s.os → s.heap.objs.size ≤ p → s'.heap.get? p = some (seqObj "list" out c) → StrsAre out.toList ys → ys.Perm L → sortedS ys = true → Q (.ref p) s') :
   wpAny (model P w) A (call (.builtin "sorted") [.ref a]) Q E s := by
 obtain ⟨o, es, ep, t, ho, hex, hd, T⟩ := R
 refine Calls.call_function_entry kind_sorted plain_sorted entry_sorted (args_sorted1 _) ?_
 unfold Builtin.«sorted»
 refine wpAny_bind (m := checkCount "sorted" 1 1 _) (wpAny_pure (wpAny_bind (collect_set (A := A.in1) hh ⟨o, ho, hex.1, hd⟩ T.fit T.sz T.ris T.led fun s1 vs k1 z1 g1 o1 pm => ?_)))
 have vl : vs.length = L.length := by rw [pm.length_eq, List.length_map, Array.length_toList, T.len]
 have vS : StrsAre vs (vs.map (kOf (PySem.strKind P w))) := strs_kof vs fun v hv => by
   obtain ⟨e, he, rfl⟩ := List.mem_map.mp (pm.mem_iff.mp hv)
   obtain ⟨⟨k, h1, _⟩, _⟩ := T.el e he
   exact ⟨k, h1⟩
 have pL : (vs.map (kOf (PySem.strKind P w))).Perm L := by
   have := pm.map (kOf (PySem.strKind P w))
   rw [List.map_map] at this
   exact this.trans T.pm
 refine wpAny_bind (wpAny_newList ?_ (by rw [vl, sizeLine_eq]; omega))
 have oL : (s1.heap.push (seqObj "list" vs.toArray 0)).get? s1.heap.objs.size = some (seqObj "list" vs.toArray 0) := Heap.get?_push_size _ rfl
 refine wpAny_bind (wpAny_holding (wpAny_call_entry slot_list_sort ⟨_, oL, rfl⟩ entry_list_sort (list_sort_treeK strKind_oneLt oL vS.keysOf (fun v₁ v₂ rest e => keyKind_strs (by rw [← e]; exact vS)) (by rw [vl]; exact h64) fun st' hp hs => ⟨_, rfl, ?_⟩) (args_list_sort _)))
 obtain ⟨ys, y1, y2, y3⟩ := sorted_out_str vS hp hs
 obtain ⟨c, hc⟩ := sortedHeap_at (vs := vs) (out := (arrOf st').map (·.2)) oL
 refine wpAny_pure ⟨_, rfl, q _ s1.heap.objs.size _ c ys (fun b u e => ?_) g1 o1 z1 hc y1 (y2.trans pL) y3⟩
 have e1 := k1 b u e
 have lt := Heap.lt_size e1
 show (sortedHeap (s1.heap.push (seqObj "list" vs.toArray 0)) s1.heap.objs.size vs _).get? b = some u
 rw [sortedHeap_old (Nat.ne_of_lt lt) (by rw [size_push']; exact Nat.lt_succ_of_lt lt)]
 exact Heap.get?_push_of_some _ e1
theorem sort_setI {L : List Int} {Q : Value → Shared → Prop} (R : SetL (PySem.intKind P w) s.heap a L) (hh : A.handled = none) (h64 : L.length < 64)
   (q : ∀ s' p (out : Array Value) (c : Nat) (ys : List Int), (∀ b o, s.heap.get? b = some o → s'.heap.get? b = some o) → s'.gens = s.gens → s'.os = s.os → s.heap.objs.size ≤ p → s'.heap.get? p = some (seqObj "list" out c) → IntsAre out.toList ys → ys.Perm L → ys.Pairwise (· ≤ ·) → Q (.ref p) s') :
   wpAny (model P w) A (call (.builtin "sorted") [.ref a]) Q E s := by
 obtain ⟨o, es, ep, t, ho, hex, hd, T⟩ := R
 refine Calls.call_function_entry kind_sorted plain_sorted entry_sorted (args_sorted1 _) ?_
 unfold Builtin.«sorted»
 refine wpAny_bind (m := checkCount "sorted" 1 1 _) (wpAny_pure (wpAny_bind (collect_set (A := A.in1) hh ⟨o, ho, hex.1, hd⟩ T.fit T.sz T.ris T.led fun s1 vs k1 z1 g1 o1 pm => ?_)))
 have vl : vs.length = L.length := by rw [pm.length_eq, List.length_map, Array.length_toList, T.len]
 have vS : IntsAre vs (vs.map (kOf (PySem.intKind P w))) := ints_kof vs fun v hv => by
   obtain ⟨e, he, rfl⟩ := List.mem_map.mp (pm.mem_iff.mp hv)
   obtain ⟨⟨k, h1, _⟩, _⟩ := T.el e he
   exact ⟨k, h1⟩
 have pL : (vs.map (kOf (PySem.intKind P w))).Perm L := by
   have := pm.map (kOf (PySem.intKind P w))
   rw [List.map_map] at this
   exact this.trans T.pm
 refine wpAny_bind (wpAny_newList ?_ (by rw [vl, sizeLine_eq]; omega))
 have oL : (s1.heap.push (seqObj "list" vs.toArray 0)).get? s1.heap.objs.size = some (seqObj "list" vs.toArray 0) := Heap.get?_push_size _ rfl
 refine wpAny_bind (wpAny_holding (wpAny_call_entry slot_list_sort ⟨_, oL, rfl⟩ entry_list_sort (list_sort_tree oL vS (by rw [vl]; exact h64) fun out ys y1 y2 y3 => ⟨_, rfl, ?_⟩) (args_list_sort _)))
 obtain ⟨c, hc⟩ := sortedHeap_at (vs := vs) (out := out) oL
 refine wpAny_pure ⟨_, rfl, q _ s1.heap.objs.size _ c ys (fun b u e => ?_) g1 o1 z1 hc y1 (y2.trans pL) y3⟩
 have e1 := k1 b u e
 have lt := Heap.lt_size e1
 show (sortedHeap (s1.heap.push (seqObj "list" vs.toArray 0)) s1.heap.objs.size vs _).get? b = some u
 rw [sortedHeap_old (Nat.ne_of_lt lt) (by rw [size_push']; exact Nat.lt_succ_of_lt lt)]
 exact Heap.get?_push_of_some _ e1
end
class Ks (K : Type) [DecidableEq K] where
 inh : Inhabited K
 v : K → V
 kd : (P : Program) → (w : World) → PySem.KeyKind P w K
 is : ∀ P w k u, RelV (v k) u → (kd P w).is k u = true ∧ u.scannable = true
instance : Ks Str := ⟨⟨Str.empty⟩, V.str, PySem.strKind, fun P w k u ⟨t, e⟩ => by subst e; exact ⟨strKind_is _ _ _ _, rfl⟩⟩
instance : Ks Int := ⟨⟨0⟩, V.int, PySem.intKind, fun P w k u ⟨t, e⟩ => by subst e; exact ⟨intKind_is _ _ _ _, rfl⟩⟩
instance (priority := low) inhKs {K : Type} [DecidableEq K] [Ks K] : Inhabited K := Ks.inh
def SetHO (K : Type) [DecidableEq K] [Ks K] (P : Program) (w : World) (a : Addr) (L : List K) : HO := .ext fun h => SetL (Ks.kd P w) h a L
section
variable {K : Type} [DecidableEq K] [Ks K] {X : Cx}
theorem setHO_ok {P : Program} {w : World} {H : Hp} {h : Heap} {a : Addr} {L : List K} (R : SetL (Ks.kd P w) h a L) : ObjOk P w H h a (SetHO K P w a L) := by
 have ⟨o, _, _, _, ho, _⟩ := R
 exact ⟨R, ⟨o, ho⟩, fun h1 h2 p k => SetL.keep p k⟩
theorem vals_at : ∀ {zs : List K} {us : List Value}, Vals (zs.map Ks.v) us → ∀ (i : Nat) (v : Value), us[i]? = some v → ∀ P w, ∃ k, zs[i]? = some k ∧ (Ks.kd P w).is k v = true ∧ v.scannable = true
 | [], _, r, i, v, e, P, w => by cases r; simp at e
 | z :: zs, _, r, 0, v, e, P, w => by
   cases r with
   | cons r1 r2 =>
     simp at e; subst e
     exact ⟨z, rfl, Ks.is P w z _ r1⟩
 | z :: zs, _, r, i + 1, v, e, P, w => by
   cases r with
   | cons r1 r2 =>
     simp at e
     obtain ⟨k, e1, q⟩ := vals_at r2 i v e P w
     exact ⟨k, by simpa using e1, q⟩
def rSetV (K : Type) [DecidableEq K] [Ks K] (X : Cx) : List V → Hp → VK → Prop := fun xs H Q => ∃ (l : Addr) (zs : List K), xs = [.ref l] ∧ (SqL X.K H l (zs.map Ks.v) ∨ SqT X.K H l (zs.map Ks.v)) ∧ zs.length < 64 ∧ ∀ a, H a = none → Q (.ref a) (upd H a (SetHO K X.prog X.w a (onto zs [])))
theorem cr_setV (hc : X.calm = true) : CallR X (.type "set") (rSetV K X) := by
 intro pins s σ H xs us Q I r h
 obtain ⟨l, zs, rfl, hs, h64, q⟩ := h
 rw [Vals.ref1 r]
 have room : zs.length + 1 < scanBound := by unfold scanBound; omega
 rcases hs with hs | hs
 · obtain ⟨its, rv, pl, _⟩ := I.list hs
   have hn := rv.length
   rw [List.length_map] at hn
   exact setL_list (kd := Ks.kd X.prog X.w) zs (I.ok.hd hc) pl.isList (fun i v e => vals_at rv i v (by simpa using e) X.prog X.w) (by rw [List.size_toArray]; exact hn) room fun h' tk T k =>
     ⟨.ref _, upd H s.heap.objs.size (SetHO K X.prog X.w s.heap.objs.size (onto zs [])), I.laid (t' := tk) k (Nat.le_refl _) (setHO_ok T), rfl, q _ (I.hok.fresh (Nat.le_refl _))⟩
 · obtain ⟨its, rv, pl, _⟩ := I.tuple hs
   have hn := rv.length
   rw [List.length_map] at hn
   exact set_tuple (kd := Ks.kd X.prog X.w) zs (I.ok.hd hc) pl (fun i v e => vals_at rv i v (by simpa using e) X.prog X.w) (by rw [List.size_toArray]; exact hn) room fun h' tk T k =>
     ⟨.ref _, upd H s.heap.objs.size (SetHO K X.prog X.w s.heap.objs.size (onto zs [])), I.laid (t' := tk) k (Nat.le_refl _) (setHO_ok T), rfl, q _ (I.hok.fresh (Nat.le_refl _))⟩
theorem setHO_at {pins : List (Addr × Obj)} {σ : L2.St} {H : Hp} {s : Shared} {a : Addr} {L : List K} (I : Inv X pins σ H s) (e : H a = some (SetHO K X.prog X.w a L)) : SetL (Ks.kd X.prog X.w) s.heap a L := (I.hok a _ e).1
def rLenV (K : Type) [DecidableEq K] [Ks K] (X : Cx) : List V → Hp → VK → Prop := fun xs H Q => ∃ (a : Addr) (L : List K), xs = [.ref a] ∧ H a = some (SetHO K X.prog X.w a L) ∧ L.length < 64 ∧ Q (.int L.length) H
theorem cr_lenV : CallR X (.builtin "len") (rLenV K X) := by
 intro pins s σ H xs us Q I r h
 obtain ⟨a, L, rfl, e, h64, q⟩ := h
 rw [Vals.ref1 r]
 obtain ⟨o, es, ep, t, ho, hex, hd, T⟩ := setHO_at I e
 exact call_len_set ho hex hd T.fit (by rw [T.len]; omega) ⟨.int L.length, H, I.tok _, ⟨_, by rw [T.len]⟩, q⟩
def rSortV {K : Type} [DecidableEq K] [Ks K] (ord : List K → Prop) (X : Cx) : List V → Hp → VK → Prop := fun xs H Q => ∃ (a : Addr) (L : List K), xs = [.ref a] ∧ H a = some (SetHO K X.prog X.w a L) ∧ L.length < 64 ∧ ∀ ys p, ys.Perm L → ord ys → H p = none → Q (.ref p) (upd H p (.lst (ys.map Ks.v)))
end
section
variable {X : Cx}
theorem told_lst {s s' : Shared} {pins : List (Addr × Obj)} {σ : L2.St} {H : Hp} {p : Addr} {vs : List V} {out : Array Value} {c : Nat} {Q : VK} (I : Inv X pins σ H s) (k : ∀ b o, s.heap.get? b = some o → s'.heap.get? b = some o) (g : s'.gens = s.gens) (o : s'.os = s.os) (hp : s.heap.objs.size ≤ p)
   (e : s'.heap.get? p = some (seqObj "list" out c)) (r : Vals vs out.toList) (hl : vs.length ≤ sizeLine) (q : H p = none → Q (.ref p) (upd H p (.lst vs))) : EP X pins σ Q (.ref p) s' := by
 have hn : H p = none := I.hok.fresh hp
 have J : Inv X pins σ (upd H p (.lst vs)) { s with heap := s'.heap, gens := s'.gens, drawn := s'.drawn, toks := s'.toks } := I.call (ch := []) (Un.laid k hp hn) (I.hok.laid k hp ⟨hl, out.toList, c, r, e⟩) (by rw [g]; exact I.bare) (fun _ z => nomatch z)
 have es : s' = { s with heap := s'.heap, gens := s'.gens, drawn := s'.drawn, toks := s'.toks } := by
   cases s'; cases s; cases o; rfl
 rw [es]
 exact ⟨.ref p, _, J, rfl, q hn⟩
theorem cr_sortVS (hc : X.calm = true) : CallR X (.builtin "sorted") (rSortV (K := Str) (fun ys => sortedS ys = true) X) := by
 intro pins s σ H xs us Q I r h
 obtain ⟨a, L, rfl, e, h64, q⟩ := h
 rw [Vals.ref1 r]
 exact sort_setS (setHO_at I e) (I.ok.hd hc) h64 fun s' p out c ys k g o hp ep hS pm so => told_lst I k g o hp ep (vals_of_strs hS) (by rw [List.length_map, pm.length_eq, sizeLine_eq]; omega) fun hn => q ys p pm so hn
theorem cr_sortVI (hc : X.calm = true) : CallR X (.builtin "sorted") (rSortV (K := Int) (fun ys => ys.Pairwise (· ≤ ·)) X) := by
 intro pins s σ H xs us Q I r h
 obtain ⟨a, L, rfl, e, h64, q⟩ := h
 rw [Vals.ref1 r]
 exact sort_setI (setHO_at I e) (I.ok.hd hc) h64 fun s' p out c ys k g o hp ep hS pm so => told_lst I k g o hp ep (vals_of_ints hS) (by rw [List.length_map, pm.length_eq, sizeLine_eq]; omega) fun hn => q ys p pm so hn
end
theorem seqD_of {k : Ky} {P : Hp} {w : Wd} {env : Envr} {S : Sto} {σ : L2.St} {H : Hp} {d : D} {v : V} {l : List D} (I : RB k P w env S σ H) (r : RepH k w H d v) (e : seqD d = some l) : ∃ a vs, v = .ref a ∧ (SqL k.K H a vs ∨ SqT k.K H a vs) ∧ Reps k w l vs := by
 cases d <;> simp only [seqD] at e <;> first | contradiction | (cases e)
 · obtain ⟨a, vs, e, h, r⟩ := seqT_of I r (.inl rfl); exact ⟨a, vs, e, .inr h, r⟩
 · obtain ⟨a, vs, e, h, r⟩ := seqL_of I r (.inl rfl); exact ⟨a, vs, e, .inl h, r⟩
 · obtain ⟨a, vs, e, h, r⟩ := seqL_of I r (.inr rfl); exact ⟨a, vs, e, .inl h, r⟩
 · obtain ⟨a, vs, e, h, r⟩ := seqT_of I r (.inr rfl); exact ⟨a, vs, e, .inr h, r⟩
theorem setF_ok {α : Type} {fs : List Str → α} {fi : List Int → α} {d : D} {x : α} {k : Ky} {P : Hp} {w : Wd} {env : Envr} {S : Sto} {σ : L2.St} {H : Hp} {v : V} (I : RB k P w env S σ H) (r : RepH k w H d v) (e : setF fs fi d = some x) :
   (∃ a xs, v = .ref a ∧ (SqL k.K H a (xs.map V.str) ∨ SqT k.K H a (xs.map V.str)) ∧ xs.length < 64 ∧ x = fs xs) ∨ (∃ a xs, v = .ref a ∧ (SqL k.K H a (xs.map V.int) ∨ SqT k.K H a (xs.map V.int)) ∧ xs.length < 64 ∧ x = fi xs) := by
 obtain ⟨l, e1, e⟩ := Option.bind_eq_some_iff.mp e
 split at e
 · rename_i hl
   obtain ⟨a, vs, rfl, h, r⟩ := seqD_of I r e1
   split at e
   · rename_i xs e2
     cases e
     have := strs_rep e2 r
     subst this
     have := r.length
     rw [List.length_map] at this
     exact .inl ⟨a, xs, rfl, h, by omega, rfl⟩
   · obtain ⟨xs, e2, rfl⟩ := Option.map_eq_some_iff.mp e
     have := ints_rep e2 r
     subst this
     have := r.length
     rw [List.length_map] at this
     exact .inr ⟨a, xs, rfl, h, by omega, rfl⟩
 · cases e
theorem onto64 {K : Type} [DecidableEq K] {xs : List K} (h : xs.length < 64) : (onto xs []).length < 64 := Nat.lt_of_le_of_lt (onto_len (L := [])) (by simpa using h)
section
variable {X : Cx} {k : Ky} {W : WX} {a : Expr} {ma : M D} {p p2 q pos : Pos} {x y : Str}
theorem df_sset (hk : k.K = X.K) (hc : X.calm = true) (hx : x = "sorted") (hy : y = "set") (hg : Gl X x) (hm : X.mg x = none) (hg2 : Gl X y) (hm2 : X.mg y = none) (ha : DO X k W a ma) (hs : ∀ x p, a ≠ .Starred x p) : DF X k W (.Call (.Name x p) [.Call (.Name y p2) [a] [] q] [] pos) (dOpF1 ssetF ma) := by
 subst hx hy
 have hs1 : ∀ r ∈ [a], ∀ x p, r ≠ .Starred x p := fun r hr => by simp at hr; subst hr; exact hs
 have hs2 : ∀ x p, Expr.Call (.Name "set" p2) [a] [] q ≠ .Starred x p := fun _ _ z => nomatch z
 refine PE.sub (pe_blt (c := .f "sorted") ((cr_sortVS hc).or (cr_sortVI hc)) hg hm (by decide +kernel) (pa_one (pe_blt (c := .t "set") ((cr_setV (K := Str) hc).or (cr_setV (K := Int) hc)) hg2 hm2 (by decide +kernel) (pa_one ha hs) (by decide +kernel) (by decide +kernel) hs1) hs2) (by decide +kernel) (by decide +kernel) (fun r hr => by simp at hr; subst hr; exact hs2)) fun σ H Q ⟨P, w, env, S, I, h⟩ => thenO I h fun dx w1 env1 S1 x H1 l1 I1 r1 h1 => ?_
 obtain ⟨c, e, h3⟩ := h1.getS.opt
 rcases setF_ok I1 (I1.view r1) e with ⟨b, xs, rfl, hq, h64, rfl⟩ | ⟨b, xs, rfl, hq, h64, rfl⟩
 · refine .inl ⟨b, xs, rfl, hk ▸ hq, h64, fun t ht => .inl ⟨t, onto xs [], rfl, upd_same, onto64 h64, fun ys u pm so hu => ?_⟩⟩
   rw [sortS_uniq pm so]
   obtain ⟨J1, _⟩ := I1.new (o := SetHO Str X.prog X.w t (onto xs [])) ht
   obtain ⟨J2, L2⟩ := J1.new (o := .lst ((sortS (onto xs [])).map Ks.v)) hu
   exact h3.ret u _ _ J2 upd_same ⟨_, rfl, reps_strs _⟩ L2
 · refine .inr ⟨b, xs, rfl, hk ▸ hq, h64, fun t ht => .inr ⟨t, onto xs [], rfl, upd_same, onto64 h64, fun ys u pm so hu => ?_⟩⟩
   rw [sortI_uniq pm so]
   obtain ⟨J1, _⟩ := I1.new (o := SetHO Int X.prog X.w t (onto xs [])) ht
   obtain ⟨J2, L2⟩ := J1.new (o := .lst ((sortI (onto xs [])).map Ks.v)) hu
   exact h3.ret u _ _ J2 upd_same ⟨_, rfl, reps_ints _⟩ L2
theorem de_lset (hk : k.K = X.K) (hc : X.calm = true) (hx : x = "len") (hy : y = "set") (hg : Gl X x) (hm : X.mg x = none) (hg2 : Gl X y) (hm2 : X.mg y = none) (ha : DO X k W a ma) (hs : ∀ x p, a ≠ .Starred x p) : DE X k W (.Call (.Name x p) [.Call (.Name y p2) [a] [] q] [] pos) (dOp1 lsetD ma) := by
 subst hx hy
 have hs1 : ∀ r ∈ [a], ∀ x p, r ≠ .Starred x p := fun r hr => by simp at hr; subst hr; exact hs
 have hs2 : ∀ x p, Expr.Call (.Name "set" p2) [a] [] q ≠ .Starred x p := fun _ _ z => nomatch z
 refine PE.sub (pe_blt (c := .f "len") ((cr_lenV (K := Str)).or (cr_lenV (K := Int))) hg hm (by decide +kernel) (pa_one (pe_blt (c := .t "set") ((cr_setV (K := Str) hc).or (cr_setV (K := Int) hc)) hg2 hm2 (by decide +kernel) (pa_one ha hs) (by decide +kernel) (by decide +kernel) hs1) hs2) (by decide +kernel) (by decide +kernel) (fun r hr => by simp at hr; subst hr; exact hs2)) fun σ H Q ⟨P, w, env, S, I, h⟩ => thenO I h fun dx w1 env1 S1 x H1 l1 I1 r1 h1 => ?_
 obtain ⟨c, e, h3⟩ := h1.getS.opt
 rcases setF_ok I1 (I1.view r1) e with ⟨b, xs, rfl, hq, h64, rfl⟩ | ⟨b, xs, rfl, hq, h64, rfl⟩
 · refine .inl ⟨b, xs, rfl, hk ▸ hq, h64, fun t ht => .inl ⟨t, onto xs [], rfl, upd_same, onto64 h64, ?_⟩⟩
   obtain ⟨J1, _⟩ := I1.new (o := SetHO Str X.prog X.w t (onto xs [])) ht
   exact h3.ret _ _ J1 rfl
 · refine .inr ⟨b, xs, rfl, hk ▸ hq, h64, fun t ht => .inr ⟨t, onto xs [], rfl, upd_same, onto64 h64, ?_⟩⟩
   obtain ⟨J1, _⟩ := I1.new (o := SetHO Int X.prog X.w t (onto xs [])) ht
   exact h3.ret _ _ J1 rfl
end
end L2.MP
end
section
namespace L2.MP
open PySem PySem.Spec PyProof.Rows
section
variable {P : Program} {w : World} {A : Around} {E : Value → Shared → Prop} {s : Shared}
theorem rev_applied {sl : Addr} {vl vu vs : Value} {n : Nat} {Q : Int × Int × Nat → Shared → Prop} (hs : s.heap.IsSliceOf sl vl vu vs) (pl : IsPart vl none) (pu : IsPart vu none) (ps : IsPart vs (some (-1)))
   (h : Q ((n : Int) - 1, -1, n) s) : wpAny (model P w) A (Builtin.Slice.sliceApplied (.ref sl) (pure (n : Int))) Q E s := by
 obtain ⟨os, hos, hcs, hds⟩ := id hs
 cases pl
 cases pu
 cases ps
 unfold Builtin.Slice.sliceApplied Builtin.Slice.sliceFields
 refine wpAny_bind (wpAny_bind (wpAny_field hos hds (x := .none) rfl (wpAny_bind (wpAny_field hos hds (x := .none) rfl (wpAny_bind (wpAny_field hos hds (x := .int (-1) _) rfl (wpAny_pure ?_)))))))
 refine wpAny_bind (slicePart_int ?_)
 show wpAny _ _ (if ((-1 : Int) == 0) = true then _ else _) _ _ s
 rw [if_neg (by decide)]
 refine wpAny_bind (slicePart_none (wpAny_bind (slicePart_none (wpAny_bind (wpAny_pure ?_)))))
 have e : Builtin.Slice.slicePlaces ((n : Int) - 1) (-1) (-1) = n := by
   unfold Builtin.Slice.slicePlaces
   rw [if_neg (by decide)]
   rw [show -(-1 : Int) = 1 from rfl, Int.ediv_one]
   split <;> omega
 show wpAny _ _ (pure ((n : Int) - 1, (-1 : Int), Builtin.Slice.slicePlaces ((n : Int) - 1) (-1) (-1))) _ _ s
 rw [e]
 exact wpAny_pure h
theorem pick_rev (xs : Array Value) : ((List.range xs.size).filterMap fun (m : Nat) => xs[(((xs.size : Int) - 1) + (m : Int) * (-1)).toNat]?) = xs.toList.reverse := by
 apply List.ext_getElem?
 intro i
 have key : ∀ n, n ≤ xs.size → ((List.range n).filterMap fun (m : Nat) => xs[(((xs.size : Int) - 1) + (m : Int) * (-1)).toNat]?) = xs.toList.reverse.take n := by
   intro n
   induction n with
   | zero => intro _; rfl
   | succ n ih =>
     intro h
     rw [List.range_succ, List.filterMap_append, ih (by omega)]
     have e : (((xs.size : Int) - 1) + (n : Int) * (-1)).toNat = xs.size - 1 - n := by omega
     have e2 : xs[xs.size - 1 - n]? = some xs[xs.size - 1 - n] := Array.getElem?_eq_getElem (by omega)
     simp only [List.filterMap_cons, List.filterMap_nil, e, e2]
     have hl : n < xs.toList.reverse.length := by simp; omega
     rw [List.take_add_one, List.getElem?_eq_getElem hl]
     simp
 rw [key _ (Nat.le_refl _), List.take_of_length_le (by simp)]
theorem get_tup_rev {t sl : Addr} {items : Array Value} {vl vu vs : Value} {Q : Value → Shared → Prop} (ht : IsTup s.heap t items) (hs : s.heap.IsSliceOf sl vl vu vs) (pl : IsPart vl none) (pu : IsPart vu none) (ps : IsPart vs (some (-1)))
   (h : Q (.ref s.heap.objs.size) { s with heap := s.heap.push { cls := .type "tuple", data := .seq items.toList.reverse.toArray } }) (hz : items.size ≤ sizeLine) : wpAny (model P w) A (getItem (.ref t) (.ref sl)) Q E s := by
 obtain ⟨os, hos, hcs, hds⟩ := id hs
 have ok : sizeOk (.seq items.toList.reverse.toArray) := by
   show items.toList.reverse.toArray.size ≤ sizeLine
   rw [List.size_toArray, List.length_reverse, Array.length_toList]; exact hz
 have ts : s.TypeIs (.ref sl) "slice" := ⟨os, hos, hcs⟩
 unfold getItem
 try with_reducible refine wpAny_holding ?_
 first | refine wpAny_bind (wpAny_pure ?_) | skip
 refine wpAny_bind (wpAny_sequenceKey ht.typeIs (by decide) (wpAny_bind (wpAny_callSpecial?_slot (name := Str.ofString "__getitem__") ht.typeIs PyProof.Rows.slot_tuple_getitem
   (wpAny_call_entry PyProof.Rows.slot_tuple_getitem ht.typeIs entry_tuple_getitem ?_ (args_tuple_getitem _ _)))))
 show wpAny _ _ (Builtin.Tuple.tupleItemsOf (.ref t) >>= _) _ _ s
 refine wpAny_bind (tupleItemsOf_ ht (wpAny_bind (wpAny_typeOf ts ?_)))
 rw [if_pos (by decide)]
 refine wpAny_bind (rev_applied hs pl pu ps ?_)
 have no : ¬ ((((items.size : Int) - 1) == 0 && (-1 : Int) == 1 && items.size == items.size) = true) := by
   rw [show ((-1 : Int) == 1) = false from rfl, Bool.and_false, Bool.false_and]; exact Bool.false_ne_true
 show wpAny _ _ (if ((((items.size : Int) - 1) == 0 && (-1 : Int) == 1 && items.size == items.size) = true) then _ else _) _ _ s
 rw [if_neg no, pick_rev]
 first
   | exact wpAny_bind (m := Builtin.Tuple.tupleExact _) (wpAny_newObj_type (wpAny_pure ⟨_, rfl, wpAny_pure h⟩) ok)
   | exact wpAny_bind (m := Builtin.Tuple.tupleExact _) (wpAny_newObj_type (wpAny_bind (wpAny_pure (wpAny_pure ⟨_, rfl, wpAny_pure h⟩))) ok)
   | exact wpAny_bind (wpAny_bind (m := Builtin.Tuple.tupleExact _) (wpAny_newObj_type (wpAny_pure (wpAny_pure ⟨_, rfl, wpAny_pure h⟩)) ok))
   | exact wpAny_bind (wpAny_bind (m := Builtin.Tuple.tupleExact _) (wpAny_newObj_type (wpAny_pure ⟨_, rfl, wpAny_pure h⟩) ok))
end
def tRev2 (K : PySem.W.Frag) (te : TE) : TE := fun σ H Q => te σ H fun x H1 => (∃ a xs, x = .ref a ∧ SqL K H1 a xs ∧ ∀ p, H1 p = none → Q (.ref p) (upd H1 p (.lst xs.reverse))) ∨ ∃ a xs, x = .ref a ∧ SqT K H1 a xs ∧ ∀ p, H1 p = none → Q (.ref p) (upd H1 p (.tup xs.reverse))
theorem pe_rev2 {X : Cx} {e : Expr} {te : TE} {k : Nat} {p1 p2 p3 pos : Pos} (he : PE X e te) : PE X (.Subscript e (.Slice none none (some (.UnaryOp .USub (.Constant (.int 1) k p1) p2)) p3) pos) (tRev2 X.K te) := by
 refine ⟨fun pins s σ H Q I h => Subscript_ (thn (he.run pins s σ H _ I h) fun v s1 ⟨x, H1, I1, r1, q1⟩ => ?_)⟩
 have st : PO X (some (.UnaryOp .USub (.Constant (.int 1) k p1) p2)) (tPart (tUn (rU fun i => .int (-i)) (tC (.int 1)))) := po_some (pe_un un_neg pe_int)
 refine wpAny_Slice (thn (po_none.run pins s1 σ H1 (fun o H2 => o = none ∧ H2 = H1) I1 ⟨rfl, rfl⟩) fun vl s2 ⟨l, H2, I2, pl, el, e2⟩ => thn (po_none.run pins s2 σ H2 (fun o H3 => o = none ∧ H3 = H2) I2 ⟨rfl, rfl⟩) fun vu s3 ⟨u, H3, I3, pu, eu, e3⟩ =>
   thn (st.run pins s3 σ H3 (fun o H4 => o = some (-1) ∧ H4 = H3) I3 ⟨1, rfl, -1, rfl, rfl, rfl⟩) fun vs s4 ⟨o, H4, I4, ps, eo, e4⟩ => ?_)
 subst el e2 eu e3 eo e4
 have I5 : Inv X pins σ H4 { s4 with heap := s4.heap.push { cls := .type "slice", data := .fields #[vl, vu, vs] } } := I4.kept (t' := s4.toks) fun b ob q => Heap.get?_push_of_some _ q
 rcases q1 with ⟨a, xs, rfl, hx, q⟩ | ⟨a, xs, rfl, hx, q⟩
 · cases r1
   obtain ⟨its, r, ht, hz⟩ := I5.list hx
   have hl := r.length
   refine tail_any (ops := [.ref a, .ref s4.heap.objs.size]) ht.isList.typeIs (PySem.slot_list_getitem.lookup) (wpAny_getItem_list_slice ht.isList (Heap.IsSliceOf.new _ vl vu vs) pl pu ps (by decide) ?_ (by rw [List.size_toArray]; omega)) (by with_unfolding_all rfl)
   rw [PySem.W.krv_pick]
   exact ⟨.ref _, _, I5.laid (t' := s4.toks) (o := .lst xs.reverse) (fun b ob q => Heap.get?_push_of_some _ q) (Nat.le_refl _) ⟨by rw [List.length_reverse]; exact hz, _, 0, r.reverse, Heap.get?_push_size _ rfl⟩, rfl, q _ (I5.hok.fresh (Nat.le_refl _))⟩
 · cases r1
   obtain ⟨its, r, ht, hz⟩ := I5.tuple hx
   have hl := r.length
   refine tail_any (ops := [.ref a, .ref s4.heap.objs.size]) ht.typeIs (PyProof.Rows.slot_tuple_getitem.lookup) (get_tup_rev ht (Heap.IsSliceOf.new _ vl vu vs) pl pu ps ?_ (by rw [List.size_toArray]; omega)) (by with_unfolding_all rfl)
   exact ⟨.ref _, _, I5.laid (t' := s4.toks) (o := .tup xs.reverse) (fun b ob q => Heap.get?_push_of_some _ q) (Nat.le_refl _) ⟨by rw [List.length_reverse]; exact hz, _, r.reverse, IsTup.new _ _⟩, rfl, q _ (I5.hok.fresh (Nat.le_refl _))⟩
section
variable {X : Cx} {k : Ky} {W : WX} {e : Expr} {ma mo : M D} {mf : M Cell} {pos p1 p2 p3 : Pos}
theorem de_rev {i : Nat} (hk : k.K = X.K) (ha : DO X k W e ma) : DE X k W (.Subscript e (.Slice none none (some (.UnaryOp .USub (.Constant (.int 1) i p1) p2)) p3) pos) (dOp1 revD ma) :=
 PE.sub (pe_rev2 ha) fun σ H Q ⟨P, w, env, S, I, h⟩ => thenO I h fun dx w1 env1 S1 x H1 l1 I1 r1 h1 => by
   obtain ⟨d, e, h3⟩ := h1.getS.opt
   have rx := I1.view r1
   unfold revD at e
   split at e
   · rename_i ee; cases e; rw [ee] at rx
     obtain ⟨a, vs, rfl, h, r⟩ := seqL_of I1 rx (.inl rfl)
     exact .inl ⟨a, vs, rfl, hk ▸ h, fun p hp => (h3.up (I1.le_grow hp)).ret _ _ (I1.grow hp) ⟨p, _, rfl, Wd.fz_at, r.reverse.mono (I1.le_grow hp)⟩⟩
   · rename_i ee; cases e; rw [ee] at rx
     obtain ⟨a, vs, rfl, h, r⟩ := seqL_of I1 rx (.inr rfl)
     exact .inl ⟨a, vs, rfl, hk ▸ h, fun p hp => (h3.up (I1.le_grow hp)).ret _ _ (I1.grow hp) ⟨p, _, rfl, Wd.fz_at, r.reverse.mono (I1.le_grow hp)⟩⟩
   · rename_i ee; cases e; rw [ee] at rx
     obtain ⟨a, vs, rfl, h, r⟩ := seqT_of I1 rx (.inl rfl)
     exact .inr ⟨a, vs, rfl, hk ▸ h, fun p hp => (h3.up (I1.le_grow hp)).ret _ _ (I1.grow hp) ⟨p, _, rfl, Wd.fz_at, r.reverse.mono (I1.le_grow hp)⟩⟩
   · rename_i ee; cases e; rw [ee] at rx
     obtain ⟨a, vs, rfl, h, r⟩ := seqT_of I1 rx (.inr rfl)
     exact .inr ⟨a, vs, rfl, hk ▸ h, fun p hp => (h3.up (I1.le_grow hp)).ret _ _ (I1.grow hp) ⟨p, _, rfl, Wd.fz_at, r.reverse.mono (I1.le_grow hp)⟩⟩
   · cases e
theorem de_hp (h : DF X k W e mf) : DE X k W e (dHp mf) := PE.sub h fun σ H Q ⟨P, w, env, S, I, h⟩ => ⟨P, w, env, S, I, h.bind.imp fun c w1 env1 S1 l1 q p o H1 I1 e1 r1 L => by
 have h2 : Aft k W P w1 (M.ret (D.ref S1.length) env1 (S1 ++ [c])) (rE k P σ Q) := q
 exact (h2.up I1.rs.al_le).ret _ H1 (I1.alloc e1 r1 L) ⟨p, rfl, Wd.al_at⟩⟩
theorem de_call0 {CX : CXT} {x : Str} {f : Addr} {fd : FuncData} {ps : List Str} {fn : Fn} {p : Pos} {lv n : Nat} (F : FnOk X.prog X.w X.K X.mg X.base CX lv f fd ps (spOf k n fn)) (hr : Room lv X.A) (hg : Gl X x) (hm : X.mg x = some (.ref f)) (hk : PySem.W.keepIn X.K (.ref f) = true) (hb : Binds X.K fd ps [])
   (pa : ∀ σ, PassesAt CX X σ (WE W σ)) (hdb : (x == ("__debug__" : Str)) = false) : DE X k W (.Call (.Name x p) [] [] pos) (M.bind dNil fun ds => if ds.length = n then (fun env S => (fn ds S).out env) else M.fail) := by
 refine ⟨fun pins s σ H Q I h => ?_⟩
 obtain ⟨P, w, env, S, J, h⟩ := h
 have h1 : Aft k W P w ((if ([] : List D).length = n then (fun env S => (fn [] S).out env) else M.fail : M D) env S) (rE k P σ Q) := h
 obtain ⟨hl, h2⟩ := if_ok h1
 refine wpAny_Call_Name_kw (ld_glob I hg hm ?_ hdb)
 exact PySem.W.callWith_K0 (first := []) I.kIn hk (run_fnSD (us := []) (vs := []) F hr hb .nil (pa σ) I .nil (call_sp (ds := []) J rfl hl h2))
theorem om_insert : OpMt X (fun x vs H Q => ∃ (l : Addr) (xs : List V) (i : Int) (y : V), x = .ref l ∧ vs = [.int i, y] ∧ H l = some (.lst xs) ∧ xs.length < sizeLine ∧ 0 ≤ i ∧ i < 2 ^ 63 ∧ Q .non (upd H l (.lst (xs.take i.toNat ++ [y] ++ xs.drop i.toNat)))) insF := by
 intro k P w env S σ H a o vs ds c c' d Q hk I hH rc rs e q
 unfold insF at e
 split at e
 · split at e
   · rename_i hb
     cases e
     obtain ⟨us, rfl, r⟩ := rc
     obtain ⟨v, t, rfl, r1, v2, t2, rfl, r2, rfl⟩ := rs
     obtain rfl : v = _ := r1
     exact ⟨a, us, _, v2, rfl, rfl, hH, by rw [r.length]; exact hb.1, hb.2.1, hb.2.2, q _ _ ⟨_, rfl, ((r.take _).append (Reps.one r2)).append (r.drop _)⟩ rfl⟩
   · cases e
 · cases e
end
end L2.MP
namespace L2.MP
open PySem PySem.Spec PyProof.Rows
section
variable {X : Cx} {k : Ky} {W : WX} {o e : Expr} {mo ma : M D} {apos pos : Pos}
def LmOk (X : Cx) (r : V → List V → Hp → VK → Prop) (f : List D → D → Option D) : Prop :=
 ∀ (k : Ky) (P : Hp) (w : Wd) (env : Envr) (S : Sto) (σ : L2.St) (H : Hp) (a : Addr) (vs : List V) (l : List D) (y : D) (v : V) (d : D) (Q : VK), k.K = X.K → RB k P w env S σ H → SqL k.K H a vs → Reps k w l vs → RepH k w H y v → f l y = some d →
   (∀ w' u H', Wd.Le w w' → RB k P w' env S σ H' → Rep k w' d u → Q u H') → r (.ref a) [v] H Q
theorem de_lm1 {id : String} {name : Str} {r : V → List V → Hp → VK → Prop} {f : List D → D → Option D} (hk : k.K = X.K) (slot : PySem.Slot "list" name id) (ty : typeOf (.builtin id) = pure (.type "method_descriptor")) (rule : MtR X id r) (hf : LmOk X r f)
   (ho : DO X k W o mo) (ha : DO X k W e ma) (hs : ∀ x p, e ≠ .Starred x p) (hbase : attributeBase o name X.env (eval o X.env) = eval o X.env) (hfew : ((backTo pos (starEach [e] X.env)).all (fun x => !x.1) && (backToKw pos (keywordEach [] X.env)).all (fun x => x.1.isSome)
     && decide ([e].length + ([] : List Keyword).length + (if ([] : List Keyword).isEmpty then 0 else 1) < 30)) = true) (hline : (apos.endLine == pos.line) = true) : DE X k W (.Call (.Attribute o name apos) [e] [] pos) (dLm1 f mo ma) :=
 PE.sub (pe_bm PySem.F.plainAttrs_list slot ty rule ho (pa_one ha hs) hbase hfew hline (star1 e hs [] _) rfl) fun σ H Q ⟨P, w, env, S, I, h⟩ => thenO I h fun x w1 env1 S1 v H1 l1 I1 r1 h1 => by
   have h1 := h1.getS
   dsimp only at h1
   cases el : lstOf (view env1 S1 x) with
   | none => rw [el] at h1; exact h1.elim
   | some l =>
     rw [el] at h1
     obtain ⟨a, vs, rfl, hq, _⟩ := seqL_of I1 (I1.view r1) (lstOf_ok el)
     refine ⟨.inl ⟨rfl, vs, hk ▸ hq⟩, thenO I1 h1 fun y w2 env2 S2 u H2 l2 I2 r2 h2 => ?_⟩
     obtain ⟨d, e1, h3⟩ := h2.getS.opt
     obtain ⟨m, e2, e3⟩ := Option.bind_eq_some_iff.mp e1
     obtain ⟨a2, us, ea, hq2, rr⟩ := seqL_of I2 (I2.view (r1.up l2)) (lstOf_ok e2)
     cases ea
     exact hf k P w2 env2 S2 σ H2 a us m _ u d Q hk I2 hq2 rr (I2.view r2) e3 fun w' u' H' le J q => (h3.up le).ret u' H' J q
theorem posD_ok {y : D} : ∀ {l : List D} {j : Nat}, posD y l = some j → (∃ z, l[j]? = some z ∧ eqD z y = true) ∧ ∀ (m : Nat) z, m < j → l[m]? = some z → eqD z y = false
 | [], j, e => by cases e
 | x :: r, j, e => by
   unfold posD at e
   split at e
   · rename_i h
     cases e
     exact ⟨⟨x, rfl, h⟩, fun m z hm => by omega⟩
   · rename_i h
     obtain ⟨i, e1, rfl⟩ := Option.map_eq_some_iff.mp e
     obtain ⟨⟨z, h1, h2⟩, h3⟩ := posD_ok e1
     refine ⟨⟨z, by simpa using h1, h2⟩, fun m z hm ez => ?_⟩
     cases m with
     | zero => simp at ez; subst ez; simpa using h
     | succ m => exact h3 m z (by omega) (by simpa using ez)
theorem pys_get : ∀ {l : List D} {j : Nat} {z : PyData}, (toPys l)[j]? = some z → ∃ d, l[j]? = some d ∧ z = toPy d
 | [], j, z, h => by cases j <;> cases h
 | d :: l, 0, z, h => ⟨d, rfl, (Option.some.inj h).symm⟩
 | d :: l, j + 1, z, h => pys_get (l := l) (j := j) (z := z) h
theorem pys_at : ∀ {l : List D} {j : Nat} {d : D}, l[j]? = some d → (toPys l)[j]? = some (toPy d)
 | [], j, d, h => by cases h
 | x :: l, 0, d, h => by cases h; rfl
 | x :: l, j + 1, d, h => pys_at (l := l) (j := j) (d := d) h
theorem okDs_at {n : Nat} : ∀ {l : List D} {j : Nat} {d : D}, okDs n l = true → l[j]? = some d → okD n d = true
 | [], j, d, _, h => by cases h
 | x :: l, j, d, hk, h => by
   have hk : (okD n x && okDs n l) = true := by cases n <;> exact hk
   rw [Bool.and_eq_true] at hk
   cases j with
   | zero => cases h; exact hk.1
   | succ j => exact okDs_at (l := l) (j := j) hk.2 h
def rIndexA (K : PySem.W.Frag) : V → List V → Hp → VK → Prop := fun x xs H Q => rIndex K x xs H Q ∨ rIndexD K x xs H Q
theorem mt_indexA (hu : X.A.units + 65 < cLine) : MtR X "list.index" (rIndexA X.K) := by
 intro pins s σ H x xs v us Q I rx rxs h
 rcases h with h | h
 · exact mt_index pins s σ H x xs v us Q I rx rxs h
 · exact mt_indexD hu pins s σ H x xs v us Q I rx rxs h
theorem lm_index : LmOk X (rIndexA X.K) idxF := by
 intro k P w env S σ H a vs l y v d Q hk I hq rr ry e q
 unfold idxF at e
 split at e
 · rename_i hb
   rw [Bool.and_eq_true] at hb
   obtain ⟨j, e1, rfl⟩ := Option.map_eq_some_iff.mp e
   obtain ⟨⟨z, h1, h2⟩, h3⟩ := posD_ok e1
   have ry := flat_repH hb.1 ry
   obtain ⟨u, g1, g2⟩ := rr.getD h1
   have fl : ∀ (i : Nat) x, l[i]? = some x → flatD x = true := fun i x e => List.all_eq_true.mp hb.2 x (List.mem_of_getElem? e)
   exact .inl ⟨a, vs, v, j, u, rfl, rfl, hk ▸ hq, flat_rep hb.1 ry, flats_rep hb.2 rr, g1, by rw [eqV_rep (fl _ _ h1) hb.1 g2 ry]; exact h2, fun m z' hm ez => by
     obtain ⟨x, f1, f2⟩ := rr.get ez
     rw [eqV_rep (fl _ _ f1) hb.1 f2 ry]; exact h3 m x hm f1, q w _ H (Wd.Le.refl w) I rfl⟩
 · split at e
   · rename_i hb
     rw [Bool.and_eq_true] at hb
     obtain ⟨j, e1, rfl⟩ := Option.map_eq_some_iff.mp e
     obtain ⟨⟨z, h1, h2⟩, h3⟩ := posD_ok e1
     obtain ⟨a1, a2⟩ := toPy_ok 64 y hb.1
     have hl : okD 64 (.lst l) = true := hb.2
     obtain ⟨b1, b2⟩ := toPy_ok 64 (.lst l) hl
     refine .inr ⟨a, v, toPy y, toPys l, j, toPy z, rfl, rfl, .lst (hk ▸ hq) (hk ▸ dps_mono I.rs.frz _ (dp_reps 63 l hb.2 rr)), hk ▸ dp_repH I hb.1 ry, ?_, ?_, pys_at h1, ?_, fun m z' hm ez => ?_, q w _ H (Wd.Le.refl w) I rfl⟩
     · unfold SeqAt.shaped; exact (by rw [show (PyData.list (toPys l)) = toPy (.lst l) from rfl, b1, decide_eq_true b2]; rfl)
     · unfold SeqAt.shaped; rw [a1, decide_eq_true a2]; rfl
     · rw [eqv_eq 63 64 z y (okDs_at hb.2 h1) hb.1]; exact h2
     · obtain ⟨x, f1, rfl⟩ := pys_get ez
       rw [eqv_eq 63 64 x y (okDs_at hb.2 f1) hb.1]
       exact h3 m x hm f1
   · cases e
end
end L2.MP
end
section
namespace L2.MP
open PySem PySem.Spec PyProof.Rows
theorem pick_one (items : Array Value) : slicePick items none none (some 1) = items.toList.toArray := by
 have h := L2.slicePick_cut items.toList none none
 have e : slicePick items none none (some 1) = slicePick items.toList.toArray none none none := by
   rw [Array.toArray_toList]
   rfl
 rw [e, h]
 simp [HT.sIx]
 rw [List.take_of_length_le (by simp)]
def tStp (K : PySem.W.Frag) (te : TE) (to : TO) : TE := fun σ H Q => te σ H fun x H1 => to σ H1 fun o H2 => ∃ a xs i, o = some i ∧ (i = 1 ∨ i = -1) ∧ x = .ref a ∧ SqL K H2 a xs ∧ ∀ p, H2 p = none → Q (.ref p) (upd H2 p (.lst (if i = 1 then xs else xs.reverse)))
theorem pe_stp {X : Cx} {e st : Expr} {te : TE} {to : TO} {p3 pos : Pos} (he : PE X e te) (hst : PO X (some st) to) : PE X (.Subscript e (.Slice none none (some st) p3) pos) (tStp X.K te to) := by
 refine ⟨fun pins s σ H Q I h => Subscript_ (thn (he.run pins s σ H _ I h) fun v s1 ⟨x, H1, I1, r1, q1⟩ => ?_)⟩
 refine wpAny_Slice (thn (po_none.run pins s1 σ H1 (fun o H2 => o = none ∧ H2 = H1) I1 ⟨rfl, rfl⟩) fun vl s2 ⟨l, H2, I2, pl, el, e2⟩ => thn (po_none.run pins s2 σ H2 (fun o H3 => o = none ∧ H3 = H2) I2 ⟨rfl, rfl⟩) fun vu s3 ⟨u, H3, I3, pu, eu, e3⟩ => ?_)
 subst el e2 eu e3
 refine thn (hst.run pins s3 σ H3 _ I3 q1) fun vs s4 ⟨o, H4, I4, ps, q4⟩ => ?_
 obtain ⟨a, xs, i, eo, hi, ex, hx, q⟩ := q4
 subst eo ex
 cases r1
 have I5 : Inv X pins σ H4 { s4 with heap := s4.heap.push { cls := .type "slice", data := .fields #[vl, vu, vs] } } := I4.kept (t' := s4.toks) fun b ob q => Heap.get?_push_of_some _ q
 obtain ⟨its, r, ht, hz⟩ := I5.list hx
 have hl := r.length
 rcases hi with rfl | rfl
 · refine tail_any (ops := [.ref a, .ref s4.heap.objs.size]) ht.isList.typeIs (PySem.slot_list_getitem.lookup) (wpAny_getItem_list_slice ht.isList (Heap.IsSliceOf.new _ vl vu vs) pl pu ps (by decide) ?_ (by rw [List.size_toArray]; omega)) (by with_unfolding_all rfl)
   rw [pick_one]
   exact ⟨.ref _, _, I5.laid (t' := s4.toks) (o := .lst xs) (fun b ob q => Heap.get?_push_of_some _ q) (Nat.le_refl _) ⟨hz, _, 0, r, Heap.get?_push_size _ rfl⟩, rfl, q _ (I5.hok.fresh (Nat.le_refl _))⟩
 · refine tail_any (ops := [.ref a, .ref s4.heap.objs.size]) ht.isList.typeIs (PySem.slot_list_getitem.lookup) (wpAny_getItem_list_slice ht.isList (Heap.IsSliceOf.new _ vl vu vs) pl pu ps (by decide) ?_ (by rw [List.size_toArray]; omega)) (by with_unfolding_all rfl)
   rw [PySem.W.krv_pick]
   exact ⟨.ref _, _, I5.laid (t' := s4.toks) (o := .lst xs.reverse) (fun b ob q => Heap.get?_push_of_some _ q) (Nat.le_refl _) ⟨by rw [List.length_reverse]; exact hz, _, 0, r.reverse, Heap.get?_push_size _ rfl⟩, rfl, q _ (I5.hok.fresh (Nat.le_refl _))⟩
section
variable {X : Cx} {k : Ky} {W : WX} {e st : Expr} {ma ms : M D} {pos p3 : Pos}
theorem de_stp (hk : k.K = X.K) (ha : DO X k W e ma) (hs : DE X k W st ms) : DE X k W (.Subscript e (.Slice none none (some st) p3) pos) (dStp ma ms) :=
 PE.sub (pe_stp ha (dp_some hs)) fun σ H Q ⟨P, w, env, S, I, h⟩ => thenO I h fun dx w1 env1 S1 x H1 l1 I1 r1 h1 => thenP I1 h1 fun l w2 env2 S2 H2 l2 I2 h2 => by
   obtain ⟨d, e, h3⟩ := h2.getS.opt
   have rx := I2.view (r1.up l2)
   unfold stpD at e
   split at e
   · rename_i ee; cases e; rw [ee] at rx
     obtain ⟨a, vs, rfl, h, r⟩ := seqL_of I2 rx (.inl rfl)
     refine ⟨a, vs, 1, rfl, .inl rfl, rfl, hk ▸ h, fun p hp => ?_⟩
     rw [if_pos rfl]
     exact (h3.up (I2.le_grow hp)).ret _ _ (I2.grow hp) ⟨p, _, rfl, Wd.fz_at, r.mono (I2.le_grow hp)⟩
   · rename_i ee; cases e; rw [ee] at rx
     obtain ⟨a, vs, rfl, h, r⟩ := seqL_of I2 rx (.inl rfl)
     refine ⟨a, vs, -1, rfl, .inr rfl, rfl, hk ▸ h, fun p hp => ?_⟩
     rw [if_neg (by decide)]
     exact (h3.up (I2.le_grow hp)).ret _ _ (I2.grow hp) ⟨p, _, rfl, Wd.fz_at, r.reverse.mono (I2.le_grow hp)⟩
   · cases e
end
end L2.MP
end
section
namespace L2.MP
open PySem PySem.Spec PyProof.Rows PySem.W
section
variable {X : Cx}
def rMinT (K : PySem.W.Frag) : List V → Hp → VK → Prop := fun vs H Q => ∃ (a : Addr) (ns : List Int), vs = [V.ref a] ∧ SqT K H a (ns.map V.int) ∧ 0 < ns.length ∧ ∀ m, m ∈ ns → (∀ y, y ∈ ns → m ≤ y) → Q (.int m) H
theorem ints_at {ns : List Int} {vs : List Value} (h : IntsAre vs ns) (i : Nat) (v : Value) (e : vs[i]? = some v) : ∃ t, v = Value.int (ns.getD i 0) t := by
 induction h generalizing i with
 | nil => simp at e
 | cons a t _ ih =>
   cases i with
   | zero => simp at e; exact ⟨_, e.symm⟩
   | succ i => exact ih i (by simpa using e)
theorem cr_minT (hc : X.calm = true) : CallR X (.builtin "min") (rMinT X.K) := by
 intro pins s σ H vs us Q I r h
 obtain ⟨a, ns, rfl, ha, hne, q⟩ := h
 rw [Vals.ref1 r]
 obtain ⟨its, rv, pl, hz⟩ := I.tuple ha
 have hi := rv.ints
 have hlv : its.length = ns.length := hi.length
 obtain ⟨ob, ho, hcl, nn, hdat⟩ := id pl
 have hlt : a < s.heap.objs.size := Heap.lt_size ho
 refine call_min_walk (wpAny_pyIter_tuple pl ?_)
 refine ⟨_, _, _, _, _, _, _, rfl, Walks.tuple (A := X.A.in1) (I.ok.hd hc) s.heap.objs.size a (Nat.ne_of_lt hlt) its.toArray,
   ⟨⟨_, Heap.get?_push_size _ rfl, rfl, rfl⟩, pl.push _⟩, fun b hb => ?_, by simp; omega, CmpOf.ints_lt (fun i => ns.getD i 0) (fun i v hv => ints_at hi i v (by simpa using hv)), fun v h' tk hP hk => ?_⟩
 · show b < (s.heap.push _).objs.size
   rw [Heap.size_push]
   rcases List.mem_cons.mp hb with e | hb
   · rw [e]
     exact Nat.lt_succ_self _
   · rw [List.mem_singleton.mp hb]
     exact Nat.lt_succ_of_lt hlt
 · obtain ⟨b1, b2⟩ := argBest_lt (fun i => ns.getD i 0) (its.toArray.size - 1)
   obtain ⟨t, rfl⟩ := ints_at hi (argBest (fun i j => decide (ns.getD i 0 < ns.getD j 0)) (its.toArray.size - 1)) v (by rw [List.getElem?_toArray] at hP; exact hP)
   have hsz : its.toArray.size = ns.length := by simpa using hlv
   refine ⟨.int _, H, I.kept (t' := tk) fun b u e => hk b u (fun hmem => ?_) (Heap.get?_push_of_some _ e), ⟨t, rfl⟩, q _ ?_ fun j hj => ?_⟩
   · have e1 : b = s.heap.objs.size := List.mem_singleton.mp hmem
     have e2 := Heap.lt_size e
     rw [e1] at e2
     exact absurd e2 (Nat.lt_irrefl _)
   · have hb : argBest (fun i j => decide (ns.getD i 0 < ns.getD j 0)) (its.toArray.size - 1) < ns.length := by omega
     rw [List.getD_eq_getElem?_getD, List.getElem?_eq_getElem hb]
     exact List.getElem_mem hb
   · obtain ⟨i, hi, e⟩ := List.mem_iff_getElem.mp hj
     have e2 : ns.getD i 0 = j := by rw [List.getD_eq_getElem?_getD, List.getElem?_eq_getElem hi, ← e] <;> rfl
     rw [← e2]
     exact b2 i (by omega)
theorem op1_minX : Op1 X (fun x H Q => rMin X.K [x] H Q ∨ rMinT X.K [x] H Q) minD := by
 intro k P w env S σ H x dx d Q hk I rx e q
 have tup : ∀ {l : List D}, minLD (.lst l) = some d → (∃ a vs, x = .ref a ∧ SqT k.K H a vs ∧ Reps k w l vs) → rMinT X.K [x] H Q := fun {l} e ⟨a, vs, e1, h, r⟩ => by
   obtain ⟨l', e1', e⟩ := Option.bind_eq_some_iff.mp e
   cases e1'
   obtain ⟨bs, e2, e⟩ := Option.bind_eq_some_iff.mp e
   split at e
   · cases e
     exact ⟨a, bs, by rw [e1], ints_rep e2 r ▸ hk ▸ h, by assumption, fun m h1 h2 => q w _ H (Wd.Le.refl w) I (by rw [minI_uniq h1 h2]; rfl)⟩
   · cases e
 unfold minD at e
 split at e
 · exact .inr (tup e (seqT_of I rx (.inl rfl)))
 · exact .inr (tup e (seqT_of I rx (.inr rfl)))
 · exact .inl (op1_min k P w env S σ H x _ d Q hk I rx e q)
def rMinDf (K : PySem.W.Frag) : List V → List V → Hp → VK → Prop := fun vs zs H Q => ∃ (a : Addr) (ns : List Int) (j : Int), vs = [V.ref a] ∧ zs = [.int j] ∧ SqL K H a (ns.map V.int) ∧
 (ns = [] → Q (.int j) H) ∧ ∀ m, m ∈ ns → (∀ y, y ∈ ns → m ≤ y) → Q (.int m) H
theorem readsInts {h : Heap} : ∀ {vs : List Value} {ns : List Int}, IntsAre vs ns → ∃ as, ReadsAll h vs (ns.map PyData.int) as := by
 intro vs ns hi
 induction hi with
 | nil => exact ⟨_, .nil⟩
 | cons a t _ ih =>
   obtain ⟨as, ih⟩ := ih
   exact ⟨_, .cons (.int _ _) ih⟩
theorem alikeInts (ns : List Int) : AlikeAll (ns.map PyData.int) := ⟨fun x hx y hy => by
 obtain ⟨i, _, rfl⟩ := List.mem_map.mp hx
 obtain ⟨j, _, rfl⟩ := List.mem_map.mp hy
 rfl, fun x hx => by
 obtain ⟨i, _, rfl⟩ := List.mem_map.mp hx
 intro h; cases h⟩
theorem depthInts : ∀ ns : List Int, PyData.depthAll (ns.map PyData.int) ≤ 1
 | [] => by decide
 | n :: ns => by
   have := depthInts ns
   simp [PyData.depthAll, PyData.depth] at *
   omega
theorem fold_min : ∀ (ns : List Int) (n : Int), ns.foldl min n ∈ n :: ns ∧ ∀ y ∈ n :: ns, ns.foldl min n ≤ y
 | [], n => ⟨List.mem_cons_self, fun y hy => by rw [List.mem_singleton.mp hy]; exact Int.le_refl _⟩
 | k :: r, n => by
   obtain ⟨h1, h2⟩ := fold_min r (min n k)
   rw [List.foldl_cons]
   have hm := h2 (min n k) List.mem_cons_self
   refine ⟨?_, fun y hy => ?_⟩
   · rcases List.mem_cons.mp h1 with e | h
     · rw [e]
       by_cases hk : n ≤ k
       · rw [Int.min_eq_left hk]; exact List.mem_cons_self
       · rw [Int.min_eq_right (by omega)]; exact List.mem_cons_of_mem _ List.mem_cons_self
     · exact List.mem_cons_of_mem _ (List.mem_cons_of_mem _ h)
   · rcases List.mem_cons.mp hy with rfl | hy
     · omega
     · rcases List.mem_cons.mp hy with rfl | hy
       · omega
       · exact h2 y (List.mem_cons_of_mem _ hy)
theorem cr_minDf (hc : X.calm = true) (hu : X.A.units + 65 < cLine) : CallRK X (.builtin "min") [Str.ofString "default"] (rMinDf X.K) := by
 intro pins s σ H vs zs us ws Q I r rz h
 obtain ⟨a, ns, j, rfl, rfl, hs, q0, q⟩ := h
 rw [Vals.ref1 r]
 obtain ⟨w1, rfl, e1⟩ := vals1 rz
 obtain ⟨its, rv, hl, _⟩ := I.list hs
 have hi := rv.ints
 obtain ⟨as, hr⟩ := readsInts (h := s.heap) hi
 refine min_list_default (I.ok.hd hc) hl.isList hr (alikeInts ns) (by have := depthInts ns; omega) (fun e h' tk hk => ?_) (fun y ys i v h' tk bs e hv hrd hk => ?_)
 · exact ⟨.int j, H, I.kept (t' := tk) fun b u e => hk b u e, e1, q0 (List.map_eq_nil_iff.mp e)⟩
 · cases ns with
   | nil => cases e
   | cons n ns =>
     injection e with e2 e3
     subst e2 e3
     rw [PySem.W.minD_ints] at hrd
     obtain ⟨h1, h2⟩ := fold_min ns n
     generalize ns.foldl min n = m at *
     cases hrd
     exact ⟨.int _, H, I.kept (t' := tk) fun b u e => hk b u e, ⟨_, rfl⟩, q m h1 h2⟩
theorem op2_minDf : ∀ (k : Ky) (P : Hp) (w : Wd) (env : Envr) (S : Sto) (σ : L2.St) (H : Hp) (x y : V) (dx dy d : D) (Q : VK), k.K = X.K → RB k P w env S σ H → RepH k w H dx x → RepH k w H dy y → minDf dx dy = some d →
   (∀ w' v H', Wd.Le w w' → RB k P w' env S σ H' → Rep k w' d v → Q v H') → rMinDf X.K [x] [y] H Q := by
 intro k P w env S σ H x y dx dy d Q hk I rx ry e q
 obtain ⟨l, e1, e⟩ := Option.bind_eq_some_iff.mp e
 obtain ⟨ns, e2, e⟩ := Option.bind_eq_some_iff.mp e
 split at e
 · cases e
   obtain ⟨a, vs, rfl, h, r⟩ := seqL_of I rx (lstOf_ok e1)
   refine ⟨a, ns, _, rfl, by rw [show y = _ from ry], ints_rep e2 r ▸ hk ▸ h, fun hn => ?_, fun m h1 h2 => ?_⟩
   · subst hn
     exact q w _ H (Wd.Le.refl w) I rfl
   · have : 0 < ns.length := List.length_pos_of_mem h1
     refine q w _ H (Wd.Le.refl w) I ?_
     rw [if_pos this, minI_uniq h1 h2]; rfl
 · cases e
theorem de_minDf {k : Ky} {W : WX} {a b : Expr} {ma mb : M D} {x : Str} {p pos kpos : Pos} (hk : k.K = X.K) (hc : X.calm = true) (hu : X.A.units + 65 < cLine) (hx : x = "min") (hg : Gl X x) (hm : X.mg x = none) (ha : DO X k W a ma) (hb : DO X k W b mb) (hs : ∀ x p, a ≠ .Starred x p) :
   DE X k W (.Call (.Name x p) [a] [⟨some "default", b, kpos⟩] pos) (dOp2 minDf ma mb) := by
 subst hx
 refine PE.sub (pe_callBK (cr_minDf hc hu) hg hm (by decide +kernel) (pa_cons ha pa_nil (star1 a hs [] _)) (pk_cons hb pk_nil) (by decide) (by decide) (by rw [star1 a hs]; rfl) (star_false [a] (fun q hq => by simp at hq; subst hq; exact hs) _ _) rfl rfl rfl) fun σ H Q ⟨P, w, env, S, I, h⟩ => thenO I h fun dx w1 env1 S1 x H1 l1 I1 r1 h1 => thenO I1 h1 fun dy w2 env2 S2 y H2 l2 I2 r2 h2 => ?_
 obtain ⟨d, e, h3⟩ := h2.getS.opt
 exact op2_minDf k P w2 env2 S2 σ H2 x y _ _ d Q hk I2 (I2.view (r1.up l2)) (I2.view r2) e fun w' v H' le J q => (h3.up le).ret v H' J q
theorem m1_ok {o e : Expr} {m : Str} {apos cpos : Pos} (hb : attributeBase o m X.env (eval o X.env) = eval o X.env) (hl : (apos.endLine == cpos.line) = true) (hs : ∀ x p, e ≠ .Starred x p) : M1 X o m apos e cpos :=
 ⟨hb, by rw [star1 e hs]; rfl, hl, by rw [star1 e hs]; rfl⟩
theorem m2_ok {o e f : Expr} {m : Str} {apos cpos : Pos} (hb : attributeBase o m X.env (eval o X.env) = eval o X.env) (hl : (apos.endLine == cpos.line) = true) (hs : ∀ x p, e ≠ .Starred x p) (hs2 : ∀ x p, f ≠ .Starred x p) : M2 X o m apos e f cpos :=
 ⟨hb, by rw [star1 e hs, star1 f hs2]; rfl, hl, by rw [star1 e hs, star1 f hs2]; rfl⟩
theorem dk_is {k : Ky} {P : Hp} {w : Wd} {env : Envr} {S : Sto} {σ : L2.St} {H : Hp} {x : V} {d d' : D} (rx : RepH k w H d x) (e : dkD d = some d') : ∃ a, x = .ref a ∧ IsD H a := by
 unfold dkD at e
 split at e
 · obtain ⟨a, kvs, rfl, h1, rfl, r⟩ := rx
   exact ⟨a, rfl, .inl ⟨kvs, .inl h1⟩⟩
 · cases e
theorem get2_ok {k : Ky} {w : Wd} {H : Hp} {x y z : V} {dx dy dz d : D} {a : Addr} (hx : x = .ref a) (rx : RepH k w H dx x) (ry : RepH k w H dy y) (rz : Rep k w dz z) (e : getD2 dx dy dz = some d) : ∃ o, DGet H a y o ∧ Rep k w d (o.getD z) := by
 unfold getD2 at e
 split at e
 · obtain ⟨q1, e1, e2⟩ := Option.map_eq_some_iff.mp e
   obtain ⟨a', kvs, rfl, h1, rfl, r⟩ := rx
   cases hx
   have ex : y = kV q1 := keyOf_rep e1 (by cases dy <;> first | exact ry | cases e1)
   subst ex
   obtain ⟨l1, l2⟩ := look_rep (q := q1) r
   refine ⟨valV kvs q1, DGet.k h1, ?_⟩
   subst e2
   cases el : lookK q1 (kvs.map (·.1)) _ with
   | none => rw [l2 el]; exact rz
   | some d =>
     obtain ⟨v, e, r3⟩ := l1 d el
     rw [e]; exact r3
 · cases e
theorem Aft.optB {α β : Type} {k : Ky} {W : WX} {P : Hp} {w : Wd} {env : Envr} {S : Sto} {a : Option α} {f : α → M β} {R : β → Wd → Envr → Sto → Prop} (h : Aft k W P w (M.bind (M.opt a) f env S) R) : ∃ b, a = some b ∧ Aft k W P w (f b env S) R := by
 cases a with
 | none => exact (h.bind : Aft k W P w _ _).elim
 | some b => exact ⟨b, rfl, h.bind.ok⟩
theorem de_get2 {k : Ky} {W : WX} {o e f : Expr} {mo me mf : M D} {m : Str} {apos cpos : Pos} (hk : k.K = X.K) (hu : X.A.units + 65 < cLine) (hm : m = "get") (ho : DO X k W o mo) (he : DO X k W e me) (hf : DE X k W f mf)
   (hb : attributeBase o m X.env (eval o X.env) = eval o X.env) (hl : (apos.endLine == cpos.line) = true) (hs : ∀ x p, e ≠ .Starred x p) (hs2 : ∀ x p, f ≠ .Starred x p) :
   DE X k W (.Call (.Attribute o m apos) [e, f] [] cpos) (dGet2 mo me mf) := by
 subst hm
 refine PE.sub (pe_dget2 (by omega) ho he hf (m2_ok hb hl hs hs2)) fun σ H Q ⟨P, w, env, S, I, h⟩ => thenO I h fun dx w1 env1 S1 x H1 l1 I1 r1 h1 => ?_
 obtain ⟨d0, e0, h1⟩ := h1.getS.optB
 obtain ⟨a, ex, hd⟩ := dk_is (P := P) (env := env1) (S := S1) (σ := σ) (I1.view r1) e0
 refine ⟨a, ex, hd, ?_⟩
 refine thenO I1 h1 fun dy w2 env2 S2 y H2 l2 I2 r2 h2 => thenE I2 h2 fun dz w3 env3 S3 z H3 l3 I3 r3 h3 => ?_
 obtain ⟨d, e, h4⟩ := h3.getS.opt
 obtain ⟨o, g, rr⟩ := get2_ok ex (I3.view ((r1.up l2).up l3)) (I3.view (r2.up l3)) r3 e
 exact ⟨o, g, h4.ret _ H3 I3 rr⟩
theorem de_get1 {k : Ky} {W : WX} {o e : Expr} {mo me : M D} {m : Str} {apos cpos : Pos} (hk : k.K = X.K) (hu : X.A.units + 65 < cLine) (hm : m = "get") (ho : DO X k W o mo) (he : DO X k W e me)
   (hb : attributeBase o m X.env (eval o X.env) = eval o X.env) (hl : (apos.endLine == cpos.line) = true) (hs : ∀ x p, e ≠ .Starred x p) :
   DE X k W (.Call (.Attribute o m apos) [e] [] cpos) (dGet1 mo me) := by
 subst hm
 refine PE.sub (pe_dget1 (by omega) ho he (m1_ok hb hl hs)) fun σ H Q ⟨P, w, env, S, I, h⟩ => thenO I h fun dx w1 env1 S1 x H1 l1 I1 r1 h1 => ?_
 obtain ⟨d0, e0, h1⟩ := h1.getS.optB
 obtain ⟨a, ex, hd⟩ := dk_is (P := P) (env := env1) (S := S1) (σ := σ) (I1.view r1) e0
 refine ⟨a, ex, hd, ?_⟩
 refine thenO I1 h1 fun dy w2 env2 S2 y H2 l2 I2 r2 h2 => ?_
 obtain ⟨d, e, h4⟩ := h2.getS.opt
 obtain ⟨o, g, rr⟩ := get2_ok (dz := .non) (z := .non) ex (I2.view (r1.up l2)) (I2.view r2) rfl e
 exact ⟨o, g, h4.ret _ H2 I2 rr⟩
def sgnV (z : Str) : List V := z.cps.toList.map fun c => V.str ⟨#[c]⟩
theorem sgn_rep {k : Ky} {w : Wd} (z : Str) : Reps k w (sgnD z) (sgnV z) := by
 unfold sgnD sgnV
 induction z.cps.toList with
 | nil => rfl
 | cons a r ih => exact ⟨_, _, rfl, rfl, ih⟩
theorem sgn_vals {z : Str} {acc : Array Value} (h : ItemsOf (SignAt z) acc z.cps.size) : Vals (sgnV z) acc.toList := by
 have e1 : (sgnV z).length = z.cps.size := by unfold sgnV; rw [List.length_map, Array.length_toList]
 refine vals_of_at (by rw [e1, Array.length_toList]; exact h.1.symm) fun j x u h1 h2 => ?_
 obtain ⟨c, t, h3, rfl⟩ := h.2 j u (by rw [← Array.getElem?_toList]; exact h2)
 unfold sgnV at h1
 rw [List.getElem?_map, Array.getElem?_toList, h3] at h1
 cases h1
 exact ⟨t, rfl⟩
def rListStr : List V → Hp → VK → Prop := fun xs H Q => ∃ z, xs = [.str z] ∧ z.length ≤ sizeLine ∧ ∀ l, H l = none → Q (.ref l) (upd H l (.lst (sgnV z)))
def rTupStr : List V → Hp → VK → Prop := fun xs H Q => ∃ z, xs = [.str z] ∧ z.length ≤ sizeLine ∧ ∀ l, H l = none → Q (.ref l) (upd H l (.tup (sgnV z)))
theorem cr_listStr (hc : X.calm = true) : CallR X (.type "list") rListStr := by
 intro pins s σ H xs us Q I r h
 obtain ⟨z, rfl, hz, q⟩ := h
 obtain ⟨u, eu, rx⟩ := vals1 r
 subst eu
 obtain ⟨t, rfl⟩ := rx
 refine call_list_str (I.ok.hd hc) z t (fun h' tk acc' c' hk hS hacc => ?_) (by exact hz)
 have hv := sgn_vals hacc
 refine ⟨.ref s.heap.objs.size, upd H s.heap.objs.size (.lst (sgnV z)), I.laid hk (Nat.le_refl _) (show ObjOk X.prog X.w _ _ _ (.lst (sgnV z)) from ⟨?_, acc'.toList, c', hv, ?_⟩), rfl, q _ (I.hok.fresh (Nat.le_refl _))⟩
 · unfold sgnV; rw [List.length_map, Array.length_toList]; exact hz
 · rw [Array.toArray_toList]; exact hS
theorem cr_tupStr (hc : X.calm = true) : CallR X (.type "tuple") rTupStr := by
 intro pins s σ H xs us Q I r h
 obtain ⟨z, rfl, hz, q⟩ := h
 obtain ⟨u, eu, rx⟩ := vals1 r
 subst eu
 obtain ⟨t, rfl⟩ := rx
 refine call_tuple_str (I.ok.hd hc) z t (fun h' tk acc hk hacc => ?_) (by exact hz)
 have hv := sgn_vals hacc
 have I1 : Inv X pins σ H { s with heap := h', toks := tk } := I.kept (t' := tk) hk
 have I2 : Inv X pins σ (upd H h'.objs.size (.tup (sgnV z))) { s with heap := h'.push { cls := .type "tuple", data := .seq acc }, toks := tk } :=
   I1.laid (t' := tk) (fun b o e => Heap.get?_push_of_some _ e) (Nat.le_refl _) (show ObjOk X.prog X.w _ _ _ (.tup (sgnV z)) from ⟨?_, acc.toList, hv, ?_⟩)
 · exact ⟨.ref h'.objs.size, _, I2, rfl, q _ (I1.hok.fresh (Nat.le_refl _))⟩
 · unfold sgnV; rw [List.length_map, Array.length_toList]; exact hz
 · have e : acc.toList.toArray = acc := by simp
   rw [e]
   exact IsTup.new _ _
theorem op1_tupleX (hc : X.calm = true) : Op1 X (fun x H Q => rTupA X [x] H Q ∨ rTupStr [x] H Q) tupleD := by
 intro k P w env S σ H x dx d Q hk I rx e q
 unfold tupleD at e
 split at e
 · split at e
   · rename_i z hz
     cases e
     rw [show x = _ from rx]
     refine .inr ⟨z, rfl, hz, fun l hl => ?_⟩
     have le := I.le_grow (o := .tup (sgnV z)) hl
     exact q _ _ _ le (I.grow hl) ⟨l, _, rfl, Wd.fz_at, sgn_rep z⟩
   · cases e
 · exact .inl (op1_tuple k P w env S σ H x _ d Q hk I rx e q)
theorem opf_listX (hc : X.calm = true) : OpF1 X (fun x H Q => rListA X [x] H Q ∨ rListStr [x] H Q) listF := by
 intro k P w env S σ H x dx c Q hk I rx e q
 unfold listF at e
 split at e
 · split at e
   · rename_i z hz
     cases e
     rw [show x = _ from rx]
     exact .inr ⟨z, rfl, hz, fun l hl => q l _ hl ⟨_, rfl, sgn_rep z⟩⟩
   · cases e
 · exact .inl (opf_list k P w env S σ H x _ c Q hk I rx e q)
end
end L2.MP
end
section
namespace L2.MP
open PySem PySem.Spec PyProof.Rows
section
variable {X : Cx} {k : Ky} {W : WX} {o e : Expr} {mo ma : M D} {apos pos : Pos}
def SmOk (X : Cx) (r : V → List V → Hp → VK → Prop) (f : Str → D → Option D) : Prop :=
 ∀ (k : Ky) (P : Hp) (w : Wd) (env : Envr) (S : Sto) (σ : L2.St) (H : Hp) (s : Str) (y : D) (v : V) (d : D) (Q : VK), k.K = X.K → RB k P w env S σ H → RepH k w H y v → f s y = some d →
   (∀ w' u H', Wd.Le w w' → RB k P w' env S σ H' → Rep k w' d u → Q u H') → r (.str s) [v] H Q
theorem de_sm0 {id : String} {name : Str} {r : V → List V → Hp → VK → Prop} {f : Str → Option D} (slot : PySem.Slot "str" name id) (ty : typeOf (.builtin id) = pure (.type "method_descriptor")) (rule : MtR X id r)
   (hf : ∀ s d H (Q : VK) v, f s = some d → (∀ k w, Rep k w d v) → Q v H → r (.str s) [] H Q) (hv : ∀ s d, f s = some d → ∃ v, ∀ k w, Rep k w d v)
   (ho : DO X k W o mo) (hbase : attributeBase o name X.env (eval o X.env) = eval o X.env) (hline : (apos.endLine == pos.line) = true) : DE X k W (.Call (.Attribute o name apos) [] [] pos) (dSm0 f mo) :=
 PE.sub (pe_m0 slot ty rule ho hbase hline) fun σ H Q ⟨P, w, env, S, I, h⟩ => thenO I h fun x w1 env1 S1 v H1 l1 I1 r1 h1 => by
   cases x <;> first | exact h1.elim | skip
   rename_i s
   cases (show v = .str s from r1)
   obtain ⟨d, e, h2⟩ := h1.opt
   obtain ⟨u, hu⟩ := hv s d e
   exact ⟨⟨s, rfl⟩, hf s d H1 Q u e hu (h2.ret u H1 I1 (hu _ _))⟩
theorem de_sm1 {id : String} {name : Str} {r : V → List V → Hp → VK → Prop} {f : Str → D → Option D} (hk : k.K = X.K) (slot : PySem.Slot "str" name id) (ty : typeOf (.builtin id) = pure (.type "method_descriptor")) (rule : MtR X id r) (hf : SmOk X r f)
   (ho : DO X k W o mo) (ha : DO X k W e ma) (hs : ∀ x p, e ≠ .Starred x p) (hbase : attributeBase o name X.env (eval o X.env) = eval o X.env) (hline : (apos.endLine == pos.line) = true) : DE X k W (.Call (.Attribute o name apos) [e] [] pos) (dSm1 f mo ma) :=
 PE.sub (pe_m1 slot ty rule ho ha (star1 e hs [] _) hbase hline) fun σ H Q ⟨P, w, env, S, I, h⟩ => thenO I h fun x w1 env1 S1 v H1 l1 I1 r1 h1 => by
   cases x <;> first | exact h1.elim | skip
   rename_i s
   cases (show v = .str s from r1)
   refine ⟨⟨s, rfl⟩, thenO I1 h1 fun y w2 env2 S2 u H2 l2 I2 r2 h2 => ?_⟩
   obtain ⟨d, e, h3⟩ := h2.getS.opt
   exact hf k P w2 env2 S2 σ H2 s _ u d Q hk I2 (I2.view r2) e fun w' u H' le J q => (h3.up le).ret u H' J q
theorem sm_join : SmOk X (fun x xs H Q => ∃ a p, ∃ ys : List Str, x = .str a ∧ xs = [.ref p] ∧ (SqL X.K H p (ys.map V.str) ∨ SqT X.K H p (ys.map V.str)) ∧ (ys.map (·.length)).sum + ys.length * a.length ≤ 16777216 ∧ Q (.str (Txt.join a ys)) H) joinD := by
 intro k P w env S σ H s y v d Q hk I r e q
 obtain ⟨l, e1, e⟩ := Option.bind_eq_some_iff.mp e
 obtain ⟨ys, e2, e⟩ := Option.bind_eq_some_iff.mp e
 split at e
 · cases e
   unfold seqJ at e1
   split at e1
   · rename_i e1'
     cases e1
     obtain ⟨a, vs, rfl, h, r⟩ := seqL_of I r (lstOf_ok e1')
     exact ⟨s, a, ys, rfl, rfl, .inl (strs_rep e2 r ▸ hk ▸ h), by assumption, q w _ H (.refl w) I rfl⟩
   · obtain ⟨a, vs, rfl, h, r⟩ := seqT_of I r (tupOf_ok e1)
     exact ⟨s, a, ys, rfl, rfl, .inr (strs_rep e2 r ▸ hk ▸ h), by assumption, q w _ H (.refl w) I rfl⟩
 · cases e
theorem sm_split : SmOk X (fun x xs H Q => ∃ a b, x = .str a ∧ xs = [.str b] ∧ (b.length == 0) = false ∧ a.length + 2 ≤ sizeLine ∧ rNewStrs (Txt.split a b) H Q) splitD := by
 intro k P w env S σ H s y v d Q hk I r e q
 unfold splitD at e
 split at e
 · rename_i b
   split at e
   · rename_i hb
     cases e
     cases (show v = .str b from r)
     refine ⟨s, b, rfl, rfl, hb.1, hb.2, fun p hp => ?_⟩
     exact q _ _ _ (I.le_grow (o := .lst ((Txt.split s b).map V.str)) hp) (I.grow hp) ⟨p, _, rfl, Wd.fz_at, reps_strs _⟩
   · cases e
 · cases e
theorem sm_part : SmOk X (fun x xs H Q => ∃ a b, x = .str a ∧ xs = [.str b] ∧ (b.length == 0) = false ∧ a.length ≤ sizeLine ∧
   ∀ p, H p = none → Q (.ref p) (upd H p (.tup [.str (Txt.partition a b).1, .str (Txt.partition a b).2.1, .str (Txt.partition a b).2.2]))) partD := by
 intro k P w env S σ H s y v d Q hk I r e q
 unfold partD at e
 split at e
 · rename_i b
   split at e
   · rename_i hb
     cases e
     cases (show v = .str b from r)
     refine ⟨s, b, rfl, rfl, hb.1, hb.2, fun p hp => ?_⟩
     exact q _ _ _ (I.le_grow (o := .tup _) hp) (I.grow hp) ⟨p, _, rfl, Wd.fz_at, ⟨_, _, rfl, rfl, _, _, rfl, rfl, _, _, rfl, rfl, rfl⟩⟩
   · cases e
 · cases e
theorem sm_str {g : Str → Str → V} {gd : Str → Str → D} (hg : ∀ k w a b, Rep k w (gd a b) (g a b)) : SmOk X (fun x xs H Q => ∃ a b, x = .str a ∧ xs = [.str b] ∧ Q (g a b) H) (fun s y => match y with
 | .str b => some (gd s b)
 | _ => none) := by
 intro k P w env S σ H s y v d Q hk I r e q
 dsimp only at e
 split at e
 · rename_i b
   cases e
   cases (show v = .str b from r)
   exact ⟨s, b, rfl, rfl, q w _ H (.refl w) I (hg k w s b)⟩
 · cases e
def tPr (k : Ky) (W : WX) (p : M D × M D) : TE × TE := (tE k W p.1, tE k W p.2)
theorem putK_nodup {κ : Type} [DecidableEq κ] {kvs : List (κ × V)} {q : κ} {v : V} (nd : (kvs.map (·.1)).Nodup) : ((putK kvs q v).map (·.1)).Nodup := by
 induction kvs with
 | nil => rw [putK_nil]; simp
 | cons a r ih =>
   obtain ⟨a, x⟩ := a
   rw [List.map_cons] at nd
   obtain ⟨n1, n2⟩ := List.nodup_cons.mp nd
   rw [putK_cons n1]
   split
   · rw [List.map_cons]; exact nd
   · rename_i hne
     rw [List.map_cons]
     refine List.nodup_cons.mpr ⟨fun hm => ?_, ih n2⟩
     obtain ⟨p, hp, e⟩ := List.mem_map.mp hm
     have : p.1 = q ∨ p.1 ∈ r.map (·.1) := by
       clear ih hm n1 n2 nd e hne
       unfold putK at hp
       split at hp
       · obtain ⟨z, hz, rfl⟩ := List.mem_map.mp hp
         split
         · exact .inl (by assumption)
         · exact .inr (List.mem_map.mpr ⟨z, hz, rfl⟩)
       · rcases List.mem_append.mp hp with hp | hp
         · exact .inr (List.mem_map.mpr ⟨p, hp, rfl⟩)
         · simp at hp; subst hp; exact .inl rfl
     have e : p.1 = a := e
     rcases this with h | h
     · exact hne (by rw [← e, h])
     · exact n1 (by rw [← e]; exact h)
theorem merge_rep {k : Ky} {w : Wd} : ∀ {l : List (Key × D)} {more : List (Key × V)} {kvs : List (Key × V)} {ds : List D}, more.map (·.1) = l.map (·.1) → Reps k w (l.map (·.2)) (more.map (·.2)) → (kvs.map (·.1)).Nodup → Reps k w ds (kvs.map (·.2)) →
   (L2.mergeK kvs more).map (·.1) = (mergeD (kvs.map (·.1)) ds l).1 ∧ Reps k w (mergeD (kvs.map (·.1)) ds l).2 ((L2.mergeK kvs more).map (·.2))
 | [], [], kvs, ds, _, _, _, r => ⟨rfl, r⟩
 | [], _ :: _, _, _, e, _, _, _ => by simp at e
 | _ :: _, [], _, _, e, _, _, _ => by simp at e
 | (q, d) :: l, (q', v) :: more, kvs, ds, e, r1, nd, r => by
   rw [List.map_cons, List.map_cons] at e
   obtain ⟨e1, e2⟩ := List.cons.inj e
   have e1 : q' = q := e1
   subst e1
   obtain ⟨v', t, e3, r2, r3⟩ := r1
   obtain ⟨e4, e5⟩ := List.cons.inj (show v :: more.map (·.2) = v' :: t from e3)
   subst e4
   have r3 : Reps k w (l.map (·.2)) (more.map (·.2)) := by rw [e5]; exact r3
   obtain ⟨p1, p2⟩ := putD_rep (q := q') r2 nd r
   have := merge_rep (kvs := putK kvs q' v) (ds := (putD q' d (kvs.map (·.1)) ds).2) e2 r3 (putK_nodup nd) p2
   rw [p1] at this
   exact this
theorem df_disp {ks : List (Option Expr)} {vs : List Expr} {ps : List (M D × M D)} (hp : PPs X pos ks vs (ps.map (tPr k W))) (hall : ks.all (·.isSome) = true) (hl : ks.length = vs.length) (h0 : ks ≠ []) (h15 : ks.length ≤ 15) : DF X k W (.Dict ks vs pos) (dDisp ps) :=
 PE.sub (pe_disp hp hall hl h0 h15) fun σ H Q ⟨P, w, env, S, I, h⟩ p hpn => by
   obtain ⟨I1, L⟩ := I.new (o := .dK []) hpn
   have Ip := I1.protect upd_same L
   have key : ∀ (ps : List (M D × M D)) (P' : Hp) (w1 : Wd) (env1 : Envr) (S1 : Sto) (H1 : Hp) (R : List (D × D) → Wd → Envr → Sto → Prop) (QQ : List (V × V) → Hp → Prop), RB k P' w1 env1 S1 σ H1 → Aft k W P' w1 (dPairs ps env1 S1) R →
       (∀ l w2 env2 S2 us H2, Wd.Le w1 w2 → RB k P' w2 env2 S2 σ H2 → Reps k w2 (l.map (·.1)) (us.map (·.1)) → Reps k w2 (l.map (·.2)) (us.map (·.2)) → R l w2 env2 S2 → QQ us H2) → tPairs (ps.map (tPr k W)) σ H1 QQ := by
     intro ps
     induction ps with
     | nil => intro P' w1 env1 S1 H1 R QQ J h1 nx; exact nx [] w1 env1 S1 [] H1 (.refl _) J rfl rfl h1.ret
     | cons a r ih =>
       obtain ⟨a, b⟩ := a
       intro P' w1 env1 S1 H1 R QQ J h1 nx
       refine thenE J h1 fun x w2 env2 S2 u H2 l2 I2 r2 h2 => thenE I2 h2 fun y w3 env3 S3 v H3 l3 I3 r3 h3 => ?_
       refine ih P' w3 env3 S3 H3 _ _ I3 h3.bind fun l w4 env4 S4 us H4 l4 I4 q1 q2 h4 => ?_
       exact nx ((x, y) :: l) w4 env4 S4 ((u, v) :: us) H4 (l2.trans (l3.trans l4)) I4 ⟨_, _, rfl, Rep.mono (l3.trans l4) x r2, q1⟩ ⟨_, _, rfl, Rep.mono l4 y r3, q2⟩ h4.ret
   have h' : Aft k W (upd P p (.dK [])) w (dPairs ps env S) (fun l w1 env1 S1 => Aft k W P w1 ((match keyPairs l with
     | some l => if l.length ≤ 15 then M.ret (.dk (mergeD [] [] l).1 (mergeD [] [] l).2) else M.fail
     | none => M.fail : M Cell) env1 S1) (rF k P σ Q)) := by
     exact Aft.prot h.bind L.p
   refine key ps _ w env S _ _ _ Ip h' fun l w1 env1 S1 us H1 l1 J q1 q2 h1 => ?_
   obtain ⟨J1, e1, L1⟩ := J.unprotect L.p
   refine ⟨e1, ?_⟩
   cases ek : keyPairs l with
   | none => rw [ek] at h1; exact h1.elim
   | some l' =>
     rw [ek] at h1
     obtain ⟨hz, h1⟩ := if_ok h1
     have kp : ∀ {l : List (D × D)} {l' : List (Key × D)} {us : List (V × V)}, keyPairs l = some l' → Reps k w1 (l.map (·.1)) (us.map (·.1)) → Reps k w1 (l.map (·.2)) (us.map (·.2)) → ∃ kvs : List (Key × V), us = kvs.map (fun kv => (kV kv.1, kv.2)) ∧ kvs.map (·.1) = l'.map (·.1) ∧ Reps k w1 (l'.map (·.2)) (kvs.map (·.2)) := by
       intro l
       induction l with
       | nil =>
         intro l' us e r1 r2
         cases e
         cases us with
         | nil => exact ⟨[], rfl, rfl, rfl⟩
         | cons _ _ => cases (show _ = [] from r1)
       | cons a r ih =>
         obtain ⟨a, b⟩ := a
         intro l' us e r1 r2
         unfold keyPairs at e
         split at e
         · rename_i q l2 eq el
           cases e
           cases us with
           | nil => obtain ⟨_, _, z, _⟩ := r1; cases z
           | cons u us =>
             obtain ⟨u1, u2⟩ := u
             obtain ⟨v1, t1, z1, p1, p2⟩ := r1
             obtain ⟨v2, t2, z2, p3, p4⟩ := r2
             cases z1; cases z2
             obtain ⟨kvs, i1, i2, i3⟩ := ih el p2 p4
             have : u1 = kV q := by
               cases a <;> simp only [keyOf] at eq <;> first | contradiction | (cases eq; exact p1)
             subst this
             exact ⟨(q, u2) :: kvs, by rw [i1]; rfl, by rw [List.map_cons, i2]; rfl, ⟨_, _, rfl, p3, i3⟩⟩
         · cases e
     obtain ⟨kvs, i1, i2, i3⟩ := kp ek q1 q2
     obtain ⟨m1, m2⟩ := merge_rep (kvs := []) (ds := []) i2 i3 (by simp) rfl
     refine ⟨kvs, i1, ?_, ?_⟩
     · have : kvs.length = l'.length := by simpa using congrArg List.length i2
       omega
     have I9 : RB k P w1 env1 S1 σ (upd H1 p (.dK (L2.mergeK [] kvs))) := by
       refine ⟨⟨fun b o e => (upd_ne (fun q => by subst q; rw [L1.f] at e; cases e)).trans (J1.rs.frz b o e), fun n c e => ?_, J1.rs.bound, J1.rs.inj, fun b o e => ?_⟩, J1.len, J1.val, fun j c e => ?_, J1.sep, J1.exn⟩
       · obtain ⟨a, o, y1, y2, y3, y4⟩ := J1.rs.live n c e
         exact ⟨a, o, y1, (upd_ne (fun q => L1.r n (by rw [← q]; exact y1))).trans y2, y3, y4⟩
       · obtain ⟨y1, y2, y3⟩ := J1.rs.prot b o e
         exact ⟨(upd_ne (fun q => by subst q; rw [L1.p] at e; cases e)).trans y1, y2, y3⟩
       · obtain ⟨a, o, y1, y2, y3⟩ := J1.own j c e
         exact ⟨a, o, y1, (upd_ne (fun q => L1.o j c e (by rw [← q]; exact y1))).trans y2, y3⟩
     exact h1.ret p _ _ I9 upd_same ⟨_, rfl, m1, m2⟩ L1
theorem pairsD_rep {k : Ky} {w : Wd} {H : Hp} (hF : ∀ a o, w.F a = some o → H a = some o) : ∀ {l : List D} {l' : List (Key × D)} {vs : List V}, pairsD l = some l' → Reps k w l vs → ∃ (ps : List Addr) (kvs : List (Key × V)), vs = ps.map V.ref ∧ kvs.map (·.1) = l'.map (·.1) ∧ Reps k w (l'.map (·.2)) (kvs.map (·.2)) ∧ Paired (fun p kv => SqT k.K H p [kV kv.1, kv.2]) ps kvs
 | [], l', vs, e, r => by
   cases e
   rw [show vs = [] from r]
   exact ⟨[], [], rfl, rfl, rfl, .nil⟩
 | x :: l, l', vs, e, r => by
   unfold pairsD at e
   split at e
   · rename_i hx; cases hx
   · rename_i a b r' hx
     injection hx with hx1 hx2
     subst hx1 hx2
     split at e
     · rename_i q l2 eq el
       cases e
       obtain ⟨v, t, rfl, r1, r2⟩ := r
       obtain ⟨ps, kvs, i1, i2, i3, i4⟩ := pairsD_rep hF el r2
       obtain ⟨p, us, rfl, hp, v1, t1, e1, p1, v2, t2, e2, p2, e3⟩ := r1
       subst e1 e2
       rw [show t2 = [] from e3] at hp
       have hv : v1 = kV q := by
         cases a <;> simp only [keyOf] at eq <;> first | contradiction | (cases eq; exact p1)
       subst hv
       exact ⟨p :: ps, (q, v2) :: kvs, by rw [i1]; rfl, by rw [List.map_cons, i2]; rfl, ⟨_, _, rfl, p2, i3⟩, .cons (SqT.of (hF _ _ hp)) i4⟩
     · cases e
   · cases e
theorem opf_dict : OpF1 X (fun x H Q => ∃ (a : Addr) (ps : List Addr) (kvs : List (Key × V)), [x] = [.ref a] ∧ SqL X.K H a (ps.map V.ref) ∧ Paired (fun p kv => SqT X.K H p [kV kv.1, kv.2]) ps kvs ∧ ∀ p, H p = none → Q (.ref p) (upd H p (.dK (L2.mergeK [] kvs)))) dictF := by
 intro k P w env S σ H x dx c Q hk I rx e q
 obtain ⟨l, e1, e⟩ := Option.bind_eq_some_iff.mp e
 obtain ⟨l', e2, rfl⟩ := Option.map_eq_some_iff.mp e
 obtain ⟨a, vs, rfl, h, r⟩ := seqL_of I rx (lstOf_ok e1)
 obtain ⟨ps, kvs, i1, i2, i3, i4⟩ := pairsD_rep I.rs.frz e2 r
 subst i1
 obtain ⟨m1, m2⟩ := merge_rep (kvs := []) (ds := []) i2 i3 (by simp) rfl
 exact ⟨a, ps, kvs, rfl, hk ▸ h, hk ▸ i4, fun p hp => q p _ hp ⟨_, rfl, m1, m2⟩⟩
end
end L2.MP
end
section
namespace L2.MP
open PySem PySem.Spec PyProof.Rows
section
variable {X : Cx} {k : Ky} {W : WX} {pos : Pos}
def spI (C : Addr) (f : Str) : Sp := fun vs H Q _ => ∃ a t y, vs = [.ref a, t, y] ∧ H a = some (exo a C none) ∧ ∀ dx, H dx = none → dx ≠ a → Q .non (upd (upd H dx (exd dx [(f, y)])) a (exo a C (some dx)))
theorem cx_no {P : Program} {w : World} {l : List Env} {H : Hp} {s : Shared} {e : Value} {s' : Shared} : L2.CX P w l H s (fun _ _ _ => False) e s' → False := fun h => by
 obtain ⟨_, _, _, _, _, _, _, _, _, _, _, _, z⟩ := h
 exact z
theorem pe_binit {C : Addr} {mc : Value} {x : Str} {p1 p2 : Pos} {e : Expr} {es : List Expr} {ta : TA} {pl : Sem Bool} (hg : Gl X x) (hm : X.mg x = some (.ref C)) (hdb : (x == ("__debug__" : Str)) = false) (r1 : PySem.W.readsIn X.K C mc = true) (r2 : PySem.W.specialIn X.K (.ref C) "__getattribute__" = some (some (.builtin "type.__getattribute__")))
   (vV : PySem.W.findCls X.K (.ref C) mc "__init__" = some (.val (.builtin "ValueError.__init__"))) (ha : PA X (e :: es) ta)
   (hc : eval (.Call (.Attribute (.Name x p1) "__init__" p2) (e :: es) [] pos) X.env = (do
     let ov ← eval (.Name x p1) X.env
     standAt p2.atName
     let (f, first) ← holding [ov] (getMethod ov "__init__" pl)
     callWith pos f first (backTo pos (starEach (e :: es) X.env)) (backToKw pos (keywordEach [] X.env))))
   (he : starEach (e :: es) X.env = (false, eval e X.env) :: starEach es X.env) (hpl : (backTo pos (starEach es X.env)).any (·.1) = false) :
   PE X (.Call (.Attribute (.Name x p1) "__init__" p2) (e :: es) [] pos) (tVeI X.K ta) := by
 refine ⟨fun pins s σ H Q I h => ?_⟩
 refine PySem.W.methodCall_KW (ld_glob I hg hm ?_ hdb) hc
 refine PySem.W.method_cls I.kIn r2 (PySem.W.cls_value I.kIn r1 vV (by decide +kernel) ?_)
 show wpAny _ _ (callWith pos (Value.builtin "ValueError.__init__") [] (backTo pos (starEach (e :: es) X.env)) []) _ _ _
 refine PyProof.Rows.callWith_method1 (thn (ha.run pos pins _ σ H _ (I.tok _) h) fun us s1 ⟨vs, H1, I1, r1, a, C, ws, ev, hl, T, ea, q⟩ => ?_) he hpl
 subst ev
 cases r1 with
 | @cons _ u0 _ ur ra rw' =>
   obtain rfl : u0 = Value.ref a := ra
   have hlen : ur.length ≤ sizeLine := by
     rw [← Paired.length rw', sizeLine_eq]
     omega
   exact oinit_ok T I1 ea hlen fun s' J => ⟨.non, H1, J, rfl, q⟩
end
end L2.MP
end
section
namespace L2.MP
open PySem PySem.Spec PyProof.Rows
section
open PySem.W PySem.Calls
variable {prog : Program} {w : World} {A : Around} {E : Value → Shared → Prop} {s : Shared} {K : Frag} {x D : Addr} {ox : Obj} {od : Option Obj}
theorem findX {C : Addr} {name : Str} {a g : Value} (hc : (clsIn K C).isSome = true) (ha : findIn K (.ref C) name = some (some a)) (hg : specialIn K a "__get__" = some (some g)) (ht : takesIn K a = some true) : findObj K C od name = some (.bind g a) := by
 cases od with
 | none => exact findObj_dataN hc ha hg ht
 | some o => exact findObj_data hc ha hg ht
theorem kin_classX {Q : Option Value → Shared → Prop} (hga : findIn K (.ref D) "__getattribute__" = some (some (.builtin "BaseException.__getattribute__"))) (hgt : findIn K (.ref D) "__getattr__" = some none) (hsub : subIn K (.ref D) (.type "BaseException") = some true)
   (hdct : hasDictIn K D = true) (ha : findIn K (.ref D) "__class__" = some (some (.builtin "object.__class__")))
   (hn : specialIn K (.builtin "object.__class__") "__get__" = some (some (.builtin "getset_descriptor.__get__"))) (htk : takesIn K (.builtin "object.__class__") = some true) (hm : mroIn K D (.type "object") = some true)
   (X : K.In s.heap) (I : PySem.W.InstAt s.heap x ox D od) (h : Q (some (.ref D)) { s with toks := s.toks + 1 }) : wpAny (model prog w) A (getAttr? (.ref x) "__class__") Q E s := by
 have hf : findObj K D od "__class__" = some (.bind (.builtin "getset_descriptor.__get__") (.builtin "object.__class__")) := findX (by obtain ⟨cd, hc, _⟩ := any_some hdct; rw [hc]; rfl) ha hn htk
 obtain ⟨hp, g, d, t, os⟩ := s
 have L0 := I.type (M := model prog w)
 have L1 := looks_findIn (M := model prog w) X hga
 have L2 := looks_findIn (M := model prog w) X hgt
 have L3 := looks_find (M := model prog w) X I hf
 have sub : Looks (model prog w) hp (isInstance (.ref x) (.type "BaseException")) true := L0.andThen (looks_subIn X hsub)
 have hx0 : (false && onTheHeap (Value.builtin "BaseException.__getattribute__")) = false := rfl
 have hx2 : (Value.builtin "BaseException.__getattribute__" == Value.builtin "object.__getattribute__") = false := by decide +kernel
 have hx1 : (onTheHeap (Value.ref D) && Value.builtin "BaseException.__getattribute__" == Value.builtin "object.__getattribute__") = false := by rw [hx2]; rfl
 unfold getAttr? getAttrBy? getAttrBy
 refine wpAny_bind (wpAny_mkText (wpAny_bind (wpAny_attempt (wpAny_holding (wpAny_bind (L0.at (wpAny_bind (L1.at ?_))))))))
 show wpAny _ _ (if (onTheHeap (Value.ref D) && Value.builtin "BaseException.__getattribute__" == Value.builtin "object.__getattribute__") = true then _ else _) _ _ _
 rw [hx1, if_neg Bool.false_ne_true]
 unfold getAttrByItsOwn hookBefore
 refine wpAny_bind ?_
 rw [if_pos (show onTheHeap (Value.ref D) = true from rfl)]
 refine L2.at ?_
 refine wpAny_bind (wpAny_attempt (wpAny_holding ?_))
 unfold callGetattribute
 rw [hx0, if_neg Bool.false_ne_true]
 unfold boundAndCalled
 rw [PySem.F.excAttr_ValueError.ga.bind (.ref x)]
 refine wpAny_bind (wpAny_pure ?_)
 show wpAny _ _ (call (.builtin "BaseException.__getattribute__") [.ref x, .str "__class__" t]) _ _ _
 refine wpAny_call (codeAny_call_builtin PySem.F.excAttr_ValueError.ga.plain PySem.F.entry_bexc_ga ?_)
 refine @check_slot (model prog w) _ _ ⟨hp, g, d, t + 1, os⟩ "BaseException.__getattribute__" "BaseException" "__getattribute__" (.ref x) [.str "__class__" t] [] _ (by decide +kernel) (by decide +kernel) sub (PySem.F.args_bexc_ga (.ref x) (.str "__class__" t)) ?_
 unfold Builtin.«object.__getattribute__»
 refine wpAny_bind (wpAny_of_eq (a := ((Value.ref x : Value), [Value.str "__class__" t])) (by first | rfl | (simp only [slotArgs]; rfl)) ?_)
 refine wpAny_bind (wpAny_pure (wpAny_bind (L0.at (wpAny_bind (L3.at ?_)))))
 show wpAny _ _ (holding [Value.builtin "object.__class__"] (call (.builtin "getset_descriptor.__get__") [.builtin "object.__class__", .ref x, .ref D]) >>= ret) _ _ _
 refine wpAny_bind (wpAny_holding (wpAny_call (class_get (s := ⟨hp, g, d, t + 1, os⟩) (ox := ox) (od := od) X I hm ?_)))
 refine wpAny_pure ?_
 show wpAny _ _ (handedOut (.ref D)) _ _ _
 rw [handedOut_of (v := .ref D) rfl]
 first
   | exact wpAny_pure (wpAny_pure h)
   | exact wpAny_pure h
   | exact wpAny_pure (wpAny_bind (wpAny_pure (wpAny_pure h)))
theorem kitX_exc (C : ExcC K D) : KitX K (.ref x) (.ref D) (fun h => PySem.W.InstAt h x ox D od) where
 ty := fun _ _ _ I => I.type
 it := fun _ _ X _ => by
   obtain ⟨cdD, hcD, _⟩ := any_some C.hd
   unfold clsIn at hcD
   split at hcD
   · rename_i c' d' cd' sl' ho
     intro A' Q' E' s' k q
     unfold isType loadHead
     exact wpAny_bind (wpAny_loadPart (k _ _ (X _ _ ho)) (wpAny_pure q))
   · cases hcD
 ne := fun h tp dd its n sl X htp => by
   obtain ⟨cdD, hcD, _⟩ := any_some C.hd
   refine Bool.eq_false_iff.mpr fun q => ?_
   have e : D = tp := Value.ref.inj (beq_iff_eq.mp q)
   subst e
   unfold clsIn at hcD
   split at hcD
   · rename_i c' d' cd' sl' ho
     have z := (X _ _ ho).symm.trans htp
     cases z
   · cases hcD
 ca := fun X I k => kin_classX C.hg C.hk C.hs C.hd C.ha C.hn C.ht C.hm X I k
end
def rIsX (K : PySem.W.Frag) (D a : Addr) (dx : Option Addr) : List V → Hp → VK → Prop := fun xs H Q => (∀ dd, dx = some dd → ∃ fs, H dd = some (.xd fs)) ∧
 ((∃ c cv b, xs = [.ref a, c] ∧ ClsV c cv ∧ PySem.W.kitOne K (.ref D) cv = some b ∧ Q (.bl b) H) ∨
   ∃ (tp : Addr) (cs : List V) (us : List Value) (b : Bool), xs = [.ref a, .ref tp] ∧ H tp = some (.tup cs) ∧ Paired ClsV cs us ∧ PySem.W.kitAny K (.ref D) us = some b ∧ Q (.bl b) H)
theorem call_isX {X : Cx} {a D : Addr} {oe : Obj} {dx : Option Addr} {pn : List (Addr × Obj)} (C : ExcC X.K D) (hz : Zc (.ref D) dx oe) (hf : ∃ vs, oe.data = .fields vs) : CallR (X.suite a ((a, oe) :: pn)) (.builtin "isinstance") (rIsX X.K D a dx) := by
 intro pins s σ H xs us Q I r ⟨hd, h⟩
 obtain ⟨hget, _⟩ := I.pin (a, oe) (List.mem_append.mpr (.inl List.mem_cons_self))
 obtain ⟨vs, hv⟩ := hf
 have J : ∃ od, PySem.W.InstAt s.heap a oe D od := by
   obtain ⟨oc, od, oda, osl⟩ := oe
   obtain ⟨h1, h2⟩ := hz
   dsimp only at h1 h2 hv
   subst h1 h2 hv
   cases od with
   | none => exact ⟨none, hget, rfl, rfl, trivial⟩
   | some dd =>
     obtain ⟨fs, e⟩ := hd dd rfl
     obtain ⟨o, e2⟩ := objOk_get (I.hok dd _ e)
     exact ⟨some o, hget, rfl, rfl, e2⟩
 obtain ⟨od, J⟩ := J
 have hx : Value.ref a ≠ .builtin "__main__.__loader__#opaque" := fun z => nomatch z
 rcases h with ⟨c, cv, b, rfl, k, e, q⟩ | ⟨tp, cs, ws, b, rfl, hT, k, e, q⟩
 · obtain ⟨u1, u2, rfl, r1, r2⟩ := vals2 r
   cases (show u1 = Value.ref a from r1)
   have e2 := k.eq r2
   subst e2
   exact PySem.W.kia_one (kitX_exc C) I.kIn J e hx fun tk => ⟨.bl b, H, I.tok tk, rfl, q⟩
 · obtain ⟨u1, u2, rfl, r1, r2⟩ := vals2 r
   cases (show u1 = Value.ref a from r1)
   cases (show u2 = Value.ref tp from r2)
   obtain ⟨_, its, rv, o, h1, h2, n, h3⟩ := (show ObjOk X.prog X.w H s.heap tp (.tup cs) from I.hok tp _ hT)
   have e3 := ClsV.all k rv
   subst e3
   obtain ⟨oc, od2, dt, sl⟩ := o
   simp only at h2 h3
   subst h2 h3
   exact PySem.W.kia_tup (kitX_exc C) I.kIn J h1 e hx fun tk => ⟨.bl b, H, I.tok tk, rfl, q⟩
def clsV (k : Kz) : Option Nat → V
 | none => .ty "ValueError"
 | some c => .ref (k.cl c)
def clsU (k : Kz) : Option Nat → Value
 | none => .type "ValueError"
 | some c => .ref (k.cl c)
theorem cls_vu (k : Kz) : ∀ c, ClsV (clsV k c) (clsU k c)
 | none => .ty _
 | some _ => .own _
structure XcOk (K : PySem.W.Frag) (k : Kz) (t : Xt) (fl : List Str) : Prop where
 is : ∀ x, (t.lookup x).isSome = true → ExcC K (k.cl x)
 xf : ∀ x, (t.lookup x).isSome = true → XfC K (k.cl x)
 fld : ∀ x, (t.lookup x).isSome = true → ∀ f ∈ fl, PySem.W.findIn K (.ref (k.cl x)) f = some none
 kit : ∀ x, (t.lookup x).isSome = true → ∀ c, knX t c = true → PySem.W.kitOne K (.ref (k.cl x)) (clsU k c) = some (subX t x c)
 exm : ∀ x, (t.lookup x).isSome = true → ∀ c, (t.lookup c).isSome = true → PySem.W.exmOne K (.ref (k.cl x)) (.ref (k.cl c)) = some (subX t x (some c))
theorem kit_anyX {K : PySem.W.Frag} {k : Kz} {t : Xt} {fl : List Str} (O : XcOk K k t fl) {x : Nat} (hx : (t.lookup x).isSome = true) : ∀ {cs : List (Option Nat)}, cs.all (knX t) = true → PySem.W.kitAny K (.ref (k.cl x)) (cs.map (clsU k)) = some (cs.any (subX t x))
 | [], _ => rfl
 | c :: cs, h => by
   rw [List.all_cons, Bool.and_eq_true] at h
   refine kitAny_cons (O.kit x hx c h.1) (fun hb => ?_) (fun hb => ?_)
   · rw [List.any_cons, hb, Bool.false_or]
     exact kit_anyX O hx h.2
   · rw [List.any_cons, hb]; rfl
def SuX (X : Cx) (k : Ky) : Prop := ∀ i a cls dx, k.xn = some (i, a, cls, dx) → ∃ Y oe pn, X = Cx.suite Y a ((a, oe) :: pn) ∧ Zc cls dx oe ∧ ∃ vs, oe.data = .fields vs
def XcE (X : Cx) (k : Kz) : List Expr → List (Option Nat) → Prop
 | [], [] => True
 | e :: es, c :: cs => (PE X e (tC (clsV k c)) ∧ ∀ x p, e ≠ .Starred x p) ∧ XcE X k es cs
 | _, _ => False
theorem pa_xc {X : Cx} {k : Kz} : ∀ {es : List Expr} {cs : List (Option Nat)}, XcE X k es cs → PA X es (fun σ H Q => Q (cs.map (clsV k)) H)
 | [], [], _ => pa_nil
 | e :: es, c :: cs, ⟨⟨h1, h2⟩, h⟩ => pa_cons h1 (pa_xc h) (star1 _ h2 _ _)
 | [], _ :: _, h => h.elim
 | _ :: _, [], h => h.elim
theorem xc_paired (k : Kz) : ∀ cs : List (Option Nat), Paired ClsV (cs.map (clsV k)) (cs.map (clsU k))
 | [] => .nil
 | c :: cs => .cons (cls_vu k c) (xc_paired k cs)
section
variable {X : Cx} {k : Ky} {W : WX} {pos : Pos} {t : Xt} {fl : List Str}
theorem exn_at {P : Hp} {w : Wd} {env : Envr} {S : Sto} {σ : L2.St} {H : Hp} {i : Nat} {x : Exn} (hk : k.K = X.K) (su : SuX X k) (I : RB k P w env S σ H) (e : env[i]? = some (.exn x)) :
   ∃ a dx Y oe pn, X = Cx.suite Y a ((a, oe) :: pn) ∧ Zc (.ref (k.cl x.cls)) dx oe ∧ (∃ vs, oe.data = .fields vs) ∧ σ[i]? = some (some (.ref a)) ∧ RepX k w x (.ref (k.cl x.cls)) dx ∧ ∀ dd, dx = some dd → ∃ fs, H dd = some (.xd fs) := by
 obtain ⟨a, cls, dx, e1, e2, r⟩ := I.exn i x e
 obtain ⟨Y, oe, pn, hX, hz, hf⟩ := su i a cls dx e1
 obtain rfl := r.1
 refine ⟨a, dx, Y, oe, pn, hX, hz, hf, e2, r, fun dd ed => ?_⟩
 rcases r.2 with ⟨_, q⟩ | ⟨_, d, fs, q, f, _⟩
 · rw [q] at ed; cases ed
 · rw [q] at ed; cases ed
   exact ⟨fs, I.rs.frz _ _ f⟩
theorem de_isX1 {i : Nat} {x y : Str} {p p1 : Pos} {e : Expr} {c : Option Nat} (hk : k.K = X.K) (O : XcOk X.K k t fl) (su : SuX X k) (hN : X.N[i]? = some y) (hv : Vis X.env.scope y) (hd : (y == ("__debug__" : Str)) = false) (hcd : (y == ("__classdict__" : Str)) = false)
   (hx : x = "isinstance") (hg : Gl X x) (hm : X.mg x = none) (he : PE X e (tC (clsV k c))) (hs : ∀ x p, e ≠ .Starred x p) : DE X k W (.Call (.Name x p) [.Name y p1, e] [] pos) (dIsX t i [c]) := by
 subst hx
 refine ⟨fun pins s σ H Q I0 ⟨P, w, env, S, I, h⟩ => ?_⟩
 unfold dIsX at h
 split at h
 · rename_i xx ex
   split at h
   · rename_i hc
     rw [Bool.and_eq_true] at hc
     obtain ⟨a, dx, Y, oe, pn, hX, hz, hf, es, r, hdd⟩ := exn_at hk su I ex
     subst hX
     refine (pe_blt (c := .f "isinstance") (call_isX (O.is _ hc.1) hz hf) hg hm (by decide +kernel) (pa_cons (pe_var hN hv hd hcd) (pa_one he hs) (star1 _ (fun _ _ z => by cases z) _ _)) (by decide +kernel) (by decide +kernel) fun q hq => by simp at hq; rcases hq with rfl | rfl; (intro x p z; cases z); exact hs).run pins s σ H Q I0 ?_
     refine ⟨.ref a, es, hdd, .inl ⟨_, _, subX t xx.cls c, rfl, cls_vu k c, O.kit _ hc.1 c (by simpa using hc.2), ?_⟩⟩
     rw [show [c].any (subX t xx.cls) = subX t xx.cls c by simp] at h
     exact h.ok _ H I rfl
   · exact h.elim
 · exact h.elim
theorem de_isXT {i kk : Nat} {x y : Str} {p p1 p2 : Pos} {es : List Expr} {cs : List (Option Nat)} (hk : k.K = X.K) (O : XcOk X.K k t fl) (su : SuX X k) (hN : X.N[i]? = some y) (hv : Vis X.env.scope y) (hd : (y == ("__debug__" : Str)) = false) (hcd : (y == ("__classdict__" : Str)) = false)
   (hx : x = "isinstance") (hg : Gl X x) (hm : X.mg x = none) (he : XcE X k es cs) (hz : cs.length ≤ sizeLine) : DE X k W (.Call (.Name x p) [.Name y p1, .Tuple es kk p2] [] pos) (dIsX t i cs) := by
 subst hx
 refine ⟨fun pins s σ H Q I0 ⟨P, w, env, S, I, h⟩ => ?_⟩
 unfold dIsX at h
 split at h
 · rename_i xx ex
   split at h
   · rename_i hc
     rw [Bool.and_eq_true] at hc
     obtain ⟨a, dx, Y, oe, pn, hX, hzz, hf, es', r, hdd⟩ := exn_at hk su I ex
     subst hX
     refine (pe_blt (c := .f "isinstance") (call_isX (O.is _ hc.1) hzz hf) hg hm (by decide +kernel) (pa_cons (pe_var hN hv hd hcd) (pa_one (pe_tup (pa_xc he)) (fun _ _ z => by cases z)) (star1 _ (fun _ _ z => by cases z) _ _)) (by decide +kernel) (by decide +kernel) fun q hq => by simp at hq; rcases hq with rfl | rfl <;> (intro x p z; cases z)).run pins s σ H Q I0 ?_
     refine ⟨.ref a, es', by rw [List.length_map]; exact hz, fun q hq => ?_⟩
     have J := I.at (keep_new (o := .tup (cs.map (clsV k))) hq)
     exact ⟨fun dd ed => let ⟨fs, e⟩ := hdd dd ed; ⟨fs, (keep_new hq) _ _ e⟩, .inr ⟨q, _, _, _, rfl, upd_same, xc_paired k cs, kit_anyX O hc.1 hc.2, h.ok _ _ J rfl⟩⟩
   · exact h.elim
 · exact h.elim
theorem de_xf {i : Nat} {y f : Str} {p1 : Pos} (hk : k.K = X.K) (O : XcOk X.K k t fl) (su : SuX X k) (hN : X.N[i]? = some y) (hv : Vis X.env.scope y) (hd : (y == ("__debug__" : Str)) = false) (hcd : (y == ("__classdict__" : Str)) = false) :
   DE X k W (.Attribute (.Name y p1) f pos) (dXf t fl i f) := by
 refine ⟨fun pins s σ H Q I0 ⟨P, w, env, S, I, h⟩ => ?_⟩
 unfold dXf at h
 split at h
 · rename_i xx ex
   split at h
   · rename_i hc
     rw [Bool.and_eq_true] at hc
     split at h
     · rename_i d el
       obtain ⟨a, dx, Y, oe, pn, hX, hz, hf, es', r, hdd⟩ := exn_at hk su I ex
       subst hX
       refine (pe_xf (O.xf _ hc.1) (O.fld _ hc.1 f (by simpa using hc.2)) hz hf (pe_var hN hv hd hcd) rfl).run pins s σ H Q I0 ?_
       rcases r.2 with ⟨q, _⟩ | ⟨_, dd, fs, q, ff, z, rr⟩
       · rw [q] at el; cases el
       · obtain ⟨v, e5, r5⟩ := (lookF_rep z rr).2 d el
         exact ⟨.ref a, es', rfl, rfl, dd, fs, v, q, I.rs.frz _ _ ff, (lookF_eq f fs).trans e5, h.ok v H I r5⟩
     · exact h.elim
   · exact h.elim
 · exact h.elim
end
end L2.MP
end
section
namespace L2.MP
open PySem PySem.Spec PyProof.Rows
def Ky.at (k : Ky) (i : Nat) (a : Addr) (cls : Value) (d : Option Addr) : Ky := ⟨k.toKz, some (i, a, cls, d)⟩
section
variable {k : Ky} {P : Hp} {w : Wd} {env : Envr} {S : Sto} {σ : L2.St} {H : Hp} {i : Nat} {a : Addr} {cls : Value} {dx : Option Addr} {x : Exn}
theorem RB.setExn (h : RB k P w env S σ H) (h0 : k.xn = none) (r : RepX k w x cls dx) : RB (k.at i a cls dx) P w (env.set i (.exn x)) S (σ.set i (some (.ref a))) H where
 rs := h.rs
 len := by simpa using h.len
 val := fun j d' e => by
   rcases get_set e with ⟨rfl, e2, hl⟩ | ⟨hj, e⟩
   · cases e2
   · obtain ⟨v', e1, r'⟩ := h.val j d' e
     exact ⟨v', by rw [List.getElem?_set_ne (Ne.symm hj)]; exact e1, r'⟩
 own := fun j c e => by
   rcases get_set e with ⟨rfl, e2, hl⟩ | ⟨hj, e⟩
   · cases e2
   · obtain ⟨a, o, e1, e2⟩ := h.own j c e
     exact ⟨a, o, by rw [List.getElem?_set_ne (Ne.symm hj)]; exact e1, e2⟩
 sep := fun i' j c c' a e1 e2 e3 e4 => by
   rcases get_set e1 with ⟨rfl, z, hl⟩ | ⟨hi, e1⟩
   · cases z
   · rcases get_set e2 with ⟨rfl, z, hl⟩ | ⟨hj, e2⟩
     · cases z
     · rw [List.getElem?_set_ne (Ne.symm hi)] at e3
       rw [List.getElem?_set_ne (Ne.symm hj)] at e4
       exact h.sep i' j c c' a e1 e2 e3 e4
 exn := fun j y e => by
   rcases get_set e with ⟨rfl, e2, hl⟩ | ⟨hj, e⟩
   · cases e2
     exact ⟨a, cls, dx, rfl, List.getElem?_set_self (by rw [h.len]; exact hl), r⟩
   · obtain ⟨_, _, _, z, _⟩ := h.exn j y e
     rw [h0] at z; cases z
theorem RB.unExn (h : RB (k.at i a cls dx) P w env S σ H) : RB k P w (env.set i .no) S (σ.set i none) H where
 rs := h.rs
 len := by simpa using h.len
 val := fun j d' e => by
   rcases get_set e with ⟨rfl, e2, hl⟩ | ⟨hj, e⟩
   · cases e2
   · obtain ⟨v', e1, r'⟩ := h.val j d' e
     exact ⟨v', by rw [List.getElem?_set_ne (Ne.symm hj)]; exact e1, r'⟩
 own := fun j c e => by
   rcases get_set e with ⟨rfl, e2, hl⟩ | ⟨hj, e⟩
   · cases e2
   · obtain ⟨a, o, e1, e2⟩ := h.own j c e
     exact ⟨a, o, by rw [List.getElem?_set_ne (Ne.symm hj)]; exact e1, e2⟩
 sep := fun i' j c c' a e1 e2 e3 e4 => by
   rcases get_set e1 with ⟨rfl, z, hl⟩ | ⟨hi, e1⟩
   · cases z
   · rcases get_set e2 with ⟨rfl, z, hl⟩ | ⟨hj, e2⟩
     · cases z
     · rw [List.getElem?_set_ne (Ne.symm hi)] at e3
       rw [List.getElem?_set_ne (Ne.symm hj)] at e4
       exact h.sep i' j c c' a e1 e2 e3 e4
 exn := fun j y e => by
   rcases get_set e with ⟨rfl, e2, hl⟩ | ⟨hj, e⟩
   · cases e2
   · obtain ⟨_, _, _, z, _⟩ := h.exn j y e
     cases z
     exact absurd rfl hj
end
section
variable {X : Cx} {k : Ky} {W : WX} {pos : Pos} {t : Xt} {fl : List Str} {body suite : List Stmt} {b₀ : Stmt} {b s : M Flo} {c : Nat} {x : Str} {np pos' : Pos}
theorem ds_tryN (hs : X.stack = X.env :: X.outer) (hf : X.env.frame = some X.env.locals) (hc : Names X x (.ref (k.cl c))) (O : XcOk X.K k t fl) (tk : Takes X W)
   (hb : ∀ (W : WX) (pn : List (Addr × Obj)) (xe : Value → Shared → Prop), Takes (X.tr pn xe) W → PassesOwn (model X.prog X.w) X.A X.env xe → DSs (X.tr pn xe) k W body b)
   (hsu : ∀ (a : Addr) (oe : Obj) (cls : Value) (d : Option Addr) (pn : List (Addr × Obj)), Zc cls d oe → (∃ vs, oe.data = .fields vs) → DSs (X.suite a ((a, oe) :: pn)) k W0 (b₀ :: suite) s) :
   DS X k W (.Try body [.ExceptHandler (some (.Name x np)) none (b₀ :: suite) pos'] [] [] pos) (dTryN t c b s) := by
 refine PS.sub (ps_try_only (tb := fun W => tS k W b) (ts := fun _ _ _ => tS k W0 s) hs hf hc tk hb hsu) fun D σ H ⟨P, w, env, S, I, h⟩ => ⟨P, w, env, S, I, ?_⟩
 unfold dTryN at h
 cases eb : b env S with
 | ok f env1 S1 => rw [eb] at h; exact h
 | bad => rw [eb] at h; exact h
 | exc xx env1 S1 =>
   rw [eb] at h
   dsimp only at h
   split at h
   · rename_i hx
     rw [Bool.and_eq_true] at hx
     intro w1 σ1 H1 cls dx l1 I1 r1
     refine ⟨_, by rw [r1.1]; exact O.exm _ hx.1 _ hx.2, fun hb a na => ?_, fun hb => ?_⟩
     · rw [if_pos hb] at h
       refine ⟨P, w1, env1, S1, I1, ?_⟩
       unfold noX at h
       cases es : s env1 S1 with
       | ok f env2 S2 => rw [es] at h; exact fun w2 l2 => h w2 (l1.trans l2)
       | exc _ _ _ => rw [es] at h; exact h.elim
       | bad => rw [es] at h; exact h.elim
     · rw [if_neg (by rw [hb]; exact Bool.false_ne_true)] at h
       exact h w1 σ1 H1 cls dx l1 I1 r1
   · exact h.elim
theorem ds_tryE {i : Nat} {n : Str} (hs : X.stack = X.env :: X.outer) (hf : X.env.frame = some X.env.locals) (hN : X.N.Nodup) (hi : X.N[i]? = some n) (hln : X.env.kindOf n = some .local) (h0 : k.xn = none) (hc : Names X x (.ref (k.cl c))) (O : XcOk X.K k t fl) (tk : Takes X W)
   (hb : ∀ (W : WX) (pn : List (Addr × Obj)) (xe : Value → Shared → Prop), Takes (X.tr pn xe) W → PassesOwn (model X.prog X.w) X.A X.env xe → DSs (X.tr pn xe) k W body b)
   (hsu : ∀ (a : Addr) (oe : Obj) (cls : Value) (d : Option Addr) (pn : List (Addr × Obj)), Zc cls d oe → (∃ vs, oe.data = .fields vs) → DSs (X.suite a ((a, oe) :: pn)) (k.at i a cls d) W0 (b₀ :: suite) s) :
   DS X k W (.Try body [.ExceptHandler (some (.Name x np)) (some n) (b₀ :: suite) pos'] [] [] pos) (dTryE t c i b s) := by
 refine PS.sub (ps_try_as (tb := fun W => tS k W b) (ts := fun a cls d => tS (k.at i a cls d) W0 s) hs hf hN hi hln hc tk hb hsu) fun D σ H ⟨P, w, env, S, I, h⟩ => ⟨P, w, env, S, I, ?_⟩
 unfold dTryE at h
 cases eb : b env S with
 | ok f env1 S1 => rw [eb] at h; exact h
 | bad => rw [eb] at h; exact h
 | exc xx env1 S1 =>
   rw [eb] at h
   dsimp only at h
   split at h
   · rename_i hx
     rw [Bool.and_eq_true] at hx
     intro w1 σ1 H1 cls dx l1 I1 r1
     refine ⟨_, by rw [r1.1]; exact O.exm _ hx.1 _ hx.2, fun hb a na => ?_, fun hb => ?_⟩
     · rw [if_pos hb] at h
       refine ⟨P, w1, _, S1, I1.setExn h0 r1, ?_⟩
       cases es : s (env1.set i (.exn xx)) S1 with
       | ok f env2 S2 =>
         rw [es] at h
         intro w2 l2
         have h2 := h w2 (l1.trans l2)
         cases f with
         | nx => exact fun σ2 H2 I2 => h2 _ _ I2.unExn
         | bk => exact fun σ2 H2 I2 => h2 _ _ I2.unExn
         | ct => exact fun σ2 H2 I2 => h2 _ _ I2.unExn
         | rt d => exact fun v σ2 H2 I2 r2 => h2 v _ _ I2.unExn r2
       | exc _ _ _ => rw [es] at h; exact h.elim
       | bad => rw [es] at h; exact h.elim
     · rw [if_neg (by rw [hb]; exact Bool.false_ne_true)] at h
       exact h w1 σ1 H1 cls dx l1 I1 r1
   · exact h.elim
end
end L2.MP
end
section
namespace L2.MP
open PySem PySem.Spec PyProof.Rows
theorem allAlikeB_ok {ds : List PyData} (h : allAlikeB ds = true) : PySem.W.AllAlike ds := fun d hd e he => List.all_eq_true.mp (List.all_eq_true.mp h d hd) e he
theorem sortableB_ok {ds : List PyData} (h : sortableB ds = true) : PySem.W.Sortable ds := by
 unfold sortableB at h
 rw [Bool.or_eq_true] at h
 rcases h with h | h
 · refine .inl fun d hd => ?_
   have := List.all_eq_true.mp h d hd
   cases d <;> simp only [isTupP] at this <;> try contradiction
   rename_i xs
   cases xs with
   | nil => cases this
   | cons x r => exact ⟨x, r, rfl⟩
 · refine .inr fun d hd => ?_
   have := List.all_eq_true.mp h d hd
   cases d <;> simp only [isOthP] at this <;> try contradiction
   all_goals exact ⟨fun z => (by cases z), fun xs z => (by cases z)⟩
def rSortD (K : PySem.W.Frag) : List V → Hp → VK → Prop := fun xs H Q => ∃ (a : Addr) (ps : List (V × PyData)), xs = [.ref a] ∧ SqL K H a (ps.map (·.1)) ∧ (∀ p ∈ ps, Dp K H p.1 p.2) ∧ PySem.W.AllAlike (ps.map (·.2)) ∧ PySem.W.Sortable (ps.map (·.2)) ∧ (∀ p ∈ ps, p.2.depth ≤ 60) ∧
 ∀ p, H p = none → Q (.ref p) (upd H p (.lst ((ps.mergeSort fun a b => leP a.2 b.2).map (·.1))))
section
variable {X : Cx}
theorem each_vals {s : Shared} {pins : List (Addr × Obj)} {σ : L2.St} {H : Hp} (I : Inv X pins σ H s) : ∀ {ps : List (V × PyData)} {us : List Value}, (∀ p ∈ ps, Dp X.K H p.1 p.2) → Vals (ps.map (·.1)) us →
   PySem.W.EachIs (fun (v : Value) (b : V × PyData) => RelV b.1 v) us ps ∧ PySem.W.EachIs (fun (v : Value) (b : V × PyData) => ∃ as, Reads s.heap v b.2 as) us ps
 | [], us, _, r => by cases r; exact ⟨.nil, .nil⟩
 | p :: ps, us, h, r => by
   rw [List.map_cons] at r
   cases r with
   | cons r1 r2 =>
     obtain ⟨e1, e2⟩ := each_vals I (fun q hq => h q (List.mem_cons_of_mem _ hq)) r2
     exact ⟨.cons r1 e1, .cons (Dp.reads I _ _ _ (h p List.mem_cons_self) r1) e2⟩
theorem vals_each : ∀ {ps : List (V × PyData)} {us : List Value}, PySem.W.EachIs (fun (v : Value) (b : V × PyData) => RelV b.1 v) us ps → Vals (ps.map (·.1)) us
 | _, _, .nil => .nil
 | _, _, .cons h t => .cons h (vals_each t)
theorem cr_sortD0 (hu : X.A.units + 65 < cLine) : CallR X (.builtin "sorted") (rSortD X.K) := by
 intro pins s σ H xs us Q I r h
 obtain ⟨a, ps, rfl, hq, hd, hal, hk, hdp, q⟩ := h
 obtain ⟨u, rfl, ru⟩ := vals1 r
 cases ru
 obtain ⟨its, rv, pl, hz⟩ := I.list hq
 obtain ⟨e1, e2⟩ := each_vals I hd rv
 rw [List.length_map] at hz
 refine PySem.W.sorted_data (bs := ps) (enc := (·.2)) (R := fun v b => RelV b.1 v) pl.isList e1 e2 hal hk hz (fun b hb => by have := hdp b hb; omega) fun out hl he => ?_
 have hv := vals_each he
 obtain ⟨c, hat⟩ := sortedAll_at s.heap its out.toArray
 exact told_lst I (fun b o e => sortedAll_old e) rfl rfl (Nat.le_succ _) hat hv (by rw [List.length_map, List.length_mergeSort]; exact hz) fun hn => q _ hn
def rSortT (K : PySem.W.Frag) : List V → Hp → VK → Prop := fun xs H Q => ∃ (a : Addr) (ps : List (V × PyData)), xs = [.ref a] ∧ SqT K H a (ps.map (·.1)) ∧ (∀ p ∈ ps, Dp K H p.1 p.2) ∧ PySem.W.AllAlike (ps.map (·.2)) ∧ PySem.W.Sortable (ps.map (·.2)) ∧ (∀ p ∈ ps, p.2.depth ≤ 60) ∧
 ∀ p, H p = none → Q (.ref p) (upd H p (.lst ((ps.mergeSort fun a b => leP a.2 b.2).map (·.1))))
theorem cr_sortT (hu : X.A.units + 65 < cLine) : CallR X (.builtin "sorted") (rSortT X.K) := by
 intro pins s σ H xs us Q I r h
 obtain ⟨a, ps, rfl, hq, hd, hal, hk, hdp, q⟩ := h
 obtain ⟨u, rfl, ru⟩ := vals1 r
 cases ru
 obtain ⟨its, rv, ⟨o, ho, hc, n, hod⟩, hz⟩ := I.tuple hq
 obtain ⟨e1, e2⟩ := each_vals I hd rv
 rw [List.length_map] at hz
 refine PySem.W.sorted_tup (bs := ps) (enc := (·.2)) (R := fun v b => RelV b.1 v) ho hc hod e1 e2 hal hk hz (fun b hb => by have := hdp b hb; omega) fun h' hk' out h2 hl he hk2 hat => ?_
 have hv := vals_each he
 obtain ⟨c, hat⟩ := hat
 exact told_lst (s' := { s with heap := h2 }) (I.kept (t' := s.toks) hk') hk2 rfl rfl (Nat.le_refl _) hat hv (by rw [List.length_map, List.length_mergeSort]; exact hz) fun hn => q _ hn
theorem cr_sortD (hu : X.A.units + 65 < cLine) : CallR X (.builtin "sorted") (fun xs H Q => rSortD X.K xs H Q ∨ rSortT X.K xs H Q) := (cr_sortD0 hu).or (cr_sortT hu)
theorem okDs_mem {n : Nat} : ∀ {l : List D}, okDs n l = true → ∀ x ∈ l, okD n x = true
 | [], _, x, h => nomatch h
 | y :: ys, h, x, hx => by
   unfold okDs at h
   rw [Bool.and_eq_true] at h
   rcases List.mem_cons.mp hx with rfl | hx
   · exact h.1
   · exact okDs_mem h.2 x hx
theorem reps_zip {k : Ky} {w : Wd} : ∀ {l : List D} {vs : List V}, Reps k w l vs → (vs.zip l).map (·.1) = vs ∧ (vs.zip l).map (·.2) = l ∧ ∀ z ∈ vs.zip l, Rep k w z.2 z.1
 | [], vs, r => by rw [show vs = [] from r]; exact ⟨rfl, rfl, fun _ h => nomatch h⟩
 | d :: l, vs, r => by
   obtain ⟨v, t, rfl, r1, r2⟩ := r
   obtain ⟨h1, h2, h3⟩ := reps_zip r2
   refine ⟨by rw [List.zip_cons_cons, List.map_cons, h1], by rw [List.zip_cons_cons, List.map_cons, h2], fun z hz => ?_⟩
   rcases List.mem_cons.mp hz with rfl | hz
   · exact r1
   · exact h3 z hz
theorem zip_reps {k : Ky} {w : Wd} : ∀ {zs : List (V × D)}, (∀ z ∈ zs, Rep k w z.2 z.1) → Reps k w (zs.map (·.2)) (zs.map (·.1))
 | [], _ => rfl
 | z :: zs, h => ⟨_, _, rfl, h z List.mem_cons_self, zip_reps fun y hy => h y (List.mem_cons_of_mem _ hy)⟩
theorem opf_sortD : OpF1 X (fun x H Q => rSortD X.K [x] H Q) sortedDF := by
 intro k P w env S σ H x dx c Q hk I rx e q
 obtain ⟨l, e1, e⟩ := Option.bind_eq_some_iff.mp e
 split at e
 · rename_i hc
   cases e
   rw [Bool.and_eq_true, Bool.and_eq_true] at hc
   obtain ⟨ho, ha, hs⟩ := hc
   obtain ⟨a, vs, rfl, h, r⟩ := seqL_of I rx (lstOf_ok e1)
   obtain ⟨z1, z2, z3⟩ := reps_zip r
   have hm : ∀ z ∈ vs.zip l, z.2 ∈ l := fun z hz => by rw [← z2]; exact List.mem_map_of_mem hz
   let zs := vs.zip l
   let f : V × D → V × PyData := fun z => (z.1, toPy z.2)
   have p1 : (zs.map f).map (·.1) = vs := by rw [List.map_map]; exact z1
   have p2 : (zs.map f).map (·.2) = l.map toPy := by rw [List.map_map, ← z2, List.map_map]; rfl
   have srt : ((zs.map f).mergeSort fun a b => leP a.2 b.2) = (zs.mergeSort fun a b => leP (toPy a.2) (toPy b.2)).map f := (List.map_mergeSort (f := f) (fun a _ b _ => rfl)).symm
   have srt2 : sortD l = (zs.mergeSort fun a b => leP (toPy a.2) (toPy b.2)).map (·.2) := by
     have : zs.map (·.2) = l := z2
     unfold sortD
     rw [← this]
     exact (List.map_mergeSort (f := fun z : V × D => z.2) (fun a _ b _ => rfl)).symm
   refine ⟨a, zs.map f, rfl, by rw [p1]; exact hk ▸ h, fun p hp => ?_, by rw [p2]; exact allAlikeB_ok ha, by rw [p2]; exact sortableB_ok hs, fun p hp => ?_, fun p hp => ?_⟩
   · obtain ⟨z, hz, rfl⟩ := List.mem_map.mp hp
     exact dp_mono I.rs.frz _ (hk ▸ dp_rep 60 z.2 (okDs_mem ho _ (hm z hz)) (z3 z hz))
   · obtain ⟨z, hz, rfl⟩ := List.mem_map.mp hp
     exact (toPy_ok 60 z.2 (okDs_mem ho _ (hm z hz))).2
   · rw [srt, List.map_map]
     refine q p _ hp ⟨_, rfl, ?_⟩
     rw [srt2]
     exact zip_reps fun z hz => z3 z (List.mem_mergeSort.mp hz)
 · cases e
theorem opf_sortDT : OpF1 X (fun x H Q => rSortT X.K [x] H Q) sortedDT := by
 intro k P w env S σ H x dx c Q hk I rx e q
 obtain ⟨l, e1, e⟩ := Option.bind_eq_some_iff.mp e
 split at e
 · rename_i hc
   cases e
   rw [Bool.and_eq_true, Bool.and_eq_true] at hc
   obtain ⟨ho, ha, hs⟩ := hc
   obtain ⟨a, vs, rfl, h, r⟩ := seqT_of I rx (tupOf_ok e1)
   obtain ⟨z1, z2, z3⟩ := reps_zip r
   have hm : ∀ z ∈ vs.zip l, z.2 ∈ l := fun z hz => by rw [← z2]; exact List.mem_map_of_mem hz
   let zs := vs.zip l
   let f : V × D → V × PyData := fun z => (z.1, toPy z.2)
   have p1 : (zs.map f).map (·.1) = vs := by rw [List.map_map]; exact z1
   have p2 : (zs.map f).map (·.2) = l.map toPy := by rw [List.map_map, ← z2, List.map_map]; rfl
   have srt : ((zs.map f).mergeSort fun a b => leP a.2 b.2) = (zs.mergeSort fun a b => leP (toPy a.2) (toPy b.2)).map f := (List.map_mergeSort (f := f) (fun a _ b _ => rfl)).symm
   have srt2 : sortD l = (zs.mergeSort fun a b => leP (toPy a.2) (toPy b.2)).map (·.2) := by
     have : zs.map (·.2) = l := z2
     unfold sortD
     rw [← this]
     exact (List.map_mergeSort (f := fun z : V × D => z.2) (fun a _ b _ => rfl)).symm
   refine ⟨a, zs.map f, rfl, by rw [p1]; exact hk ▸ h, fun p hp => ?_, by rw [p2]; exact allAlikeB_ok ha, by rw [p2]; exact sortableB_ok hs, fun p hp => ?_, fun p hp => ?_⟩
   · obtain ⟨z, hz, rfl⟩ := List.mem_map.mp hp
     exact dp_mono I.rs.frz _ (hk ▸ dp_rep 60 z.2 (okDs_mem ho _ (hm z hz)) (z3 z hz))
   · obtain ⟨z, hz, rfl⟩ := List.mem_map.mp hp
     exact (toPy_ok 60 z.2 (okDs_mem ho _ (hm z hz))).2
   · rw [srt, List.map_map]
     refine q p _ hp ⟨_, rfl, ?_⟩
     rw [srt2]
     exact zip_reps fun z hz => z3 z (List.mem_mergeSort.mp hz)
 · cases e
theorem opf_sortedX : OpF1 X (fun x H Q => (rSorted X.K [x] H Q ∨ rSortedS X.K [x] H Q) ∨ (rSortD X.K [x] H Q ∨ rSortT X.K [x] H Q)) sortedF := by
 intro k P w env S σ H x dx c Q hk I rx e q
 unfold sortedF at e
 cases es : sortedB dx with
 | some c' =>
   rw [es] at e
   cases e
   exact .inl (opf_sorted k P w env S σ H x dx _ Q hk I rx es q)
 | none =>
   rw [es] at e
   cases et : sortedDF dx with
   | some c' =>
     have e : (sortedDF dx).orElse (fun _ => sortedDT dx) = some c := e
     rw [et] at e
     cases e
     exact .inr (.inl (opf_sortD k P w env S σ H x dx _ Q hk I rx et q))
   | none =>
     have e : (sortedDF dx).orElse (fun _ => sortedDT dx) = some c := e
     rw [et] at e
     exact .inr (.inr (opf_sortDT k P w env S σ H x dx c Q hk I rx e q))
end
end L2.MP
end
section
namespace L2.MP
open PySem PySem.Spec PyProof.Rows
section
variable {X : Cx} {k : Ky} {W : WX} {pos : Pos}
theorem pget_lst : PGet X (rIxL X.K) := by
 intro pins s σ H x y v u Q I rx ry h
 obtain ⟨p, xs, i, z, rfl, rfl, hq, he, q⟩ := h
 cases rx
 obtain ⟨t, rfl⟩ := ry
 obtain ⟨its, r, pl, hz⟩ := I.list hq
 obtain ⟨j, h1, h2, h3, h4, h5⟩ := atI_get he
 obtain ⟨w, ew, rw'⟩ := r.get h2
 have hl := r.length
 have hn := line63
 have fin : EP X pins σ Q w s := ⟨z, H, I, rw', q⟩
 by_cases h0 : 0 ≤ i
 · have hj : i.toNat = j := by
     rw [seqIndex_of h0 h5] at h1
     exact Option.some.inj h1
   exact wpAny_getItem_list pl.isList h0 (by omega) (by rw [hj]; simpa using ew) fin
 · have hj : (i + (its.toArray.size : Int)).toNat = j := by
     rw [seqIndex_neg (by omega) h4] at h1
     rw [List.size_toArray, ← hl]
     exact Option.some.inj h1
   exact wpAny_getItem_list_neg pl.isList (by omega) (by rw [List.size_toArray] <;> omega) (by omega) (by rw [hj]; simpa using ew) fin
theorem ds_augIx {o i e : Expr} {mo mi mv : M D} {op : Operator} {f : Int → Int → Int} {tpos : Pos} (hk : k.K = X.K) (ho : DO X k W o mo) (hi : DO X k W i mi) (hv : DE X k W e mv) (hp : PIp X op (ipI f))
   (ha : ∀ ov iv new, augStore i ov iv new = (do holding [new, ov, iv] (setItem ov iv new); release [new, ov, iv] []; pure .next)) : DS X k W (.AugAssign (.Subscript o i tpos) op e pos) (dAugIx f mo mi mv) :=
 PS.sub (ps_augS ho hi pget_lst hv hp set_list ha) fun Dn σ H ⟨P, w, env, S, I, h⟩ => thenO I h fun x w1 env1 S1 vx H1 l1 I1 r1 h1 => thenO I1 h1 fun j w2 env2 S2 vj H2 l2 I2 r2 h2 => by
   obtain ⟨n, e0, h3⟩ := h2.getS.bind.opt
   obtain ⟨c, e1, e2⟩ := Option.bind_eq_some_iff.mp e0
   obtain ⟨a, o, rfl, hH, rc, _⟩ := cell_ok I2 (r1.up l2) e1
   unfold augAt at e2
   split at e2
   · split at e2
     · split at e2
       · rename_i l _ i' _ m ei
         cases e2
         obtain ⟨us, rfl, r⟩ := rc
         have ej : vj = .int i' := r2
         subst ej
         obtain ⟨u, eu, ru⟩ := atI_rep r ei
         obtain rfl : u = .int n := ru
         refine ⟨a, us, i', _, rfl, rfl, SqL.of hH, eu, thenE I2 h3.ret fun d w3 env3 S3 vd H3 l3 I3 r3 h4 => ?_⟩
         obtain ⟨m, e5, h5⟩ := h4.bind.opt
         cases d <;> simp only [intOf] at e5 <;> try contradiction
         cases e5
         have ed : vd = .int m := r3
         subst ed
         refine ⟨n, m, rfl, rfl, ?_⟩
         obtain ⟨c', e6, h6⟩ := h5.ret.getS.bind.opt
         obtain ⟨c3, e7, e8⟩ := Option.bind_eq_some_iff.mp e6
         obtain ⟨a', o', ea, hH', rc', fin⟩ := cell_ok I3 ((r1.up l2).up l3) e7
         cases ea
         have go : ∀ o', RepC k w3 c' o' → Dn.nx σ (upd H3 a o') := fun o' rc' => by
           obtain ⟨env4, S4, e9, I4⟩ := fin c' o' rc'
           have h7 := h6.ret
           unfold M.bind at h7
           rw [e9] at h7
           exact h7.ret σ _ I4
         cases c3 <;> simp only [augSet] at e8 <;> try contradiction
         · obtain ⟨m', e9, rfl⟩ := Option.map_eq_some_iff.mp e8
           obtain ⟨us', rfl, r'⟩ := rc'
           exact ⟨a, us', i', m', rfl, rfl, hH', by rw [r'.length]; exact e9, go _ ⟨_, rfl, Reps.set (show Rep k w3 (.int (f n m)) (.int (f n m)) from rfl) m' r'⟩⟩
       · cases e2
     · cases e2
   · cases e2
end
end L2.MP
end
section
namespace L2.MP
open PySem PySem.Spec PyProof.Rows
section
variable {X : Cx} {k : Ky} {W : WX}
def rCountF (K : PySem.W.Frag) : V → List V → Hp → VK → Prop := fun x xs H Q => ∃ (a : Addr) (ys : List V) (y : V), x = V.ref a ∧ xs = [y] ∧ SqL K H a ys ∧ flatV y = true ∧ ys.all flatV = true ∧ Q (.int ((ys.countP fun z => eqV z y : Nat) : Int)) H
theorem countU {y : V} {uy : Value} (fy : flatV y = true) : ∀ {ys : List V} {us : List Value}, Vals ys us → ys.all flatV = true → us.countP (eqU y) = ys.countP fun z => eqV z y
 | _, _, .nil, _ => rfl
 | z :: ys, u :: us, .cons r t, f => by
   rw [List.all_cons, Bool.and_eq_true] at f
   rw [List.countP_cons, List.countP_cons, countU (uy := uy) fy t f.2, eqU_of r f.1]
theorem mt_countF : MtR X "list.count" (rCountF X.K) := by
 intro pins s σ H x xs v us Q I rx rxs h
 obtain ⟨a, ys, y, rfl, rfl, hs, fy, fys, q⟩ := h
 cases rx
 cases rxs with
 | cons ry rt =>
   rename_i uy ut
   cases rt
   obtain ⟨its, rv, ⟨⟨cls, dd, data, sl⟩, n, ho, hc, hdn, hd⟩, hlen⟩ := I.list hs
   simp only at hc hd
   subst hc hd
   refine call_meets PySem.F.slot_list_count ⟨_, ho, rfl⟩ PySem.F.entry_list_count (PySem.F.args_list_count_2 _ _)
     (SeqAt.list_countAt a its.toArray n dd sl uy (eqU y)) ⟨ho, fun u' hu' => mem_eqAt ry fy rv fys u' (by simpa using hu'), ?_⟩
   have ec : its.toArray.toList.countP (eqU y) = ys.countP fun z => eqV z y := countU (uy := uy) fy rv fys
   refine ⟨.int ((ys.countP fun z => eqV z y : Nat) : Int), H, I.tok _, ⟨s.toks, ?_⟩, q⟩
   show Value.int ((its.toArray.toList.countP (eqU y) : Nat) : Int) s.toks = _
   rw [ec]
theorem countD_rep {w : Wd} {y : D} {v : V} (fy : flatD y = true) (ry : Rep k w y v) : ∀ {l : List D} {vs : List V}, Reps k w l vs → l.all flatD = true → (vs.countP fun z => eqV z v) = l.countP fun x => eqD x y
 | [], _, r, _ => by rw [show _ = _ from r]; rfl
 | x :: l, _, r, f => by
   obtain ⟨u, t, rfl, r1, r2⟩ := r
   rw [List.all_cons, Bool.and_eq_true] at f
   rw [List.countP_cons, List.countP_cons, countD_rep fy ry r2 f.2, eqV_rep f.1 fy r1 ry]
theorem lm_count : LmOk X (rCountF X.K) cntF := by
 intro k P w env S σ H a vs l y v d Q hk I hq rr ry e q
 unfold cntF at e
 split at e
 · rename_i hb
   rw [Bool.and_eq_true] at hb
   cases e
   have ry := flat_repH hb.1 ry
   exact ⟨a, vs, v, rfl, rfl, hk ▸ hq, flat_rep hb.1 ry, flats_rep hb.2 rr, q w _ H (Wd.Le.refl w) I (by rw [countD_rep hb.1 ry rr hb.2]; rfl)⟩
 · cases e
end
end L2.MP
end
section
namespace L2.MP
open PySem PySem.Spec PyProof.Rows
open Sem (wp)
section
variable {prog : Program} {w : World} {K : Type} [DecidableEq K] {κ : HeapKind prog w K}
theorem meets_dclearH (d : Addr) {A : Around} {E : Value → Shared → Prop} {s : Shared} {Q : Value → Shared → Prop} {xs : List (K × Addr × Value)} (hm : s.heap.DictOfH κ d xs) (hsz : xs.length ≤ sizeLine)
   (h : ∀ h' o ep, h'.get? d = some o → o.ExactDict → o.data = .dict #[] ep → Heap.SameBut d s.heap h' → Q .none { s with heap := h' }) :
   wpAny (model prog w) A (call (.builtin "dict.clear") [.ref d]) Q E s := by
 refine call_meetsIn PySem.F.slot_dict_clear hm.typeIs PySem.F.entry_dict_clear (PySem.F.args_dict_clear_1 _) (S := fun _ R s => (∃ xs, s.heap.DictOfH κ d xs ∧ xs.length ≤ sizeLine) ∧ ∀ h' o ep, h'.get? d = some o → o.ExactDict → o.data = .dict #[] ep → Heap.SameBut d s.heap h' → R (.ok (.ret .none)) { s with heap := h' }) ?_ ⟨⟨xs, hm, hsz⟩, h⟩
 refine .of_wp fun A R s ⟨⟨kvs, hm, hsz⟩, h⟩ => ?_
 have ht := hm.typeIs
 obtain ⟨o, es, ep, ho, hc, hdat, hes', hk, hn⟩ := id hm
 have hes : es.size ≤ sizeLine := by
   have e1 := congrArg List.length hes'
   rw [List.length_map] at e1
   have e2 : es.toList.length = es.size := by simp
   omega
 unfold Builtin.«dict.clear»
 refine wpAny_bind ?_
 unfold Builtin.Dict.noArgs
 refine wpAny_bind (wpAny_notOrdered_dict ht ?_)
 show wpAny _ _ (pure d) _ _ s
 refine wpAny_pure ?_
 refine wpAny_bind (wpAny_dictEntries ho hdat ?_)
 refine wpAny_bind ?_
 unfold bearsInstanceDictMark
 refine wpAny_bind (wpAny_load ho (wpAny_pure ?_))
 refine wpAny_bind (wpAny_updateDictKeys (hz := hes) ho hdat ?_)
 have g := Heap.get?_update_self (Obj.mapDictKeys fun _ => #[]) ho (Obj.isFreed_of_dict (Obj.data_mapDictKeys hdat _))
 have g2 := h _ _ _ g (hc.mapDictKeys _) (Obj.data_mapDictKeys hdat _) (Heap.SameBut.update ..)
 split
 · exact wpAny_bind (wpAny_letGo (wpAny_pure ⟨.none, rfl, g2⟩))
 · exact wpAny_bind (wpAny_pure (wpAny_pure ⟨.none, rfl, g2⟩))
end
section
variable {X : Cx} {k : Ky} {W : WX}
theorem d_clearT {A : Around} {E : Value → Shared → Prop} {pins : List (Addr × Obj)} {σ : L2.St} {H : Hp} {s : Shared} {a : Addr} {kvs : List (List Key × V)} {Q : Value → Shared → Prop} (I : Inv X pins σ H s) (e : H a = some (.dT kvs)) (h : ∀ s', Inv X pins σ (upd H a (.dT [])) s' → Q .none s') :
   wpAny (model X.prog X.w) A (call (.builtin "dict.clear") [.ref a]) Q E s := by
 obtain ⟨z, hd, xs, rel, dd⟩ := dt_of I.hok e
 refine meets_dclearH a dd (by rw [← Paired.length rel]; exact z) fun h' o ep g1 g2 g3 hs => h _ ?_
 exact d_write (t' := s.toks) I (by rw [e]; exact True.intro) hs ⟨o, g1⟩ ⟨Nat.zero_le _, hd, [], .nil, o, #[], ep, g1, g2, g3, rfl, List.nodup_nil⟩
def rDClearT : V → List V → Hp → VK → Prop := fun x vs H Q => ∃ (a : Addr) (kvs : List (List Key × V)), x = .ref a ∧ vs = [] ∧ H a = some (.dT kvs) ∧ Q .non (upd H a (.dT []))
theorem mtd_clearT : MtR X "dict.clear" rDClearT := by
 intro pins s σ H x vs v us Q I rx rv h
 obtain ⟨a, kvs, ex, ev, e, q⟩ := h
 subst ex
 subst ev
 obtain rfl : v = Value.ref a := rx
 have hus := rv.zero
 subst hus
 exact d_clearT I e fun s' I' => ⟨.non, _, I', rfl, q⟩
theorem de_clr {o : Expr} {mo : M D} {apos pos : Pos} (ho : DO X k W o mo) (hb : attributeBase o "clear" X.env (eval o X.env) = eval o X.env) (hl : (apos.endLine == pos.line) = true) : DE X k W (.Call (.Attribute o "clear" apos) [] [] pos) (dClr mo) := by
 have L := pe_bm0 (cpos := pos) PySem.F.plainAttrs_list PySem.F.slot_list_clear PySem.F.type_list_clear (mt_clear (X := X)) ho hb hl
 have D1 := pe_bm0 (cpos := pos) PySem.F.plainAttrs_dict PySem.F.slot_dict_clear PySem.F.type_dict_clear (mtd_clear (X := X)) ho hb hl
 have D2 := pe_bm0 (cpos := pos) PySem.F.plainAttrs_dict PySem.F.slot_dict_clear PySem.F.type_dict_clear (mtd_clearT (X := X)) ho hb hl
 refine ⟨fun pins s σ H Q I0 ⟨P, w, env, S, I, h⟩ => ?_⟩
 unfold dClr M.bind at h
 cases em : mo env S with
 | bad => rw [em] at h; exact h.elim
 | exc x env1 S1 =>
   rw [em] at h
   exact L.run pins s σ H Q I0 ⟨P, w, env, S, I, by rw [em]; exact h⟩
 | ok x env1 S1 =>
   rw [em] at h
   have h : Aft k W P w (M.bind (M.opt ((cellOf env1 S1 x).bind clrC)) (fun c => M.bind (setCell x c) fun _ => M.ret .non) env1 S1) (rE k P σ Q) := h
   obtain ⟨c, e1, h⟩ := h.bind.opt
   obtain ⟨c0, ec, e2⟩ := Option.bind_eq_some_iff.mp e1
   have h : Aft k W P w (M.bind (setCell x c) (fun _ => M.ret .non) env1 S1) (rE k P σ Q) := h.ret
   have fin : ∀ {w1 : Wd} {a : Addr} {v : V} {H1 : Hp} {o' : HO}, Wd.Le w w1 → (∃ env' S', setCell x c env1 S1 = .ok () env' S' ∧ RB k P w1 env' S' σ (upd H1 a o')) → Q .non (upd H1 a o') := fun {w1 a v H1 o'} l1 ⟨env2, S2, e6, I3⟩ => by
     have h4 := h.up l1
     unfold M.bind at h4
     rw [e6] at h4
     exact h4.ret .non _ I3 rfl
   cases c0 with
   | ins _ _ => cases e2
   | lst l =>
     cases e2
     refine L.run pins s σ H Q I0 ⟨P, w, env, S, I, ?_⟩
     rw [em]
     intro w1 l1 v H1 I1 r1
     obtain ⟨a, o1, rfl, hH, rc, up⟩ := cell_ok I1 r1 ec
     obtain ⟨us, rfl, _⟩ := rc
     exact ⟨.inl ⟨rfl, us, SqL.of hH⟩, a, us, rfl, rfl, hH, fin (v := .ref a) l1 (up _ _ ⟨[], rfl, rfl⟩)⟩
   | dk ks ds =>
     cases e2
     refine D1.run pins s σ H Q I0 ⟨P, w, env, S, I, ?_⟩
     rw [em]
     intro w1 l1 v H1 I1 r1
     obtain ⟨a, o1, rfl, hH, rc, up⟩ := cell_ok I1 r1 ec
     obtain ⟨us, rfl, _⟩ := rc
     exact ⟨.inr (.inr (.inl ⟨rfl, .inl ⟨us, hH⟩⟩)), a, us, rfl, rfl, hH, fin (v := .ref a) l1 (up _ _ ⟨[], rfl, rfl, rfl⟩)⟩
   | dt ks ds =>
     cases e2
     refine D2.run pins s σ H Q I0 ⟨P, w, env, S, I, ?_⟩
     rw [em]
     intro w1 l1 v H1 I1 r1
     obtain ⟨a, o1, rfl, hH, rc, up⟩ := cell_ok I1 r1 ec
     obtain ⟨us, rfl, _⟩ := rc
     exact ⟨.inr (.inr (.inl ⟨rfl, .inr ⟨us, hH⟩⟩)), a, us, rfl, rfl, hH, fin (v := .ref a) l1 (up _ _ ⟨[], rfl, rfl, rfl⟩)⟩
end
end L2.MP
end
section
namespace L2.MP
open PySem PySem.Spec PyProof.Rows
section
variable {X : Cx} {k : Ky} {W : WX}
theorem reps_upto {k : Kz} {w : Wd} : ∀ (n : Nat) (f : Nat → Int), Reps k w ((List.range n).map fun i => D.int (f i)) ((List.range n).map fun i => V.int (f i)) := fun n f => by
 generalize List.range n = l
 induction l with
 | nil => rfl
 | cons i l ih => exact ⟨_, _, rfl, rfl, ih⟩
theorem de_tupRg {x y : Str} {a : Expr} {ma : M D} {p p2 pos pos2 : Pos} (hx : x = "tuple") (hy : y = "range") (hc : X.calm = true) (hg : Gl X x) (hm : X.mg x = none) (hg2 : Gl X y) (hm2 : X.mg y = none) (ha : DE X k W a ma) (hs : ∀ x p, a ≠ .Starred x p) :
   DE X k W (.Call (.Name x p) [.Call (.Name y p2) [a] [] pos2] [] pos) (dTupRg ma) := by
 subst hx hy
 refine PE.sub (pe_tupRg hc hg hm (prg_1 hg2 hm2 ha (star1 a hs [] _)) (star1 _ (fun _ _ z => by cases z) [] _)) fun σ H Q ⟨P, w, env, S, I, h⟩ => ?_
 show tE k W ma σ H _
 refine thenE I h fun d w1 env1 S1 v H1 l1 I1 r1 h1 => ?_
 cases d with
 | int j =>
   obtain ⟨hz, h1⟩ := if_ok h1
   unfold rgNB at hz
   rw [Bool.and_eq_true, decide_eq_true_eq, decide_eq_true_eq] at hz
   refine ⟨j, r1, RgOk.of_le (Int.le_refl 0) hz.2 (by decide) hz.1, fun q hq => ?_⟩
   have le := I1.le_grow (o := .tup (rgV 0 j)) hq
   exact (h1.up le).ret _ _ (I1.grow hq) ⟨q, _, rfl, Wd.fz_at, reps_upto _ _⟩
 | _ => exact h1.elim
end
end L2.MP
end
section
namespace L2.MP
open PySem PySem.Spec PyProof.Rows
section
variable {X : Cx} {k : Ky} {W : WX} {a b : Expr} {ma mb : M D} {rest : List Expr} {pos : Pos}
theorem de_orV (hk : k.K = X.K) (ha : DE X k W a ma) (hb : DE X k W (.BoolOp .Or (b :: rest) pos) mb) : DE X k W (.BoolOp .Or (a :: b :: rest) pos) (dOrV ma mb) :=
 PE.sub (pe_orT ha hb) fun σ H Q ⟨P, w, env, S, I, h⟩ => thenE I h fun d w1 env1 S1 v H1 l1 I1 r1 h1 => by
   obtain ⟨t, e, h2⟩ := h1.getS.bind.opt
   have h2 := h2.ret
   refine ⟨t, tru_rep hk I1 (I1.view (RepO.of r1)) e, ?_⟩
   cases t with
   | true => exact iteT (h2.ret v H1 I1 r1)
   | false => exact iteF ⟨P, w1, env1, S1, I1, h2⟩
end
end L2.MP
end
section
namespace L2.MP
open PySem PySem.Spec PyProof.Rows
section
variable {X : Cx} {k : Ky} {W : WX} {pos : Pos}
theorem ds_raise0N {x m : Str} {j : Nat} {p p2 p3 : Pos} {c : Nat} {bmB : List Value} {B newId initId : String} (F : ExcBaseFacts B newId initId bmB) (q : PySem.W.excIn X.K (k.cl c) bmB newId = true) (hm : X.mg x = some (.ref (k.cl c))) (hk : PySem.W.keepIn X.K (.ref (k.cl c)) = true)
   (r : Raises X (.ref (k.cl c))) (hg : Gl X x) (hdb : (x == ("__debug__" : Str)) = false) (hc : X.calm = true) (tk : L2N.Takes X W) :
   DS X k W (.Raise (some (.Call (.Name x p) [.Constant (.str m) j p2] [] p3)) none pos) (dRaise0 c) :=
 PS.sub (L2N.ps_raise hc tk (L2N.pmk_own F q hm hk r hg hdb)) fun Dn σ H ⟨P, w, env, S, I, h⟩ => h w σ H _ none (.refl w) I ⟨rfl, .inl ⟨rfl, rfl⟩⟩
theorem pmk_cold {CX : CXT} {x : Str} {e : Expr} {es : List Expr} {ta : TA} {p : Pos} {C fI : Addr} {n : Nat} {fd : FuncData} {ps : List Str} {sp : Sp} (T : OexC X.K C) (iC : PySem.W.findIn X.K (.ref C) "__init__" = some (some (.ref fI))) (tI : PySem.W.typeIn X.K (.ref fI) = some (.type "function"))
   (F1 : FnOk X.prog X.w X.K X.mg X.base CX n fI fd ps sp) (hr : Room (n + 1) X.A) (hb : Binds X.K fd ps []) (hx : Passes CX X (fun _ _ _ => False)) (hg : Gl X x) (hm : X.mg x = some (.ref C)) (ha : PA X (e :: es) ta)
   (hdb : (x == ("__debug__" : Str)) = false) (he : starEach (e :: es) X.env = (false, eval e X.env) :: starEach es X.env) (hpl : (backTo pos (starEach es X.env)).any (·.1) = false) :
   L2N.PMk X (.Call (.Name x p) (e :: es) [] pos) (tMkO C sp [] ta) := by
 intro pins s σ H Q I h
 obtain ⟨_, _, _, _, bm, _, _, _, _, _, _, _, _, _, _, hC, hbm⟩ := T.cls
 refine wpAny_Call_Name_kw (ld_glob I hg hm ?_ hdb)
 refine PySem.W.callWith_K (h₀ := X.base) I.ok.mod.kin T.kC (thn (ha.run pos pins s σ H _ I h) fun us s1 ⟨vs, H1, I1, r1, hz, q1⟩ => ⟨I1.kIn, ?_⟩) he hpl
 show wpAny _ _ (call (.ref C) us) _ _ _
 obtain ⟨hp, g, dr, tk, os⟩ := s1
 have ge1 : hp.objs.size ≤ hp.objs.size + 1 := by omega
 have promise := q1 (hp.objs.size + 1) (I1.hok.fresh ge1)
 have kept : ∀ b o, hp.get? b = some o → ((hp.push (PySem.W.kdv_tup us)).push (PySem.HandSPX.excO C hp.objs.size)).get? b = some o := fun b o e => Heap.get?_push_of_some _ (Heap.get?_push_of_some _ e)
 have J : Inv X pins σ (upd H1 (hp.objs.size + 1) (exo (hp.objs.size + 1) C none)) ⟨(hp.push (PySem.W.kdv_tup us)).push (PySem.HandSPX.excO C hp.objs.size), g, dr, tk, os⟩ :=
   I1.laid (t' := tk) (a := hp.objs.size + 1) (o := exo (hp.objs.size + 1) C none) (h' := (hp.push (PySem.W.kdv_tup us)).push (PySem.HandSPX.excO C hp.objs.size)) kept ge1 (exo_ok (by heap_get))
 rw [List.append_nil] at promise
 have rr : Vals (V.ref (hp.objs.size + 1) :: vs) (Value.ref (hp.objs.size + 1) :: us) := .cons rfl r1
 have few : us.length ≤ sizeLine := by
   have := Paired.length r1
   rw [sizeLine_eq]
   omega
 have bnd := hb _ (Value.ref (hp.objs.size + 1) :: us) J.kIn (by
   have := rr.length
   rw [F1.len _ _ _ _ promise] at this
   rw [List.append_nil]
   exact this.symm)
 rw [List.append_nil] at bnd
 refine wpAny_call (PySem.HandSPX.call_own F.excBase_ValueError (fun Y => PySem.HandSPX.refsVE_contains Y bm hbm) (I1.kIn _ _ hC) (PySem.W.looks_findIn I1.kIn iC) (fun self => PySem.W.bind_fn I1.kIn self tI) few
   (codeAny_mono (F1.run _ X.stack _ _ ⟨Value.ref (hp.objs.size + 1) :: us, []⟩ (Value.ref (hp.objs.size + 1) :: us) _ _ (fun _ _ _ => False) (hr.make C us []) (J.env0.make C us []) bnd rr promise) fun r s' hq => ?_))
 cases r with
 | error er => exact hx pins σ _ _ er s' J hq
 | ok fl =>
   cases fl with
   | ret u =>
     obtain ⟨v, H2, os2, bare2, un2, hok2, rv, ev, d, fs, ea, ed, hd1, q2⟩ := hq
     subst ev
     obtain ⟨h2, g2, d2, t2, os'⟩ := s'
     obtain ⟨_, G, L, kG, ge, hoe, na⟩ := mk_end0 (d2 := d2) (t2 := t2) I1 ge1 kept un2 hok2 os2 bare2 ea ed hd1
     exact ⟨rv, ⟨hp.objs.size + 1, _, _, ⟨G, g2, d2, _, os'⟩, _, .ref C, some d, rfl, L, kG, ge, hoe, ⟨rfl, rfl, fun vs hv => by cases hv; rfl⟩, rfl, rfl, na, rfl, bare2, raises_own T.exC T.tyC, q2⟩⟩
   | next => exact False.elim hq
   | brk => exact False.elim hq
   | cont => exact False.elim hq
theorem ds_raise1N {CX : CXT} {x t f : Str} {j : Nat} {p p2 p3 : Pos} {c lv : Nat} {fI : Addr} {fd : FuncData} {ps : List Str} {e : Expr} {me : M D} (T : OexC X.K (k.cl c)) (iC : PySem.W.findIn X.K (.ref (k.cl c)) "__init__" = some (some (.ref fI))) (tI : PySem.W.typeIn X.K (.ref fI) = some (.type "function"))
   (F1 : FnOk X.prog X.w X.K X.mg X.base CX lv fI fd ps (spI (k.cl c) f)) (hx : Passes CX X (fun _ _ _ => False)) (hr : Room (lv + 1) X.A) (hb : Binds X.K fd ps []) (hg : Gl X x) (hm : X.mg x = some (.ref (k.cl c))) (hdb : (x == ("__debug__" : Str)) = false) (hc : X.calm = true) (tk : L2N.Takes X W)
   (he : DE X k W e me) (hs : ∀ x p, e ≠ .Starred x p) :
   DS X k W (.Raise (some (.Call (.Name x p) [.Constant (.str t) j p2, e] [] p3)) none pos) (dRaise1 c f me) :=
 PS.sub (L2N.ps_raise hc tk (pmk_cold T iC tI F1 hr hb hx hg hm (pa_cons pe_str (pa_one he hs) (star1 _ (fun _ _ z => by cases z) _ _)) hdb (star1 _ (fun _ _ z => by cases z) _ _) (star_false [e] (fun q hq => by simp at hq; subst hq; exact hs) _ _))) fun Dn σ H ⟨P, w, env, S, I, h⟩ =>
   thenE I h fun d w1 env1 S1 v H1 l1 I1 r1 h1 => ⟨by show 2 ≤ 1000; decide, fun a na => ⟨a, .str t, v, rfl, upd_same, fun dx ndx ne => ⟨rfl, dx, [(f, v)], upd_same, by rw [upd_ne ne]; exact upd_same, by rw [upd_ne ne] at ndx; exact ndx, by
     have n1 : H1 dx = none := by rw [upd_ne ne] at ndx; exact ndx
     have hh : upd (del (upd (upd (upd H1 a (exo a (k.cl c) none)) dx (exd dx [(f, v)])) a (exo a (k.cl c) (some dx))) a) dx (.xd [(f, v)]) = upd H1 dx (.xd [(f, v)]) := by
       funext b
       by_cases hb : b = dx
       · subst hb; rw [upd_same, upd_same]
       · rw [upd_ne hb, upd_ne hb]
         by_cases ha : b = a
         · subst ha; rw [del_same, na]
         · rw [del_ne ha, upd_ne ha, upd_ne hb, upd_ne ha]
     rw [hh]
     exact h1 (w1.fz dx (.xd [(f, v)])) σ _ _ _ (I1.le_grow n1) (I1.grow n1) ⟨rfl, .inr ⟨by simp, dx, _, rfl, Wd.fz_at, rfl, Reps.one (Rep.mono (I1.le_grow n1) d r1)⟩⟩⟩⟩⟩
theorem ds_raise1H {CX : CXT} {x t f : Str} {j : Nat} {p p2 p3 : Pos} {c lv : Nat} {fI : Addr} {fd : FuncData} {ps : List Str} {e : Expr} {me : M D} (T : OexC X.K (k.cl c)) (iC : PySem.W.findIn X.K (.ref (k.cl c)) "__init__" = some (some (.ref fI))) (tI : PySem.W.typeIn X.K (.ref fI) = some (.type "function"))
   (F1 : L2H.FnH X.prog X.w X.K X.mg X.base CX lv fI fd ps (spI (k.cl c) f)) (hx : Passes CX X (fun _ _ _ => False)) (hr : L2H.RoomH (lv + 1) X.A) (hb : Binds X.K fd ps []) (hg : Gl X x) (hm : X.mg x = some (.ref (k.cl c))) (hdb : (x == ("__debug__" : Str)) = false) (hc : L2H.HotC X) (tk : L2.Takes X W)
   (he : DE X k W e me) (hs : ∀ x p, e ≠ .Starred x p) :
   DS X k W (.Raise (some (.Call (.Name x p) [.Constant (.str t) j p2, e] [] p3)) none pos) (dRaise1 c f me) :=
 PS.sub (L2H.ps_raiseH hc tk (L2H.pmk5_oexH T iC tI F1 hr hc hb hx hg hm (pa_cons pe_str (pa_one he hs) (star1 _ (fun _ _ z => by cases z) _ _)) hdb (star1 _ (fun _ _ z => by cases z) _ _) (star_false [e] (fun q hq => by simp at hq; subst hq; exact hs) _ _)).pmk) fun Dn σ H ⟨P, w, env, S, I, h⟩ =>
   thenE I h fun d w1 env1 S1 v H1 l1 I1 r1 h1 => ⟨by show 2 ≤ 1000; decide, fun a na => ⟨a, .str t, v, rfl, upd_same, fun dx ndx ne => ⟨rfl, dx, [(f, v)], upd_same, by rw [upd_ne ne]; exact upd_same, by rw [upd_ne ne] at ndx; exact ndx, by
     have n1 : H1 dx = none := by rw [upd_ne ne] at ndx; exact ndx
     have hh : upd (del (upd (upd (upd H1 a (exo a (k.cl c) none)) dx (exd dx [(f, v)])) a (exo a (k.cl c) (some dx))) a) dx (.xd [(f, v)]) = upd H1 dx (.xd [(f, v)]) := by
       funext b
       by_cases hb : b = dx
       · subst hb; rw [upd_same, upd_same]
       · rw [upd_ne hb, upd_ne hb]
         by_cases ha : b = a
         · subst ha; rw [del_same, na]
         · rw [del_ne ha, upd_ne ha, upd_ne hb, upd_ne ha]
     rw [hh]
     exact h1 (w1.fz dx (.xd [(f, v)])) σ _ _ _ (I1.le_grow n1) (I1.grow n1) ⟨rfl, .inr ⟨by simp, dx, _, rfl, Wd.fz_at, rfl, Reps.one (Rep.mono (I1.le_grow n1) d r1)⟩⟩⟩⟩⟩
end
section
variable {X : Cx} {k : Ky} {W : WX} {pos : Pos} {t : Xt} {fl : List Str} {body suite : List Stmt} {b₀ : Stmt} {b s : M Flo} {c : Nat} {x : Str} {np pos' : Pos}
theorem ds_tryR (hs : X.stack = X.env :: X.outer) (hf : X.env.frame = some X.env.locals) (hc : Names X x (.ref (k.cl c))) (O : XcOk X.K k t fl) (hpa : ∀ hd : Option Value, PassesOwnAt (model X.prog X.w) (X.A.mark hd) X.A X.env X.xe) (tk : L2.Takes X W)
   (hb : ∀ (W : WX) (pn : List (Addr × Obj)) (xe : Value → Shared → Prop), L2N.Takes (X.tr pn xe) W → PassesOwn (model X.prog X.w) X.A X.env xe → DSs (X.tr pn xe) k W body b)
   (hsu : ∀ (a : Addr) (oe : Obj) (cls : Value) (d : Option Addr) (pn : List (Addr × Obj)), L2N.Zn cls d oe → (∃ vs, oe.data = .fields vs) → L2.Takes (L2H.suiteX X a ((a, oe) :: pn)) W → L2H.HotC (L2H.suiteX X a ((a, oe) :: pn)) → DSs (L2H.suiteX X a ((a, oe) :: pn)) k W (b₀ :: suite) s) :
   DS X k W (.Try body [.ExceptHandler (some (.Name x np)) none (b₀ :: suite) pos'] [] [] pos) (dTryR t c b s) := by
 refine PS.sub (L2H.ps_try_onlyX (tb := fun W => tS k W b) (ts := fun _ _ _ => tS k W s) hs hf hc hpa tk (fun W' pn xe t1 _ hp => hb W' pn xe t1 hp) hsu) fun D σ H ⟨P, w, env, S, I, h⟩ => ⟨P, w, env, S, I, ?_⟩
 unfold dTryR at h
 cases eb : b env S with
 | ok f env1 S1 => rw [eb] at h; exact h
 | bad => rw [eb] at h; exact h
 | exc xx env1 S1 =>
   rw [eb] at h
   dsimp only at h
   split at h
   · rename_i hx
     rw [Bool.and_eq_true] at hx
     intro w1 σ1 H1 cls dx l1 I1 r1
     refine ⟨_, by rw [r1.1]; exact O.exm _ hx.1 _ hx.2, fun hb a na => ?_, fun hb => ?_⟩
     · rw [if_pos hb] at h
       refine ⟨P, w1, env1, S1, I1, ?_⟩
       cases es : s env1 S1 with
       | ok f env2 S2 => rw [es] at h; exact fun w2 l2 => h w2 (l1.trans l2)
       | exc x2 env2 S2 => rw [es] at h; exact fun w2 σ2 H2 cls2 dx2 l2 => h w2 σ2 H2 cls2 dx2 (l1.trans l2)
       | bad => rw [es] at h; exact h.elim
     · rw [if_neg (by rw [hb]; exact Bool.false_ne_true)] at h
       exact h w1 σ1 H1 cls dx l1 I1 r1
   · exact h.elim
end
end L2.MP
end
section
namespace L2.MP
open PySem PySem.Spec PyProof.Rows
section
def encF : List (Str × D) → List D
 | [] => []
 | (f, d) :: r => .tup [.str f, d] :: encF r
def encX (x : Exn) : D := .tup (.int x.cls :: encF x.fs)
def decF : List D → Option (List (Str × D))
 | [] => some []
 | .tup [.str f, d] :: r => (decF r).map ((f, d) :: ·)
 | _ => none
def decX : D → Option Exn
 | .tup (.int c :: l) => if 0 ≤ c then (decF l).map fun fs => ⟨c.toNat, fs⟩ else none
 | _ => none
theorem dec_encF : ∀ fs : List (Str × D), decF (encF fs) = some fs
 | [] => rfl
 | (f, d) :: r => by
   show (decF (encF r)).map ((f, d) :: ·) = _
   rw [dec_encF r]; rfl
theorem dec_enc (x : Exn) : decX (encX x) = some x := by
 obtain ⟨c, fs⟩ := x
 show (if (0 : Int) ≤ (c : Int) then (decF (encF fs)).map fun fs => (⟨(c : Int).toNat, fs⟩ : Exn) else none) = _
 rw [if_pos (Int.natCast_nonneg c), dec_encF]; rfl
def dCallX (f : Fn) (i : Nat) : M D := fun env S => match env[i]? with
 | some (.exn x) => (match f [encX x] S with
   | .ok d S' => .ok d env S'
   | _ => .bad)
 | _ => .bad
def runX (dm : DefM) (m : M Flo) : Fn := fun ds S => match ds with
 | [d] => (match decX d with
   | some x => (match m (.exn x :: List.replicate (dm.C.N.length - 1) .no) S with
     | .ok .nx _ S' => .ok .non S'
     | .ok (.rt d) _ S' => .ok d S'
     | _ => .bad)
   | none => .bad)
 | _ => .bad
def offX (env : Envr) : Envr := env.map fun s => match s with
 | .exn _ => .no
 | s => s
def backX : Envr → Envr → Envr
 | .exn x :: a, _ :: b => .exn x :: backX a b
 | _ :: a, s :: b => s :: backX a b
 | _, b => b
def dUnX (m : M Cell) : M Cell := fun env S => match m (offX env) S with
 | .ok c env' S' => .ok c (backX env env') S'
 | _ => .bad
def seqL (a b : D) : Option (List D) := match lstOf a, lstOf b with
 | some l, some m => some (zipD l m)
 | _, _ => none
def dZipL (a b : M D) : M Src := M.bind a fun x => M.bind b fun y => M.opt ((seqL x y).map fun l => (l, none))
def dCallL (ar : List Nat) (ok : Nat → Bool) (φ : Nat → Fn) (i : Nat) (args : M (List D)) : M D := fun env S => match env[i]? with
 | some (.val (.fn j)) => if ok j = true then (M.bind args fun ds => if ds.length = ar.getD j 0 then (fun env S => (φ j ds S).out env) else M.fail) env S else .bad
 | _ => .bad
end
end L2.MP
end
section
namespace L2.MP
open PySem PySem.Spec PyProof.Rows
def Ky.off (k : Ky) : Ky := ⟨k.toKz, none⟩
theorem off_len (env : Envr) : (offX env).length = env.length := by simp [offX]
theorem off_get {env : Envr} {i : Nat} {s : Slot} (e : (offX env)[i]? = some s) : (s = .no) ∨ (env[i]? = some s ∧ ∀ x, s ≠ .exn x) := by
 unfold offX at e
 rw [List.getElem?_map] at e
 obtain ⟨t, e1, e2⟩ := Option.map_eq_some_iff.mp e
 cases t with
 | exn x => exact .inl e2.symm
 | no => exact .inl e2.symm
 | val d => exact .inr ⟨by rw [e1, ← e2], fun x z => by rw [← e2] at z; cases z⟩
 | own c => exact .inr ⟨by rw [e1, ← e2], fun x z => by rw [← e2] at z; cases z⟩
theorem back_len : ∀ a b : Envr, (backX a b).length = b.length
 | [], b => by cases b <;> rfl
 | s :: a, [] => by cases s <;> rfl
 | s :: a, t :: b => by cases s <;> (show (_ :: backX a b).length = _; simp [back_len a b])
theorem back_get : ∀ {a b : Envr} {i : Nat} {s : Slot}, (backX a b)[i]? = some s → (∃ x, a[i]? = some (.exn x) ∧ s = .exn x) ∨ b[i]? = some s
 | [], b, i, s, e => by cases b <;> exact .inr e
 | t :: a, [], i, s, e => by cases t <;> cases i <;> cases e
 | t :: a, u :: b, 0, s, e => by
   cases t with
   | exn x => exact .inl ⟨x, rfl, by cases e; rfl⟩
   | _ => exact .inr e
 | t :: a, u :: b, i + 1, s, e => by
   have e : (backX a b)[i]? = some s := by cases t <;> exact e
   rcases back_get e with ⟨x, h1, h2⟩ | h
   · exact .inl ⟨x, by simpa using h1, h2⟩
   · exact .inr (by simpa using h)
section
variable {k : Ky} {P : Hp} {w w' : Wd} {env env' : Envr} {S S' : Sto} {σ : L2.St} {H H' : Hp}
theorem RB.offX (h : RB k P w env S σ H) : RB k.off P w (offX env) S σ H where
 rs := h.rs
 len := h.len.trans (off_len env).symm
 val := fun i d e => (off_get e).elim (fun z => nomatch z) fun q => h.val i d q.1
 own := fun i c e => (off_get e).elim (fun z => nomatch z) fun q => h.own i c q.1
 sep := fun i j c c' a e1 e2 => (off_get e1).elim (fun z => nomatch z) fun q1 => (off_get e2).elim (fun z => nomatch z) fun q2 => h.sep i j c c' a q1.1 q2.1
 exn := fun i x e => (off_get e).elim (fun z => nomatch z) fun q => (q.2 x rfl).elim
theorem RB.backX (h0 : RB k P w env S σ H) (le : Wd.Le w w') (h : RB k.off P w' env' S' σ H') : RB k P w' (backX env env') S' σ H' where
 rs := h.rs
 len := h.len.trans (back_len env env').symm
 val := fun i d e => (back_get e).elim (fun ⟨_, _, z⟩ => nomatch z) fun q => h.val i d q
 own := fun i c e => (back_get e).elim (fun ⟨_, _, z⟩ => nomatch z) fun q => h.own i c q
 sep := fun i j c c' a e1 e2 => (back_get e1).elim (fun ⟨_, _, z⟩ => nomatch z) fun q1 => (back_get e2).elim (fun ⟨_, _, z⟩ => nomatch z) fun q2 => h.sep i j c c' a q1 q2
 exn := fun i x e => by
   rcases back_get e with ⟨y, e1, e2⟩ | q
   · cases e2
     obtain ⟨a, cls, dx, x1, x2, x3⟩ := h0.exn i x e1
     exact ⟨a, cls, dx, x1, x2, x3.mono le⟩
   · obtain ⟨_, _, _, z, _⟩ := h.exn i x q
     cases z
theorem tF_un {W : WX} {m : M Cell} {Q : VK} (h : tF k W (dUnX m) σ H Q) : tF k.off W0 m σ H Q := by
 obtain ⟨P, w, env, S, I, h⟩ := h
 refine ⟨P, w, MP.offX env, S, I.offX, ?_⟩
 unfold dUnX at h
 cases em : m (MP.offX env) S with
 | bad => rw [em] at h; exact h
 | exc x env' S' => rw [em] at h; exact h.elim
 | ok c env' S' =>
   rw [em] at h
   exact fun w' le a o H' I' e r L => h w' le a o H' (I.backX le I') e r ⟨L.f, L.r, L.p, fun i c' e1 e2 => (back_get e1).elim (fun ⟨_, _, z⟩ => nomatch z) fun q => L.o i c' q e2⟩
end
section
variable {X : Cx} {k : Ky} {W : WX} {pos : Pos} {vs : List Nat}
theorem dg_tupX {es : List Expr} {kk : Nat} {gs : List Tgt} (hk : k.K = X.K) (hb : L2H.HotB X) (h : PGs X es (tGs k vs gs)) (hn : (assignEach es X.env).length = gs.length) (hst : (assignEach es X.env).findIdx? (·.1) = none) : PG X (.Tuple es kk pos) (tG k vs (gTp gs)) :=
 pg_sub' (L2H.pg_tupX hb h hn hst) fun v σ H Q ⟨P, w, env, S, d, env', I, r, e, q⟩ => by
   unfold gTp at e
   split at e
   · rename_i ds ed
     obtain ⟨a, us, rfl, f, r⟩ : ∃ a us, v = .ref a ∧ SqT k.K H a us ∧ Reps k w ds us := by
       rcases tupOf_ok ed with rfl | rfl
       · obtain ⟨a, us, e1, f, r⟩ := r; exact ⟨a, us, e1, SqT.of (I.rs.frz _ _ f), r⟩
       · obtain ⟨a, us, e1, f, r⟩ := r; exact ⟨a, us, e1, sqT_mono I.rs.frz f, r⟩
     exact ⟨a, us, rfl, hk ▸ f, by rw [r.length, gTs_len e], P, w, env, S, ds, env', I, r, e, q⟩
   · cases e
theorem pi_subX {tg e : Expr} {t t' : TI} (h : L2H.PIX X tg e t) (hs : ∀ σ H R, t' σ H R → t σ H R) : L2H.PIX X tg e t' := ⟨fun pins s σ H R I q => h.run pins s σ H R I (hs σ H R q)⟩
theorem di_zipX {a b : Expr} {ma mb : M D} {p tpos : Pos} {elts : List Expr} {kk : Nat} (hk : k.K = X.K) (hg : Gl X "zip") (hm : X.mg "zip" = none) (ha : DE X k W a ma) (hb : DE X k W b mb) (hs : ∀ x p, a ≠ .Starred x p) (hs2 : ∀ x p, b ≠ .Starred x p) : L2H.PIX X (.Tuple elts kk tpos) (.Call (.Name "zip" p) [a, b] [] pos) (tI k W (dZipL ma mb)) :=
 pi_subX (L2H.pi_zipX hg hm (pa_cons ha (pa_one hb hs2) (star1 a hs _ _)) (star1 a hs _ _) (star_false [b] (fun q hq => by simp at hq; subst hq; exact hs2) _ _)) fun σ H R ⟨P, w, env, S, I, q⟩ => thenE I q fun c w1 env1 S1 v H1 l1 I1 r1 q1 => thenE I1 q1 fun d w2 env2 S2 u H2 l2 I2 r2 q2 => by
   obtain ⟨src, es, q3⟩ := q2.opt
   obtain ⟨l, el, rfl⟩ := Option.map_eq_some_iff.mp es
   have r1 := Rep.mono l2 c r1
   have asL : ∀ {d : D} {v : V} {l : List D}, Rep k w2 d v → lstOf d = some l → ∃ a vs, v = .ref a ∧ SqL X.K w2.F a vs ∧ Reps k w2 l vs := by
     intro d v l r e
     rw [← hk]
     rcases lstOf_ok e with rfl | rfl
     · obtain ⟨a, vs, e1, f, r⟩ := r; exact ⟨a, vs, e1, SqL.of f, r⟩
     · exact r
   unfold seqL at el
   split at el
   · rename_i l1 m1 h1 h2
     cases el
     obtain ⟨a, xs, rfl, f1, rl⟩ := asL r1 h1
     obtain ⟨b, ys, rfl, f2, rm⟩ := asL r2 h2
     refine ⟨a, b, xs, ys, rfl, sqL_mono I2.rs.frz f1, sqL_mono I2.rs.frz f2, q3.ret H2 _ I2 ⟨fun H => SqL X.K H a xs ∧ SqL X.K H b ys, _, by rw [show (zipD l1 m1, (none : Option Nat)).1.length = min xs.length ys.length by rw [rl.length, rm.length]; exact zipD_len l1 m1]; exact walk_zip rfl, fun P w env S σ H le I _ => ⟨sqL_mono (fun b o e => I.rs.frz b o (le.f b o e)) f1, sqL_mono (fun b o e => I.rs.frz b o (le.f b o e)) f2⟩, fun P w3 env S σ H i x H' le I _ hi y => ?_⟩⟩
     obtain ⟨w', d, e, h1, h2, h3, h4, h5⟩ := yPair_rep (ff := fun i => l1[i]?) (gg := fun i => m1[i]?) (fun v e => (rl.mono le).get e) (fun v e => (rm.mono le).get e) I y
     exact ⟨w', _, zipD_get l1 m1 i d e h1 h2, h3, h4, h5⟩
   · cases el
end
section
variable {X : Cx} {k : Ky} {W : WX} {pos : Pos} {t : Xt} {fl : List Str} {body suite : List Stmt} {b₀ : Stmt} {b s : M Flo} {c : Nat} {x : Str} {np pos' : Pos}
theorem ds_tryNC (hs : X.stack = X.env :: X.outer) (hf : X.env.frame = some X.env.locals) (hc : Names X x (.ref (k.cl c))) (O : XcOk X.K k t fl) (tk : L2N.Takes X W)
   (hb : ∀ (W : WX) (pn : List (Addr × Obj)) (xe : Value → Shared → Prop), L2N.Takes (X.tr pn xe) W → PassesOwn (model X.prog X.w) X.A X.env xe → DSs (X.tr pn xe) k W body b)
   (hsu : ∀ (a : Addr) (oe : Obj) (cls : Value) (d : Option Addr) (pn : List (Addr × Obj)), L2N.Zn cls d oe → (∃ vs, oe.data = .fields vs) → DSs (X.suite a ((a, oe) :: pn)) k W0 (b₀ :: suite) s) :
   DS X k W (.Try body [.ExceptHandler (some (.Name x np)) none (b₀ :: suite) pos'] [] [] pos) (dTryN t c b s) := by
 refine PS.sub (L2H.ps_try_noC (tb := fun W => tS k W b) (ts := fun _ _ _ => tS k W0 s) hs hf hc tk hb hsu) fun D σ H ⟨P, w, env, S, I, h⟩ => ⟨P, w, env, S, I, ?_⟩
 unfold dTryN at h
 cases eb : b env S with
 | ok f env1 S1 => rw [eb] at h; exact h
 | bad => rw [eb] at h; exact h
 | exc xx env1 S1 =>
   rw [eb] at h
   dsimp only at h
   split at h
   · rename_i hx
     rw [Bool.and_eq_true] at hx
     intro w1 σ1 H1 cls dx l1 I1 r1
     refine ⟨_, by rw [r1.1]; exact O.exm _ hx.1 _ hx.2, fun hb a na => ?_, fun hb => ?_⟩
     · rw [if_pos hb] at h
       refine ⟨P, w1, env1, S1, I1, ?_⟩
       unfold noX at h
       cases es : s env1 S1 with
       | ok f env2 S2 => rw [es] at h; exact fun w2 l2 => h w2 (l1.trans l2)
       | exc _ _ _ => rw [es] at h; exact h.elim
       | bad => rw [es] at h; exact h.elim
     · rw [if_neg (by rw [hb]; exact Bool.false_ne_true)] at h
       exact h w1 σ1 H1 cls dx l1 I1 r1
   · exact h.elim
theorem ds_tryC {i : Nat} {n : Str} (hs : X.stack = X.env :: X.outer) (hf : X.env.frame = some X.env.locals) (hN : X.N.Nodup) (hi : X.N[i]? = some n) (hln : X.env.kindOf n = some .local) (h0 : k.xn = none) (hc : Names X x (.ref (k.cl c))) (O : XcOk X.K k t fl) (tk : L2N.Takes X W)
   (hb : ∀ (W : WX) (pn : List (Addr × Obj)) (xe : Value → Shared → Prop), L2N.Takes (X.tr pn xe) W → PassesOwn (model X.prog X.w) X.A X.env xe → DSs (X.tr pn xe) k W body b)
   (hsu : ∀ (a : Addr) (oe : Obj) (cls : Value) (d : Option Addr) (pn : List (Addr × Obj)), L2N.Zn cls d oe → (∃ vs, oe.data = .fields vs) → DSs (X.suite a ((a, oe) :: pn)) (k.at i a cls d) W0 (b₀ :: suite) s) :
   DS X k W (.Try body [.ExceptHandler (some (.Name x np)) (some n) (b₀ :: suite) pos'] [] [] pos) (dTryE t c i b s) := by
 refine PS.sub (L2H.ps_try_asC (tb := fun W => tS k W b) (ts := fun a cls d => tS (k.at i a cls d) W0 s) hs hf hN hi hln hc tk hb hsu) fun D σ H ⟨P, w, env, S, I, h⟩ => ⟨P, w, env, S, I, ?_⟩
 unfold dTryE at h
 cases eb : b env S with
 | ok f env1 S1 => rw [eb] at h; exact h
 | bad => rw [eb] at h; exact h
 | exc xx env1 S1 =>
   rw [eb] at h
   dsimp only at h
   split at h
   · rename_i hx
     rw [Bool.and_eq_true] at hx
     intro w1 σ1 H1 cls dx l1 I1 r1
     refine ⟨_, by rw [r1.1]; exact O.exm _ hx.1 _ hx.2, fun hb a na => ?_, fun hb => ?_⟩
     · rw [if_pos hb] at h
       refine ⟨P, w1, _, S1, I1.setExn h0 r1, ?_⟩
       cases es : s (env1.set i (.exn xx)) S1 with
       | ok f env2 S2 =>
         rw [es] at h
         intro w2 l2
         have h2 := h w2 (l1.trans l2)
         cases f with
         | rt d => exact fun v σ2 H2 I2 r2 => h2 v _ _ I2.unExn r2
         | _ => exact fun σ2 H2 I2 => h2 _ _ I2.unExn
       | exc _ _ _ => rw [es] at h; exact h.elim
       | bad => rw [es] at h; exact h.elim
     · rw [if_neg (by rw [hb]; exact Bool.false_ne_true)] at h
       exact h w1 σ1 H1 cls dx l1 I1 r1
   · exact h.elim
end
def spX (k : Ky) (f : Fn) : Addr × Obj → List V → Hp → VK → Prop := fun p vs H Q => ∃ P w S x cls dx, vs = [.ref p.1] ∧ RS k P w S H ∧ Zc cls dx p.2 ∧ (∃ us, p.2.data = .fields us) ∧ RepX k w x cls dx ∧ match f [encX x] S with
 | .ok d S' => ∀ w' v H', Wd.Le w w' → RS k P w' S' H' → Rep k w' d v → Q v H'
 | _ => False
theorem de_callX {X : Cx} {k : Ky} {W : WX} {f : Addr} {fd : FuncData} {ps : List Str} {fn : Fn} {x y : Str} {q p1 pos : Pos} {i lv : Nat} (F : L2H.FnX X.prog X.w X.K X.mg X.base lv f fd ps (spX k fn)) (hr : L2H.RoomH lv X.A) (hc : L2H.HotC X) (hg : Gl X x) (hm : X.mg x = some (.ref f)) (hkp : PySem.W.keepIn X.K (.ref f) = true) (hb : Binds X.K fd ps [])
   (hk : k.K = X.K) (su : SuX X k) (hN : X.N[i]? = some y) (hv : Vis X.env.scope y) (hd : (y == ("__debug__" : Str)) = false) (hcd : (y == ("__classdict__" : Str)) = false) (hdb : (x == ("__debug__" : Str)) = false) :
   DE X k W (.Call (.Name x q) [.Name y p1] [] pos) (dCallX fn i) := by
 refine ⟨fun pins s σ H Q I0 ⟨P, w, env, S, I, h⟩ => ?_⟩
 unfold dCallX at h
 split at h
 · rename_i xx ex
   obtain ⟨a, dx, Y, oe, pn, hX, hz, hf, es, r, hdd⟩ := exn_at hk su I ex
   obtain ⟨p, hot, hp⟩ := hc
   have h1 : p.1 = a := by
     have := hot.1
     rw [hX] at this
     have : (some (Value.ref a)).or Y.A.handled = some (.ref p.1) := this
     injection this with this
     injection this with this
     exact this.symm
   have pp := I0.pin p (List.mem_append_left _ hp)
   have pa := I0.pin (a, oe) (List.mem_append_left _ (by rw [hX]; exact List.mem_cons_self))
   have hpe : p = (a, oe) := by
     have := pp.1
     rw [h1] at this
     rw [show s.heap.get? a = some oe from pa.1] at this
     cases this
     rw [← h1]
   subst hpe
   refine (L2H.pe_callX F hr hot hp hg hm hkp hb (pa_one (pe_var hN hv hd hcd) (fun _ _ z => by cases z)) hdb (star1 _ (fun _ _ z => by cases z) _ _)).run pins s σ H Q I0 ⟨.ref a, es, ?_⟩
   refine ⟨callP P env σ H, w, S, xx, _, dx, rfl, I.toCall, hz, hf, r, ?_⟩
   cases ef : fn [encX xx] S with
   | ok d S' =>
     rw [ef] at h
     exact fun w' v H' le g q => h w' le v H' (I.ofCall g le) q
   | exc x S' => rw [ef] at h; exact h
   | bad => rw [ef] at h; exact h
 · exact h.elim
theorem de_callL {X : Cx} {k : Ky} {W : WX} {i : Nat} {x : Str} {p pos : Pos} {e : Expr} {es : List Expr} {mas : M (List D)} {ar : List Nat} {ok : Nat → Bool} {φ : Nat → Fn} (hN : X.N[i]? = some x) (hv : Vis X.env.scope x) (hdb : (x == ("__debug__" : Str)) = false) (hcd : (x == ("__classdict__" : Str)) = false)
   (hF : ∀ j, ok j = true → ∃ CX fd ps lv, FnOk X.prog X.w X.K X.mg X.base CX lv (k.fa j) fd ps (spOf k (ar.getD j 0) (φ j)) ∧ Room lv X.A ∧ Binds X.K fd ps [] ∧ PySem.W.keepIn X.K (.ref (k.fa j)) = true ∧ ∀ σ, PassesAt CX X σ (WE W σ))
   (ha : DA X k W (e :: es) mas) (hs : ∀ q ∈ e :: es, ∀ x p, q ≠ .Starred x p) : DE X k W (.Call (.Name x p) (e :: es) [] pos) (dCallL ar ok φ i mas) := by
 refine ⟨fun pins s σ H Q I0 ⟨P, w, env, S, I, h⟩ => ?_⟩
 unfold dCallL at h
 split at h
 · rename_i j ej
   by_cases hj : ok j = true
   · rw [if_pos hj] at h
     obtain ⟨v, ev, rv⟩ := I.val i _ ej
     have rv : v = .ref (k.fa j) := rv
     subst rv
     obtain ⟨CX, fd, ps, lv, F, hr, hb, hkp, pa⟩ := hF j hj
     refine wpAny_Call_Name_kw (thn ((pe_var (pos := p) hN hv hdb hcd).run pins s σ H (fun v H1 => v = .ref (k.fa j) ∧ H1 = H) I0 ⟨_, ev, rfl, rfl⟩) fun u s1 ⟨v, H1, I1, r1, q1⟩ => ?_)
     obtain ⟨rfl, rfl⟩ := q1
     cases r1
     refine PySem.W.callWith_K (h₀ := X.base) I0.ok.mod.kin hkp (thn (ha.run pos pins s1 σ _ (fun vs H2 => spOf k (ar.getD j 0) (φ j) vs H2 Q (WE W σ)) I1 (thenA I h fun ds w2 env2 S2 vs H2 l2 I2 r2 h2 => ?_)) fun us s2 ⟨vs, H2, I2, r, q⟩ => ⟨I2.kIn, ?_⟩) (star1 e (hs e List.mem_cons_self) es _) (star_false es (fun q hq => hs q (List.mem_cons_of_mem _ hq)) _ _)
     · obtain ⟨hn, h2⟩ := if_ok h2
       exact call_sp I2 r2 hn h2
     · exact run_fnD F hr hb (pa σ) I2 r q
   · rw [if_neg hj] at h; exact h.elim
 · exact h.elim
end L2.MP
end
section
namespace L2.MP
open PySem PySem.Spec PyProof.Rows
def code (x : Str) : Nat := x.cps.toList.foldl (fun a c => (a * 1000003 + c) % 2305843009213693951) 7
def tabGo (c : Nat) (x : Str) : Tab → Option Nd
 | [] => none
 | (h, y, n) :: r => if h == c then (if x = y then some n else tabGo c x r) else tabGo c x r
def tabAt (t : Tab) (x : Str) : Option Nd := tabGo (code x) x t
theorem tabGo_mem {c : Nat} {x : Str} {n : Nd} : ∀ {t : Tab}, tabGo c x t = some n → ∃ h, (h, x, n) ∈ t
 | [], e => by cases e
 | (h, y, m) :: r, e => by
   unfold tabGo at e
   split at e
   · split at e
     · rename_i hx
       cases e; subst hx
       exact ⟨h, List.mem_cons_self⟩
     · obtain ⟨h', q⟩ := tabGo_mem e
       exact ⟨h', List.mem_cons_of_mem _ q⟩
   · obtain ⟨h', q⟩ := tabGo_mem e
     exact ⟨h', List.mem_cons_of_mem _ q⟩
theorem tabAt_mem {x : Str} {n : Nd} {t : Tab} (e : tabAt t x = some n) : ∃ h, (h, x, n) ∈ t := tabGo_mem e
def lkGo {α : Type} (c : Nat) (x : Str) : List (Nat × Str × α) → Option α
 | [] => none
 | (h, y, n) :: r => if h == c then (if x = y then some n else lkGo c x r) else lkGo c x r
def lkAt {α : Type} (t : List (Nat × Str × α)) (x : Str) : Option α := lkGo (code x) x t
theorem lkGo_mem {α : Type} {c : Nat} {x : Str} {n : α} : ∀ {t : List (Nat × Str × α)}, lkGo c x t = some n → ∃ h, (h, x, n) ∈ t
 | [], e => by cases e
 | (h, y, m) :: r, e => by
   unfold lkGo at e
   split at e
   · split at e
     · rename_i hx
       cases e; subst hx
       exact ⟨h, List.mem_cons_self⟩
     · obtain ⟨h', q⟩ := lkGo_mem e
       exact ⟨h', List.mem_cons_of_mem _ q⟩
   · obtain ⟨h', q⟩ := lkGo_mem e
     exact ⟨h', List.mem_cons_of_mem _ q⟩
theorem lkAt_mem {α : Type} {x : Str} {n : α} {t : List (Nat × Str × α)} (e : lkAt t x = some n) : ∃ h, (h, x, n) ∈ t := lkGo_mem e
def notStar : Expr → Bool
 | .Starred .. => false
 | _ => true
theorem notStar_ok {e : Expr} (h : notStar e = true) : ∀ x p, e ≠ .Starred x p := by
 intro x p z; subst z; cases h
theorem notStars_ok {es : List Expr} (h : es.all notStar = true) : ∀ e ∈ es, ∀ x p, e ≠ .Starred x p := fun e he => notStar_ok (List.all_eq_true.mp h e he)
def notC0 : Expr → Bool
 | .Call (.Name _ _) [] [] _ => false
 | _ => true
theorem ab_ok {o : Expr} {f : Str} {env : Env} (h : notC0 o = true) : attributeBase o f env (eval o env) = eval o env := by
 unfold attributeBase
 split
 · cases h
 · rfl
theorem back_all (pos : Pos) (env : Env) : ∀ es : List Expr, (∀ e ∈ es, ∀ x p, e ≠ .Starred x p) → (backTo pos (starEach es env)).all (fun x => !x.1) = true ∧ (backTo pos (starEach es env)).length = es.length
 | [], _ => ⟨rfl, rfl⟩
 | e :: es, h => by
   rw [star1 e (h e List.mem_cons_self) es env]
   obtain ⟨h1, h2⟩ := back_all pos env es fun x hx => h x (List.mem_cons_of_mem _ hx)
   unfold backTo at *
   exact ⟨by simpa using h1, by simpa using h2⟩
theorem few_ok {e : Expr} {es : List Expr} {pos : Pos} {env : Env} (h3 : ∀ q ∈ e :: es, ∀ x p, q ≠ .Starred x p) (h4 : (e :: es).length < 20) : ((backTo pos (starEach (e :: es) env)).all (fun x => !x.1) && (backToKw pos (keywordEach [] env)).all (fun x => x.1.isSome)
     && decide ((e :: es).length + ([] : List Keyword).length + (if ([] : List Keyword).isEmpty then 0 else 1) < 30)) = true := by
 rw [(back_all pos env (e :: es) h3).1]
 show (true && true && decide ((e :: es).length + 0 + 0 < 30)) = true
 rw [decide_eq_true (by omega)]; rfl
theorem meth_ok {o : Expr} {es : List Expr} {m : Str} {apos pos : Pos} {env : Env} (h1 : notC0 o = true) (h2 : (apos.endLine == pos.line) = true) (h3 : ∀ e ∈ es, ∀ x p, e ≠ .Starred x p) (h4 : es.length < 20) : eval (.Call (.Attribute o m apos) es [] pos) env = (do
     let ov ← eval o env
     standAt apos.atName
     let (f, first) ← holding [ov] (getMethod ov m (plainOf o env))
     callWith pos f first (backTo pos (starEach es env)) (backToKw pos (keywordEach [] env))) := by
 have hf : methodCallForm (es.length + 0) (backTo pos (starEach es env)) (backToKw pos (keywordEach [] env)) = true := by
   unfold methodCallForm
   rw [(back_all pos env es h3).1]
   show (true && true && decide (es.length + 0 + 0 < 30)) = true
   rw [decide_eq_true (by omega)]; rfl
 show (do
   let ov ← attributeBase o m env (eval o env)
   standAt apos.atName
   methodCall o m apos pos env ov (es.length + 0) (backTo pos (starEach es env)) (backToKw pos (keywordEach [] env))) = _
 rw [ab_ok h1]
 congr 1
 funext ov
 congr 1
 funext _
 exact L2.mcall_line hf h2
def plainT : Expr → Bool
 | .Call .. => true
 | .Name .. => true
 | .Attribute .. => true
 | .Subscript .. => true
 | .List .. => true
 | .ListComp .. => true
 | .BinOp .. => true
 | .Constant .. => true
 | .Tuple .. => true
 | _ => false
theorem plainT_ok {a : Expr} {env : Env} (h : plainT a = true) : ∀ whole, isTrue a env whole = (do let v ← whole; standAt a.pos; holding [v] (truthy v)) := by
 cases a <;> first | (intro _; rfl) | cases h
def plainIx : Expr → Bool
 | .Slice .. => false
 | .Tuple .. => false
 | _ => true
theorem plainIx_ok {b : Expr} (h : plainIx b = true) : PlainIx b := by
 intro o i
 cases b <;> first | rfl | cases h
def isCallN : Expr → Bool
 | .Call (.Name _ _) _ [] _ => true
 | _ => false
def isNe : CmpOp → Bool
 | .NotEq => true
 | _ => false
def notSet : Expr → Bool
 | .Set .. => false
 | _ => true
theorem fold_ok {e : Expr} {env : Env} (h : notSet e = true) (x : Value) : foldedSetIterable e env x = pure x := by
 cases e <;> first | rfl | cases h
theorem mark_ok {e : Expr} {op : CmpOp} (h : notSet e = true) : behindInMarks op e = false := by
 cases e <;> first | rfl | cases h
theorem marks_ok {e d : Expr} {op op' : CmpOp} (h : notSet e = true) : lastMarks [op, op'] [d, e] = false := by
 show behindInMarks op' e = false
 exact mark_ok h
def notComp : Expr → Bool
 | .ListComp .. => false
 | .SetComp .. => false
 | .DictComp .. => false
 | _ => true
theorem swap_ok {e : Expr} {env : Env} {t : Option Expr} {l : Nat} (h : notComp e = true) : swapsWith e t l env = pure false := by
 cases e <;> first | rfl | cases h
def notTup : Expr → Bool
 | .Tuple vs _ _ => vs.all (foldedForSure 8)
 | _ => true
theorem stores_ok {tg e : Expr} {env : Env} (h : notTup e = true) : swappedStores [tg] e env = pure none := by
 unfold swappedStores
 cases tg <;> cases e <;> first | rfl | skip
 all_goals
   rename_i vs _ _
   have h : vs.all (foldedForSure 8) = true := h
   dsimp only
   rw [h]
   repeat' split
   all_goals first | rfl | contradiction
theorem stores_ok2 {e o i : Expr} {p : Pos} {env : Env} : swappedStores [.Subscript o i p] e env = pure none := by
 cases e <;> rfl
def isTg : Expr → Bool
 | .Name .. => true
 | .Tuple .. => true
 | _ => false
theorem aeach_ok {e : Expr} {es : List Expr} {env : Env} (h : isTg e = true) : (assignEach (e :: es) env).map (·.2) = assign e env :: (assignEach es env).map (·.2) := by
 cases e <;> first | rfl | cases h
theorem aeach_one {e : Expr} {env : Env} (h : isTg e = true) : (assignEach [e] env).map (·.2) = [assign e env] := by
 cases e <;> first | rfl | cases h
theorem aeach_len : ∀ {es : List Expr} {env : Env}, es.all isTg = true → (assignEach es env).length = es.length ∧ (assignEach es env).findIdx? (·.1) = none
 | [], env, _ => ⟨rfl, rfl⟩
 | e :: es, env, h => by
   rw [List.all_cons, Bool.and_eq_true] at h
   obtain ⟨h1, h2⟩ := aeach_len (env := env) h.2
   cases e <;> first | cases h.1 | skip
   · exact ⟨by show _ + 1 = _; rw [h1]; rfl, by show List.findIdx? _ ((false, _) :: _) = none; rw [List.findIdx?_cons]; simp [h2]⟩
   · exact ⟨by show _ + 1 = _; rw [h1]; rfl, by show List.findIdx? _ ((false, _) :: _) = none; rw [List.findIdx?_cons]; simp [h2]⟩
structure Den where
 E : Ct → Expr → M D
 O : Ct → Expr → M D
 F : Ct → Expr → M Cell
 T : Ct → Expr → M Bool
 S : Ct → Stmt → M Flo
def hotI (G : Gm) (i : Nat) : Bool := G.hotD.contains i
def isXD (G : Gm) (i : Nat) : Bool := G.hotD.contains (i + 100000)
def isHF (G : Gm) (i : Nat) : Bool := G.hotD.contains (i + 200000)
def okW (G : Gm) (C : Ct) (i : Nat) : Bool := (C.wide || !hotI G i) && !isXD G i
def Den.none : Den := ⟨fun _ _ => M.fail, fun _ _ => M.fail, fun _ _ => M.fail, fun _ _ => M.fail, fun _ _ => M.fail⟩
section
variable (G : Gm) (φ : Nat → Fn) (d : Den) (C : Ct)
def nameE (x : Str) : M D := match tabAt C.tab x with
 | some (.loc i) => dVar i
 | some (.frv i) => dVar i
 | some (.glo (.con j)) => M.opt G.con[j]?
 | some (.glo (.fn i)) => if C.hot || isXD G i then M.fail else M.ret (.fn i)
 | _ => M.fail
def nameO (x : Str) : M D := match tabAt C.tab x with
 | some (.loc i) => dPeek i
 | some (.frv i) => dPeek i
 | some (.glo (.con j)) => M.opt G.con[j]?
 | _ => M.fail
def opF : Operator → Option (D → D → Option D)
 | .Add => some addD
 | .Sub => some subD
 | .Mult => some mulD
 | .FloorDiv => some fdivD
 | .Mod => some modD
 | .Pow => some powD
 | _ => none
def cmF : CmpOp → Option (D → D → Option D)
 | .Eq => some (cmpEq false)
 | .NotEq => some (cmpEq true)
 | .Lt => some ltD
 | .LtE => some leD
 | .Gt => some gtD
 | .GtE => some geD
 | .In => some (inF false)
 | .NotIn => some (inF true)
 | .Is => some (isD false)
 | .IsNot => some (isD true)
def tabE (e : Expr) : Option (List (Str × D)) := match e with
 | .Name y _ => (match tabAt C.tab y with
   | some (.glo (.tab j)) => G.tb[j]?
   | _ => none)
 | _ => none
def boolE (op : BoolOp) : List Expr → M D
 | [] => M.fail
 | [a] => d.E C a
 | a :: b :: r => match op with
   | .And => dAnd (d.E C a) (boolE op (b :: r))
   | .Or => (match b with
     | .Tuple _ _ _ => dOrV (d.E C a) (boolE op (b :: r))
     | _ => dOr (d.E C a) (boolE op (b :: r)))
def boolT (op : BoolOp) : List Expr → M Bool
 | [] => M.fail
 | [a] => d.T C a
 | a :: b :: r => match op with
   | .And => dAndT (d.T C a) (boolT op (b :: r))
   | .Or => dOrT (d.T C a) (boolT op (b :: r))
def bfF : Blt → Option (D → Option Cell)
 | .list => some listF
 | .sorted => some sortedF
 | .dict => some dictF
 | _ => none
def isF : Expr → Bool
 | .List .. => true
 | .ListComp .. => true
 | .Dict .. => true
 | .Subscript _ (.Slice _ _ none _) _ => true
 | .Call (.Name x _) _ _ _ => (match tabAt C.tab x with
   | some (.glo (.blt b)) => (bfF b).isSome
   | _ => false)
 | _ => false
def argE (e : Expr) : M D := if C.ahp && isF C e then dHp (d.F C e) else d.E C e
def argsE (es : List Expr) : M (List D) := if es.all notStar then dArgs (es.map (argE d C)) else M.fail
def setArg (e : Expr) : Option Expr := match e with
 | .Call (.Name y _) [a] [] _ => (match tabAt C.tab y with
   | some (.glo (.blt .set)) => if notStar a then some a else none
   | _ => none)
 | _ => none
def rgArg (e : Expr) : Option Expr := match e with
 | .Call (.Name y _) [a] [] _ => (match tabAt C.tab y with
   | some (.glo (.blt .range)) => if notStar a then some a else none
   | _ => none)
 | _ => none
def tupRgE (b : Blt) (e : Expr) : Option Expr := match b with
 | .tuple => rgArg C e
 | _ => none
def b1F : Blt → Option (D → Option D)
 | .len => some lenD
 | .int => some intD
 | .str => some strD
 | .all => some allD
 | .any => some anyD
 | .sum => some sumD
 | .min => some minD
 | .max => some maxD
 | .tuple => some tupleD
 | _ => none
def b2F : Blt → Option (D → D → Option D)
 | .min => some min2D
 | .max => some max2D
 | _ => none
def tyN : Blt → Option String
 | .bool => some "bool"
 | .int => some "int"
 | .str => some "str"
 | .tuple => some "tuple"
 | .list => some "list"
 | .dict => some "dict"
 | _ => none
def typesE : List Expr → Option (List String)
 | [] => some []
 | .Name t _ :: es => (match tabAt C.tab t with
   | some (.glo (.blt b)) => (match tyN b, typesE es with
     | some T, some Ts => some (T :: Ts)
     | _, _ => none)
   | _ => none)
 | _ :: _ => none
def xcE (e : Expr) : Option (Option Nat) := match e with
 | .Name t _ => (match tabAt C.tab t with
   | some (.glo (.xcl c)) => some (some c)
   | some (.glo (.blt .verr)) => some none
   | _ => none)
 | _ => none
def xcGo : List Expr → Option (List (Option Nat))
 | [] => some []
 | e :: es => match xcE C e, xcGo es with
   | some c, some cs => some (c :: cs)
   | _, _ => none
def xcsE (e : Expr) : Option (List (Option Nat)) := match e with
 | .Tuple es _ _ => xcGo C es
 | e => (xcE C e).map fun c => [c]
def slE (e : Expr) : Option Nat := match e with
 | .Name y _ => (match tabAt C.tab y with
   | some (.loc i) => some i
   | _ => none)
 | _ => none
def bltE (b : Blt) (es : List Expr) : M D := match es with
 | [a] => (match setArg C a with
   | some a2 => if C.hot then M.fail else (match b with
     | .len => dOp1 lsetD (d.O C a2)
     | .sorted => dFz (dOpF1 ssetF (d.O C a2))
     | _ => M.fail)
   | none => match tupRgE C b a with
   | some a2 => if C.hot then M.fail else dTupRg (d.E C a2)
   | none => if notStar a then (match b1F b with
   | some f => dOp1 f (d.O C a)
   | none => match bfF b with
     | some f => dFz (dOpF1 f (d.O C a))
     | none => M.fail) else M.fail)
 | [a, c] => if notStar a && notStar c then (match b with
   | .isinstance => (match xcsE C c, slE C a with
    | some cs, some i => if cs.length ≤ sizeLine then dIsX G.xcs i cs else M.fail
    | _, _ => match c with
     | .Name t _ => (match tabAt C.tab t with
       | some (.glo (.blt b2)) => (match tyN b2 with
         | some T => dOp1 (isiD T) (d.O C a)
         | none => M.fail)
       | _ => M.fail)
     | .Tuple ts _ _ => (match typesE C ts with
       | some Ts => if Ts.length ≤ sizeLine then dOp1 (isiTD Ts) (d.O C a) else M.fail
       | none => M.fail)
     | _ => M.fail)
   | _ => match b2F b with
     | some f => dOp2 f (d.O C a) (d.O C c)
     | none => M.fail) else M.fail
 | _ => M.fail
def fnE (i : Nat) (es : List Expr) : M D := M.bind (argsE d C es) fun ds => if ds.length = G.ar.getD i 0 then (fun env S => (φ i ds S).out env) else M.fail
def clsE (c i : Nat) (es : List Expr) : M D := dMake c (G.ar.getD i 0) (φ i) (argsE d C es)
def mutF : Mn → Nat → Option (Cell → List D → Option (Cell × D))
 | .append, 1 => some appF
 | .pop, 0 => some popF
 | .pop, 1 => some popAtF
 | .extend, 1 => some extF
 | .reverse, 0 => some revF
 | .insert, 2 => some insF
 | _, _ => none
def s0F : Mn → Option (Str → Option D)
 | .upper => some upperD
 | .lower => some lowerD
 | .isdigit => some isdigitD
 | .strip => some stripD
 | _ => none
def s1F : Mn → Option (Str → D → Option D)
 | .join => some joinD
 | .split => some splitD
 | .partition => some partD
 | .count => some countD
 | .find => some findD
 | .startswith => some startsD
 | .endswith => some endsD
 | _ => none
def textE (mn : Mn) (o : Expr) (es : List Expr) : M D := match es with
 | [] => (match s0F mn with
   | some f => dSm0 f (d.O C o)
   | none => M.fail)
 | [a] => (match s1F mn with
   | some f => dSm1 f (d.O C o) (d.O C a)
   | none => M.fail)
 | _ => M.fail
def methE (m : Str) (o : Expr) (es : List Expr) (apos pos : Pos) : M D :=
 if notC0 o && ((apos.endLine == pos.line) && (es.all notStar && decide (es.length < 20))) then
   (match lkAt G.mth m with
   | some (.own l) => if !C.hot && l.all (fun p => okW G C p.2) then dMeths G φ l m (d.E C o) (argsE d C es) else M.fail
   | some mn => (match mutF mn es.length with
     | some f => dMut f (d.O C o) (argsE d C es)
     | none => (match mn, es with
       | .index, [a] => dLm1 idxF (d.O C o) (d.O C a)
       | .get, [a] => dGet1 (d.O C o) (d.O C a)
       | .get, [a, b] => dGet2 (d.O C o) (d.O C a) (d.E C b)
       | .count, [a] => dCount (d.O C o) (d.O C a)
       | .clear, [] => dClr (d.O C o)
       | _, _ => textE d C mn o es))
   | none => M.fail)
 else M.fail
def hotB : Blt → Bool
 | .isinstance => true
 | .int => true
 | .str => true
 | .len => true
 | _ => false
def callX (i : Nat) (es : List Expr) : M D := match es with
 | [.Name y _] => (match tabAt C.tab y with
   | some (.loc j) => if C.top && isXD G i then dCallX (φ i) j else M.fail
   | _ => M.fail)
 | _ => M.fail
def callE (f : Expr) (es : List Expr) (kws : List Keyword) (pos : Pos) : M D := match kws with
 | [] => (match f with
   | .Name x _ => (match tabAt C.tab x with
     | some (.glo (.blt b)) => if !C.hot || hotB b then bltE G d C b es else M.fail
     | some (.glo (.fn i)) => if C.hot then callX G φ C i es else if okW G C i then fnE G φ d C i es else M.fail
     | some (.loc j) => if !C.hot && (es.all notStar && !es.isEmpty) then dCallL G.ar (fun i => isHF G i && okW G C i) φ j (argsE d C es) else M.fail
     | some (.glo (.cls c i)) => if !C.hot && okW G C i then clsE G φ d C c i es else M.fail
     | _ => M.fail)
   | .Attribute o m apos => methE G φ d C m o es apos pos
   | _ => M.fail)
 | [⟨some q, b, _⟩] => (match f, es with
   | .Name x _, [a] => (match tabAt C.tab x with
     | some (.glo (.blt .min)) => if !C.hot && (notStar a && decide (q = "default")) then dOp2 minDf (d.O C a) (d.O C b) else M.fail
     | _ => M.fail)
   | _, _ => M.fail)
 | _ => M.fail
def optO : Option Expr → Option (M D)
 | none => none
 | some e => some (d.E C e)
def expE (e : Expr) : M D := match e with
 | .Constant (.int i) _ _ => M.ret (.int i)
 | .Constant (.bool b) _ _ => M.ret (.bl b)
 | .Constant .none _ _ => M.ret .non
 | .Constant (.str s) _ _ => M.ret (.str s)
 | .Name x _ => nameE G C x
 | .BinOp a op b _ => (match opF op with
   | some f => dOp2 f (d.O C a) (d.O C b)
   | none => M.fail)
 | .UnaryOp op a _ => (match op with
   | .Not => dNot (d.E C a)
   | .USub => dOp1 negD (d.O C a)
   | _ => M.fail)
 | .BoolOp op es _ => boolE d C op es
 | .Compare a ops bs _ => (match ops, bs with
   | [op], [b] => (match tabE G C b with
     | some t => (match op with
       | .In => dOp1 (tabInD t) (d.O C a)
       | _ => M.fail)
     | none => if notSet b then (match cmF op with
     | some f => dOp2 f (d.O C a) (d.O C b)
     | none => M.fail) else M.fail)
   | [op, op'], [b, c] => if notSet c then (match cmF op, cmF op' with
     | some f, some g => dChain f g (d.O C a) (d.O C b) (d.O C c)
     | _, _ => M.fail) else M.fail
   | _, _ => M.fail)
 | .IfExp c a b _ => dIf (d.T C c) (d.E C a) (d.E C b)
 | .Subscript a i _ => (match i with
   | .Slice lo hi none _ => dSl (d.O C a) (optO d C lo) (optO d C hi)
   | .Slice none none (some (.UnaryOp .USub (.Constant (.int 1) _ _) _)) _ => dOp1 revD (d.O C a)
   | .Slice none none (some st) _ => dStp (d.O C a) (d.E C st)
   | i => if plainIx i then (match tabE G C a with
     | some t => dOp1 (tabIxD t) (d.O C i)
     | none => dOp2 ixD (d.O C a) (d.O C i)) else M.fail)
 | .Attribute o f _ => if C.hot then (match o with
   | .Name y _ => (match tabAt C.tab y with
     | some (.loc i) => dXf G.xcs G.xfl i f
     | _ => M.fail)
   | _ => M.fail) else if notC0 o then (match lkAt G.fld f with
   | some cs => dFld cs f (d.E C o)
   | none => M.fail) else M.fail
 | .Tuple es _ _ => dTup (argsE d C es)
 | .List _ _ => dFz (d.F C e)
 | .ListComp _ _ _ _ => dFz (d.F C e)
 | .Dict _ _ _ => dFz (d.F C e)
 | .Call f es kws pos => callE G φ d C f es kws pos
 | _ => M.fail
def expO (e : Expr) : M D := match e with
 | .Name x _ => nameO G C x
 | e => expE G φ d C e
def expT (e : Expr) : M Bool := match e with
 | .UnaryOp .Not a _ => dNotT (d.T C a)
 | .BoolOp op es _ => boolT d C op es
 | .Compare a ops bs _ => (match ops, bs with
   | [op], [b] => (match tabE G C b with
     | some t => (match op with
       | .In => dBl (dOp1 (tabInD t) (d.O C a))
       | _ => M.fail)
     | none => if notSet b then (if C.ahp && (isCallN a && (isCallN b && isNe op)) then dBl (dOpV (d.O C a) (d.O C b)) else (match cmF op with
     | some f => dBl (dOp2 f (d.O C a) (d.O C b))
     | none => M.fail)) else M.fail)
   | [op, op'], [b, c] => if notSet c then (match cmF op, cmF op' with
     | some f, some g => dBl (dChain f g (d.O C a) (d.O C b) (d.O C c))
     | _, _ => M.fail) else M.fail
   | _, _ => M.fail)
 | e => if plainT e then dTru (d.O C e) else M.fail
def tgN (x : Str) : Option Nat := match tabAt C.tab x with
 | some (.loc i) => some i
 | _ => none
def tgD : Nat → Expr → Option (Tgt × List Nat)
 | 0, _ => none
 | n + 1, e => match e with
   | .Name x _ => (tgN C x).map fun i => (gNm i, [i])
   | .Tuple es _ _ => if C.hot then none else (go n es).map fun r => (gTp r.1, r.2)
   | _ => none
where go : Nat → List Expr → Option (List Tgt × List Nat)
 | _, [] => some ([], [])
 | n, e :: es => match tgD n e, go n es with
   | some a, some b => some (a.1 :: b.1, a.2 ++ b.2)
   | _, _ => none
def itE (tg e : Expr) : M Src := match e with
 | .Call (.Name x p) es [] pos => (match tabAt C.tab x with
   | some (.glo (.blt .range)) => (match es with
     | [a] => if notStar a then dRng1 (d.E C a) else M.fail
     | [a, b] => if notStar a && notStar b then dRng2 (d.E C a) (d.E C b) else M.fail
     | _ => M.fail)
   | some (.glo (.blt .enumerate)) => (match tg, es with
     | .Tuple _ _ _, [a] => if notStar a then dEnum (d.E C a) else M.fail
     | _, _ => M.fail)
   | some (.glo (.blt .zip)) => (match tg, es with
     | .Tuple _ _ _, [a, b] => if notStar a && notStar b then dZip (d.E C a) (d.E C b) else M.fail
     | _, _ => M.fail)
   | _ => dWalk (d.E C e))
 | e => dWalk (d.E C e)
def slotOf : Nd → Option Nat
 | .loc i => some i
 | .frv i => some i
 | .slo i => some i
 | _ => none
def gloOf : Nd → Option Gd
 | .glo g => some g
 | .bgl g => some g
 | _ => none
def inner (n : Nd) : Option Nd := match slotOf n with
 | some i => some (.slo i)
 | none => (gloOf n).map .bgl
def blkTab (names : List (Str × NameKind)) : Tab := (names.filterMap fun y => match y.2, tabAt C.tab y.1 with
 | .local, some n => (slotOf n).map fun i => (code y.1, y.1, .loc i)
 | .cell, some n => (slotOf n).map fun i => (code y.1, y.1, .loc i)
 | .free, some n => (slotOf n).map fun i => (code y.1, y.1, .frv i)
 | .globalImplicit, some n => (gloOf n).map fun g => (code y.1, y.1, .glo g)
 | _, _ => none) ++ C.tab.filterMap fun e => (inner e.2.2).map fun n => (e.1, e.2.1, n)
def blkOwn (names : List (Str × NameKind)) : List (Str × Nat) := names.filterMap fun y => match y.2, tabAt C.tab y.1 with
 | .local, some n => (slotOf n).map fun i => (y.1, i)
 | .cell, some n => (slotOf n).map fun i => (y.1, i)
 | _, _ => none
def blkCt (scope : Scope) : Ct := ⟨C.N, relS scope C.sc, some scope, blkTab C scope.names, [], [], false, C.dtt, C.ahp, C.hot, false, false⟩
def ifsT (C : Ct) : List Expr → M Bool
 | [] => M.ret true
 | [c] => d.T C c
 | _ => M.fail
def tgX (C : Ct) (e : Expr) : Option (Tgt × List Nat) := match e with
 | .Tuple es _ _ => (tgD.go C 4 es).map fun r => (gTp r.1, r.2)
 | _ => none
def itX (e : Expr) : M Src := match e with
 | .Call (.Name x _) [a, b] [] _ => (match tabAt C.tab x with
   | some (.glo (.blt .zip)) => if notStar a && notStar b then dZipL (d.E C a) (d.E C b) else M.fail
   | _ => M.fail)
 | _ => M.fail
def compX (elt tg it : Expr) (ifs : List Expr) (scope : Scope) : M Cell :=
 if C.top && (blkC C.N C.sc scope (blkOwn C scope.names) && notSet it) then
   (match tgX (blkCt C scope) tg with
   | some (g, vs) => if vs.all (fun i => decide (i ∈ (blkOwn C scope.names).map (·.2))) then dUnX (dComp (itX d C it) g (ifsT d (blkCt C scope) ifs) (d.E (blkCt C scope) elt) ((blkOwn C scope.names).map (·.2))) else M.fail
   | none => M.fail)
 else M.fail
def compF (elt tg it : Expr) (ifs : List Expr) (scope : Scope) : M Cell :=
 if C.hot then compX d C elt tg it ifs scope else
 if (blkC C.N C.sc scope (blkOwn C scope.names) && notSet it) then
   (match tgD (blkCt C scope) 5 tg with
   | some (g, vs) => if vs.all (fun i => decide (i ∈ (blkOwn C scope.names).map (·.2))) then dComp (itE d C tg it) g (ifsT d (blkCt C scope) ifs) (d.E (blkCt C scope) elt) ((blkOwn C scope.names).map (·.2)) else M.fail
   | none => M.fail)
 else M.fail
def pairsE : List (Option Expr) → List Expr → List (M D × M D)
 | some a :: ks, b :: vs => (d.E C a, argE d C b) :: pairsE ks vs
 | _, _ => []
def dispF (ks : List (Option Expr)) (vs : List Expr) : M Cell := match ks, vs with
 | [], [] => if C.dtt then M.ret (.dt [] []) else M.ret (.dk [] [])
 | _, _ => if ks.all (·.isSome) && (decide (ks.length = vs.length) && (!ks.isEmpty && decide (ks.length ≤ 15))) then dDisp (pairsE d C ks vs) else M.fail
def expF (e : Expr) : M Cell := match e with
 | .List es _ => dLst (argsE d C es)
 | .Dict ks vs _ => dispF d C ks vs
 | .ListComp elt gens scope _ => (match gens with
   | [⟨tg, it, ifs, 0⟩] => compF d C elt tg it ifs scope
   | _ => M.fail)
 | .Subscript a (.Slice lo hi none _) _ => dSlF (d.O C a) (optO d C lo) (optO d C hi)
 | .Call (.Name x _) [a] [] _ => if C.hot then M.fail else (match tabAt C.tab x with
   | some (.glo (.blt b)) => (match setArg C a with
     | some a2 => (match b with
       | .sorted => dOpF1 ssetF (d.O C a2)
       | _ => M.fail)
     | none => match bfF b with
     | some f => if notStar a then dOpF1 f (d.O C a) else M.fail
     | none => M.fail)
   | _ => M.fail)
 | .BinOp a .Add b _ => dOpF2 catF (d.O C a) (d.O C b)
 | _ => M.fail
def isF2 : Expr → Bool
 | .BinOp _ .Add _ _ => true
 | e => isF C e
def seqS : List Stmt → M Flo
 | [] => M.ret .nx
 | [s] => d.S C s
 | s :: r => dSeq (d.S C s) (seqS r)
def setE (i : Nat) (f : Bool) (me : M D) (mf : M Cell) : M Flo := if C.hp.contains i then dSetHp i mf else if C.own.contains i && f then dSetOwn i mf else dSet i me
def asgS (tg e : Expr) (pos : Pos) : M Flo := match tg with
 | .Name x p => (match tgN C x with
   | some i => (match e with
     | .ListComp elt gens scope epos => (match gens with
       | [⟨t, it, ifs, 0⟩] => setE C i true (dFz (compF d C elt t it ifs scope)) (compF d C elt t it ifs scope)
       | _ => M.fail)
     | e => if notComp e then setE C i (isF2 C e) (d.E C e) (d.F C e) else M.fail)
   | none => M.fail)
 | .Tuple es k p => if notTup e && (notComp e && es.all isTg) then (match tgD C 5 tg with
   | some (g, _) => dAsg g (d.E C e)
   | none => M.fail) else M.fail
 | .Subscript o i p => if notComp e && plainIx i then dSetIx (d.E C e) (d.O C o) (d.O C i) else M.fail
 | .Attribute o f p => if notComp e then (match lkAt G.fld f with
   | some cs => if isF C e then dSetFldF cs f (d.E C o) (d.F C e) else dSetFld cs f (d.E C o) (d.E C e)
   | none => M.fail) else M.fail
 | _ => M.fail
def augF : Operator → Option (Int → Int → Int)
 | .Add => some fun i j => i + j
 | .Sub => some fun i j => i - j
 | _ => none
def raiseS (e : Expr) : M Flo := if C.hot then M.fail else match e with
 | .Call (.Name x _) [.Constant (.str _) _ _] [] _ => (match tabAt C.tab x with
   | some (.glo (.xcl c)) => if (G.xin.lookup c).isNone then dRaise0 c else M.fail
   | _ => M.fail)
 | .Call (.Name x _) [.Constant (.str _) _ _, e] [] _ => (match tabAt C.tab x with
   | some (.glo (.xcl c)) => (match G.xin.lookup c with
     | some f => if notStar e then dRaise1 c f (d.E C e) else M.fail
     | none => M.fail)
   | _ => M.fail)
 | _ => M.fail
def Ct.heat (C : Ct) : Ct := { C with hot := true, top := false }
def Ct.heatX (C : Ct) : Ct := { C with hot := true, top := true }
def Ct.deep (C : Ct) : Ct := { C with wide := true, top := false }
def Ct.cold (C : Ct) : Ct := { C with wide := false, top := false }
def isR : List Stmt → Bool
 | [.Raise _ _ _] => true
 | _ => false
def rSuite : List Stmt → M Flo
 | [.Raise (some (.Call (.Name x _) [.Constant (.str _) _ _, e] [] _)) none _] => (match tabAt C.tab x with
   | some (.glo (.xcl c)) => (match G.xin.lookup c with
     | some f => if notStar e then dRaise1 c f (d.E C.heat e) else M.fail
     | none => M.fail)
   | _ => M.fail)
 | _ => M.fail
def hasXe (G : Gm) (C : Ct) : Expr → Bool
 | .Call (.Name x _) [.Name _ _] _ _ => (match tabAt C.tab x with
   | some (.glo (.fn i)) => isXD G i
   | _ => false)
 | .Tuple es _ _ => hasXs es
 | _ => false
where hasXs : List Expr → Bool
 | [] => false
 | e :: es => hasXe G C e || hasXs es
def hasX (G : Gm) (C : Ct) : List Stmt → Bool
 | [] => false
 | .Assign _ e _ :: r => hasXe G C e || hasX G C r
 | .Return (some e) _ :: r => hasXe G C e || hasX G C r
 | _ :: r => hasX G C r
def tryS (a : List Stmt) (x : Str) (n : Option Str) (s : List Stmt) : M Flo := if C.hot then M.fail else match tabAt C.tab x with
 | some (.glo (.xcl c)) => (match n with
   | none => if isR s then (if C.top then (if C.wide then dTryR G.xcs c (seqS d C.cold a) (rSuite G d C s) else noX (seqS d C.cold a)) else M.fail) else if C.wide then dTryN G.xcs c (seqS d C.deep a) (seqS d C.heat s) else dTryN G.xcs c (seqS d C.cold a) (seqS d C.heat s)
   | some y => match tabAt C.tab y with
     | some (.loc i) => if (C.sc.names.lookup y == some .local) then (if hasX G C s then dTryE G.xcs c i (seqS d C.cold a) (seqS d C.heatX s) else if C.wide then dTryE G.xcs c i (seqS d C.deep a) (seqS d C.heat s) else dTryE G.xcs c i (seqS d C.cold a) (seqS d C.heat s)) else M.fail
     | _ => M.fail)
 | _ => M.fail
def stmS (s : Stmt) : M Flo := match s with
 | .Raise (some e) none _ => raiseS G d C e
 | .Try a [.ExceptHandler (some (.Name x _)) n (b :: s) _] [] [] _ => tryS G d C a x n (b :: s)
 | .Pass _ => M.ret .nx
 | .Break _ => M.ret .bk
 | .Continue _ => M.ret .ct
 | .Expr e _ => if notComp e then dExpr (d.E C e) else M.fail
 | .Return none _ => M.ret (.rt .non)
 | .Return (some e) _ => if C.retHp && isF C e then dRetHp (d.F C e) else dRet (d.E C e)
 | .If c a b _ => dIf (d.T C c) (seqS d C a) (seqS d C b)
 | .While c a [] _ => dWhile (d.T C c) (seqS d C a) G.fuel
 | .For tg it a [] _ => if !C.hot && notSet it then (match tgD C 5 tg with
   | some (g, _) => dFor (itE d C tg it) g (seqS d C a)
   | none => M.fail) else M.fail
 | .Assign [tg] e pos => asgS G d C tg e pos
 | .AugAssign (.Subscript o i _) op e _ => if plainIx i then (match augF op with
   | some f => dAugIx f (d.O C o) (d.O C i) (d.E C e)
   | none => M.fail) else M.fail
 | _ => M.fail
end
def den (G : Gm) (φ : Nat → Fn) : Nat → Den
 | 0 => Den.none
 | n + 1 => ⟨expE G φ (den G φ n), expO G φ (den G φ n), expF (den G φ n), expT G (den G φ n), stmS G (den G φ n)⟩
end L2.MP
end
section
namespace L2.MP
open PySem PySem.Spec PyProof.Rows
def FnHas (X : Cx) (k : Ky) (G : Gm) (φ : Nat → Fn) (i : Nat) (f : Addr) : Prop :=
 ∃ fd ps lv, (isXD G i = false → FnOk X.prog X.w X.K X.mg X.base (CXw (hotI G i) X.prog X.w) lv f fd ps (spOf k (G.ar.getD i 0) (φ i))) ∧ Room (lv + 1) X.A ∧ Binds X.K fd ps []
def FnXHas (X : Cx) (k : Ky) (φ : Nat → Fn) (i : Nat) (f : Addr) : Prop :=
 ∃ fd ps lv, L2H.FnX X.prog X.w X.K X.mg X.base lv f fd ps (spX k (φ i)) ∧ L2H.RoomH lv X.A ∧ Binds X.K fd ps []
def TabOk (X : Cx) (k : Ky) (x : Str) (t : List (Str × D)) : Prop := ∃ a es n, X.mg x = some (.ref a) ∧ KDict X.K X.w a es n ∧ ∀ z, match lkS t z with
 | some d => ∃ u v, PySem.W.nsIn X.K a z = some (some u) ∧ RelV v u ∧ ∀ w, Rep k w d v
 | none => PySem.W.nsIn X.K a z = some none
def GdOk (X : Cx) (k : Ky) (G : Gm) (φ : Nat → Fn) (x : Str) : Gd → Prop
 | .blt b => x = b.name ∧ X.mg x = none
 | .con j => ∃ d v u, G.con[j]? = some d ∧ X.mg x = some u ∧ RelV v u ∧ ∀ w, Rep k w d v
 | .fn i => (X.calm = true → X.mg x = some (.ref (k.fa i)) ∧ PySem.W.keepIn X.K (.ref (k.fa i)) = true ∧ FnHas X k G φ i (k.fa i)) ∧ (isXD G i = true → X.mg x = some (.ref (k.fa i)) ∧ PySem.W.keepIn X.K (.ref (k.fa i)) = true ∧ FnXHas X k φ i (k.fa i))
 | .cls c i => X.calm = true → ∃ f, X.mg x = some (.ref (k.cl c)) ∧ Mk X.K (k.cl c) f ∧ FnHas X k G φ i f
 | .tab j => ∃ t, G.tb[j]? = some t ∧ TabOk X k x t
 | .xcl c => X.mg x = some (.ref (k.cl c)) ∧ PySem.W.keepIn X.K (.ref (k.cl c)) = true ∧ Raises X (.ref (k.cl c)) ∧ ((G.xin.lookup c).isNone = true → PySem.W.excIn X.K (k.cl c) [.type "ValueError", .type "Exception", .type "BaseException", .type "object"] "ValueError.__new__" = true)
def XinOk (X : Cx) (k : Ky) (c : Nat) (f : Str) : Prop := ∃ fI fd ps lv, OexC X.K (k.cl c) ∧ PySem.W.findIn X.K (.ref (k.cl c)) "__init__" = some (some (.ref fI)) ∧ PySem.W.typeIn X.K (.ref fI) = some (.type "function") ∧
 FnOk X.prog X.w X.K X.mg X.base (L2N.CX X.prog X.w) lv fI fd ps (spI (k.cl c) f) ∧ L2H.FnH X.prog X.w X.K X.mg X.base (L2N.CX X.prog X.w) lv fI fd ps (spI (k.cl c) f) ∧ Room (lv + 1) X.A ∧ Binds X.K fd ps []
def NotBad (x : Str) : Prop := (x == ("__debug__" : Str)) = false ∧ (x == ("__classdict__" : Str)) = false ∧ x ≠ "__name__"
def NdOk (X : Cx) (k : Ky) (G : Gm) (φ : Nat → Fn) (x : Str) : Nd → Prop
 | .loc i => X.N[i]? = some x ∧ Loc X.env.scope x ∧ (X.fn x = true ∨ X.env.scope.names.lookup x = some .local) ∧ NotBad x
 | .frv i => X.N[i]? = some x ∧ Vis X.env.scope x ∧ NotBad x
 | .slo i => X.N[i]? = some x ∧ NotBad x
 | .glo g => Gl X x ∧ NotBad x ∧ GdOk X k G φ x g
 | .bgl g => NotBad x ∧ GdOk X k G φ x g
def MnOk (X : Cx) (k : Ky) (G : Gm) (φ : Nat → Fn) (m : Str) : Mn → Prop
 | .own l => X.calm = true → ∀ c i, lkc l c = some i → ∃ f, Cls X.K (k.cl c) ∧ Meth X.K (k.cl c) m f ∧ FnHas X k G φ i f
 | n => m = n.name
structure Good (G : Gm) (φ : Nat → Fn) (C : Ct) (X : Cx) (k : Ky) (W : WX) : Prop where
 hk : k.K = X.K
 N : X.N = C.N
 nd : X.N.Nodup
 sc : X.env.scope = C.sc
 kind : X.env.scope.kind = .function
 fnd : C.blk = none → ∀ x, X.fn x = true
 calm : C.hot = false → X.calm = true
 stk : C.blk = none → X.stack = X.env :: X.outer ∧ X.env.frame = some X.env.locals
 su : SuX X k
 x0 : C.hot = false → k.xn = none
 xok : XcOk X.K k G.xcs G.xfl
 xin : X.calm = true → ∀ c f, (G.xin.lookup c) = some f → XinOk X k c f
 tk : TkW C.wide X W
 hx : C.hot = true → C.top = true → L2H.HotC X
 fns : X.calm = true → ∀ j, isHF G j = true → PySem.W.keepIn X.K (.ref (k.fa j)) = true ∧ FnHas X k G φ j (k.fa j)
 top : C.hot = false → C.top = true → ∀ hd : Option Value, PassesOwnAt (model X.prog X.w) (X.A.mark hd) X.A X.env X.xe
 hu : X.A.units + 65 < cLine
 tab : ∀ h x n, (h, x, n) ∈ C.tab → NdOk X k G φ x n
 fld : ∀ h f cs, (h, f, cs) ∈ G.fld → ∀ c ∈ cs, Cls X.K (k.cl c) ∧ NoAttr X.K (k.cl c) f
 mth : ∀ h m n, (h, m, n) ∈ G.mth → MnOk X k G φ m n
structure DenOk (G : Gm) (φ : Nat → Fn) (d : Den) : Prop where
 E : ∀ {C X k W}, Good G φ C X k W → ∀ e, DE X k W e (d.E C e)
 O : ∀ {C X k W}, Good G φ C X k W → ∀ e, DO X k W e (d.O C e)
 F : ∀ {C X k W}, Good G φ C X k W → ∀ e, DF X k W e (d.F C e)
 T : ∀ {C X k W}, Good G φ C X k W → ∀ e, DT X k W e (d.T C e)
 S : ∀ {C X k W}, Good G φ C X k W → C.blk = none → PassesOwn (model X.prog X.w) X.A X.env X.xe → ∀ s, DS X k W s (d.S C s)
section
variable {G : Gm} {φ : Nat → Fn} {d : Den} {C : Ct} {X : Cx} {k : Ky} {W : WX}
theorem de_no {e : Expr} : DE X k W e M.fail := ⟨fun _ _ _ _ _ _ ⟨_, _, _, _, _, h⟩ => h.elim⟩
theorem do_no {e : Expr} : DO X k W e M.fail := ⟨fun _ _ _ _ _ _ ⟨_, _, _, _, _, h⟩ => h.elim⟩
theorem df_no {e : Expr} : DF X k W e M.fail := ⟨fun _ _ _ _ _ _ ⟨_, _, _, _, _, h⟩ => h.elim⟩
theorem dt_no {e : Expr} : DT X k W e M.fail := ⟨fun _ _ _ _ _ _ ⟨_, _, _, _, _, h⟩ => h.elim⟩
theorem da_no {e : List Expr} : DA X k W e M.fail := ⟨fun _ _ _ _ _ _ _ ⟨_, _, _, _, _, h⟩ => h.elim⟩
theorem dw_no {e : Expr} : DW X k W e M.fail := ⟨fun _ _ _ _ _ _ _ ⟨_, _, _, _, _, h⟩ => h.elim⟩
theorem di_no {tg e : Expr} : DI X k W tg e M.fail := ⟨fun _ _ _ _ _ _ ⟨_, _, _, _, _, h⟩ => h.elim⟩
theorem Loc.vis {sc : Scope} {x : Str} (h : Loc sc x) : Vis sc x := h.elim .inl fun h => .inr (.inl h)
theorem con_ok {x : Str} {p : Pos} {c : Nat} (hg : Gl X x) (hb : NotBad x) (g : GdOk X k G φ x (.con c)) : DE X k W (.Name x p) (M.opt G.con[c]?) := by
 obtain ⟨d, v, u, ec, e, r, h⟩ := g
 rw [ec]
 exact PE.sub (pe_glob hg e r hb.1) fun σ H Q ⟨P, w, env, S, I, q⟩ => q.ret v H I (h w)
theorem name_ok (g : Good G φ C X k W) {x : Str} {p : Pos} : DE X k W (.Name x p) (nameE G C x) := by
 unfold nameE
 split
 · rename_i i e
   obtain ⟨h, m⟩ := tabAt_mem e
   obtain ⟨h1, h2, _, h3⟩ := g.tab _ _ _ m
   exact de_var h1 (Loc.vis h2) h3.1 h3.2.1
 · rename_i i e
   obtain ⟨h, m⟩ := tabAt_mem e
   obtain ⟨h1, h2, h3⟩ := g.tab _ _ _ m
   exact de_var h1 h2 h3.1 h3.2.1
 · rename_i c e
   obtain ⟨h, m⟩ := tabAt_mem e
   obtain ⟨h1, h2, h3⟩ := g.tab _ _ _ m
   exact con_ok h1 h2 h3
 · rename_i i e
   obtain ⟨h, m⟩ := tabAt_mem e
   obtain ⟨h1, h2, h3⟩ := g.tab _ _ _ m
   split
   · exact de_no
   · rename_i hh
     rw [Bool.or_eq_true, not_or] at hh
     obtain ⟨hm, _⟩ := h3.1 (g.calm (by simpa using hh.1))
     exact PE.sub (pe_glob h1 hm (v := .ref (k.fa i)) rfl h2.1) fun σ H Q ⟨P, w, env, S, I, q⟩ => q.ret _ H I rfl
 · exact de_no
theorem view_str {env : Envr} {S : Sto} {x : D} {z : Str} (h : view env S x = .str z) : x = .str z := by
 cases x <;> first | exact h | skip
 all_goals
   unfold view at h
   dsimp only at h
   split at h
   · rename_i c _
     cases c <;> cases h
   · cases h
theorem tabE_ok (g : Good G φ C X k W) {e : Expr} {t : List (Str × D)} (h : tabE G C e = some t) : ∃ a es n, PE X e (tC (.ref a)) ∧ notSet e = true ∧ KDict X.K X.w a es n ∧ ∀ z, match lkS t z with
   | some d => ∃ u v, PySem.W.nsIn X.K a z = some (some u) ∧ RelV v u ∧ ∀ w, Rep k w d v
   | none => PySem.W.nsIn X.K a z = some none := by
 unfold tabE at h
 split at h
 · split at h
   · rename_i et
     obtain ⟨_, m⟩ := tabAt_mem et
     obtain ⟨hg, hb, t', e1, a, es, n, hm, kd, hz⟩ := g.tab _ _ _ m
     rw [h] at e1; cases e1
     exact ⟨a, es, n, pe_glob hg hm rfl hb.1, rfl, kd, hz⟩
   · cases h
 · cases h
theorem tabIn_one {p : Addr} {t : List (Str × D)} {ma : M D} {σ : L2.St} {H : Hp} {Q : VK} (hz : ∀ z, match lkS t z with
   | some d => ∃ u v, PySem.W.nsIn X.K p z = some (some u) ∧ RelV v u ∧ ∀ w, Rep k w d v
   | none => PySem.W.nsIn X.K p z = some none) (h : tE k W (dOp1 (tabInD t) ma) σ H Q) : tOp (fun x y H Q => ∃ (z : Str) (r : Option Value), x = .str z ∧ y = .ref p ∧ PySem.W.nsIn X.K p z = some r ∧ Q (.bl r.isSome) H) (tO k W ma) (tC (.ref p)) σ H Q := by
 obtain ⟨P, w, env, S, I, h⟩ := h
 refine thenO I h fun dx w1 env1 S1 x H1 l1 I1 r1 h1 => ?_
 obtain ⟨d, e, h3⟩ := h1.getS.opt
 obtain ⟨z, ez⟩ : ∃ z, view env1 S1 dx = .str z := by
   cases q : view env1 S1 dx <;> rw [q] at e <;> first | (cases e; done) | exact ⟨_, rfl⟩
 obtain rfl := view_str ez
 cases e
 obtain rfl : x = .str z := r1
 have hz := hz z
 have hq : Q (.bl (lkS t z).isSome) H1 := h3.ret _ H1 I1 rfl
 cases el : lkS t z with
 | none => rw [el] at hz hq; exact ⟨z, none, rfl, rfl, hz, hq⟩
 | some d => rw [el] at hz hq; obtain ⟨u, v, e1, _⟩ := hz; exact ⟨z, some u, rfl, rfl, e1, hq⟩
theorem tabIn_ok (g : Good G φ C X k W) {a b : Expr} {t : List (Str × D)} {ma : M D} {pos : Pos} (ha : DO X k W a ma) (h : tabE G C b = some t) : DE X k W (.Compare a [.In] [b] pos) (dOp1 (tabInD t) ma) := by
 obtain ⟨p, es, n, hp, hs, kd, hz⟩ := tabE_ok g h
 exact PE.sub (pe_cmpR (op_in_kd kd) ha hp (mark_ok hs)) fun σ H Q h => tabIn_one hz h
theorem tabInT_ok (g : Good G φ C X k W) {a b : Expr} {t : List (Str × D)} {ma : M D} {pos : Pos} (ha : DO X k W a ma) (h : tabE G C b = some t) : DT X k W (.Compare a [.In] [b] pos) (dBl (dOp1 (tabInD t) ma)) := by
 obtain ⟨p, es, n, hp, hs, kd, hz⟩ := tabE_ok g h
 exact PT.sub (pt_cmpR (op_in_kd kd) ha hp (mark_ok hs)) fun σ H Q ⟨P, w, env, S, I, h⟩ => tabIn_one hz (thenBl (R := rT k P σ Q) I (f := M.ret) (by
   have : M.bind (dBl (dOp1 (tabInD t) ma)) M.ret = dBl (dOp1 (tabInD t) ma) := by
     funext e s
     unfold M.bind
     cases dBl (dOp1 (tabInD t) ma) e s <;> rfl
   rw [this]; exact h) fun t w1 env1 S1 H1 l1 I1 h1 => ⟨t, rfl, h1.ret H1 I1⟩)
theorem tabIx_ok (g : Good G φ C X k W) {a b : Expr} {t : List (Str × D)} {mb : M D} {pos : Pos} (hb : DO X k W b mb) (h : tabE G C a = some t) (hs : PlainIx b) : DE X k W (.Subscript a b pos) (dOp1 (tabIxD t) mb) := by
 obtain ⟨p, es, n, hp, _, kd, hz⟩ := tabE_ok g h
 refine PE.sub (pe_ix ix_kdict hp hb hs) fun σ H Q ⟨P, w, env, S, I, h⟩ => thenO I h fun dx w1 env1 S1 x H1 l1 I1 r1 h1 => ?_
 obtain ⟨d, e, h3⟩ := h1.getS.opt
 obtain ⟨z, ez⟩ : ∃ z, view env1 S1 dx = .str z := by
   cases q : view env1 S1 dx <;> rw [q] at e <;> first | (cases e; done) | exact ⟨_, rfl⟩
 obtain rfl := view_str ez
 · have e : lkS t z = some d := e
   obtain rfl : x = .str z := r1
   have hz := hz z
   rw [e] at hz
   obtain ⟨u, v, e1, r, e2⟩ := hz
   exact ⟨p, z, v, rfl, rfl, ⟨es, n, u, kd.at_, kd.lit, e1, r⟩, h3.ret _ H1 I1 (e2 w1)⟩
theorem nameO_ok (g : Good G φ C X k W) {x : Str} {p : Pos} : DO X k W (.Name x p) (nameO G C x) := by
 unfold nameO
 split
 · rename_i i e
   obtain ⟨h, m⟩ := tabAt_mem e
   obtain ⟨h1, h2, _, h3⟩ := g.tab _ _ _ m
   exact do_var h1 (Loc.vis h2) h3.1 h3.2.1
 · rename_i i e
   obtain ⟨h, m⟩ := tabAt_mem e
   obtain ⟨h1, h2, h3⟩ := g.tab _ _ _ m
   exact do_var h1 h2 h3.1 h3.2.1
 · rename_i c e
   obtain ⟨h, m⟩ := tabAt_mem e
   obtain ⟨h1, h2, h3⟩ := g.tab _ _ _ m
   exact do_of (con_ok h1 h2 h3)
 · exact do_no
theorem opF_ok {op : Operator} {f : D → D → Option D} (g : Good G φ C X k W) (e : opF op = some f) : ∃ r, OpR X (binaryOp op) r ∧ Op2 X r f := by
 cases op <;> simp only [opF] at e <;> first | contradiction | (cases e)
 · exact ⟨_, or_add, op2_add⟩
 · exact ⟨_, op_sub, op2_sub⟩
 · exact ⟨_, or_mul, op2_mul⟩
 · exact ⟨_, op_mod, op2_mod⟩
 · exact ⟨_, op_pow, op2_pow⟩
 · exact ⟨_, op_fdivW, op2_fdiv⟩
theorem cmF_ok {op : CmpOp} {f : D → D → Option D} (g : Good G φ C X k W) (e : cmF op = some f) : ∃ r, OpR X (compareOp op) r ∧ Op2 X r f := by
 have hu := g.hu
 cases op <;> simp only [cmF] at e <;> first | contradiction | (cases e)
 · exact ⟨_, or_eq (by omega), op2_eq⟩
 · exact ⟨_, or_ne (by omega), op2_ne⟩
 · exact ⟨_, or_lt (by have := g.hu; omega), op2_lt⟩
 · exact ⟨_, op_le, op2_le⟩
 · exact ⟨_, op_gt, op2_gt⟩
 · exact ⟨_, op_ge, op2_ge⟩
 · exact ⟨_, or_is, op2_is false⟩
 · exact ⟨_, or_isnot, op2_is true⟩
 · exact ⟨_, or_in hu, op2_in false⟩
 · exact ⟨_, or_notIn hu, op2_in true⟩
theorem boolE_ok (g : Good G φ C X k W) (dk : DenOk G φ d) {op : BoolOp} {pos : Pos} : ∀ es : List Expr, DE X k W (.BoolOp op es pos) (boolE d C op es)
 | [] => de_no
 | [a] => de_one (dk.E g a)
 | a :: b :: r => by
   cases op
   · exact de_and (dk.E g a) (boolE_ok g dk (b :: r))
   · show DE X k W _ (match b with
       | .Tuple _ _ _ => dOrV (d.E C a) (boolE d C .Or (b :: r))
       | _ => dOr (d.E C a) (boolE d C .Or (b :: r)))
     split
     · exact de_orV g.hk (dk.E g a) (boolE_ok g dk (_ :: r))
     · exact de_or (dk.E g a) (boolE_ok g dk (b :: r))
theorem boolT_ok (g : Good G φ C X k W) (dk : DenOk G φ d) {op : BoolOp} {pos : Pos} : ∀ es : List Expr, DW X k W (.BoolOp op es pos) (boolT d C op es)
 | [] => dw_no
 | [a] => by
   cases op
   · exact dw_and1 (dk.T g a)
   · exact dw_or1 (dk.T g a)
 | a :: b :: r => by
   cases op
   · exact dw_and (dk.T g a) (boolT_ok g dk (b :: r))
   · exact dw_or (dk.T g a) (boolT_ok g dk (b :: r))
theorem argE_ok (g : Good G φ C X k W) (dk : DenOk G φ d) {e : Expr} : DE X k W e (argE d C e) := by
 unfold argE
 split
 · exact de_hp (dk.F g e)
 · exact dk.E g e
theorem args_ok (g : Good G φ C X k W) (dk : DenOk G φ d) {es : List Expr} : DA X k W es (argsE d C es) := by
 unfold argsE
 split
 · rename_i h
   induction es with
   | nil => exact da_nil
   | cons e es ih =>
     rw [List.all_cons, Bool.and_eq_true] at h
     exact da_cons (argE_ok g dk) (ih h.2) (star1 e (notStar_ok h.1) es _)
 · exact da_no
theorem setArg_ok (g : Good G φ C X k W) {e a : Expr} (h : setArg C e = some a) : ∃ y p pos, e = .Call (.Name y p) [a] [] pos ∧ y = "set" ∧ Gl X y ∧ X.mg y = none ∧ ∀ x p, a ≠ .Starred x p := by
 unfold setArg at h
 split at h
 · split at h
   · rename_i et
     split at h
     · rename_i hs
       cases h
       obtain ⟨_, m⟩ := tabAt_mem et
       obtain ⟨hg, hb, hx, hm⟩ := g.tab _ _ _ m
       exact ⟨_, _, _, rfl, hx, hg, hm, notStar_ok hs⟩
     · cases h
   · cases h
 · cases h
theorem types_ok (g : Good G φ C X k W) : ∀ {es : List Expr} {Ts : List String}, typesE C es = some Ts → TyOk X es Ts
 | [], Ts, e => by cases e; trivial
 | e :: es, Ts, h => by
   unfold typesE at h
   split at h
   · cases h; trivial
   · rename_i t p es' hc
     injection hc with hc1 hc2
     subst hc1 hc2
     split at h
     · rename_i b2 e2
       split at h
       · rename_i T Ts' eT eTs
         cases h
         obtain ⟨h2, m2⟩ := tabAt_mem e2
         obtain ⟨g2, n2, r2, q2⟩ := g.tab _ _ _ m2
         subst r2
         refine ⟨⟨_, _, rfl, ?_⟩, types_ok g eTs⟩
         cases b2 <;> simp only [tyN] at eT <;> first | contradiction | (cases eT)
         all_goals exact ⟨by decide, g2, q2, by decide +kernel, n2.2.2, n2.1⟩
       · cases h
     · cases h
   · cases h
theorem slE_ok (g : Good G φ C X k W) {e : Expr} {i : Nat} (h : slE C e = some i) : ∃ y p, e = .Name y p ∧ X.N[i]? = some y ∧ Loc X.env.scope y ∧ NotBad y := by
 unfold slE at h
 split at h
 · split at h
   · rename_i et
     cases h
     obtain ⟨_, m⟩ := tabAt_mem et
     obtain ⟨h1, h2, _, h3⟩ := g.tab _ _ _ m
     exact ⟨_, _, rfl, h1, h2, h3⟩
   · cases h
 · cases h
theorem xcE_ok (g : Good G φ C X k W) {e : Expr} {c : Option Nat} (h : xcE C e = some c) : PE X e (tC (clsV k c)) ∧ ∀ x p, e ≠ .Starred x p := by
 unfold xcE at h
 split at h
 · refine ⟨?_, fun _ _ z => by cases z⟩
   split at h
   · rename_i et
     cases h
     obtain ⟨_, m⟩ := tabAt_mem et
     obtain ⟨hg, hb, hm, _⟩ := g.tab _ _ _ m
     exact pe_glob hg hm rfl hb.1
   · rename_i et
     cases h
     obtain ⟨_, m⟩ := tabAt_mem et
     obtain ⟨hg, hb, hx, hm⟩ := g.tab _ _ _ m
     subst hx
     exact pe_bltn hg hm PyProof.Rows.Boot.«ValueError» (v := .ty "ValueError") rfl (by decide) (by decide)
   · cases h
 · cases h
theorem xcGo_ok (g : Good G φ C X k W) : ∀ {es : List Expr} {cs : List (Option Nat)}, xcGo C es = some cs → XcE X k es cs
 | [], cs, h => by cases h; trivial
 | e :: es, cs, h => by
   unfold xcGo at h
   split at h
   · rename_i c cs' e1 e2
     cases h
     exact ⟨xcE_ok g e1, xcGo_ok g e2⟩
   · cases h
theorem xcsE_ok (g : Good G φ C X k W) {e : Expr} {cs : List (Option Nat)} (h : xcsE C e = some cs) : (∃ es kk p, e = .Tuple es kk p ∧ XcE X k es cs) ∨ ∃ c, cs = [c] ∧ PE X e (tC (clsV k c)) ∧ ∀ x p, e ≠ .Starred x p := by
 unfold xcsE at h
 split at h
 · exact .inl ⟨_, _, _, rfl, xcGo_ok g h⟩
 · obtain ⟨c, e1, e2⟩ := Option.map_eq_some_iff.mp h
   exact .inr ⟨c, e2.symm, xcE_ok g e1⟩
theorem rgArg_ok (g : Good G φ C X k W) {e a : Expr} (h : rgArg C e = some a) : ∃ y p pos, e = .Call (.Name y p) [a] [] pos ∧ y = "range" ∧ Gl X y ∧ X.mg y = none ∧ ∀ x p, a ≠ .Starred x p := by
 unfold rgArg at h
 split at h
 · split at h
   · split at h
     · cases h
       rename_i e1 e2
       obtain ⟨hh, m⟩ := tabAt_mem e1
       obtain ⟨h1, h2, h3⟩ := g.tab _ _ _ m
       exact ⟨_, _, _, rfl, h3.1, h1, h3.2, notStar_ok e2⟩
     · cases h
   · cases h
 · cases h
theorem bltE_ok (g : Good G φ C X k W) (dk : DenOk G φ d) {b : Blt} {x : Str} {p pos : Pos} {es : List Expr} (hg : Gl X x) (hb : NotBad x) (hx : x = b.name) (hm : X.mg x = none) (hh : (!C.hot || hotB b) = true) : DE X k W (.Call (.Name x p) es [] pos) (bltE G d C b es) := by
 subst hx
 have hc : hotB b = false → X.calm = true := fun z => g.calm (by rw [z, Bool.or_false, Bool.not_eq_true'] at hh; exact hh)
 unfold bltE
 split
 · rename_i a
   split
   · rename_i a2 es
     obtain ⟨y, p2, pos2, rfl, hy, hg2, hm2, hs⟩ := setArg_ok g es
     split
     · exact de_no
     rename_i hot
     have hcc : X.calm = true := g.calm (by simpa using hot)
     split
     · exact de_lset g.hk hcc rfl hy hg hm hg2 hm2 (dk.O g a2) hs
     · exact de_fz (df_sset g.hk hcc rfl hy hg hm hg2 hm2 (dk.O g a2) hs)
     · exact de_no
   split
   · rename_i a2 er
     split
     · exact de_no
     rename_i hot
     have hcc : X.calm = true := g.calm (by simpa using hot)
     unfold tupRgE at er
     split at er
     · obtain ⟨y, p2, pos2, rfl, hy, hg2, hm2, hs⟩ := rgArg_ok g er
       exact de_tupRg rfl hy hcc hg hm hg2 hm2 (dk.E g a2) hs
     · cases er
   split
   · rename_i hs
     have hs := notStar_ok hs
     split
     · rename_i f e
       cases b <;> simp only [b1F] at e <;> first | contradiction | (cases e)
       · exact de_call1 (c := .f "len") g.hk cr_len op1_len hg hm (by decide +kernel) hb.2.2 hb.1 (dk.O g a) hs
       · exact de_call1 (c := .t "int") g.hk cr_int op1_int hg hm (by decide +kernel) hb.2.2 hb.1 (dk.O g a) hs
       · exact de_call1 (c := .t "str") g.hk cr_str op1_str hg hm (by decide +kernel) hb.2.2 hb.1 (dk.O g a) hs
       · exact de_call1 (c := .f "all") g.hk (cr_all (hc rfl)) op1_all hg hm (by decide +kernel) hb.2.2 hb.1 (dk.O g a) hs
       · exact de_call1 (c := .f "any") g.hk (cr_any (hc rfl)) op1_any hg hm (by decide +kernel) hb.2.2 hb.1 (dk.O g a) hs
       · exact de_call1 (c := .f "sum") g.hk (cr_sum (hc rfl)) op1_sum hg hm (by decide +kernel) hb.2.2 hb.1 (dk.O g a) hs
       · exact de_call1 (c := .f "min") g.hk ((cr_min (hc rfl)).or (cr_minT (hc rfl))) op1_minX hg hm (by decide +kernel) hb.2.2 hb.1 (dk.O g a) hs
       · exact de_call1 (c := .f "max") g.hk (cr_max (hc rfl)) op1_max hg hm (by decide +kernel) hb.2.2 hb.1 (dk.O g a) hs
       · exact de_call1 (c := .t "tuple") g.hk (cr_tuple.or (cr_tupStr (hc rfl))) (op1_tupleX (hc rfl)) hg hm (by decide +kernel) hb.2.2 hb.1 (dk.O g a) hs
     · split
       · rename_i f e
         cases b <;> simp only [bfF] at e <;> first | contradiction | (cases e)
         · exact de_fz (df_call1 (c := .t "list") g.hk (cr_list.or (cr_listStr (hc rfl))) (opf_listX (hc rfl)) hg hm (by decide +kernel) hb.2.2 hb.1 (dk.O g a) hs)
         · exact de_fz (df_call1 (c := .f "sorted") g.hk ((cr_sorted.or cr_sortedS).or (cr_sortD g.hu)) opf_sortedX hg hm (by decide +kernel) hb.2.2 hb.1 (dk.O g a) hs)
         · exact de_fz (df_call1 (c := .t "dict") g.hk (call_dictP (hc rfl)) opf_dict hg hm (by decide +kernel) hb.2.2 hb.1 (dk.O g a) hs)
       · exact de_no
   · exact de_no
 · rename_i a c
   split
   · rename_i hs
     rw [Bool.and_eq_true] at hs
     have hs1 := notStar_ok hs.1
     have hs2 := notStar_ok hs.2
     split
     · split
       · rename_i cs i ec ei
         obtain ⟨y, p1, rfl, hN, hl, hnb⟩ := slE_ok g ei
         split
         · rename_i hz
           rcases xcsE_ok g ec with ⟨es, kk, p2, rfl, he⟩ | ⟨cc, rfl, he, hs'⟩
           · exact de_isXT g.hk g.xok g.su hN (Loc.vis hl) hnb.1 hnb.2.1 rfl hg hm he hz
           · exact de_isX1 g.hk g.xok g.su hN (Loc.vis hl) hnb.1 hnb.2.1 rfl hg hm he hs'
         · exact de_no
       split
       · rename_i t p2
         split
         · rename_i b2 e2
           split
           · rename_i T eT
             obtain ⟨h2, m2⟩ := tabAt_mem e2
             obtain ⟨g2, n2, r2, q2⟩ := g.tab _ _ _ m2
             subst r2
             cases b2 <;> simp only [tyN] at eT <;> first | contradiction | (cases eT)
             all_goals exact de_isi g.hk rfl (by decide) hg hm g2 q2 (by decide +kernel) n2.2.2 n2.1 (dk.O g a) hs1
           · exact de_no
         · exact de_no
       · split
         · rename_i Ts eTs
           split
           · rename_i hz
             exact de_isiT g.hk rfl (types_ok g eTs) hz hg hm (dk.O g a) hs1
           · exact de_no
         · exact de_no
       · exact de_no
     · split
       · rename_i f e
         cases b <;> simp only [b2F] at e <;> first | contradiction | (cases e)
         · exact de_call2 (c := .f "min") g.hk (call_min2 (hc rfl)) op2_min2 hg hm (by decide +kernel) hb.2.2 hb.1 (dk.O g a) (dk.O g c) hs1 hs2
         · exact de_call2 (c := .f "max") g.hk (call_max2 (hc rfl)) op2_max2 hg hm (by decide +kernel) hb.2.2 hb.1 (dk.O g a) (dk.O g c) hs1 hs2
       · exact de_no
   · exact de_no
 · exact de_no
theorem args_ne {es : List Expr} {α : Type} {f : List D → M α} (h : (es.all notStar) = false) : M.bind (argsE d C es) f = M.fail := by
 unfold argsE
 rw [if_neg (by rw [h]; exact Bool.false_ne_true)]
 rfl
theorem lkc_mem : ∀ {l : List (Nat × Nat)} {c i : Nat}, lkc l c = some i → (c, i) ∈ l
 | [], _, _, h => by cases h
 | (a, b) :: r, c, i, h => by
   unfold lkc at h
   split at h
   · rename_i e
     cases h
     rw [beq_iff_eq] at e
     rw [e]
     exact List.mem_cons_self
   · exact List.mem_cons_of_mem _ (lkc_mem h)
theorem okW_of {i : Nat} (h : okW G C i = true) : hotI G i = true → C.wide = true := fun e => by
 unfold okW at h
 rw [e, Bool.and_eq_true] at h
 simpa using h.1
theorem okW_n {i : Nat} (h : okW G C i = true) : isXD G i = false := by
 unfold okW at h
 rw [Bool.and_eq_true, Bool.not_eq_true'] at h
 exact h.2
theorem fnE_ok (g : Good G φ C X k W) (dk : DenOk G φ d) {x : Str} {i : Nat} {p pos : Pos} {es : List Expr} (hot : C.hot = false) (ow : okW G C i = true) (hg : Gl X x) (hb : NotBad x) (h : GdOk X k G φ x (.fn i)) : DE X k W (.Call (.Name x p) es [] pos) (fnE G φ d C i es) := by
 obtain ⟨hm, hkp, fd, ps, lv, F, hr, hbn⟩ := h.1 (g.calm hot)
 have F := F (okW_n ow)
 unfold fnE
 cases es with
 | nil => exact de_call0 F (hr.mono (Nat.le_succ _)) hg hm hkp hbn (fun σ => passW (okW_of ow) g.tk σ) hb.1
 | cons e es =>
   cases hs : (e :: es).all notStar with
   | false => rw [args_ne hs]; exact de_no
   | true => exact de_call F (hr.mono (Nat.le_succ _)) hg hm hkp hbn (fun σ => passW (okW_of ow) g.tk σ) (args_ok g dk) hb.1 (notStars_ok hs)
theorem clsE_ok (g : Good G φ C X k W) (dk : DenOk G φ d) {x : Str} {c i : Nat} {p pos : Pos} {es : List Expr} (hot : C.hot = false) (ow : okW G C i = true) (hg : Gl X x) (hb : NotBad x) (h : GdOk X k G φ x (.cls c i)) : DE X k W (.Call (.Name x p) es [] pos) (clsE G φ d C c i es) := by
 obtain ⟨f, hm, hmk, fd, ps, lv, F, hr, hbn⟩ := h (g.calm hot)
 have F := F (okW_n ow)
 unfold clsE
 cases es with
 | nil => exact de_make0 hmk F hr hg hm hbn (fun σ => passW (okW_of ow) g.tk σ) hb.1
 | cons e es =>
   cases hs : (e :: es).all notStar with
   | false =>
     unfold dMake
     rw [args_ne hs]; exact de_no
   | true => exact de_make hmk F hr hg hm hbn (fun σ => passW (okW_of ow) g.tk σ) (args_ok g dk) hb.1 (notStars_ok hs)
theorem insAny_of {S : Sto} {d : D} {c : Nat} {fs : List (Str × D)} (e : insAny S d = some (c, fs)) : ∃ n, insOf c S d = some (n, fs) := by
 cases d <;> simp only [insAny] at e <;> try contradiction
 rename_i n
 cases es : S[n]? with
 | none => rw [es] at e; cases e
 | some cc =>
   rw [es] at e
   cases cc with
   | ins c' fs' =>
     cases e
     exact ⟨n, by simp only [insOf]; rw [es]; exact if_pos rfl⟩
   | _ => cases e
theorem meths_ok (g : Good G φ C X k W) (dk : DenOk G φ d) {m : Str} {l : List (Nat × Nat)} {o : Expr} {es : List Expr} {apos pos : Pos} {pl : Sem Bool} (hs : ∀ q ∈ es, ∀ x p, q ≠ .Starred x p)
   (hM : ∀ c i, lkc l c = some i → ∃ f, Cls X.K (k.cl c) ∧ Meth X.K (k.cl c) m f ∧ FnHas X k G φ i f) (ow : ∀ c i, lkc l c = some i → okW G C i = true)
   (ht : eval (.Call (.Attribute o m apos) es [] pos) X.env = (do
     let ov ← eval o X.env
     standAt apos.atName
     let (f, first) ← holding [ov] (getMethod ov m pl)
     callWith pos f first (backTo pos (starEach es X.env)) (backToKw pos (keywordEach [] X.env)))) : DE X k W (.Call (.Attribute o m apos) es [] pos) (dMeths G φ l m (d.E C o) (argsE d C es)) := by
 refine ⟨fun pins s σ H Q I h => ?_⟩
 obtain ⟨P, w, env, S, J, h⟩ := h
 refine methcall_of (pl := pl) (dk.E g o) I (thenE J h fun x w1 env1 S1 v H1 l1 I1 r1 h1 => ?_) ht
 cases ei : insAny S1 x with
 | none => rw [ei] at h1; exact h1.elim
 | some nf =>
   obtain ⟨c, fs⟩ := nf
   rw [ei] at h1
   dsimp only at h1
   cases el : lkc l c with
   | none => rw [el] at h1; exact h1.elim
   | some i =>
     rw [el] at h1
     dsimp only at h1
     obtain ⟨f, hcl, hmt, fd, ps, lv, F, hr, hb⟩ := hM c i el
     have F := F (okW_n (ow c i el))
     obtain ⟨hn, h1⟩ := aft_len (m := (M.bind (argsE d C es) fun ds => if (x :: ds).length = G.ar.getD i 0 then (fun env S => (φ i (x :: ds) S).out env) else M.fail)) (c := lookF m fs = none) (by
       by_cases hc : lookF m fs = none
       · rw [if_pos hc] at h1 ⊢; exact h1
       · rw [if_neg hc] at h1; exact h1.elim)
     obtain ⟨nn, ei⟩ := insAny_of ei
     obtain ⟨ed, eS, aa, dx, fv, rfl, rr, hH, q1, q2⟩ := insOf_ok I1.rs r1 ei
     refine ⟨aa, k.cl c, dx, fv, f, rfl, hH, hcl, hmt, ?_, fun s1 J1 => ?_⟩
     · rw [lookF_eq]; exact (lookF_rep q1 q2).1 hn
     have body : ∀ {ds w2 env2 S2 vs H2}, Wd.Le w1 w2 → RB k P w2 env2 S2 σ H2 → Reps k w2 ds vs → Aft k W P w2 ((if (x :: ds).length = G.ar.getD i 0 then (fun env S => (φ i (x :: ds) S).out env) else M.fail : M D) env2 S2) (rE k P σ Q) → spOf k (G.ar.getD i 0) (φ i) (.ref aa :: vs) H2 Q (WE W σ) := fun {ds w2 env2 S2 vs H2} l2 I2 r2 h2 => by
       obtain ⟨hl, h2⟩ := if_ok h2
       exact call_sp (ds := x :: ds) I2 ⟨_, _, rfl, Rep.mono l2 x r1, r2⟩ hl h2
     have hr0 : Room lv X.A := hr.mono (Nat.le_succ _)
     cases es with
     | nil =>
       have h2 : Aft k W P w1 ((if (x :: []).length = G.ar.getD i 0 then (fun env S => (φ i (x :: []) S).out env) else M.fail : M D) env1 S1) (rE k P σ Q) := h1
       obtain ⟨hl, h2⟩ := if_ok h2
       exact PySem.W.callWith_K0 (first := [.ref aa]) J1.kIn hmt.kp (run_fnD (us := [.ref aa]) (vs := [.ref aa]) F hr0 hb (passW (okW_of (ow c i el)) g.tk σ) J1 (.cons rfl .nil) (call_sp (ds := [x]) I1 (Reps.one r1) hl h2))
     | cons e es =>
       refine PySem.W.callWith_K (first := [.ref aa]) (h₀ := X.base) I.ok.mod.kin hmt.kp (thn ((args_ok g dk (es := e :: es)).run pos pins s1 σ H1 _ J1 (thenA I1 h1 fun ds w2 env2 S2 vs H2 l2 I2 r2 h2 => body l2 I2 r2 h2)) fun us s2 ⟨vs, H2, I2, r, q2⟩ => ⟨I2.kIn, ?_⟩) (star1 e (hs e List.mem_cons_self) es _) (star_false es (fun q hq => hs q (List.mem_cons_of_mem _ hq)) _ _)
       exact run_fnD (us := .ref aa :: us) (vs := .ref aa :: vs) F hr0 hb (passW (okW_of (ow c i el)) g.tk σ) I2 (.cons rfl r) q2
theorem de_mutE (g : Good G φ C X k W) (dk : DenOk G φ d) {T id : String} {name : Str} {r : V → List V → Hp → VK → Prop} {f : Cell → List D → Option (Cell × D)} {o e : Expr} {es : List Expr} {apos pos : Pos} (slot : PySem.Slot "list" name id) (ty : typeOf (.builtin id) = pure (.type "method_descriptor")) (hm : MtR X id r) (hf : OpMt X r f)
   (h1 : notC0 o = true) (h2 : (apos.endLine == pos.line) = true) (h3 : ∀ q ∈ e :: es, ∀ x p, q ≠ .Starred x p) (h4 : (e :: es).length < 20) : DE X k W (.Call (.Attribute o name apos) (e :: es) [] pos) (dMut f (d.O C o) (argsE d C (e :: es))) :=
 PE.sub (pe_bm PySem.F.plainAttrs_list slot ty hm (dk.O g o) (args_ok g dk) (ab_ok h1) (few_ok h3 h4) h2 (star1 e (h3 e List.mem_cons_self) es _) (star_false es (fun q hq => h3 q (List.mem_cons_of_mem _ hq)) _ _)) fun σ H Q h => mut_ok g.hk hf h
theorem mut0_ok {r : V → List V → Hp → VK → Prop} {f : Cell → List D → Option (Cell × D)} (hk : k.K = X.K) (hf : OpMt X r f) {mo : M D} {σ : L2.St} {H : Hp} {Q : VK} (h : tE k W (dMut f mo dNil) σ H Q) : tBM0 X.K "list" r (tO k W mo) σ H Q := by
 obtain ⟨P, w, env, S, I, h⟩ := mut_ok hk hf h
 refine ⟨P, w, env, S, I, h.imp fun x w1 env1 S1 l1 q v H1 I1 r1 => ?_⟩
 obtain ⟨ty, P2, w2, env2, S2, I2, h2⟩ := q v H1 I1 r1
 exact ⟨ty, h2.ret [] H1 I2 rfl⟩
theorem de_mut0 (g : Good G φ C X k W) (dk : DenOk G φ d) {id : String} {name : Str} {r : V → List V → Hp → VK → Prop} {f : Cell → List D → Option (Cell × D)} {o : Expr} {apos pos : Pos} (slot : PySem.Slot "list" name id) (ty : typeOf (.builtin id) = pure (.type "method_descriptor")) (hm : MtR X id r) (hf : OpMt X r f)
   (h1 : notC0 o = true) (h2 : (apos.endLine == pos.line) = true) : DE X k W (.Call (.Attribute o name apos) [] [] pos) (dMut f (d.O C o) (argsE d C [])) :=
 PE.sub (pe_bm0 PySem.F.plainAttrs_list slot ty hm (dk.O g o) (ab_ok h1) h2) fun σ H Q h => mut0_ok g.hk hf h
theorem textE_ok (g : Good G φ C X k W) (dk : DenOk G φ d) {m : Str} {mn : Mn} {o : Expr} {es : List Expr} {apos pos : Pos} (hno : ∀ l, mn ≠ .own l) (hmn : MnOk X k G φ m mn) (h1 : notC0 o = true) (h2 : (apos.endLine == pos.line) = true) (h3 : ∀ q ∈ es, ∀ x p, q ≠ .Starred x p) :
   DE X k W (.Call (.Attribute o m apos) es [] pos) (textE d C mn o es) := by
 unfold textE
 split
 · split
   · rename_i f e
     cases mn <;> simp only [s0F] at e <;> first | contradiction | (cases e)
     all_goals (have hmn : m = _ := hmn; subst hmn)
     · exact de_sm0 (f := upperD) PySem.F.slot_str_upper PySem.F.type_str_upper mt_upper (fun s d H Q v e hv q => by
         unfold upperD at e
         split at e
         · cases e; have := hv k ⟨fun _ => none, fun _ => none⟩; cases this; exact ⟨s, rfl, rfl, by assumption, q⟩
         · cases e) (fun s d e => by
         unfold upperD at e
         split at e
         · cases e; exact ⟨_, fun _ _ => rfl⟩
         · cases e) (dk.O g o) (ab_ok h1) h2
     · exact de_sm0 (f := lowerD) PySem.F.slot_str_lower PySem.F.type_str_lower mt_lower (fun s d H Q v e hv q => by
         unfold lowerD at e
         split at e
         · cases e; have := hv k ⟨fun _ => none, fun _ => none⟩; cases this; exact ⟨s, rfl, rfl, by assumption, q⟩
         · cases e) (fun s d e => by
         unfold lowerD at e
         split at e
         · cases e; exact ⟨_, fun _ _ => rfl⟩
         · cases e) (dk.O g o) (ab_ok h1) h2
     · exact de_sm0 (f := isdigitD) PySem.F.slot_str_isdigit PySem.F.type_str_isdigit mt_isdigit (fun s d H Q v e hv q => by
         cases e; have := hv k ⟨fun _ => none, fun _ => none⟩; cases this; exact ⟨s, rfl, rfl, trivial, q⟩) (fun s d e => by
         cases e; exact ⟨_, fun _ _ => rfl⟩) (dk.O g o) (ab_ok h1) h2
     · exact de_sm0 (f := stripD) PySem.F.slot_str_strip PySem.F.type_str_strip mt_strip (fun s d H Q v e hv q => by
         unfold stripD at e
         split at e
         · cases e; have := hv k ⟨fun _ => none, fun _ => none⟩; cases this; exact ⟨s, rfl, rfl, by assumption, q⟩
         · cases e) (fun s d e => by
         unfold stripD at e
         split at e
         · cases e; exact ⟨_, fun _ _ => rfl⟩
         · cases e) (dk.O g o) (ab_ok h1) h2
   · exact de_no
 · rename_i a
   have hs : ∀ x p, a ≠ .Starred x p := h3 a List.mem_cons_self
   split
   · rename_i f e
     cases mn <;> simp only [s1F] at e <;> first | contradiction | (cases e)
     all_goals (have hmn : m = _ := hmn; subst hmn)
     · exact de_sm1 g.hk PySem.F.slot_str_split PySem.F.type_str_split mt_split sm_split (dk.O g o) (dk.O g a) hs (ab_ok h1) h2
     · exact de_sm1 g.hk PySem.F.slot_str_join PySem.F.type_str_join mt_join sm_join (dk.O g o) (dk.O g a) hs (ab_ok h1) h2
     · exact de_sm1 g.hk PySem.F.slot_str_partition PySem.F.type_str_partition mt_partition sm_part (dk.O g o) (dk.O g a) hs (ab_ok h1) h2
     · exact de_sm1 g.hk PySem.F.slot_str_count PySem.F.type_str_count mt_count (sm_str (gd := fun a b => .int (Txt.count a b)) fun _ _ _ _ => rfl) (dk.O g o) (dk.O g a) hs (ab_ok h1) h2
     · exact de_sm1 g.hk PySem.F.slot_str_find PySem.F.type_str_find mt_find (sm_str (gd := fun a b => .int (Txt.find a b)) fun _ _ _ _ => rfl) (dk.O g o) (dk.O g a) hs (ab_ok h1) h2
     · exact de_sm1 g.hk PySem.F.slot_str_startswith PySem.F.type_str_startswith mt_startswith (sm_str (gd := fun a b => .bl (Txt.startswith a b)) fun _ _ _ _ => rfl) (dk.O g o) (dk.O g a) hs (ab_ok h1) h2
     · exact de_sm1 g.hk PySem.F.slot_str_endswith PySem.F.type_str_endswith mt_endswith (sm_str (gd := fun a b => .bl (Txt.endswith a b)) fun _ _ _ _ => rfl) (dk.O g o) (dk.O g a) hs (ab_ok h1) h2
   · exact de_no
 · exact de_no
theorem methE_ok (g : Good G φ C X k W) (dk : DenOk G φ d) {m : Str} {o : Expr} {es : List Expr} {apos pos : Pos} : DE X k W (.Call (.Attribute o m apos) es [] pos) (methE G φ d C m o es apos pos) := by
 unfold methE
 split
 · rename_i h
   rw [Bool.and_eq_true, Bool.and_eq_true, Bool.and_eq_true] at h
   obtain ⟨h1, h2, h3, h4⟩ := h
   have h4 : es.length < 20 := of_decide_eq_true h4
   have h3 := notStars_ok h3
   split
   · rename_i l e
     obtain ⟨hh, mm⟩ := lkAt_mem e
     split
     · rename_i hot
       rw [Bool.and_eq_true, List.all_eq_true] at hot
       exact meths_ok g dk h3 (g.mth _ _ _ mm (g.calm (by simpa using hot.1))) (fun c i hl => hot.2 (c, i) (lkc_mem hl)) (meth_ok h1 h2 h3 h4)
     · exact de_no
   · rename_i mn hno e
     obtain ⟨hh, mm⟩ := lkAt_mem e
     have hmn := g.mth _ _ _ mm
     split
     · rename_i f ef
       cases es with
       | nil =>
         cases mn <;> simp only [mutF, List.length_nil] at ef <;> first | contradiction | (cases ef)
         all_goals (have hmn : m = _ := hmn; subst hmn)
         · exact de_mut0 g dk PySem.F.slot_list_pop PySem.F.type_list_pop mt_pop om_pop h1 h2
         · exact de_mut0 g dk PySem.F.slot_list_reverse PySem.F.type_list_reverse mt_reverse om_reverse h1 h2
       | cons e es =>
         cases es with
         | nil =>
           cases mn <;> simp only [mutF, List.length_nil, List.length_cons] at ef <;> first | contradiction | (cases ef)
           all_goals (have hmn : m = _ := hmn; subst hmn)
           · exact de_mutE (T := "list") g dk PySem.F.slot_list_append PySem.F.type_list_append mt_append om_append h1 h2 h3 h4
           · exact de_mutE (T := "list") g dk PySem.F.slot_list_pop PySem.F.type_list_pop mt_popAt om_popAt h1 h2 h3 h4
           · exact de_mutE (T := "list") g dk PySem.F.slot_list_extend PySem.F.type_list_extend mt_extend om_extend h1 h2 h3 h4
         | cons e2 es2 =>
           cases es2 with
           | nil =>
             cases mn <;> simp only [mutF, List.length_nil, List.length_cons] at ef <;> first | contradiction | (cases ef)
             all_goals (have hmn : m = _ := hmn; subst hmn)
             · exact de_mutE (T := "list") g dk PySem.F.slot_list_insert PySem.F.type_list_insert mt_insert om_insert h1 h2 h3 h4
           | cons e3 es3 => cases mn <;> simp only [mutF, List.length_nil, List.length_cons] at ef <;> first | contradiction | (cases ef)
     · split
       · have hmn : m = _ := hmn
         subst hmn
         exact de_lm1 g.hk PySem.F.slot_list_index PySem.F.type_list_index (mt_indexA g.hu) lm_index (dk.O g o) (dk.O g _) (h3 _ List.mem_cons_self) (ab_ok h1) (few_ok h3 h4) h2
       · have hmn : m = _ := hmn
         exact de_get1 g.hk g.hu hmn (dk.O g o) (dk.O g _) (ab_ok h1) h2 (h3 _ List.mem_cons_self)
       · have hmn : m = _ := hmn
         exact de_get2 g.hk g.hu hmn (dk.O g o) (dk.O g _) (dk.E g _) (ab_ok h1) h2 (h3 _ List.mem_cons_self) (h3 _ (List.mem_cons_of_mem _ List.mem_cons_self))
       · have hmn : m = _ := hmn
         subst hmn
         refine ⟨fun pins s σ H Q I ⟨P, w, env, S, J, h⟩ => ?_⟩
         unfold dCount at h
         split at h
         · exact (de_sm1 g.hk PySem.F.slot_str_count PySem.F.type_str_count mt_count (sm_str (gd := fun a b => .int (Txt.count a b)) fun _ _ _ _ => rfl) (dk.O g o) (dk.O g _) (h3 _ List.mem_cons_self) (ab_ok h1) h2).run pins s σ H Q I ⟨P, w, env, S, J, h⟩
         · exact (de_lm1 g.hk PySem.F.slot_list_count PySem.F.type_list_count mt_countF lm_count (dk.O g o) (dk.O g _) (h3 _ List.mem_cons_self) (ab_ok h1) (few_ok h3 h4) h2).run pins s σ H Q I ⟨P, w, env, S, J, h⟩
       · have hmn : m = _ := hmn
         subst hmn
         exact de_clr (dk.O g o) (ab_ok h1) h2
       · exact textE_ok g dk (fun l z => hno l z) hmn h1 h2 h3
   · exact de_no
 · exact de_no
theorem callX_ok (g : Good G φ C X k W) {x : Str} {i : Nat} {p pos : Pos} {es : List Expr} (hot : C.hot = true) (hg : Gl X x) (hb : NotBad x) (h : GdOk X k G φ x (.fn i)) : DE X k W (.Call (.Name x p) es [] pos) (callX G φ C i es) := by
 unfold callX
 split
 · split
   · rename_i y p1 j e
     obtain ⟨_, m⟩ := tabAt_mem e
     obtain ⟨h1, h2, _, h3⟩ := g.tab _ _ _ m
     split
     · rename_i hh
       rw [Bool.and_eq_true] at hh
       obtain ⟨hm, hkp, fd, ps, lv, F, hr, hbn⟩ := h.2 hh.2
       exact de_callX F hr (g.hx hot hh.1) hg hm hkp hbn g.hk g.su h1 (Loc.vis h2) h3.1 h3.2.1 hb.1
     · exact de_no
   · exact de_no
 · exact de_no
theorem callE_ok (g : Good G φ C X k W) (dk : DenOk G φ d) {f : Expr} {es : List Expr} {kws : List Keyword} {pos : Pos} : DE X k W (.Call f es kws pos) (callE G φ d C f es kws pos) := by
 unfold callE
 split
 · split
   · rename_i x p
     split
     · rename_i b e
       obtain ⟨h, m⟩ := tabAt_mem e
       obtain ⟨h1, h2, h3⟩ := g.tab _ _ _ m
       split
       · rename_i hh
         exact bltE_ok g dk h1 h2 h3.1 h3.2 hh
       · exact de_no
     · rename_i i e
       obtain ⟨h, m⟩ := tabAt_mem e
       obtain ⟨h1, h2, h3⟩ := g.tab _ _ _ m
       split
       · rename_i hot
         exact callX_ok g hot h1 h2 h3
       rename_i hot
       split
       · rename_i hh
         exact fnE_ok g dk (by simpa using hot) hh h1 h2 h3
       · exact de_no
     · rename_i j e
       obtain ⟨h, m⟩ := tabAt_mem e
       obtain ⟨h1, h2, _, h3⟩ := g.tab _ _ _ m
       split
       · rename_i hh
         rw [Bool.and_eq_true, Bool.and_eq_true] at hh
         obtain ⟨hot, hs, hne⟩ := hh
         have hc := g.calm (by simpa using hot)
         cases es with
         | nil => cases hne
         | cons e0 es0 =>
           refine de_callL h1 (Loc.vis h2) h3.1 h3.2.1 (fun j hj => ?_) (args_ok g dk) (notStars_ok hs)
           rw [Bool.and_eq_true] at hj
           obtain ⟨hk1, fd, ps, lv, F, hr, hb⟩ := g.fns hc j hj.1
           exact ⟨_, fd, ps, lv, F (okW_n hj.2), hr.mono (Nat.le_succ _), hb, hk1, fun σ => passW (okW_of hj.2) g.tk σ⟩
       · exact de_no
     · rename_i c i e
       obtain ⟨h, m⟩ := tabAt_mem e
       obtain ⟨h1, h2, h3⟩ := g.tab _ _ _ m
       split
       · rename_i hh
         rw [Bool.and_eq_true] at hh
         exact clsE_ok g dk (by simpa using hh.1) hh.2 h1 h2 h3
       · exact de_no
     · exact de_no
   · exact methE_ok g dk
   · exact de_no
 · split
   · split
     · rename_i e
       obtain ⟨h, m⟩ := tabAt_mem e
       obtain ⟨h1, h2, h3⟩ := g.tab _ _ _ m
       split
       · rename_i hh
         rw [Bool.and_eq_true, Bool.and_eq_true] at hh
         obtain ⟨hh1, hh2, hh3⟩ := hh
         cases of_decide_eq_true hh3
         exact de_minDf g.hk (g.calm (by simpa using hh1)) g.hu h3.1 h1 h3.2 (dk.O g _) (dk.O g _) (notStar_ok hh2)
       · exact de_no
     · exact de_no
   · exact de_no
 · exact de_no
end
end L2.MP
end
section
namespace L2.MP
open PySem PySem.Spec PyProof.Rows
section
variable {G : Gm} {φ : Nat → Fn} {d : Den} {C : Ct} {X : Cx} {k : Ky} {W : WX}
theorem opt_ok (g : Good G φ C X k W) (dk : DenOk G φ d) : ∀ e : Option Expr, PO X e (tPt k W (dPart (optO d C e)))
 | none => dp_none
 | some e => dp_some (dk.E g e)
theorem cmp_ok (g : Good G φ C X k W) (dk : DenOk G φ d) {op : CmpOp} {f : D → D → Option D} {a b : Expr} {pos : Pos} (hs : notSet b = true) (e : cmF op = some f) : DE X k W (.Compare a [op] [b] pos) (dOp2 f (d.O C a) (d.O C b)) ∧ DT X k W (.Compare a [op] [b] pos) (dBl (dOp2 f (d.O C a) (d.O C b))) := by
 obtain ⟨r, h1, h2⟩ := cmF_ok g e
 exact ⟨de_cmp g.hk h1 h2 (dk.O g a) (dk.O g b) (mark_ok hs), dt_cmp g.hk h1 h2 (dk.O g a) (dk.O g b) (mark_ok hs)⟩
theorem chainE_ok (g : Good G φ C X k W) (dk : DenOk G φ d) {op op' : CmpOp} {f f' : D → D → Option D} {a b c : Expr} {pos : Pos} (hs : notSet c = true) (e : cmF op = some f) (e' : cmF op' = some f') : DE X k W (.Compare a [op, op'] [b, c] pos) (dChain f f' (d.O C a) (d.O C b) (d.O C c)) ∧ DT X k W (.Compare a [op, op'] [b, c] pos) (dBl (dChain f f' (d.O C a) (d.O C b) (d.O C c))) := by
 obtain ⟨r, h1, h2⟩ := cmF_ok g e
 obtain ⟨r', h1', h2'⟩ := cmF_ok g e'
 exact ⟨de_chain g.hk h1 h1' h2 h2' (dk.O g a) (dk.O g b) (dk.O g c) (marks_ok hs), dt_chain g.hk h1 h1' h2 h2' (dk.O g a) (dk.O g b) (dk.O g c) (marks_ok hs)⟩
theorem expE_ok (g : Good G φ C X k W) (dk : DenOk G φ d) (e : Expr) : DE X k W e (expE G φ d C e) := by
 have hu := g.hu
 unfold expE
 split
 · exact de_int
 · exact de_bl
 · exact de_non
 · exact de_str
 · exact name_ok g
 · split
   · rename_i f e
     obtain ⟨r, h1, h2⟩ := opF_ok g e
     exact de_op g.hk h1 h2 (dk.O g _) (dk.O g _)
   · exact de_no
 · split
   · exact de_not (dk.E g _)
   · exact de_un g.hk un_neg op1_neg (dk.O g _)
   · exact de_no
 · exact boolE_ok g dk _
 · split
   · split
     · split
       · exact tabIn_ok g (dk.O g _) (by assumption)
       · exact de_no
     split
     · rename_i hs
       split
       · exact (cmp_ok g dk hs (by assumption)).1
       · exact de_no
     · exact de_no
   · split
     · rename_i hs
       split
       · exact (chainE_ok g dk hs (by assumption) (by assumption)).1
       · exact de_no
     · exact de_no
   · exact de_no
 · exact de_if (dk.T g _) (dk.E g _) (dk.E g _)
 · split
   · exact de_sl g.hk (dk.O g _) (opt_ok g dk _) (opt_ok g dk _)
   · exact de_rev g.hk (dk.O g _)
   · exact de_stp g.hk (dk.O g _) (dk.E g _)
   · split
     · rename_i hp
       split
       · exact tabIx_ok g (dk.O g _) (by assumption) (plainIx_ok hp)
       · exact de_ix g.hk (or_ix (by omega)) op2_ix (dk.O g _) (dk.O g _) (plainIx_ok hp)
     · exact de_no
 · split
   · split
     · split
       · rename_i et
         obtain ⟨h, m⟩ := tabAt_mem et
         obtain ⟨h1, h2, _, h3⟩ := g.tab _ _ _ m
         exact de_xf g.hk g.xok g.su h1 (Loc.vis h2) h3.1 h3.2.1
       · exact de_no
     · exact de_no
   split
   · rename_i hc
     split
     · rename_i cs e
       obtain ⟨h, m⟩ := lkAt_mem e
       exact de_fld (g.fld _ _ _ m) (dk.E g _) (ab_ok hc)
     · exact de_no
   · exact de_no
 · exact de_tup (args_ok g dk)
 · exact de_fz (dk.F g _)
 · exact de_fz (dk.F g _)
 · exact de_fz (dk.F g _)
 · exact callE_ok g dk
 · exact de_no
theorem expO_ok (g : Good G φ C X k W) (dk : DenOk G φ d) (e : Expr) : DO X k W e (expO G φ d C e) := by
 unfold expO
 split
 · exact nameO_ok g
 · exact do_of (expE_ok g dk _)
theorem expT_ok (g : Good G φ C X k W) (dk : DenOk G φ d) (e : Expr) : DT X k W e (expT G d C e) := by
 unfold expT
 split
 · exact dt_not (dk.T g _)
 · exact (boolT_ok g dk _).pt
 · split
   · split
     · split
       · exact tabInT_ok g (dk.O g _) (by assumption)
       · exact dt_no
     split
     · rename_i hs
       split
       · rename_i hc
         have hop : ∀ op : CmpOp, isNe op = true → op = .NotEq := fun op h => by cases op <;> first | rfl | cases h
         rw [Bool.and_eq_true, Bool.and_eq_true, Bool.and_eq_true] at hc
         obtain rfl := hop _ hc.2.2.2
         exact dt_cmpV g.hk (or_ne (by have := g.hu; omega)) (dk.O g _) (dk.O g _) (mark_ok hs)
       split
       · exact (cmp_ok g dk hs (by assumption)).2
       · exact dt_no
     · exact dt_no
   · split
     · rename_i hs
       split
       · exact (chainE_ok g dk hs (by assumption) (by assumption)).2
       · exact dt_no
     · exact dt_no
   · exact dt_no
 · split
   · rename_i hp
     exact dt_tru g.hk (dk.O g _) (plainT_ok hp)
   · exact dt_no
theorem tgN_ok (g : Good G φ C X k W) {x : Str} {i : Nat} (e : tgN C x = some i) : X.N[i]? = some x ∧ Loc X.env.scope x ∧ (X.fn x = true ∨ X.env.scope.names.lookup x = some .local) ∧ NotBad x := by
 unfold tgN at e
 split at e
 · rename_i j et
   cases e
   obtain ⟨h, m⟩ := tabAt_mem et
   exact g.tab _ _ _ m
 · cases e
mutual
theorem tgD_ok (g : Good G φ C X k W) {vs : List Nat} : ∀ (n : Nat) {e : Expr} {t : Tgt} {us : List Nat}, tgD C n e = some (t, us) → (∀ i ∈ us, i ∈ vs) → PG X e (tG k vs t)
 | 0, e, t, us, h, _ => by simp [tgD] at h
 | n + 1, e, t, us, h, hv => by
   unfold tgD at h
   split at h
   · obtain ⟨i, e1, e2⟩ := Option.map_eq_some_iff.mp h
     cases e2
     obtain ⟨h1, h2, h3, _⟩ := tgN_ok g e1
     exact dg_name g.nd h1 h2 h3 (hv _ (by simp))
   · split at h
     · cases h
     rename_i hot
     obtain ⟨r, e1, e2⟩ := Option.map_eq_some_iff.mp h
     cases e2
     obtain ⟨ts, us⟩ := r
     obtain ⟨h1, h2, h3⟩ := tgs_ok g n e1 hv
     obtain ⟨a1, a2⟩ := aeach_len (env := X.env) h2
     exact dg_tup g.hk (g.calm (by simpa using hot)) h1 (a1.trans h3) a2
   · cases h
theorem tgs_ok (g : Good G φ C X k W) {vs : List Nat} : ∀ (n : Nat) {es : List Expr} {ts : List Tgt} {us : List Nat}, tgD.go C n es = some (ts, us) → (∀ i ∈ us, i ∈ vs) → PGs X es (tGs k vs ts) ∧ es.all isTg = true ∧ es.length = ts.length
 | n, [], ts, us, h, _ => by
   simp [tgD.go] at h
   obtain ⟨rfl, rfl⟩ := h
   exact ⟨dgs_nil, rfl, rfl⟩
 | n, e :: es, ts, us, h, hv => by
   unfold tgD.go at h
   split at h
   · rename_i a b ea eb
     cases h
     obtain ⟨t1, u1⟩ := a
     obtain ⟨t2, u2⟩ := b
     have i1 := tgD_ok g n ea (fun i hi => hv i (List.mem_append_left _ hi))
     obtain ⟨i2, i3, i4⟩ := tgs_ok g n eb (fun i hi => hv i (List.mem_append_right _ hi))
     have ie : isTg e = true := by
       cases n with
       | zero => simp [tgD] at ea
       | succ n =>
         unfold tgD at ea
         split at ea
         · rfl
         · rfl
         · cases ea
     exact ⟨dgs_cons i1 i2 (aeach_ok ie), by rw [List.all_cons, ie, i3]; rfl, by simp [i4]⟩
   · cases h
end
theorem it_ok (g : Good G φ C X k W) (dk : DenOk G φ d) {tg e : Expr} : DI X k W tg e (itE d C tg e) := by
 unfold itE
 split
 · rename_i x p es pos
   split
   · rename_i et
     obtain ⟨h, m⟩ := tabAt_mem et
     obtain ⟨h1, h2, h3, h4⟩ := g.tab _ _ _ m
     subst h3
     split
     · split
       · rename_i hs
         exact di_rng1 h1 h4 (dk.E g _) (notStar_ok hs)
       · exact di_no
     · split
       · rename_i hs
         rw [Bool.and_eq_true] at hs
         exact di_rng2 h1 h4 (dk.E g _) (dk.E g _) (notStar_ok hs.1) (notStar_ok hs.2)
       · exact di_no
     · exact di_no
   · rename_i et
     obtain ⟨h, m⟩ := tabAt_mem et
     obtain ⟨h1, h2, h3, h4⟩ := g.tab _ _ _ m
     subst h3
     split
     · split
       · rename_i hs
         exact di_enum g.hk h1 h4 (dk.E g _) (notStar_ok hs)
       · exact di_no
     · exact di_no
   · rename_i et
     obtain ⟨h, m⟩ := tabAt_mem et
     obtain ⟨h1, h2, h3, h4⟩ := g.tab _ _ _ m
     subst h3
     split
     · split
       · rename_i hs
         rw [Bool.and_eq_true] at hs
         exact di_zip g.hk h1 h4 (dk.E g _) (dk.E g _) (notStar_ok hs.1) (notStar_ok hs.2)
       · exact di_no
     · exact di_no
   · exact di_walk g.hk (dk.E g _)
 · exact di_walk g.hk (dk.E g _)
theorem slot_has (g : Good G φ C X k W) {h : Nat} {x : Str} {n : Nd} {i : Nat} (m : (h, x, n) ∈ C.tab) (e : slotOf n = some i) : X.N[i]? = some x ∧ NotBad x := by
 have := g.tab _ _ _ m
 cases n <;> simp only [slotOf] at e <;> first | contradiction | cases e
 · exact ⟨this.1, this.2.2.2⟩
 · exact ⟨this.1, this.2.2⟩
 · exact this
theorem glo_has (g : Good G φ C X k W) {h : Nat} {x : Str} {n : Nd} {q : Gd} (m : (h, x, n) ∈ C.tab) (e : gloOf n = some q) : NotBad x ∧ GdOk X k G φ x q := by
 have := g.tab _ _ _ m
 cases n <;> simp only [gloOf] at e <;> first | contradiction | cases e
 · exact this.2
 · exact this
theorem blkTab_mem (g : Good G φ C X k W) {names : List (Str × NameKind)} {h : Nat} {x : Str} {n : Nd} (m : (h, x, n) ∈ blkTab C names) :
   ((∃ i, n = .slo i ∧ X.N[i]? = some x ∧ NotBad x) ∨ (∃ q, n = .bgl q ∧ NotBad x ∧ GdOk X k G φ x q)) ∨ ∃ kd, (x, kd) ∈ names ∧
   ((∃ i, n = .loc i ∧ (kd = .local ∨ kd = .cell) ∧ X.N[i]? = some x ∧ NotBad x) ∨
    (∃ i, n = .frv i ∧ kd = .free ∧ X.N[i]? = some x ∧ NotBad x) ∨
    (∃ q, n = .glo q ∧ kd = .globalImplicit ∧ NotBad x ∧ GdOk X k G φ x q)) := by
 unfold blkTab at m
 rcases List.mem_append.mp m with m | m
 · refine .inr ?_
   obtain ⟨⟨y, kd⟩, h1, h2⟩ := List.mem_filterMap.mp m
   dsimp only at h2
   split at h2
   · rename_i nn _ e
     obtain ⟨i, e1, e2⟩ := Option.map_eq_some_iff.mp h2
     cases e2
     obtain ⟨hh, mm⟩ := tabAt_mem e
     exact ⟨_, h1, .inl ⟨i, rfl, .inl rfl, slot_has g mm e1⟩⟩
   · rename_i nn _ e
     obtain ⟨i, e1, e2⟩ := Option.map_eq_some_iff.mp h2
     cases e2
     obtain ⟨hh, mm⟩ := tabAt_mem e
     exact ⟨_, h1, .inl ⟨i, rfl, .inr rfl, slot_has g mm e1⟩⟩
   · rename_i nn _ e
     obtain ⟨i, e1, e2⟩ := Option.map_eq_some_iff.mp h2
     cases e2
     obtain ⟨hh, mm⟩ := tabAt_mem e
     exact ⟨_, h1, .inr (.inl ⟨i, rfl, rfl, slot_has g mm e1⟩)⟩
   · rename_i nn _ e
     obtain ⟨q, e1, e2⟩ := Option.map_eq_some_iff.mp h2
     cases e2
     obtain ⟨hh, mm⟩ := tabAt_mem e
     exact ⟨_, h1, .inr (.inr ⟨q, rfl, rfl, glo_has g mm e1⟩)⟩
   · cases h2
 · obtain ⟨⟨h', y, nn⟩, h1, h2⟩ := List.mem_filterMap.mp m
   obtain ⟨n', e1, e2⟩ := Option.map_eq_some_iff.mp h2
   cases e2
   unfold inner at e1
   split at e1
   · rename_i i ei
     cases e1
     exact .inl (.inl ⟨i, rfl, slot_has g h1 ei⟩)
   · obtain ⟨q, e3, e4⟩ := Option.map_eq_some_iff.mp e1
     cases e4
     exact .inl (.inr ⟨q, rfl, glo_has g h1 e3⟩)
theorem blk_good (g : Good G φ C X k W) (hx0 : k.xn = none) {scope : Scope} {s : Shared} {H : Hp} {A : Addr} {cl : List (Str × Addr)} {fp : List Addr} (hb : blkC C.N C.sc scope (blkOwn C scope.names) = true) : Good G φ (blkCt C scope) (X.blk s H scope (compEnvC scope cl A X.env) fp) k W0 := by
 have hb' := hb
 unfold blkC at hb'
 simp only [Bool.and_eq_true, List.all_eq_true, decide_eq_true_eq] at hb'
 obtain ⟨⟨⟨b1, b2⟩, b3⟩, b4⟩ := hb'
 have hsc : (compEnvC scope cl A X.env).scope = relS scope X.env.scope := rfl
 have kd : scope.kind = .function := by
   revert b1
   cases scope.kind <;> simp
 have lk : ∀ x kk, (x, kk) ∈ scope.names → scope.names.lookup x = some kk := fun x kk h => b2 (x, kk) h
 refine { hk := g.hk, N := g.N, nd := g.nd, sc := by show relS scope X.env.scope = relS scope C.sc; rw [g.sc], kind := kd, fnd := fun h => (nomatch h), calm := fun hh => g.calm hh, stk := fun h => (nomatch h), su := fun i a cls dx e => (by rw [hx0] at e; cases e), x0 := fun _ => hx0, xok := g.xok, xin := fun hc c f e => g.xin hc c f e, hx := fun _ h => (nomatch h), fns := g.fns, tk := TkW.of takes0, top := fun _ h => (nomatch h), hu := g.hu, tab := fun h x n m => ?_, fld := g.fld, mth := fun h m n q => ?_ }
 · have up : ∀ q, GdOk X k G φ x q → GdOk (X.blk s H scope (compEnvC scope cl A X.env) fp) k G φ x q := fun q h => by
     cases q <;> exact h
   rcases blkTab_mem g m with (⟨i, rfl, h1⟩ | ⟨q, rfl, h1, h2⟩) | ⟨kk, hm, hn⟩
   · exact h1
   · exact ⟨h1, up _ h2⟩
   have hl := lk x kk hm
   rcases hn with ⟨i, rfl, hk, h1⟩ | ⟨i, rfl, hk, h1⟩ | ⟨q, rfl, hk, a2, a3⟩
   · have h2 : Loc (relS scope X.env.scope) x := by
       rcases hk with hk | hk
       · exact .inl (lookup_relS_keep (by decide) (by rw [hl, hk]))
       · exact .inr (lookup_relS_keep (by decide) (by rw [hl, hk]))
     refine ⟨h1.1, h2, ?_, h1.2⟩
     rcases hk with hk | hk
     · exact .inr (lookup_relS_keep (by decide) (by rw [hl, hk]))
     · refine .inl ?_
       show (scope.names.lookup x == some NameKind.cell) = true
       rw [hl, hk]; rfl
   · refine ⟨h1.1, ?_, h1.2⟩
     have hv : ∃ k', (relS scope X.env.scope).names.lookup x = some k' ∧ (k' = .free ∨ k' = .cell) := by
       show ∃ k', (scope.names.map fun (n, k) => if (k == .free && X.env.scope.kind == .function && X.env.scope.names.lookup n == some .cell) then (n, .cell) else (n, k)).lookup x = some k' ∧ _
       have key : ∀ l : List (Str × NameKind), l.lookup x = some .free → ∃ k', (l.map fun (n, k) => if (k == .free && X.env.scope.kind == .function && X.env.scope.names.lookup n == some .cell) then (n, NameKind.cell) else (n, k)).lookup x = some k' ∧ (k' = .free ∨ k' = .cell) := by
         intro l
         induction l with
         | nil => intro h; cases h
         | cons a r ih =>
           obtain ⟨y, ky⟩ := a
           intro h
           rw [List.lookup_cons] at h
           rw [List.map_cons]
           by_cases hy : x == y
           · rw [hy] at h
             cases h
             dsimp only
             split
             · exact ⟨.cell, by rw [List.lookup_cons, hy], .inr rfl⟩
             · exact ⟨.free, by rw [List.lookup_cons, hy], .inl rfl⟩
           · have hy : (x == y) = false := by simpa using hy
             rw [hy] at h
             obtain ⟨k', e1, e2⟩ := ih h
             refine ⟨k', ?_, e2⟩
             dsimp only
             split <;> (rw [List.lookup_cons, hy]; exact e1)
       exact key _ (by rw [hl, hk])
     obtain ⟨k', e1, e2⟩ := hv
     rcases e2 with rfl | rfl
     · exact .inr (.inr e1)
     · exact .inr (.inl e1)
   · refine ⟨?_, a2, up _ a3⟩
     show (relS scope X.env.scope).names.lookup x = some .globalImplicit
     exact lookup_relS_keep (by decide) (by rw [hl, hk])
 · have := g.mth h m n q
   cases n <;> exact this
theorem good_off (g : Good G φ C X k W) : Good G φ C X k.off W0 := by
 obtain ⟨kz, xn⟩ := k
 refine { hk := g.hk, N := g.N, nd := g.nd, sc := g.sc, kind := g.kind, fnd := g.fnd, calm := g.calm, stk := g.stk, su := fun i a cls dx e => (nomatch e), x0 := fun _ => rfl, xok := g.xok, xin := g.xin, hx := g.hx, fns := g.fns, tk := TkW.of takes0, top := g.top, hu := g.hu, tab := fun h x n m => ?_, fld := g.fld, mth := fun h m n q => ?_ }
 · have := g.tab h x n m
   cases n <;> first | exact this | (rename_i q; cases q <;> exact this)
 · have := g.mth h m n q
   cases n <;> exact this
theorem ifs_ok {Y : Cx} {C' : Ct} (g : Good G φ C' Y k W) (dk : DenOk G φ d) {ifs : List Expr} : PTs Y ifs (tTt k W (ifsT d C' ifs)) := by
 unfold ifsT
 split
 · exact ⟨fun pins s σ H Q I ⟨P, w, env, S, J, h⟩ => pts_nil.run pins s σ H Q I (h.ret H J)⟩
 · exact pts_one (dk.T g _)
 · exact ⟨fun _ _ _ _ _ _ ⟨_, _, _, _, _, h⟩ => h.elim⟩
def itXb (C : Ct) (tg e : Expr) : Bool := match tg, e with
 | .Tuple _ _ _, .Call (.Name x _) [a, b] [] _ => (match tabAt C.tab x with
   | some (.glo (.blt .zip)) => notStar a && notStar b
   | _ => false)
 | _, _ => false
theorem itX_ok (g : Good G φ C X k W) (dk : DenOk G φ d) {tg e : Expr} (h : itXb C tg e = true) : L2H.PIX X tg e (tI k W (itX d C e)) := by
 unfold itXb at h
 split at h
 · split at h
   · rename_i et
     obtain ⟨_, m⟩ := tabAt_mem et
     obtain ⟨h1, h2, h3, h4⟩ := g.tab _ _ _ m
     subst h3
     have hs := h
     rw [Bool.and_eq_true] at hs
     unfold itX
     dsimp only
     rw [et]
     dsimp only
     rw [if_pos h]
     exact di_zipX g.hk h1 h4 (dk.E g _) (dk.E g _) (notStar_ok hs.1) (notStar_ok hs.2)
   · cases h
 · cases h
theorem tgX_ok (g : Good G φ C X k W) (hB : L2H.HotB X) {e : Expr} {t : Tgt} {us vs : List Nat} (h : tgX C e = some (t, us)) (hv : ∀ i ∈ us, i ∈ vs) : PG X e (tG k vs t) := by
 unfold tgX at h
 split at h
 · obtain ⟨r, e1, e2⟩ := Option.map_eq_some_iff.mp h
   cases e2
   obtain ⟨ts, us⟩ := r
   obtain ⟨h1, h2, h3⟩ := tgs_ok g 4 e1 hv
   obtain ⟨a1, a2⟩ := aeach_len (env := X.env) h2
   exact dg_tupX g.hk hB h1 (a1.trans h3) a2
 · cases h
theorem itX_no {tg e : Expr} {t : Tgt} {us : List Nat} {C' : Ct} {m : Src → M Cell} (h : itXb C tg e = false) (ht : tgX C' tg = some (t, us)) {env : Envr} {S : Sto} : dUnX (M.bind (itX d C e) m) env S = .bad := by
 have : itX d C e = M.fail := by
   unfold itX
   split
   · rename_i x p a b pos
     split
     · rename_i et
       split
       · rename_i hs
         exfalso
         unfold tgX at ht
         split at ht
         · unfold itXb at h
           dsimp only at h
           rw [et] at h
           dsimp only at h
           rw [hs] at h
           cases h
         · cases ht
       · rfl
     · rfl
   · rfl
 rw [this]
 rfl
theorem comp_parts (g : Good G φ C X k W) (dk : DenOk G φ d) {elt tg it : Expr} {ifs : List Expr} {scope : Scope} : (∀ e pos, e = Expr.ListComp elt [⟨tg, it, ifs, 0⟩] scope pos → DF X k W e (compF d C elt tg it ifs scope)) ∧
   (∀ i y py epos pos, X.N[i]? = some y → Loc X.env.scope y → (X.fn y = true ∨ X.env.scope.names.lookup y = some .local) → PS X (.Assign [.Name y py] (.ListComp elt [⟨tg, it, ifs, 0⟩] scope epos) pos) (tAsg (tF k W (compF d C elt tg it ifs scope)) (gName i))) := by
 have no : (∀ e pos, e = Expr.ListComp elt [⟨tg, it, ifs, 0⟩] scope pos → DF X k W e M.fail) ∧
   (∀ i y py epos pos, X.N[i]? = some y → Loc X.env.scope y → (X.fn y = true ∨ X.env.scope.names.lookup y = some .local) → PS X (.Assign [.Name y py] (.ListComp elt [⟨tg, it, ifs, 0⟩] scope epos) pos) (tAsg (tF k W M.fail) (gName i))) :=
   ⟨fun _ _ _ => df_no, fun _ _ _ _ _ _ _ _ => ⟨fun _ _ _ _ _ _ ⟨_, _, _, _, _, h⟩ => h.elim⟩⟩
 unfold compF
 split
 · rename_i hot
   unfold compX
   split
   · rename_i hb
     rw [Bool.and_eq_true, Bool.and_eq_true] at hb
     obtain ⟨htop, hb, hns⟩ := hb
     have hc := g.hx hot htop
     have g0 := good_off g
     split
     · rename_i t us et
       split
       · rename_i hv
         have hv : ∀ i ∈ us, i ∈ (blkOwn C scope.names).map (·.2) := fun i hi => of_decide_eq_true (List.all_eq_true.mp hv i hi)
         have ok : BlkOk X.N X.env.scope scope (blkOwn C scope.names) := by rw [g.N, g.sc]; exact blkOk_by hb
         have hg : ∀ (s : Shared) (H : Hp) (A : Addr) (cl : List (Str × Addr)) (fp : List Addr), L2H.HotB (X.blk s H scope (compEnvC scope cl A X.env) fp) → PG (X.blk s H scope (compEnvC scope cl A X.env) fp) tg (tG k.off ((blkOwn C scope.names).map (·.2)) t) := fun s H A cl fp hB => tgX_ok (blk_good g0 rfl hb) hB et hv
         have ht : ∀ (s : Shared) (H : Hp) (A : Addr) (cl : List (Str × Addr)) (fp : List Addr), PTs (X.blk s H scope (compEnvC scope cl A X.env) fp) ifs (tTt k.off W0 (ifsT d (blkCt C scope) ifs)) := fun s H A cl fp => ifs_ok (blk_good g0 rfl hb) dk
         have he : ∀ (s : Shared) (H : Hp) (A : Addr) (cl : List (Str × Addr)) (fp : List Addr), PE (X.blk s H scope (compEnvC scope cl A X.env) fp) elt (tE k.off W0 (d.E (blkCt C scope) elt)) := fun s H A cl fp => dk.E (blk_good g0 rfl hb) elt
         cases hi : itXb C tg it with
         | false =>
           refine ⟨fun e pos ee => PE.sub (df_no (X := X) (k := k) (W := W)) fun σ H Q h => ?_, fun i y py epos pos _ _ _ => ?_⟩
           · obtain ⟨P, w, env, S, I, h⟩ := h
             unfold dComp at h
             rw [itX_no hi et] at h
             exact h.elim
           · refine ⟨fun _ _ σ H D _ h => ?_⟩
             obtain ⟨P, w, env, S, I, h⟩ := (show tF k W _ _ _ _ from h)
             unfold dComp at h
             rw [itX_no hi et] at h
             exact h.elim
         | true =>
         have hpi := itX_ok g0 dk hi
         refine ⟨fun e pos ee => ?_, fun i y py epos pos hi hl hf => ?_⟩
         · subst ee
           exact PE.sub (L2H.pe_lcX hc g.nd hpi ok hg ht he (fold_ok hns)) fun σ H Q h => comp_lc (tF_un h)
         · have sub : ∀ (st : Stmt), PS X st (tAsg (tLc (tI k.off W0 (itX d C it)) (tG k.off ((blkOwn C scope.names).map (·.2)) t) (tTt k.off W0 (ifsT d (blkCt C scope) ifs)) (tE k.off W0 (d.E (blkCt C scope) elt)) ((blkOwn C scope.names).map (·.2))) (gName i)) →
               PS X st (tAsg (tF k W (dUnX (dComp (itX d C it) t (ifsT d (blkCt C scope) ifs) (d.E (blkCt C scope) elt) ((blkOwn C scope.names).map (·.2))))) (gName i)) := fun st h => PS.sub h fun Dn σ H q => comp_lc (tF_un q)
           refine sub _ ?_
           by_cases hyl : X.env.scope.names.lookup y = some .local
           · by_cases hline : (py.line == epos.line) = true
             · cases ha : (scope.names.any fun (n, k) => n == y && (k == .local || k == .cell)) with
               | false => exact L2H.ps_setLcX hc g.nd hi hyl (sw_true g.kind hyl hline ha) hpi ok hg ht he (fold_ok hns)
               | true =>
                 refine ps_set g.nd hi hl (L2H.pe_lcX hc g.nd hpi ok hg ht he (fold_ok hns)) ?_ hf
                 unfold swapsWith
                 simp only [ha]
                 simp
             · refine ps_set g.nd hi hl (L2H.pe_lcX hc g.nd hpi ok hg ht he (fold_ok hns)) ?_ hf
               have hline : (py.line == epos.line) = false := by simpa using hline
               unfold swapsWith
               simp only [Expr.pos, hline]
               simp
           · refine ps_set g.nd hi hl (L2H.pe_lcX hc g.nd hpi ok hg ht he (fold_ok hns)) ?_ hf
             have hk : (X.env.kindOf y == some NameKind.local) = false := by
               show (X.env.scope.names.lookup y == some NameKind.local) = false
               cases hq : X.env.scope.names.lookup y with
               | none => rfl
               | some q => cases q <;> first | rfl | exact absurd hq hyl
             unfold swapsWith
             simp only [hk]
             simp
       · exact no
     · exact no
   · exact no
 rename_i hot
 have hot : C.hot = false := by simpa using hot
 split
 · rename_i hb
   rw [Bool.and_eq_true] at hb
   obtain ⟨hb, hns⟩ := hb
   split
   · rename_i t us et
     split
     · rename_i hv
       have hv : ∀ i ∈ us, i ∈ (blkOwn C scope.names).map (·.2) := fun i hi => of_decide_eq_true (List.all_eq_true.mp hv i hi)
       have ok : BlkOk X.N X.env.scope scope (blkOwn C scope.names) := by rw [g.N, g.sc]; exact blkOk_by hb
       have hg : ∀ (s : Shared) (H : Hp) (A : Addr) (cl : List (Str × Addr)) (fp : List Addr), PG (X.blk s H scope (compEnvC scope cl A X.env) fp) tg (tG k ((blkOwn C scope.names).map (·.2)) t) := fun s H A cl fp => tgD_ok (blk_good g (g.x0 hot) hb) 5 et hv
       have ht : ∀ (s : Shared) (H : Hp) (A : Addr) (cl : List (Str × Addr)) (fp : List Addr), PTs (X.blk s H scope (compEnvC scope cl A X.env) fp) ifs (tTt k W0 (ifsT d (blkCt C scope) ifs)) := fun s H A cl fp => ifs_ok (blk_good g (g.x0 hot) hb) dk
       have he : ∀ (s : Shared) (H : Hp) (A : Addr) (cl : List (Str × Addr)) (fp : List Addr), PE (X.blk s H scope (compEnvC scope cl A X.env) fp) elt (tE k W0 (d.E (blkCt C scope) elt)) := fun s H A cl fp => dk.E (blk_good g (g.x0 hot) hb) elt
       refine ⟨fun e pos ee => ?_, fun i y py epos pos hi hl hf => ?_⟩
       · subst ee
         exact PE.sub (pe_lc (g.calm hot) g.nd (it_ok g dk) ok hg ht he (fold_ok hns)) fun σ H Q h => comp_lc h
       · have sub : ∀ (st : Stmt), PS X st (tAsg (tLc (tI k W (itE d C tg it)) (tG k ((blkOwn C scope.names).map (·.2)) t) (tTt k W0 (ifsT d (blkCt C scope) ifs)) (tE k W0 (d.E (blkCt C scope) elt)) ((blkOwn C scope.names).map (·.2))) (gName i)) →
             PS X st (tAsg (tF k W (dComp (itE d C tg it) t (ifsT d (blkCt C scope) ifs) (d.E (blkCt C scope) elt) ((blkOwn C scope.names).map (·.2)))) (gName i)) := fun st h => PS.sub h fun Dn σ H q => comp_lc q
         refine sub _ ?_
         by_cases hyl : X.env.scope.names.lookup y = some .local
         · by_cases hline : (py.line == epos.line) = true
           · cases ha : (scope.names.any fun (n, k) => n == y && (k == .local || k == .cell)) with
             | false => exact ps_setLc (g.calm hot) g.nd hi hyl (sw_true g.kind hyl hline ha) (it_ok g dk) ok hg ht he (fold_ok hns)
             | true =>
               refine ps_set g.nd hi hl (pe_lc (g.calm hot) g.nd (it_ok g dk) ok hg ht he (fold_ok hns)) ?_ hf
               unfold swapsWith
               simp only [ha]
               simp
           · refine ps_set g.nd hi hl (pe_lc (g.calm hot) g.nd (it_ok g dk) ok hg ht he (fold_ok hns)) ?_ hf
             have hline : (py.line == epos.line) = false := by simpa using hline
             unfold swapsWith
             simp only [Expr.pos, hline]
             simp
         · refine ps_set g.nd hi hl (pe_lc (g.calm hot) g.nd (it_ok g dk) ok hg ht he (fold_ok hns)) ?_ hf
           have hk : (X.env.kindOf y == some NameKind.local) = false := by
             show (X.env.scope.names.lookup y == some NameKind.local) = false
             cases hq : X.env.scope.names.lookup y with
             | none => rfl
             | some q => cases q <;> first | rfl | exact absurd hq hyl
           unfold swapsWith
           simp only [hk]
           simp
     · exact no
   · exact no
 · exact no
theorem pairs_ok (g : Good G φ C X k W) (dk : DenOk G φ d) {pos : Pos} : ∀ {ks : List (Option Expr)} {vs : List Expr}, ks.all (·.isSome) = true → ks.length = vs.length → PPs X pos ks vs ((pairsE d C ks vs).map (tPr k W))
 | [], [], _, _ => pps_nil
 | [], _ :: _, _, h => by simp at h
 | _ :: _, [], _, h => by simp at h
 | none :: _, _ :: _, h, _ => by simp at h
 | some a :: ks, b :: vs, h, hl => pps_cons (dk.E g a) (argE_ok g dk) (pairs_ok g dk (by simpa using h) (by simpa using hl))
theorem disp_ok (g : Good G φ C X k W) (dk : DenOk G φ d) {ks : List (Option Expr)} {vs : List Expr} {pos : Pos} : DF X k W (.Dict ks vs pos) (dispF d C ks vs) := by
 unfold dispF
 split
 · split
   · exact PE.sub pe_dnewT fun σ H Q ⟨P, w, env, S, I, h⟩ p hp => by
       obtain ⟨I2, L⟩ := I.new (o := .dT []) hp
       exact h.ret p _ _ I2 upd_same ⟨[], rfl, rfl, rfl⟩ L
   · exact PE.sub pe_dnewK fun σ H Q ⟨P, w, env, S, I, h⟩ p hp => by
       obtain ⟨I2, L⟩ := I.new (o := .dK []) hp
       exact h.ret p _ _ I2 upd_same ⟨[], rfl, rfl, rfl⟩ L
 · split
   · rename_i h
     simp only [Bool.and_eq_true, decide_eq_true_eq, Bool.not_eq_true', List.isEmpty_eq_false_iff] at h
     obtain ⟨h1, h2, h3, h4⟩ := h
     exact df_disp (pairs_ok g dk h1 h2) h1 h2 h3 h4
   · exact df_no
theorem expF_ok (g : Good G φ C X k W) (dk : DenOk G φ d) (e : Expr) : DF X k W e (expF d C e) := by
 unfold expF
 split
 · exact df_lst (args_ok g dk)
 · exact disp_ok g dk
 · split
   · exact (comp_parts g dk).1 _ _ rfl
   · exact df_no
 · exact df_sl g.hk (dk.O g _) (opt_ok g dk _) (opt_ok g dk _)
 · rename_i x p a pos
   split
   · exact df_no
   rename_i hot
   have hc : X.calm = true := g.calm (by simpa using hot)
   split
   · rename_i b et
     obtain ⟨h, m⟩ := tabAt_mem et
     obtain ⟨hg, hb, rfl, hm⟩ := g.tab _ _ _ m
     split
     · rename_i a2 es
       obtain ⟨y, p2, pos2, rfl, hy, hg2, hm2, hs⟩ := setArg_ok g es
       split
       · exact df_sset g.hk hc rfl hy hg hm hg2 hm2 (dk.O g a2) hs
       · exact df_no
     split
     · rename_i f e
       split
       · rename_i hs
         have hs := notStar_ok hs
         cases b <;> simp only [bfF] at e <;> first | contradiction | (cases e)
         · exact df_call1 (c := .t "list") g.hk (cr_list.or (cr_listStr hc)) (opf_listX hc) hg hm (by decide +kernel) hb.2.2 hb.1 (dk.O g a) hs
         · exact df_call1 (c := .f "sorted") g.hk ((cr_sorted.or cr_sortedS).or (cr_sortD g.hu)) opf_sortedX hg hm (by decide +kernel) hb.2.2 hb.1 (dk.O g a) hs
         · exact df_call1 (c := .t "dict") g.hk (call_dictP hc) opf_dict hg hm (by decide +kernel) hb.2.2 hb.1 (dk.O g a) hs
       · exact df_no
     · exact df_no
   · exact df_no
 · exact df_op g.hk or_add opf_cat (dk.O g _) (dk.O g _)
 · exact df_no
end
end L2.MP
end
section
namespace L2.MP
open PySem PySem.Spec PyProof.Rows
section
variable {G : Gm} {φ : Nat → Fn} {d : Den} {C : Ct} {X : Cx} {k : Ky} {W : WX}
theorem ds_no {s : Stmt} : DS X k W s M.fail := ds_never
theorem seqS_ok (g : Good G φ C X k W) (dk : DenOk G φ d) (hb : C.blk = none) (hp : PassesOwn (model X.prog X.w) X.A X.env X.xe) : ∀ ss : List Stmt, DSs X k W ss (seqS d C ss)
 | [] => dss_nil
 | [s] => dss_one (dk.S g hb hp s)
 | s :: t :: r => dss_cons (dk.S g hb hp s) (seqS_ok g dk hb hp (t :: r))
theorem setE_ok {i : Nat} {f : Bool} {me : M D} {mf : M Cell} {st : Stmt} (h1 : PS X st (tAsg (tE k W me) (gName i))) (h2 : PS X st (tAsg (tF k W mf) (gName i))) : DS X k W st (setE C i f me mf) := by
 unfold setE
 split
 · exact ds_setHp h2
 · split
   · exact ds_setOwn h2
   · exact ds_set h1
theorem asgS_ok (g : Good G φ C X k W) (dk : DenOk G φ d) (hb : C.blk = none) {tg e : Expr} {pos : Pos} : DS X k W (.Assign [tg] e pos) (asgS G d C tg e pos) := by
 have hu := g.hu
 unfold asgS
 split
 · rename_i x p
   split
   · rename_i i ei
     obtain ⟨h1, h2, h3, _⟩ := tgN_ok g ei
     split
     · split
       · exact setE_ok (as_fz ((comp_parts g dk).2 i x p _ pos h1 h2 h3)) ((comp_parts g dk).2 i x p _ pos h1 h2 h3)
       · exact ds_no
     · split
       · rename_i hn
         exact setE_ok (ps_set g.nd h1 h2 (dk.E g _) (swap_ok hn) h3) (ps_set g.nd h1 h2 (dk.F g _) (swap_ok hn) h3)
       · exact ds_no
   · exact ds_no
 · rename_i es kk p
   split
   · rename_i hc
     rw [Bool.and_eq_true, Bool.and_eq_true] at hc
     split
     · rename_i t us et
       exact ds_asg (ps_asg (dk.E g _) (tgD_ok (vs := us) g 5 et fun i hi => hi) (show swapsWith e (some (.Tuple es kk p)) pos.line X.env = pure false from swap_ok hc.2.1) (stores_ok hc.1) (aeach_one rfl))
     · exact ds_no
   · exact ds_no
 · rename_i o i p
   split
   · rename_i hc
     rw [Bool.and_eq_true] at hc
     refine ds_setIx g.hk (ps_asg (dk.E g _) (pg_sub (dk.O g o) (dk.O g i) (pset_ab (by omega)) ?_) (show swapsWith e (some (.Subscript o i p)) pos.line X.env = pure false from swap_ok hc.1) stores_ok2 rfl)
     have hx := hc.2
     intro v
     cases i <;> first | rfl | cases hx
   · exact ds_no
 · split
   · rename_i hc
     split
     · rename_i cs ec
       obtain ⟨h, m⟩ := lkAt_mem ec
       split
       · exact ds_fldF (g.fld _ _ _ m) (dk.E g _) (dk.F g _) (swap_ok hc)
       · exact ds_fld (g.fld _ _ _ m) (dk.E g _) (dk.E g _) (swap_ok hc)
     · exact ds_no
   · exact ds_no
 · exact ds_no
theorem raiseS_ok (g : Good G φ C X k W) (dk : DenOk G φ d) {e : Expr} {pos : Pos} : DS X k W (.Raise (some e) none pos) (raiseS G d C e) := by
 unfold raiseS
 split
 · exact ds_no
 rename_i hot
 have hc : X.calm = true := g.calm (by simpa using hot)
 split
 · split
   · rename_i et
     obtain ⟨_, m⟩ := tabAt_mem et
     obtain ⟨h1, h2, h3, h4, h5, h6⟩ := g.tab _ _ _ m
     split
     · rename_i hn
       exact ds_raise0N F.excBase_ValueError (h6 hn) h3 h4 h5 h1 h2.1 hc g.tk.cold
     · exact ds_no
   · exact ds_no
 · split
   · rename_i et
     obtain ⟨_, m⟩ := tabAt_mem et
     obtain ⟨h1, h2, h3, h4, h5, h6⟩ := g.tab _ _ _ m
     split
     · rename_i f ef
       split
       · rename_i hs
         obtain ⟨fI, fd, ps, lv, T, iC, tI, F1, _, hr, hb⟩ := g.xin hc _ _ ef
         exact ds_raise1N T iC tI F1 (fun _ _ _ _ _ _ _ z => (cx_no (cx_cold z)).elim) hr hb h1 h3 h2.1 hc g.tk.cold (dk.E g _) (notStar_ok hs)
       · exact ds_no
     · exact ds_no
   · exact ds_no
 · exact ds_no
theorem tr_good (g : Good G φ C X k W) {pn : List (Addr × Obj)} {xe : Value → Shared → Prop} {W' : WX} (wd : Bool) (tk : TkW wd (X.tr pn xe) W') (hot : C.hot = false) : Good G φ { C with wide := wd, top := false } (X.tr pn xe) k W' :=
 { hk := g.hk, N := g.N, nd := g.nd, sc := g.sc, kind := g.kind, fnd := g.fnd, calm := g.calm, stk := g.stk, su := fun i a cls dx e => (by rw [g.x0 hot] at e; cases e), x0 := g.x0, xok := g.xok, xin := g.xin, hx := fun h => (by rw [show C.hot = true from h] at hot; cases hot), fns := g.fns, tk := tk, top := fun _ h => (nomatch h), hu := g.hu,
   tab := fun h x n m => by
     have := g.tab h x n m
     cases n <;> first | exact this | (rename_i q; cases q <;> exact this)
   fld := g.fld, mth := fun h m n q => by
     have := g.mth h m n q
     cases n <;> exact this }
theorem fnX_mark {a : Addr} {pn : List (Addr × Obj)} {i : Nat} {f : Addr} (h : FnXHas X k φ i f) : FnXHas (X.suite a pn) k φ i f := by
 obtain ⟨fd, ps, lv, F, hr, hb⟩ := h
 exact ⟨fd, ps, lv, F, ⟨hr.dp, hr.un⟩, hb⟩
theorem fnX_markX {a : Addr} {pn : List (Addr × Obj)} {i : Nat} {f : Addr} (h : FnXHas X k φ i f) : FnXHas (L2H.suiteX X a pn) k φ i f := by
 obtain ⟨fd, ps, lv, F, hr, hb⟩ := h
 exact ⟨fd, ps, lv, F, ⟨hr.dp, hr.un⟩, hb⟩
theorem suite_good (g : Good G φ C X k W) (hot : C.hot = false) {a : Addr} {pn : List (Addr × Obj)} {k' : Ky} (tp : Bool) (hh : tp = true → L2H.HotC (X.suite a pn)) (ek : k'.toKz = k.toKz) (su : SuX (X.suite a pn) k') : Good G φ { C with hot := true, top := tp } (X.suite a pn) k' W0 := by
 obtain ⟨kz, xn⟩ := k
 obtain ⟨kz', xn'⟩ := k'
 cases ek
 refine { hk := g.hk, N := g.N, nd := g.nd, sc := g.sc, kind := g.kind, fnd := g.fnd, calm := fun h => ?_, stk := g.stk, su := su, x0 := fun h => ?_, xok := g.xok, xin := fun h => ?_, hx := fun _ h => hh h, fns := fun h => (nomatch h), tk := TkW.of takes0, top := fun h => (nomatch h), hu := g.hu, tab := fun h x n m => ?_, fld := g.fld, mth := fun h m n q => ?_ }
 · cases h
 · cases h
 · cases h
 · have := g.tab h x n m
   cases n <;> first | exact this | skip
   · rename_i q; cases q <;> first | exact this | exact ⟨this.1, this.2.1, fun h => (nomatch h), fun hx => ⟨(this.2.2.2 hx).1, (this.2.2.2 hx).2.1, fnX_mark (this.2.2.2 hx).2.2⟩⟩ | exact ⟨this.1, this.2.1, fun h => (nomatch h)⟩
   · rename_i q; cases q <;> first | exact this | exact ⟨this.1, fun h => (nomatch h), fun hx => ⟨(this.2.2 hx).1, (this.2.2 hx).2.1, fnX_mark (this.2.2 hx).2.2⟩⟩ | exact ⟨this.1, fun h => (nomatch h)⟩
 · have := g.mth h m n q
   cases n <;> first | exact this | exact fun h => (nomatch h)
theorem dss_no {s : List Stmt} : DSs X k W s M.fail := ⟨fun _ _ _ _ _ _ ⟨_, _, _, _, _, h⟩ => h.elim⟩
theorem suite_goodX (g : Good G φ C X k W) (hot : C.hot = false) {a : Addr} {pn : List (Addr × Obj)} (tk : L2.Takes (L2H.suiteX X a pn) W) : Good G φ C.heat (L2H.suiteX X a pn) k W := by
 refine { hk := g.hk, N := g.N, nd := g.nd, sc := g.sc, kind := g.kind, fnd := g.fnd, calm := fun h => ?_, stk := g.stk, su := fun i a cls dx e => (by rw [g.x0 hot] at e; cases e), x0 := fun h => ?_, xok := g.xok, xin := fun h => ?_, hx := fun _ h => (nomatch h), fns := fun h => (nomatch h), tk := TkW.of tk, top := fun h => (nomatch h), hu := g.hu, tab := fun h x n m => ?_, fld := g.fld, mth := fun h m n q => ?_ }
 · cases h
 · cases h
 · cases h
 · have := g.tab h x n m
   cases n <;> first | exact this | skip
   · rename_i q; cases q <;> first | exact this | exact ⟨this.1, this.2.1, fun h => (nomatch h), fun hx => ⟨(this.2.2.2 hx).1, (this.2.2.2 hx).2.1, fnX_markX (this.2.2.2 hx).2.2⟩⟩ | exact ⟨this.1, this.2.1, fun h => (nomatch h)⟩
   · rename_i q; cases q <;> first | exact this | exact ⟨this.1, fun h => (nomatch h), fun hx => ⟨(this.2.2 hx).1, (this.2.2 hx).2.1, fnX_markX (this.2.2 hx).2.2⟩⟩ | exact ⟨this.1, fun h => (nomatch h)⟩
 · have := g.mth h m n q
   cases n <;> first | exact this | exact fun h => (nomatch h)
theorem rSuite_ok (g : Good G φ C X k W) (dk : DenOk G φ d) (hot : C.hot = false) {a : Addr} {pn : List (Addr × Obj)} (tk : L2.Takes (L2H.suiteX X a pn) W) (hh : L2H.HotC (L2H.suiteX X a pn)) {s : List Stmt} : DSs (L2H.suiteX X a pn) k W s (rSuite G d C s) := by
 have hc : X.calm = true := g.calm hot
 have g2 := suite_goodX g hot tk
 unfold rSuite
 split
 · split
   · rename_i et
     obtain ⟨_, m⟩ := tabAt_mem et
     obtain ⟨h1, h2, h3, h4, h5, h6⟩ := g.tab _ _ _ m
     split
     · rename_i f ef
       split
       · rename_i hs
         obtain ⟨fI, fd, ps, lv, T, iC, tI, _, FH, hr, hb⟩ := g.xin hc _ _ ef
         refine dss_one (ds_raise1H (X := L2H.suiteX X a pn) T iC tI FH (fun _ _ _ _ _ _ _ z => (cx_no (cx_cold z)).elim) (L2H.roomH_mark hr _) hb h1 h3 h2.1 hh tk (dk.E g2 _) (notStar_ok hs))
       · exact dss_no
     · exact dss_no
   · exact dss_no
 · exact dss_no
theorem tryS_ok (g : Good G φ C X k W) (dk : DenOk G φ d) (hb : C.blk = none) {a : List Stmt} {x : Str} {n : Option Str} {b : Stmt} {s : List Stmt} {p pos pos' : Pos} : DS X k W (.Try a [.ExceptHandler (some (.Name x p)) n (b :: s) pos'] [] [] pos) (tryS G d C a x n (b :: s)) := by
 unfold tryS
 split
 · exact ds_no
 rename_i hot
 have hot : C.hot = false := by simpa using hot
 have tkw : C.wide = true → L2.Takes X W := fun hw => by
   have := g.tk
   rw [hw] at this
   exact this
 obtain ⟨hs, hf⟩ := g.stk hb
 split
 · rename_i c et
   obtain ⟨_, m⟩ := tabAt_mem et
   obtain ⟨h1, h2, h3, _⟩ := g.tab _ _ _ m
   have hc : Names X x (.ref (k.cl c)) := ⟨h1, h2.1, .inl h3⟩
   have body : ∀ (W : WX) (pn : List (Addr × Obj)) (xe : Value → Shared → Prop), Takes (X.tr pn xe) W → PassesOwn (model X.prog X.w) X.A X.env xe → DSs (X.tr pn xe) k W a (seqS d C.deep a) := fun W' pn xe tk hp => seqS_ok (tr_good g true tk hot) dk hb hp a
   have bodyN : ∀ (W : WX) (pn : List (Addr × Obj)) (xe : Value → Shared → Prop), L2N.Takes (X.tr pn xe) W → PassesOwn (model X.prog X.w) X.A X.env xe → DSs (X.tr pn xe) k W a (seqS d C.cold a) := fun W' pn xe tk hp => seqS_ok (tr_good g false tk hot) dk hb hp a
   split
   · split
     · split
       · rename_i ht
         split
         · rename_i hw
           exact ds_tryR hs hf hc g.xok (g.top hot ht) (tkw hw) bodyN fun a' oe cls dd pn hz hd tk2 hh => rSuite_ok g dk hot tk2 hh
         · exact PS.sub (ds_tryR (W := W0) hs hf hc g.xok (g.top hot ht) takes0 bodyN (s := M.fail) fun a' oe cls dd pn hz hd tk2 hh => dss_no) fun Dn σ H ⟨P, w, env, S, I, h⟩ => ⟨P, w, env, S, I, by
             unfold noX at h
             unfold dTryR
             cases eb : seqS d C.cold a env S with
             | ok f env1 S1 => rw [eb] at h; exact h
             | exc x env1 S1 => rw [eb] at h; exact h.elim
             | bad => rw [eb] at h; exact h⟩
       · exact ds_no
     · split
       · rename_i hw
         exact ds_tryN hs hf hc g.xok (tkw hw) body fun a' oe cls dd pn hz hd => seqS_ok (suite_good g hot false (fun h => (nomatch h)) rfl fun i a cls dx e => by rw [g.x0 hot] at e; cases e) dk hb PassesOwn.never _
       · exact ds_tryNC hs hf hc g.xok g.tk.cold bodyN fun a' oe cls dd pn hz hd => seqS_ok (suite_good g hot false (fun h => (nomatch h)) rfl fun i a cls dx e => by rw [g.x0 hot] at e; cases e) dk hb PassesOwn.never _
   · rename_i y
     split
     · rename_i i ei
       split
       · rename_i hl
         obtain ⟨_, m⟩ := tabAt_mem ei
         obtain ⟨q1, q2, _, q3⟩ := g.tab _ _ _ m
         have hly : X.env.scope.names.lookup y = some .local := by
           rw [g.sc]
           simpa using hl
         split
         · exact ds_tryC hs hf g.nd q1 hly (g.x0 hot) hc g.xok g.tk.cold bodyN fun a' oe cls dd pn hz hd => seqS_ok (suite_good g hot (k' := k.at i a' cls dd) true (fun _ => by
             obtain ⟨vs, hv⟩ := hd
             exact ⟨(a', oe), ⟨rfl, vs, hv, hz.2.2 vs hv⟩, List.mem_cons_self⟩) rfl fun i2 a2 cls2 dx2 e => by
             cases e
             exact ⟨X, oe, pn, rfl, hz.zc, hd⟩) dk hb PassesOwn.never _
         · split
           · rename_i hw
             exact ds_tryE hs hf g.nd q1 hly (g.x0 hot) hc g.xok (tkw hw) body fun a' oe cls dd pn hz hd => seqS_ok (suite_good g hot (k' := k.at i a' cls dd) false (fun h => (nomatch h)) rfl fun i2 a2 cls2 dx2 e => by
               cases e
               exact ⟨X, oe, pn, rfl, hz, hd⟩) dk hb PassesOwn.never _
           · exact ds_tryC hs hf g.nd q1 hly (g.x0 hot) hc g.xok g.tk.cold bodyN fun a' oe cls dd pn hz hd => seqS_ok (suite_good g hot (k' := k.at i a' cls dd) false (fun h => (nomatch h)) rfl fun i2 a2 cls2 dx2 e => by
               cases e
               exact ⟨X, oe, pn, rfl, hz.zc, hd⟩) dk hb PassesOwn.never _
       · exact ds_no
     · exact ds_no
 · exact ds_no
theorem augS_ok (g : Good G φ C X k W) (dk : DenOk G φ d) {o i e : Expr} {p pos : Pos} {op : Operator} {f : Int → Int → Int} (hp : plainIx i = true) (ef : augF op = some f) : DS X k W (.AugAssign (.Subscript o i p) op e pos) (dAugIx f (d.O C o) (d.O C i) (d.E C e)) := by
 have ha : ∀ ov iv new, augStore i ov iv new = (do holding [new, ov, iv] (setItem ov iv new); release [new, ov, iv] []; pure .next) := by
   intro ov iv new
   cases i <;> first | rfl | cases hp
 cases op <;> simp only [augF] at ef <;> first | contradiction | skip
 · cases ef; exact ds_augIx g.hk (dk.O g _) (dk.O g _) (dk.E g _) ip_add ha
 · cases ef; exact ds_augIx g.hk (dk.O g _) (dk.O g _) (dk.E g _) ip_sub ha
theorem stmS_ok (g : Good G φ C X k W) (dk : DenOk G φ d) (hb : C.blk = none) (hp : PassesOwn (model X.prog X.w) X.A X.env X.xe) (s : Stmt) : DS X k W s (stmS G d C s) := by
 unfold stmS
 split
 · exact raiseS_ok g dk
 · exact tryS_ok g dk hb
 · exact ds_pass
 · exact ds_break
 · exact ds_continue
 · split
   · rename_i hn
     exact ds_expr (dk.E g _) (swap_ok hn)
   · exact ds_no
 · exact ds_retN
 · split
   · exact ds_retHp (dk.F g _)
   · exact ds_ret (dk.E g _)
 · exact ds_if (dk.T g _) (seqS_ok g dk hb hp _) (seqS_ok g dk hb hp _)
 · exact ds_while _ hp (dk.T g _) (seqS_ok g dk hb hp _)
 · split
   · rename_i hn
     rw [Bool.and_eq_true, Bool.not_eq_true'] at hn
     obtain ⟨hot, hn⟩ := hn
     split
     · rename_i t us et
       exact ds_for hp (g.calm hot) (it_ok g dk) (tgD_ok (vs := us) g 5 et fun i hi => hi) (seqS_ok g dk hb hp _) (fold_ok hn)
     · exact ds_no
   · exact ds_no
 · exact asgS_ok g dk hb
 · split
   · rename_i hp
     split
     · rename_i f ef
       exact augS_ok g dk hp ef
     · exact ds_no
   · exact ds_no
 · exact ds_no
end
theorem den_ok {G : Gm} {φ : Nat → Fn} : ∀ n : Nat, DenOk G φ (den G φ n)
 | 0 => ⟨fun _ _ => de_no, fun _ _ => do_no, fun _ _ => df_no, fun _ _ => dt_no, fun _ _ _ _ => ds_no⟩
 | n + 1 => ⟨fun g e => expE_ok g (den_ok n) e, fun g e => expO_ok g (den_ok n) e, fun g e => expF_ok g (den_ok n) e, fun g e => expT_ok g (den_ok n) e, fun g hb hp s => stmS_ok g (den_ok n) hb hp s⟩
def bodyM (G : Gm) (φ : Nat → Fn) (n : Nat) (dm : DefM) : M Flo := seqS (den G φ n) dm.C dm.body
section
variable {P : Program} {w : World} {K : PySem.W.Frag} {mg : Str → Option Value} {base : Heap} {k : Ky}
theorem start_rb {Pp : Hp} {ww : Wd} {S : Sto} {H : Hp} {ds : List D} {vs : List V} (N : List Str) (I : RS k Pp ww S H) (r : Reps k ww ds vs) : RB k Pp ww (ds.map Slot.val ++ List.replicate (N.length - ds.length) Slot.no) S (start N vs) H where
 rs := I
 len := by unfold start; simp [r.length]
 val := fun i d e => by
   unfold start
   rcases Nat.lt_or_ge i ds.length with hi | hi
   · rw [List.getElem?_append_left (by simpa using hi)] at e
     rw [List.getElem?_map] at e
     obtain ⟨d', e1, e2⟩ := Option.map_eq_some_iff.mp e
     cases e2
     obtain ⟨v, e3, r3⟩ := r.getD e1
     refine ⟨v, ?_, r3⟩
     rw [List.getElem?_append_left (by simpa [r.length] using hi), List.getElem?_map, e3]; rfl
   · rw [List.getElem?_append_right (by simpa using hi)] at e
     rw [List.getElem?_replicate] at e
     split at e <;> cases e
 own := fun i c e => by
   exfalso
   rcases Nat.lt_or_ge i ds.length with hi | hi
   · rw [List.getElem?_append_left (by simpa using hi)] at e
     rw [List.getElem?_map] at e
     obtain ⟨d', e1, e2⟩ := Option.map_eq_some_iff.mp e
     cases e2
   · rw [List.getElem?_append_right (by simpa using hi)] at e
     rw [List.getElem?_replicate] at e
     split at e <;> cases e
 sep := fun i j c c' a e => by
   exfalso
   rcases Nat.lt_or_ge i ds.length with hi | hi
   · rw [List.getElem?_append_left (by simpa using hi)] at e
     rw [List.getElem?_map] at e
     obtain ⟨d', e1, e2⟩ := Option.map_eq_some_iff.mp e
     cases e2
   · rw [List.getElem?_append_right (by simpa using hi)] at e
     rw [List.getElem?_replicate] at e
     split at e <;> cases e
 exn := fun i x e => by
   exfalso
   rcases Nat.lt_or_ge i ds.length with hi | hi
   · rw [List.getElem?_append_left (by simpa using hi)] at e
     rw [List.getElem?_map] at e
     obtain ⟨d', e1, e2⟩ := Option.map_eq_some_iff.mp e
     cases e2
   · rw [List.getElem?_append_right (by simpa using hi)] at e
     rw [List.getElem?_replicate] at e
     split at e <;> cases e
theorem def_ok {x qual : Str} {params : Arguments} {scope : Scope} {dvs : List V} {kws : List (Str × V)} {f : Addr} {fd : FuncData} {lv fu : Nat} {G : Gm} {φ : Nat → Fn} {dm : DefM} (F : FunD K x qual params dm.body scope dvs kws f fd) (S : FnScope dm.C.N dm.ps scope) (hsc : dm.C.sc = scope) (hb : dm.C.blk = none)
   (hg : ∀ (cdv : Value) (A : Around) (outer : List Env) (s : Shared) (H : Hp) (E : XK), Room lv (A.deeper (envOfC qual scope s.heap.objs.size f cdv)) →
     Good G φ dm.C (cxOf (CXw dm.C.wide P w) P w K mg base dm.C.N qual scope f cdv A outer s H E) k (fun cls d _ H => E cls d H)) :
   FnOk P w K mg base (CXw dm.C.wide P w) (lv + 1) f fd dm.ps (spOf k dm.ps.length (runD dm (bodyM G φ fu dm))) := by
 refine F.ok S (fun vs H Q E h => h.len) fun cdv A outer s H vs Q E hr h => ?_
 have g := hg cdv A outer s H E hr
 refine ⟨_, seqS_ok g (den_ok fu) hb (passes_of rfl) dm.body, ?_⟩
 obtain ⟨Pp, ww, S0, ds, I, r, hl, h⟩ := h
 refine ⟨Pp, ww, _, S0, start_rb dm.C.N I r, ?_⟩
 unfold runD at h
 rw [if_pos hl] at h
 have hm : bodyM G φ fu dm = seqS (den G φ fu) dm.C dm.body := rfl
 rw [hm] at h
 cases em : seqS (den G φ fu) dm.C dm.body (ds.map Slot.val ++ List.replicate (dm.C.N.length - ds.length) Slot.no) S0 with
 | bad => rw [em] at h; exact h.elim
 | exc x env S' =>
   rw [em] at h
   exact fun w' σ' H' cls dx le J q => h w' H' cls dx le J.rs q
 | ok fl env S' =>
   rw [em] at h
   cases fl with
   | nx => exact fun w' le σ' H' J => h w' .non H' le J.rs rfl
   | rt d => exact fun w' le v σ' H' J q => h w' v H' le J.rs q
   | bk => exact h.elim
   | ct => exact h.elim
theorem start_exn {Pp : Hp} {ww : Wd} {S : Sto} {H : Hp} {x : Exn} {a : Addr} {cls : Value} {dx : Option Addr} (N : List Str) (h1 : 1 ≤ N.length) (h0 : k.xn = none) (I : RS k Pp ww S H) (hx : RepX k ww x cls dx) : RB (k.at 0 a cls dx) Pp ww (Slot.exn x :: List.replicate (N.length - 1) Slot.no) S (start N [.ref a]) H := by
 have J := (start_rb (ds := []) (vs := []) N I rfl).setExn (i := 0) (a := a) h0 hx
 cases N with
 | nil => cases h1
 | cons y r =>
   have e1 : ((([] : List D).map Slot.val ++ List.replicate ((y :: r).length - ([] : List D).length) Slot.no).set 0 (Slot.exn x)) = Slot.exn x :: List.replicate ((y :: r).length - 1) Slot.no := by
     show (List.replicate (r.length + 1) Slot.no).set 0 (Slot.exn x) = _
     rw [List.replicate_succ]; rfl
   have e2 : (start (y :: r) []).set 0 (some (.ref a)) = start (y :: r) [.ref a] := by
     unfold start
     show (List.replicate (r.length + 1) none).set 0 _ = _
     rw [List.replicate_succ]; rfl
   rw [e1, e2] at J
   exact J
theorem def_okX {x qual : Str} {params : Arguments} {scope : Scope} {dvs : List V} {kws : List (Str × V)} {f : Addr} {fd : FuncData} {lv fu : Nat} {G : Gm} {φ : Nat → Fn} {dm : DefM} (F : FunD K x qual params dm.body scope dvs kws f fd) (S : FnScope dm.C.N dm.ps scope) (hb : dm.C.blk = none) (h1 : dm.ps.length = 1) (h0 : k.xn = none)
   (hg : ∀ (cdv : Value) (A : Around) (outer : List Env) (s : Shared) (H : Hp) (p : Addr × Obj) (cls : Value) (dx : Option Addr), L2H.Hot1 A p → L2H.RoomH lv (A.deeper (envOfC qual scope s.heap.objs.size f cdv)) → Zc cls dx p.2 → (∃ vs, p.2.data = .fields vs) →
     Good G φ dm.C (L2H.cxX P w K mg base dm.C.N qual scope f cdv A outer s H p) (k.at 0 p.1 cls dx) W0) :
   L2H.FnX P w K mg base (lv + 1) f fd dm.ps (spX k (runX dm (bodyM G φ fu dm))) := by
 obtain ⟨oc, od, dV, kV, doc, pm, an, cdv, ct, osl, rfl, lk, hcd, _, _⟩ := F.ex
 refine L2H.fn_ofX lk hcd S (fun p vs H Q h => ?_) fun A outer s H vs Q p hot hr h => ?_
 · obtain ⟨_, _, _, _, _, _, rfl, _⟩ := h
   exact h1.symm
 obtain ⟨Pp, ww, S0, y, cls, dx, rfl, I, hz, hf, hx, h⟩ := h
 have hN : 1 ≤ dm.C.N.length := by have := congrArg List.length S.pre; rw [List.length_take] at this; omega
 refine ⟨_, seqS_ok (hg cdv A outer s H p cls dx hot hr hz hf) (den_ok fu) hb PassesOwn.never dm.body, Pp, ww, _, S0, start_exn dm.C.N hN h0 I hx, ?_⟩
 unfold runX at h
 dsimp only at h
 rw [dec_enc] at h
 dsimp only at h
 have hm : bodyM G φ fu dm = seqS (den G φ fu) dm.C dm.body := rfl
 rw [hm] at h
 cases em : seqS (den G φ fu) dm.C dm.body (Slot.exn y :: List.replicate (dm.C.N.length - 1) Slot.no) S0 with
 | bad => rw [em] at h; exact h.elim
 | exc x env S' => rw [em] at h; exact h.elim
 | ok fl env S' =>
   rw [em] at h
   cases fl with
   | nx => exact fun w' le σ' H' J => h w' .non H' le J.rs rfl
   | rt d => exact fun w' le v σ' H' J q => h w' v H' le J.rs q
   | bk => exact h.elim
   | ct => exact h.elim
end
end L2.MP
end
section
namespace L2.MP
open PySem PySem.Spec PyProof.Rows
section
variable {P : Program} {w : World} {K : PySem.W.Frag} {mg : Str → Option Value} {base : Heap}
theorem init_ok {CX : CXT} {x qual : Str} {params : Arguments} {body : List Stmt} {scope : Scope} {f : Addr} {fd : FuncData} {q : InitQ} {C Cb : Addr} {mc : Value} (F : FunD K x qual params body scope [] [] f fd) (eq : initQ body = some q) (S : FnScope [q.s, q.t, q.y] [q.s, q.t, q.y] scope)
   (hl : ∀ z ∈ [q.s, q.t, q.y], Loc scope z ∧ NotBad z) (hb : scope.names.lookup q.b = some .globalImplicit) (hdb : (q.b == ("__debug__" : Str)) = false) (hm : mg q.b = some (.ref Cb))
   (r1 : PySem.W.readsIn K Cb mc = true) (r2 : PySem.W.specialIn K (.ref Cb) "__getattribute__" = some (some (.builtin "type.__getattribute__"))) (vV : PySem.W.findCls K (.ref Cb) mc "__init__" = some (.val (.builtin "ValueError.__init__")))
   (T : OexC K C) (hno : PySem.W.findIn K (.ref C) q.f = some none) :
   FnOk P w K mg base CX 1 f fd [q.s, q.t, q.y] (spI C q.f) := by
 unfold initQ at eq
 split at eq
 · rename_i b p1 m p2 s p3 t p4 pos p5 s2 p6 f2 p7 y p8 p9
   split at eq
   · rename_i hc
     rw [Bool.and_eq_true, Bool.and_eq_true] at hc
     obtain ⟨hc1, hc3, hc2⟩ := hc
     cases eq
     obtain rfl : s2 = s := beq_iff_eq.mp hc2
     obtain rfl : m = "__init__" := beq_iff_eq.mp hc3
     dsimp only at *
     refine F.ok S (fun vs H Q E h => by obtain ⟨a, t, y, rfl, _⟩ := h; rfl) fun cdv A outer s0 H vs Q E hr h => ?_
     have N0 : ∀ (i : Nat) z, [s2, t, y][i]? = some z → ∀ p, PE (cxOf CX P w K mg base [s2, t, y] qual scope f cdv A outer s0 H E) (.Name z p) (tVar i) := fun i z e p => by
       obtain ⟨l1, l2, l3, _⟩ := hl z (List.mem_of_getElem? e)
       exact pe_var e (Loc.vis l1) l2 l3
     have ns : ∀ (z : Str) (p : Pos) x q, Expr.Name z p ≠ .Starred x q := fun z p x q e => by cases e
     have ns2 : ∀ e ∈ [Expr.Name s2 p3, Expr.Name t p4], ∀ x p, e ≠ .Starred x p := fun e he => by
       rcases List.mem_cons.mp he with rfl | he
       · exact ns _ _
       · rcases List.mem_cons.mp he with rfl | he
         · exact ns _ _
         · cases he
     have hg : Gl (cxOf CX P w K mg base [s2, t, y] qual scope f cdv A outer s0 H E) b := hb
     refine ⟨_, pss_cons (ps_expr (pe_binit hg hm hdb r1 r2 vV (pa_cons (N0 0 _ rfl p3) (pa_one (N0 1 _ rfl p4) (ns _ _)) (star1 _ (ns _ _) _ _)) (meth_ok rfl hc1 ns2 (by show 2 < 20; decide)) (star1 _ (ns _ _) _ _) (star_false [.Name t p4] (fun q hq => by simp at hq; subst hq; exact ns _ _) _ _)) rfl) (pss_one (ps_ost (N0 0 _ rfl p6) (N0 2 _ rfl p8) rfl)), ?_⟩
     obtain ⟨a, t', y', rfl, ha, hq⟩ := h
     exact ⟨.ref a, rfl, t', rfl, a, C, [t'], rfl, by show 1 ≤ 1000; decide, T, ha, y', rfl, .ref a, rfl, a, C, rfl, T, hno, .inl ⟨ha, fun dx n ne => hq dx n ne⟩⟩
   · cases eq
 · cases eq
theorem init_okH {CX : CXT} {x qual : Str} {params : Arguments} {body : List Stmt} {scope : Scope} {f : Addr} {fd : FuncData} {q : InitQ} {C Cb : Addr} {mc : Value} (F : FunD K x qual params body scope [] [] f fd) (eq : initQ body = some q) (S : FnScope [q.s, q.t, q.y] [q.s, q.t, q.y] scope)
   (hl : ∀ z ∈ [q.s, q.t, q.y], Loc scope z ∧ NotBad z) (hb : scope.names.lookup q.b = some .globalImplicit) (hdb : (q.b == ("__debug__" : Str)) = false) (hm : mg q.b = some (.ref Cb))
   (r1 : PySem.W.readsIn K Cb mc = true) (r2 : PySem.W.specialIn K (.ref Cb) "__getattribute__" = some (some (.builtin "type.__getattribute__"))) (vV : PySem.W.findCls K (.ref Cb) mc "__init__" = some (.val (.builtin "ValueError.__init__")))
   (T : OexC K C) (hno : PySem.W.findIn K (.ref C) q.f = some none) :
   L2H.FnH P w K mg base CX 1 f fd [q.s, q.t, q.y] (spI C q.f) := by
 unfold initQ at eq
 split at eq
 · rename_i b p1 m p2 s p3 t p4 pos p5 s2 p6 f2 p7 y p8 p9
   split at eq
   · rename_i hc
     rw [Bool.and_eq_true, Bool.and_eq_true] at hc
     obtain ⟨hc1, hc3, hc2⟩ := hc
     cases eq
     obtain rfl : s2 = s := beq_iff_eq.mp hc2
     obtain rfl : m = "__init__" := beq_iff_eq.mp hc3
     dsimp only at *
     obtain ⟨oc, od, dV, kV, doc, pm, an, cdv, ct, osl, rfl, lk, hcd, _, _⟩ := F.ex
     refine L2H.fn_ofH lk hcd S (fun vs H Q E h => by obtain ⟨a, t, y, rfl, _⟩ := h; rfl) fun A outer s0 H vs Q E p0 hot0 hr h => ?_
     have N0 : ∀ (i : Nat) z, [s2, t, y][i]? = some z → ∀ p, PE (L2H.cxH CX P w K mg base [s2, t, y] qual scope f cdv A outer s0 H E p0) (.Name z p) (tVar i) := fun i z e p => by
       obtain ⟨l1, l2, l3, _⟩ := hl z (List.mem_of_getElem? e)
       exact pe_var e (Loc.vis l1) l2 l3
     have ns : ∀ (z : Str) (p : Pos) x q, Expr.Name z p ≠ .Starred x q := fun z p x q e => by cases e
     have ns2 : ∀ e ∈ [Expr.Name s2 p3, Expr.Name t p4], ∀ x p, e ≠ .Starred x p := fun e he => by
       rcases List.mem_cons.mp he with rfl | he
       · exact ns _ _
       · rcases List.mem_cons.mp he with rfl | he
         · exact ns _ _
         · cases he
     have hg : Gl (L2H.cxH CX P w K mg base [s2, t, y] qual scope f cdv A outer s0 H E p0) b := hb
     refine ⟨_, pss_cons (ps_expr (pe_binit hg hm hdb r1 r2 vV (pa_cons (N0 0 _ rfl p3) (pa_one (N0 1 _ rfl p4) (ns _ _)) (star1 _ (ns _ _) _ _)) (meth_ok rfl hc1 ns2 (by show 2 < 20; decide)) (star1 _ (ns _ _) _ _) (star_false [.Name t p4] (fun q hq => by simp at hq; subst hq; exact ns _ _) _ _)) rfl) (pss_one (ps_ost (N0 0 _ rfl p6) (N0 2 _ rfl p8) rfl)), ?_⟩
     obtain ⟨a, t', y', rfl, ha, hq⟩ := h
     exact ⟨.ref a, rfl, t', rfl, a, C, [t'], rfl, by show 1 ≤ 1000; decide, T, ha, y', rfl, .ref a, rfl, a, C, rfl, T, hno, .inl ⟨ha, fun dx n ne => hq dx n ne⟩⟩
   · cases eq
 · cases eq
end
theorem oexB_ok {K : PySem.W.Frag} {C : Addr} (h : oexB K C = true) : OexC K C := by
 unfold oexB at h
 rw [Bool.and_eq_true, Bool.and_eq_true, Bool.and_eq_true, Bool.and_eq_true] at h
 obtain ⟨h1, h2, h3, h4, h5⟩ := h
 refine ⟨?_, of_decide_eq_true h2, of_decide_eq_true h3, of_decide_eq_true h4, h5⟩
 split at h1
 · rename_i dd cd sl ho
   split at h1
   · rename_i C' bm k0 k1 k2 k3 n k5 hm hs
     simp only [Bool.and_eq_true, beq_iff_eq, Bool.not_eq_true'] at h1
     obtain ⟨rfl, rfl, hdel, hdict, hr⟩ := h1
     obtain ⟨nm, bs, mro, ns, qn, hd, sn, sub, ab, col, del⟩ := cd
     dsimp only at hm hdel hdict
     subst hm hdel hdict
     have hsl : sl = #[k0, k1, k2, k3, some (.builtin "ValueError.__new__"), k5] := by
       obtain ⟨l⟩ := sl
       simp only at hs
       rw [hs]
     subst hsl
     exact ⟨nm, qn, ns, bs, bm, sn, sub, ab, col, dd, k0, k1, k2, k3, k5, ho, hr⟩
   · cases h1
 · cases h1
end L2.MP
end
section
namespace L2.MP
open PySem PySem.Spec PyProof.Rows
theorem zip_look : ∀ {ps : List Str} {us : List Value}, ps.Nodup → us.length = ps.length → (∀ n ∈ ps, ((ps.zip us).lookup n).isSome) ∧ ps.filterMap (fun n => ((ps.zip us).lookup n).map (n, ·)) = ps.zip us
 | [], us, _, _ => ⟨fun _ h => (nomatch h), rfl⟩
 | p :: ps, [], _, h => by simp at h
 | p :: ps, u :: us, nd, h => by
   obtain ⟨n1, n2⟩ := List.nodup_cons.mp nd
   obtain ⟨i1, i2⟩ := zip_look n2 (us := us) (by simpa using h)
   rw [List.zip_cons_cons]
   refine ⟨fun n hn => ?_, ?_⟩
   · rw [List.lookup_cons]
     cases e : n == p with
     | true => rfl
     | false =>
       rcases List.mem_cons.mp hn with z | z
       · rw [z] at e; simp at e
       · exact i1 n z
   · rw [List.filterMap_cons, List.lookup_cons]
     have : (p == p) = true := by simp
     rw [this]
     show (p, u) :: _ = _
     congr 1
     refine Eq.trans ?_ i2
     have key : ∀ l : List Str, p ∉ l → l.filterMap (fun n => (((p, u) :: ps.zip us).lookup n).map (n, ·)) = l.filterMap (fun n => ((ps.zip us).lookup n).map (n, ·)) := by
       intro l
       induction l with
       | nil => intro _; rfl
       | cons a r ih =>
         intro hm
         have ha : (a == p) = false := by
           cases e : a == p with
           | false => rfl
           | true => exact absurd (by rw [beq_iff_eq.mp e]; exact List.mem_cons_self) hm
         rw [List.filterMap_cons, List.filterMap_cons, List.lookup_cons, ha, ih fun q => hm (List.mem_cons_of_mem _ q)]
     exact key ps n1
theorem bind_gen {x qual : Str} {params : Arguments} {body : List Stmt} {scope : Scope} {kV doc pm : Value} {an : Option Addr} {cdv ct : Value} {ps : List Str} {us : List Value} (h1 : params.posonlyargs = []) (h2 : params.args.map (·.arg) = ps) (h3 : params.vararg = none) (h4 : params.kwonlyargs = []) (h5 : params.kwarg = none) (nd : ps.Nodup) (hl : us.length = ps.length) :
   bindArgs (PySem.W.fnOf x qual params body scope .none kV doc pm an cdv ct) ⟨us, []⟩ = pure (ps.zip us) := by
 obtain ⟨z1, z2⟩ := zip_look nd hl
 obtain ⟨po, as, va, ko, kd, kw, df⟩ := params
 dsimp only at h1 h2 h3 h4 h5
 subst h1 h3 h4 h5
 subst h2
 unfold bindArgs PySem.W.fnOf
 dsimp only
 have e1 : seqItems? Value.none = pure none := rfl
 rw [e1]
 have e2 : ((as.map (·.arg)).filter fun n => (((as.map (·.arg)).zip us).lookup n).isNone) = [] := by
   rw [List.filter_eq_nil_iff]
   intro n hn
   have := z1 n hn
   simp [Option.isSome_iff_ne_none] at this ⊢
   simpa using this
 have e3 : ¬ us.length > as.length := by simp at hl; omega
 have e4 : List.take as.length (as.map (·.arg)) = as.map (·.arg) := List.take_of_length_le (by simp)
 simp only [pure_bind, List.forIn_nil, List.map_nil, List.nil_append, List.append_nil]
 rw [if_neg (by simpa using e3)]
 rw [if_neg (by simp [e4, e2])]
 rw [List.filterMap_map] at z2
 simp [z2]
def psi (Y : Sys) : Nat → Nat → Fn
 | 0, _ => fun _ _ => .bad
 | n + 1, i => match Y.defs[i]? with
   | some dm => if isXD Y.G i = true then runX dm.m (bodyM Y.G (psi Y n) Y.fu dm.m) else runD dm.m (bodyM Y.G (psi Y n) Y.fu dm.m)
   | none => fun _ _ => .bad
theorem psi_n {Y : Sys} {n i : Nat} {d : DefX} (h : Y.defs[i]? = some d) (x : isXD Y.G i = false) : psi Y (n + 1) i = runD d.m (bodyM Y.G (psi Y n) Y.fu d.m) := by
 show (match Y.defs[i]? with
   | some dm => if isXD Y.G i = true then runX dm.m (bodyM Y.G (psi Y n) Y.fu dm.m) else runD dm.m (bodyM Y.G (psi Y n) Y.fu dm.m)
   | none => fun _ _ => .bad) = _
 rw [h]
 dsimp only
 rw [if_neg (by rw [x]; exact Bool.false_ne_true)]
def notBadB (x : Str) : Bool := !(x == ("__debug__" : Str)) && (!(x == ("__classdict__" : Str)) && !(x == ("__name__" : Str)))
theorem notBadB_ok {x : Str} (h : notBadB x = true) : NotBad x := by
 unfold notBadB at h
 simp only [Bool.and_eq_true, Bool.not_eq_true'] at h
 refine ⟨h.1, h.2.1, fun z => ?_⟩
 subst z
 have := h.2.2
 simp at this
def ndB (Y : Sys) (N : List Str) (sc : Scope) (h : Nat) (x : Str) : Nd → Bool
 | .loc i => decide (N[i]? = some x) && ((sc.names.lookup x == some .local || sc.names.lookup x == some .cell) && notBadB x)
 | .frv _ => false
 | .slo i => decide (N[i]? = some x) && notBadB x
 | .bgl g => notBadB x && decide ((h, x, g) ∈ Y.gl)
 | .glo g => (sc.names.lookup x == some .globalImplicit) && (notBadB x && decide ((h, x, g) ∈ Y.gl))
def scopeB (N ps : List Str) (sc : Scope) : Bool := (match sc.kind with | .function => true | _ => false) && (!sc.isCoroutine && (!sc.isGenerator && (decide N.Nodup && (decide (N.take ps.length = ps) &&
 ((ps.all fun x => sc.names.lookup x == some .local || sc.names.lookup x == some .cell) && (sc.names.all fun y => match y.2 with | .free => false | _ => true))))))
def parB (p : Arguments) (ps : List Str) : Bool := p.posonlyargs.isEmpty && (decide (p.args.map (·.arg) = ps) && (p.vararg.isNone && (p.kwonlyargs.isEmpty && (p.kwarg.isNone && decide ps.Nodup))))
def defB (Y : Sys) (i : Nat) (d : DefX) : Bool := d.C.blk.isNone && (scopeB d.C.N d.ps d.C.sc && (parB d.params d.ps && (decide (Y.G.ar.getD i 0 = d.ps.length) && ((d.C.tab.all fun e => ndB Y d.C.N d.C.sc e.1 e.2.1 e.2.2) && (decide (d.C.wide = hotI Y.G i) && (decide (d.C.hot = isXD Y.G i) && (!isXD Y.G i || decide (d.ps.length = 1))))))))
def defsB (Y : Sys) : Nat → List DefX → Bool
 | _, [] => true
 | i, d :: r => defB Y i d && defsB Y (i + 1) r
def nameB (sc : Scope) (z : Str) : Bool := (sc.names.lookup z == some .local || sc.names.lookup z == some .cell) && notBadB z
def xdB (e : XinD) : Bool := (match initQ e.d.body with
 | some q => decide (q.f = e.f) && (scopeB [q.s, q.t, q.y] [q.s, q.t, q.y] e.d.scope && (parB e.d.params [q.s, q.t, q.y] && (([q.s, q.t, q.y].all (nameB e.d.scope)) && (e.d.scope.names.lookup q.b == some .globalImplicit && !(q.b == ("__debug__" : Str))))))
 | none => false) && (e.d.dfl.isEmpty && e.d.kwd.isEmpty)
def Sys.ok (Y : Sys) : Bool := defsB Y 0 Y.defs && (Y.xd.all xdB && decide (Y.G.xin = Y.xd.map fun e => (e.c, e.f)))
theorem defsB_at {Y : Sys} : ∀ {l : List DefX} {j : Nat}, defsB Y j l = true → ∀ i d, l[i]? = some d → defB Y (j + i) d = true
 | [], _, _, i, d, e => by simp at e
 | a :: r, j, h, i, d, e => by
   unfold defsB at h
   rw [Bool.and_eq_true] at h
   cases i with
   | zero => simp at e; subst e; exact h.1
   | succ i =>
     have := defsB_at h.2 i d (by simpa using e)
     rwa [show j + 1 + i = j + (i + 1) by omega] at this
theorem scopeB_ok {N ps : List Str} {sc : Scope} (h : scopeB N ps sc = true) : FnScope N ps sc := by
 unfold scopeB at h
 simp only [Bool.and_eq_true, decide_eq_true_eq, List.all_eq_true, Bool.not_eq_true'] at h
 obtain ⟨h1, h2, h3, h4, h5, h6, h7⟩ := h
 refine ⟨?_, h2, h3, h4, h5, fun x hx => ?_, fun y hy e => ?_⟩
 · revert h1; cases sc.kind <;> simp
 · have := h6 x hx
   simpa using this
 · have := h7 y hy
   rw [e] at this
   exact Bool.false_ne_true this
theorem dvOf_rep {K : PySem.W.Frag} {k : Ky} {w : Wd} {d : D} {v : He.Dv} (e : dvOf d = some v) : Rep k w d (v.v K) := by
 cases d <;> simp only [dvOf] at e <;> first | contradiction | (cases e; rfl)
theorem dvsOf_rep {K : PySem.W.Frag} {k : Ky} {w : Wd} : ∀ {ds : List D} {vs : List He.Dv}, dvsOf ds = some vs → Reps k w ds (vs.map (He.Dv.v K))
 | [], vs, e => by cases e; rfl
 | d :: ds, vs, e => by
   unfold dvsOf at e
   split at e
   · cases e
     exact ⟨_, _, rfl, dvOf_rep (by assumption), dvsOf_rep (by assumption)⟩
   · cases e
theorem keys_not {P : Params} : ∀ {l : List DictEntry} {ks : List Str}, l.map He.keyOf = He.keysIn P ks → ∀ z, z ∉ ks → l.find? (·.key.isStr z) = none ∧ l.any (·.refKey) = false
 | [], _, _, _, _ => ⟨rfl, rfl⟩
 | e :: r, [], h, _, _ => by cases h
 | e :: r, k :: ks, h, z, hz => by
   have h1 : He.keyOf e :: r.map He.keyOf = some (k, PyData.keyHash P k) :: He.keysIn P ks := h
   injection h1 with h2 h3
   obtain ⟨i1, i2⟩ := keys_not h3 z fun q => hz (List.mem_cons_of_mem _ q)
   have hk : k ≠ z := fun q => hz (by rw [q]; exact List.mem_cons_self)
   unfold He.keyOf at h2
   split at h2
   · rename_i x t q
     obtain ⟨h5, h6⟩ := Prod.mk.inj (Option.some.inj h2)
     have e1 : e.key.isStr z = false := by rw [q]; show (x == z) = false; rw [h5]; simpa using hk
     have e2 : e.refKey = false := by unfold DictEntry.refKey; rw [q]
     exact ⟨by rw [List.find?_cons, e1]; exact i1, by rw [List.any_cons, e2]; exact i2⟩
   · cases h2
theorem dicW_more {K : PySem.W.Frag} {w : World} {a : Addr} {ks : List Str} (h : He.dicW K a = some (He.keysIn w.params ks)) : ∀ z, z ∉ ks → PySem.W.nsIn K a z = some none := by
 intro z hz
 unfold He.dicW at h
 unfold PySem.W.nsIn
 cases q : K.lookup a with
 | none => rw [q] at h; cases h
 | some o =>
   obtain ⟨oc, od, dt, osl⟩ := o
   rw [q] at h
   cases oc with
   | type c =>
     cases od with
     | none =>
       cases dt with
       | dict es n =>
         dsimp only at h ⊢
         split at h
         · obtain ⟨h1, h2⟩ := keys_not (Option.some.inj h) z hz
           rw [h1]
           dsimp only
           rw [h2]; rfl
         · cases h
       | _ => cases h
     | some b => cases dt <;> cases h
   | _ => cases od <;> cases dt <;> cases h
theorem dvT_ok {K : PySem.W.Frag} {k : Ky} : ∀ {t : List (Str × D)} {vs : List (Str × He.Dv)}, dvT t = some vs → ∀ z, match lkS t z with
   | some d => ∃ v, (z, v) ∈ vs ∧ ∀ w, Rep k w d (v.v K)
   | none => z ∉ t.map (·.1)
 | [], _, _, z => by intro h; cases h
 | (x, d) :: r, vs, e, z => by
   unfold dvT at e
   split at e
   · rename_i v vs' e1 e2
     cases e
     unfold lkS
     by_cases h : x = z
     · rw [if_pos h]
       subst h
       exact ⟨v, List.mem_cons_self, fun w => dvOf_rep e1⟩
     · rw [if_neg h]
       have ih := dvT_ok (K := K) (k := k) e2 z
       cases q : lkS r z with
       | none =>
         rw [q] at ih
         intro hm
         rcases List.mem_cons.mp hm with hm | hm
         · exact h hm.symm
         · exact ih hm
       | some d' =>
         rw [q] at ih
         obtain ⟨v', h1, h2⟩ := ih
         exact ⟨v', List.mem_cons_of_mem _ h1, h2⟩
   · cases e
theorem excB_ok {K : PySem.W.Frag} {D : Addr} (h : excB K D = true) : ExcC K D := by
 unfold excB at h
 simp only [Bool.and_eq_true, decide_eq_true_eq] at h
 exact ⟨h.1, h.2.1, h.2.2.1, h.2.2.2.1, h.2.2.2.2.1, h.2.2.2.2.2.1, h.2.2.2.2.2.2.1, h.2.2.2.2.2.2.2⟩
theorem look_mem {β : Type} {x : Nat} : ∀ {t : List (Nat × β)}, (t.lookup x).isSome = true → ∃ l, (x, l) ∈ t
 | [], h => nomatch h
 | (y, l) :: t, h => by
   rw [List.lookup_cons] at h
   cases e : x == y with
   | true =>
     obtain rfl := beq_iff_eq.mp e
     exact ⟨l, List.mem_cons_self⟩
   | false =>
     rw [e] at h
     obtain ⟨m, hm⟩ := look_mem h
     exact ⟨m, List.mem_cons_of_mem _ hm⟩
theorem xcB_ok {K : PySem.W.Frag} {k : Kz} {t : Xt} {fl : List Str} (h : (t.all fun e => xcB K k t fl e.1) = true) : XcOk K k t fl := by
 have at_ : ∀ x, (t.lookup x).isSome = true → xcB K k t fl x = true := fun x hx => by
   obtain ⟨l, hm⟩ := look_mem hx
   exact List.all_eq_true.mp h _ hm
 have op : ∀ x, (t.lookup x).isSome = true → ExcC K (k.cl x) ∧ XfC K (k.cl x) ∧ (∀ f ∈ fl, PySem.W.findIn K (.ref (k.cl x)) f = some none) ∧ PySem.W.kitOne K (.ref (k.cl x)) (.type "ValueError") = some true ∧
     ∀ c ∈ t, PySem.W.kitOne K (.ref (k.cl x)) (.ref (k.cl c.1)) = some (subX t x (some c.1)) ∧ PySem.W.exmOne K (.ref (k.cl x)) (.ref (k.cl c.1)) = some (subX t x (some c.1)) := fun x hx => by
   have := at_ x hx
   unfold xcB at this
   simp only [Bool.and_eq_true, decide_eq_true_eq, List.all_eq_true] at this
   obtain ⟨h1, h2, h3, h4, h5⟩ := this
   exact ⟨excB_ok h1, xfB_ok h2, h3, h4, h5⟩
 refine ⟨fun x hx => (op x hx).1, fun x hx => (op x hx).2.1, fun x hx => (op x hx).2.2.1, fun x hx c hc => ?_, fun x hx c hc => ?_⟩
 · cases c with
   | none => exact (op x hx).2.2.2.1
   | some c =>
     obtain ⟨l, hm⟩ := look_mem (show (t.lookup c).isSome = true from hc)
     exact ((op x hx).2.2.2.2 _ hm).1
 · obtain ⟨l, hm⟩ := look_mem hc
   exact ((op x hx).2.2.2.2 _ hm).2
theorem FunD.at_ {K : PySem.W.Frag} {x qual : Str} {params : Arguments} {body : List Stmt} {scope : Scope} {dvs : List V} {kws : List (Str × V)} {f : Addr} {fd : FuncData} (F : L2.FunD K x qual params body scope dvs kws f fd) : ∃ oc od osl, K.lookup f = some ⟨oc, od, .func fd, osl⟩ := by
 obtain ⟨oc, od, dV, kV, doc, pm, an, cdv, ct, osl, _, lk, _⟩ := F.ex
 exact ⟨oc, od, osl, lk⟩
section
variable {Y : Sys} {P : Program} {w : World} {K : PySem.W.Frag} {mg : Str → Option Value} {h : Heap}
def Lev (Y : Sys) (P : Program) (w : World) (K : PySem.W.Frag) (mg : Str → Option Value) (base : Heap) (n : Nat) : Prop :=
 ∀ i d, Y.defs[i]? = some d → ∃ fd, (∃ oc od osl, K.lookup (He.fAd K d.at_) = some ⟨oc, od, .func fd, osl⟩) ∧ Binds K fd d.ps [] ∧ (isXD Y.G i = false → FnOk P w K mg base (CXw (hotI Y.G i) P w) (2 * n + 2) (He.fAd K d.at_) fd d.ps (spOf (Y.ky K) d.ps.length (psi Y n i))) ∧
   (isXD Y.G i = true → L2H.FnX P w K mg base (2 * n + 2) (He.fAd K d.at_) fd d.ps (spX (Y.ky K) (psi Y n i)))
theorem con_look (X : K.In h) (G : h.Ns mainGlobals mg) {x : Str} {d : D} (c : conB K x d = true) : ∃ v u, mg x = some u ∧ RelV v u ∧ ∀ w, Rep (Y.ky K) w d v := by
 cases d <;> simp only [conB] at c <;> try contradiction
 · obtain ⟨t, e⟩ := He.int_ok X G c
   exact ⟨.int _, _, e, ⟨t, rfl⟩, fun w => rfl⟩
 · obtain ⟨t, e⟩ := He.str_ok X G c
   exact ⟨.str _, _, e, ⟨t, rfl⟩, fun w => rfl⟩
 · obtain ⟨c1, c2⟩ := He.ba c
   split at c2
   · exact ⟨.ref (He.ga K x), _, He.glo_ok X G c1, rfl, fun w => ⟨_, _, rfl, He.lstB_ok c2 _, dvsOf_rep (by assumption)⟩⟩
   · cases c2
 · obtain ⟨c1, c2⟩ := He.ba c
   split at c2
   · exact ⟨.ref (He.ga K x), _, He.glo_ok X G c1, rfl, fun w => ⟨_, _, rfl, He.tupB_ok c2 _, dvsOf_rep (by assumption)⟩⟩
   · cases c2
theorem at_ok {i : Nat} {p : Str × Option Str} (c : atB Y i p = true) : ∃ d, Y.defs[i]? = some d ∧ d.at_ = p := by
 unfold atB at c
 split at c
 · exact ⟨_, by assumption, of_decide_eq_true c⟩
 · cases c
theorem Sys.okD (ok : Y.ok = true) : defsB Y 0 Y.defs = true := (He.ba ok).1
theorem ar_ok (ok : Y.ok = true) {i : Nat} {d : DefX} (e : Y.defs[i]? = some d) : Y.G.ar.getD i 0 = d.ps.length := by
 have := defsB_at (Sys.okD ok) i d e
 rw [Nat.zero_add] at this
 unfold defB at this
 simp only [Bool.and_eq_true, decide_eq_true_eq] at this
 exact this.2.2.2.1
theorem lev_ok (ok : Y.ok = true) (X : K.In h) (G : h.Ns mainGlobals mg) (c : He.SaysX [] Y.fn Y.ts [] Y.ex w h K) {base : Heap} : ∀ n, Lev Y P w K mg base n
 | 0 => fun i d e => by
   obtain ⟨fd, F⟩ := c.t.d.defs (d := d.he) (List.mem_append_left _ (List.mem_map.mpr ⟨d, List.mem_of_getElem? e, rfl⟩))
   have hb := defsB_at (Sys.okD ok) i d e
   unfold defB parB at hb
   simp only [Bool.and_eq_true, decide_eq_true_eq, List.isEmpty_iff, Option.isNone_iff_eq_none] at hb
   obtain ⟨b1, b2, ⟨b3, b4, b5, b6, b7, b8⟩, b9, b10, b11, b12, b13⟩ := hb
   have F' : FunD K d.name d.qual d.params d.body d.C.sc [] [] (He.fAd K d.at_) fd := F
   refine ⟨fd, FunD.at_ F', F'.bindsN fun _ _ _ _ _ _ us hl => bind_gen b3 b4 b5 b6 b7 b8 hl, fun _ => ⟨fun vs H Q E q => q.len, fun A outer s H args us vs Q E hr he hb hv q => ?_⟩, fun hx => ⟨fun p vs H Q q => ?_, fun A outer s H args us vs Q p hr hot hpin he hb hv q => ?_⟩⟩
   · obtain ⟨_, _, _, _, _, _, _, q⟩ := q
     exact q.elim
   · obtain ⟨_, _, _, _, _, _, rfl, _⟩ := q
     rw [Nat.zero_add, hx] at b13
     have b13 : d.ps.length = 1 := by simpa using b13
     exact b13.symm
   · obtain ⟨_, _, _, _, _, _, _, _, _, _, _, q⟩ := q
     exact q.elim
 | n + 1 => fun i d e => by
   have ih : Lev Y P w K mg base n := lev_ok ok X G c n
   obtain ⟨fd, F⟩ := c.t.d.defs (d := d.he) (List.mem_append_left _ (List.mem_map.mpr ⟨d, List.mem_of_getElem? e, rfl⟩))
   have hb := defsB_at (Sys.okD ok) i d e
   unfold defB parB at hb
   simp only [Bool.and_eq_true, decide_eq_true_eq, List.isEmpty_iff, Option.isNone_iff_eq_none, List.all_eq_true] at hb
   obtain ⟨b1, b2, ⟨b3, b4, b5, b6, b7, b8⟩, b9, b10, b11, b12, b13⟩ := hb
   have F' : FunD K d.name d.qual d.params d.body d.C.sc [] [] (He.fAd K d.at_) fd := F
   have S := scopeB_ok b2
   have exx := He.ba (He.ba c.more).1
   have exq := He.ba (He.ba (He.ba c.more).2).2
   have exq2 := He.ba exq.2
   have exq3 := He.ba exq2.2
   have fnh : ∀ (X' : Cx) j p, X'.prog = P → X'.w = w → X'.K = K → X'.mg = mg → X'.base = base → Room (2 * n + 3) X'.A → atB Y j p = true → FnHas X' (Y.ky K) Y.G (psi Y n) j (He.fAd K p) := fun X' j p e1 e2 e3 e4 e5 hr ha => by
     obtain ⟨d', e', rfl⟩ := at_ok ha
     obtain ⟨fd', _, hb', F2, _⟩ := ih j d' e'
     subst e1 e2 e3 e4 e5
     exact ⟨fd', d'.ps, 2 * n + 2, fun hx => by rw [ar_ok ok e']; exact F2 hx, hr, hb'⟩
   have fnx : ∀ (X' : Cx) j p, X'.prog = P → X'.w = w → X'.K = K → X'.mg = mg → X'.base = base → L2H.RoomH (2 * n + 2) X'.A → atB Y j p = true → isXD Y.G j = true → FnXHas X' (Y.ky K) (psi Y n) j (He.fAd K p) := fun X' j p e1 e2 e3 e4 e5 hr ha hx => by
     obtain ⟨d', e', rfl⟩ := at_ok ha
     obtain ⟨fd', _, hb', _, F2⟩ := ih j d' e'
     subst e1 e2 e3 e4 e5
     exact ⟨fd', d'.ps, 2 * n + 2, F2 hx, hr, hb'⟩
   have gd : ∀ (X' : Cx), X'.prog = P → X'.w = w → X'.K = K → X'.mg = mg → X'.base = base → (X'.calm = true → Room (2 * n + 3) X'.A) → L2H.RoomH (2 * n + 2) X'.A → ∀ hh x g, (hh, x, g) ∈ Y.gl → GdOk X' (Y.ky K) Y.G (psi Y n) x g := fun X' e1 e2 e3 e4 e5 hr hrH hh x g hgl => by
       subst e1 e2 e3 e4 e5
       have gx := List.all_eq_true.mp exq.1 _ hgl
       cases g with
       | blt b =>
         obtain ⟨g1, g2⟩ := He.ba (show (decide (x = b.name) && (He.Fa.free x).ok X'.K) = true from gx)
         exact ⟨of_decide_eq_true g1, He.free_ok X G g2⟩
       | con j =>
         have gx : (match Y.G.con[j]? with
           | some d => conB X'.K x d
           | none => false) = true := gx
         split at gx
         · rename_i dd ed
           obtain ⟨v, u, q1, q2, q3⟩ := con_look (Y := Y) X G gx
           exact ⟨dd, v, u, ed, q1, q2, q3⟩
         · cases gx
       | tab j =>
         obtain ⟨g1, g2⟩ := He.ba (show ((He.Fa.glo x).ok X'.K && (decide (Y.tn[j]? = some x) && (match Y.G.tb[j]? with
           | some t => tabB X'.K x t
           | none => false))) = true from gx)
         obtain ⟨g2, g3⟩ := He.ba g2
         split at g3
         · rename_i t et
           have et2 : Y.ts[j]? = some ((fun K => He.ga K x), t.map (·.1)) := by
             unfold Sys.ts
             rw [List.getElem?_map, List.getElem?_zip_eq_some (z := (x, t)) |>.mpr ⟨of_decide_eq_true g2, et⟩]
             rfl
           have e1 : Y.ts.map (fun t => He.dicW X'.K (t.1 X'.K)) = Y.ts.map fun t => some (He.keysIn X'.w.params t.2) := congrArg (fun z : He.AlT => z.2) c.t
           have e2 : (Y.ts.map fun t => He.dicW X'.K (t.1 X'.K))[j]? = (Y.ts.map fun t => some (He.keysIn X'.w.params t.2))[j]? := by rw [e1]
           rw [List.getElem?_map, List.getElem?_map, et2] at e2
           have e3 : He.dicW X'.K (He.ga X'.K x) = some (He.keysIn X'.w.params (t.map (·.1))) := Option.some.inj e2
           obtain ⟨es, nn, kd⟩ := He.dicW_ok e3
           refine ⟨t, et, He.ga X'.K x, es, nn, He.glo_ok X G g1, kd, fun z => ?_⟩
           unfold tabB at g3
           split at g3
           · rename_i vs ev
             have hv := dvT_ok (K := X'.K) (k := Y.ky X'.K) ev z
             cases q : lkS t z with
             | none => rw [q] at hv; exact dicW_more e3 z hv
             | some d' =>
               rw [q] at hv
               obtain ⟨v, h1, h2⟩ := hv
               obtain ⟨u, h3, h4⟩ := He.valsB_ok g3 h1
               exact ⟨u, _, h3, h4, h2⟩
           · cases g3
         · cases g3
       | xcl cc =>
         obtain ⟨g1, g2⟩ := He.ba gx
         obtain ⟨g2, g3⟩ := He.ba g2
         obtain ⟨g3, g4⟩ := He.ba g3
         obtain ⟨g4, g5⟩ := He.ba g4
         obtain ⟨g5, g6⟩ := He.ba g5
         have ec : (Y.ky X'.K).cl cc = He.ga X'.K x := by
           show He.ga X'.K (Y.cls.getD cc "") = _
           rw [List.getD_eq_getElem?_getD, of_decide_eq_true g2]; rfl
         refine ⟨by rw [ec]; exact He.glo_ok X G g1, by rw [ec]; exact g3, by rw [ec]; exact raises_own (of_decide_eq_true g4) (of_decide_eq_true g5), fun hn => ?_⟩
         rw [ec]
         rcases Bool.or_eq_true_iff.mp g6 with z | z
         · rw [Option.isNone_iff_eq_none] at hn
           rw [hn] at z; cases z
         · exact (He.exc_ok z).1
       | fn j =>
         obtain ⟨g1, g2⟩ := He.ba (show ((He.Fa.glo x).ok X'.K && ((He.Fa.keep x).ok X'.K && atB Y j (x, none))) = true from gx)
         obtain ⟨g2, g3⟩ := He.ba g2
         have ef : (Y.ky X'.K).fa j = He.ga X'.K x := by
           obtain ⟨d', e', q'⟩ := at_ok g3
           show (match Y.defs[j]? with | some d => He.fAd X'.K d.at_ | none => 0) = _
           rw [e']
           dsimp only
           rw [q']
           rfl
         rw [show GdOk X' (Y.ky X'.K) Y.G (psi Y n) x (.fn j) = ((X'.calm = true → X'.mg x = some (.ref ((Y.ky X'.K).fa j)) ∧ PySem.W.keepIn X'.K (.ref ((Y.ky X'.K).fa j)) = true ∧ FnHas X' (Y.ky X'.K) Y.G (psi Y n) j ((Y.ky X'.K).fa j)) ∧ (isXD Y.G j = true → X'.mg x = some (.ref ((Y.ky X'.K).fa j)) ∧ PySem.W.keepIn X'.K (.ref ((Y.ky X'.K).fa j)) = true ∧ FnXHas X' (Y.ky X'.K) (psi Y n) j ((Y.ky X'.K).fa j))) from rfl, ef]
         exact ⟨fun hc => ⟨He.glo_ok X G g1, He.keep_ok g2, fnh X' j (x, none) rfl rfl rfl rfl rfl (hr hc) g3⟩, fun hx => ⟨He.glo_ok X G g1, He.keep_ok g2, fnx X' j (x, none) rfl rfl rfl rfl rfl hrH g3 hx⟩⟩
       | cls cc j =>
         obtain ⟨g1, g2⟩ := He.ba (show ((He.Fa.glo x).ok X'.K && ((He.Fa.mkr x).ok X'.K && (decide (Y.cls[cc]? = some x) && atB Y j (x, some "__init__")))) = true from gx)
         obtain ⟨g2, g3⟩ := He.ba g2
         obtain ⟨g3, g4⟩ := He.ba g3
         have ec : (Y.ky X'.K).cl cc = He.ga X'.K x := by
           show He.ga X'.K (Y.cls.getD cc "") = _
           rw [List.getD_eq_getElem?_getD, of_decide_eq_true g3]; rfl
         refine fun hc => ⟨He.fAd X'.K (x, some "__init__"), ?_, ?_, fnh X' j (x, some "__init__") rfl rfl rfl rfl rfl (hr hc) g4⟩
         · rw [ec]; exact He.glo_ok X G g1
         · rw [ec]; exact He.mkr_ok g2
   have nd_ : ∀ (X' : Cx), X'.prog = P → X'.w = w → X'.K = K → X'.mg = mg → X'.base = base → X'.N = d.C.N → X'.env.scope = d.C.sc → (∀ x, X'.fn x = true) → (X'.calm = true → Room (2 * n + 3) X'.A) → L2H.RoomH (2 * n + 2) X'.A → ∀ hh x nd, (hh, x, nd) ∈ d.C.tab → NdOk X' (Y.ky K) Y.G (psi Y n) x nd := fun X' e1 e2 e3 e4 e5 e6 e7 e8 hrc hrH hh x nd m => by
     have hx := b10 (hh, x, nd) m
     have gd := gd X' e1 e2 e3 e4 e5 hrc hrH hh x
     cases nd with
     | loc j =>
       simp only [ndB, Bool.and_eq_true, decide_eq_true_eq, Bool.or_eq_true, beq_iff_eq] at hx
       exact ⟨e6 ▸ hx.1, by rw [show (Loc X'.env.scope x) = Loc d.C.sc x by rw [e7]]; exact hx.2.1, .inl (e8 x), notBadB_ok hx.2.2⟩
     | frv j => cases hx
     | slo j =>
       simp only [ndB, Bool.and_eq_true, decide_eq_true_eq] at hx
       exact ⟨e6 ▸ hx.1, notBadB_ok hx.2⟩
     | glo g =>
       simp only [ndB, Bool.and_eq_true, decide_eq_true_eq, beq_iff_eq] at hx
       exact ⟨by show X'.env.scope.names.lookup x = _; rw [e7]; exact hx.1, notBadB_ok hx.2.1, gd g hx.2.2⟩
     | bgl g =>
       simp only [ndB, Bool.and_eq_true, decide_eq_true_eq] at hx
       exact ⟨notBadB_ok hx.1, gd g hx.2⟩
   have mth_ : ∀ (X' : Cx), X'.prog = P → X'.w = w → X'.K = K → X'.mg = mg → X'.base = base → (X'.calm = true → Room (2 * n + 3) X'.A) → ∀ hh m nm, (hh, m, nm) ∈ Y.G.mth → MnOk X' (Y.ky K) Y.G (psi Y n) m nm := fun X' e1 e2 e3 e4 e5 hrc hh m nm q => by
     subst e1 e2 e3 e4 e5
     have gx := List.all_eq_true.mp exq3.1 _ q
     cases nm with
     | own l =>
       intro hcalm cc j el
       have hm : (cc, j) ∈ l := by
         clear gx q
         induction l with
         | nil => cases el
         | cons a r ih =>
           obtain ⟨a1, a2⟩ := a
           unfold lkc at el
           split at el
           · rename_i hq
             cases el
             rw [beq_iff_eq.mp hq]
             exact List.mem_cons_self
           · exact List.mem_cons_of_mem _ (ih el)
       have gx := List.all_eq_true.mp (show (l.all fun q => match Y.cls[q.1]? with
         | some x => (He.Fa.cls x).ok X'.K && ((He.Fa.meth x m).ok X'.K && atB Y q.2 (x, some m))
         | none => false) = true from gx) _ hm
       split at gx
       · rename_i x ex
         obtain ⟨g1, g2⟩ := He.ba gx
         obtain ⟨g2, g3⟩ := He.ba g2
         have ec : (Y.ky X'.K).cl cc = He.ga X'.K x := by
           show He.ga X'.K (Y.cls.getD cc "") = _
           rw [List.getD_eq_getElem?_getD, ex]; rfl
         refine ⟨He.fAd X'.K (x, some m), ?_, ?_, fnh _ j (x, some m) rfl rfl rfl rfl rfl (hrc hcalm) g3⟩
         · rw [ec]; exact He.cls_ok g1
         · rw [ec]; exact He.meth_ok g2
       · cases gx
     | _ =>
       show m = Mn.name _
       exact of_decide_eq_true gx
   have fld_ : ∀ hh f cs, (hh, f, cs) ∈ Y.G.fld → ∀ c ∈ cs, Cls K ((Y.ky K).cl c) ∧ NoAttr K ((Y.ky K).cl c) f := fun hh f cs m cc hc => by
     have gx := List.all_eq_true.mp exq2.1 _ m
     have gx := List.all_eq_true.mp (show (cs.all fun c => match Y.cls[c]? with
       | some x => (He.Fa.cls x).ok K && (He.Fa.noat x f).ok K
       | none => false) = true from gx) cc hc
     split at gx
     · rename_i x ex
       obtain ⟨g1, g2⟩ := He.ba gx
       have ec : (Y.ky K).cl cc = He.ga K x := by
         show He.ga K (Y.cls.getD cc "") = _
         rw [List.getD_eq_getElem?_getD, ex]; rfl
       rw [ec]
       exact ⟨He.cls_ok g1, He.noat_ok g2⟩
     · cases gx
   have fns_ : ∀ (X' : Cx), X'.prog = P → X'.w = w → X'.K = K → X'.mg = mg → X'.base = base → Room (2 * n + 3) X'.A → ∀ j, isHF Y.G j = true → PySem.W.keepIn K (.ref ((Y.ky K).fa j)) = true ∧ FnHas X' (Y.ky K) Y.G (psi Y n) j ((Y.ky K).fa j) := fun X' e1 e2 e3 e4 e5 hr j hj => by
     have hm : j + 200000 ∈ Y.G.hotD := by unfold isHF at hj; simpa using hj
     have gx := List.all_eq_true.mp exq3.2 _ hm
     rw [decide_eq_false (by omega), Bool.false_or, show j + 200000 - 200000 = j by omega] at gx
     split at gx
     · rename_i d' e'
       obtain ⟨g1, g2⟩ := He.ba gx
       have ef : (Y.ky K).fa j = He.fAd K d'.at_ := by
         show (match Y.defs[j]? with | some d => He.fAd K d.at_ | none => 0) = _
         rw [e']
       have en : d'.at_ = (d'.at_.1, none) := by
         have : d'.at_.2 = none := by simpa using g1
         rw [← this]
       refine ⟨?_, ?_⟩
       · rw [ef, en]; exact He.keep_ok g2
       · rw [ef]; exact fnh X' j d'.at_ e1 e2 e3 e4 e5 hr (by unfold atB; rw [e']; simp)
     · cases gx
   refine ⟨fd, FunD.at_ F', F'.bindsN fun _ _ _ _ _ _ us hl => bind_gen b3 b4 b5 b6 b7 b8 hl, fun hx => ?_, fun hx => ?_⟩
   · have hpsi : psi Y (n + 1) i = runD d.m (bodyM Y.G (psi Y n) Y.fu d.m) := by
       show (match Y.defs[i]? with
         | some dm => if isXD Y.G i = true then runX dm.m (bodyM Y.G (psi Y n) Y.fu dm.m) else runD dm.m (bodyM Y.G (psi Y n) Y.fu dm.m)
         | none => fun _ _ => .bad) = _
       rw [e]
       dsimp only
       rw [if_neg (by rw [hx]; exact Bool.false_ne_true)]
     rw [hpsi]
     rw [Nat.zero_add] at b11 b12
     rw [← b11]
     rw [hx] at b12
     refine def_ok (lv := 2 * n + 3) (dm := d.m) F' S rfl b1 fun cdv A outer s H E hr => ?_
     have hrH : L2H.RoomH (2 * n + 2) (A.deeper (envOfC d.qual d.C.sc s.heap.objs.size (He.fAd K d.at_) cdv)) := (L2H.roomH_of hr).mono (by omega)
     refine { hk := rfl, N := rfl, nd := S.nd, sc := rfl, kind := S.kind, fnd := fun _ _ => rfl, calm := fun _ => rfl, stk := fun _ => ⟨rfl, rfl⟩, su := fun i a cls dx e => (nomatch e), x0 := fun _ => rfl, xok := xcB_ok exx.1, xin := fun _ cc ff ef => ?_, hx := fun h => (nomatch (b12.symm.trans (show d.C.hot = true from h))), fns := fun _ => fns_ _ rfl rfl rfl rfl rfl hr, tk := tkW_of rfl rfl rfl rfl, top := fun _ _ hd => L2H.passesAt_of rfl hd, hu := by have := hr.un; show (A.deeper _).units + 65 < cLine; omega, tab := nd_ _ rfl rfl rfl rfl rfl rfl rfl (fun _ => rfl) (fun _ => hr) hrH, fld := fld_, mth := mth_ _ rfl rfl rfl rfl rfl (fun _ => hr) }
     have hxin : Y.G.xin = Y.xd.map fun e => (e.c, e.f) := of_decide_eq_true (He.ba (He.ba ok).2).2
     have hme : ∃ ed ∈ Y.xd, ed.c = cc ∧ ed.f = ff := by
       rw [hxin] at ef
       have key : ∀ l : List XinD, (l.map fun e => (e.c, e.f)).lookup cc = some ff → ∃ ed ∈ l, ed.c = cc ∧ ed.f = ff := by
         intro l
         induction l with
         | nil => intro h; cases h
         | cons a r ih =>
           intro h
           rw [List.map_cons, List.lookup_cons] at h
           cases e : cc == a.c with
           | true =>
             rw [e] at h
             cases h
             exact ⟨a, List.mem_cons_self, (beq_iff_eq.mp e).symm, rfl⟩
           | false =>
             rw [e] at h
             obtain ⟨ed, h1, h2⟩ := ih h
             exact ⟨ed, List.mem_cons_of_mem _ h1, h2⟩
       exact key _ ef
     obtain ⟨ed, hed, rfl, rfl⟩ := hme
     have gx := He.ba (show xinB Y K ed = true from List.all_eq_true.mp exx.2 _ hed)
     have ox := He.ba (show xdB ed = true from List.all_eq_true.mp (He.ba (He.ba ok).2).1 _ hed)
     obtain ⟨fd2, F2⟩ := c.t.d.defs (d := ed.d) (List.mem_append_right _ (List.mem_map.mpr ⟨ed, hed, rfl⟩))
     obtain ⟨o2, o3⟩ := He.ba ox.2
     rw [List.isEmpty_iff] at o2 o3
     have F2' : FunD K ed.d.name ed.d.qual ed.d.params ed.d.body ed.d.scope [] [] (He.fAd K ed.d.at_) fd2 := by
       have h := F2
       unfold He.DefD.dvs He.DefD.kws at h
       rw [o2, o3] at h
       exact h
     obtain ⟨gx1, gx2⟩ := gx
     have ox1 := ox.1
     split at gx1
     · rename_i x ex
       obtain ⟨g1, gx1⟩ := He.ba gx1
       obtain ⟨g2, gx1⟩ := He.ba gx1
       obtain ⟨g3, gx1⟩ := He.ba gx1
       obtain ⟨g4, g5⟩ := He.ba gx1
       have ec : (Y.ky K).cl ed.c = He.ga K x := by
         show He.ga K (Y.cls.getD ed.c "") = _
         rw [List.getD_eq_getElem?_getD, ex]; rfl
       cases eq : initQ ed.d.body with
       | none => rw [eq] at ox1; cases ox1
       | some q =>
         rw [eq] at ox1 gx2
         obtain ⟨q1, q2⟩ := He.ba gx2
         obtain ⟨q2, q3⟩ := He.ba q2
         obtain ⟨q3, q4⟩ := He.ba q3
         obtain ⟨y1, y2⟩ := He.ba ox1
         obtain ⟨y2, y3⟩ := He.ba y2
         obtain ⟨y3, y4⟩ := He.ba y3
         obtain ⟨y4, y5⟩ := He.ba y4
         obtain ⟨y5, y6⟩ := He.ba y5
         have vV : PySem.W.findCls K (.ref (He.ga K q.b)) (.type "type") "__init__" = some (.val (.builtin "ValueError.__init__")) := by
           split at q4
           · rename_i nn en
             rw [en, beq_iff_eq.mp q4]
           · cases q4
         have y3' := y3
         unfold parB at y3'
         simp only [Bool.and_eq_true, decide_eq_true_eq, List.isEmpty_iff, Option.isNone_iff_eq_none] at y3'
         obtain ⟨z3, z4, z5, z6, z7, z8⟩ := y3'
         have yf : q.f = ed.f := of_decide_eq_true y1
         have FH := init_okH (CX := L2N.CX P w) (P := P) (w := w) (mg := mg) (base := base) (C := He.ga K x) F2' eq (scopeB_ok y2) (fun z hz => by
           obtain ⟨n1, n2⟩ := He.ba (show nameB ed.d.scope z = true from List.all_eq_true.mp y4 z hz)
           refine ⟨?_, notBadB_ok n2⟩
           simp only [Bool.or_eq_true, beq_iff_eq] at n1
           exact n1) (beq_iff_eq.mp y5) (by simpa using y6) (He.glo_ok X G q1) q2 (of_decide_eq_true q3) vV (oexB_ok g2) (by rw [yf]; exact of_decide_eq_true g5)
         have FN := init_ok (CX := L2N.CX P w) (P := P) (w := w) (mg := mg) (base := base) (C := He.ga K x) F2' eq (scopeB_ok y2) (fun z hz => by
           obtain ⟨n1, n2⟩ := He.ba (show nameB ed.d.scope z = true from List.all_eq_true.mp y4 z hz)
           refine ⟨?_, notBadB_ok n2⟩
           simp only [Bool.or_eq_true, beq_iff_eq] at n1
           exact n1) (beq_iff_eq.mp y5) (by simpa using y6) (He.glo_ok X G q1) q2 (of_decide_eq_true q3) vV (oexB_ok g2) (by rw [yf]; exact of_decide_eq_true g5)
         rw [yf] at FN FH
         refine ⟨He.fAd K ed.d.at_, fd2, [q.s, q.t, q.y], 1, ?_, ?_, of_decide_eq_true g4, ?_, ?_, hr.mono (by omega), F2'.bindsN fun _ _ _ _ _ _ us hl => bind_gen z3 z4 z5 z6 z7 z8 hl⟩
         · rw [ec]; exact oexB_ok g2
         · rw [ec]; exact of_decide_eq_true g3
         · rw [ec]; exact FN
         · rw [ec]; exact FH
     · cases gx1
   · have hpsi : psi Y (n + 1) i = runX d.m (bodyM Y.G (psi Y n) Y.fu d.m) := by
       show (match Y.defs[i]? with
         | some dm => if isXD Y.G i = true then runX dm.m (bodyM Y.G (psi Y n) Y.fu dm.m) else runD dm.m (bodyM Y.G (psi Y n) Y.fu dm.m)
         | none => fun _ _ => .bad) = _
       rw [e]
       dsimp only
       rw [if_pos hx]
     rw [hpsi]
     rw [Nat.zero_add] at b12 b13
     rw [hx] at b12 b13
     have b13 : d.ps.length = 1 := by simpa using b13
     refine def_okX (lv := 2 * n + 3) (dm := d.m) F' S b1 b13 rfl fun cdv A outer s H p cls dx hot hr hz hf => ?_
     have hr2 := hr.mono (show 2 * n + 2 ≤ 2 * n + 3 by omega)
     have hrH : L2H.RoomH (2 * n + 2) (L2H.cxX P w K mg base d.m.C.N d.qual d.C.sc (He.fAd K d.at_) cdv A outer s H p).A := ⟨hr2.dp, hr2.un⟩
     have nk : ∀ (x : Str) (nd : Nd), NdOk (L2H.cxX P w K mg base d.m.C.N d.qual d.C.sc (He.fAd K d.at_) cdv A outer s H p) (Y.ky K) Y.G (psi Y n) x nd → NdOk (L2H.cxX P w K mg base d.m.C.N d.qual d.C.sc (He.fAd K d.at_) cdv A outer s H p) ((Y.ky K).at 0 p.1 cls dx) Y.G (psi Y n) x nd := fun x nd h => by
       cases nd <;> first | exact h | (rename_i g; cases g <;> exact h)
     have mk : ∀ (m : Str) (nm : Mn), MnOk (L2H.cxX P w K mg base d.m.C.N d.qual d.C.sc (He.fAd K d.at_) cdv A outer s H p) (Y.ky K) Y.G (psi Y n) m nm → MnOk (L2H.cxX P w K mg base d.m.C.N d.qual d.C.sc (He.fAd K d.at_) cdv A outer s H p) ((Y.ky K).at 0 p.1 cls dx) Y.G (psi Y n) m nm := fun m nm h => by
       cases nm <;> exact h
     refine { hk := rfl, N := rfl, nd := S.nd, sc := rfl, kind := S.kind, fnd := fun _ _ => rfl, calm := fun h => (nomatch (b12.symm.trans (show d.C.hot = false from h))), stk := fun _ => ⟨rfl, rfl⟩, su := fun i a c2 d2 e => ?_, x0 := fun h => (nomatch (b12.symm.trans (show d.C.hot = false from h))), xok := xcB_ok exx.1, xin := fun h => (nomatch h), hx := fun _ _ => ?_, fns := fun h => (nomatch h), tk := TkW.of takes0, top := fun h => (nomatch (b12.symm.trans (show d.C.hot = false from h))), hu := by have := hrH.un; omega, tab := fun hh x nd m => nk x nd (nd_ _ rfl rfl rfl rfl rfl rfl rfl (fun _ => rfl) (fun h => Bool.noConfusion (show false = true from h)) hrH hh x nd m), fld := fld_, mth := fun hh m nm q => mk m nm (mth_ _ rfl rfl rfl rfl rfl (fun h => Bool.noConfusion (show false = true from h)) hh m nm q) }
     · cases e
       exact ⟨_, p.2, [], rfl, hz, hf⟩
     · exact ⟨p, ⟨rfl, hot.2⟩, List.mem_cons_self⟩
theorem law_sp {K : PySem.W.Frag} {k : Ky} (hk : k.K = K) {f : Fn} {H : Hp} {a : Addr} {ns : List Int} {E : XK} {S' : Sto} (hS : SqL K H a (ns.map V.int)) (h : f [.rl (ns.map D.int)] [] = .ok (.bl true) S') : spOf k 1 f [.ref a] H (fun v _ => v = .bl true) E := by
 refine ⟨fun _ => none, ⟨fun b => if b = a then H a else none, fun _ => none⟩, [], [.rl (ns.map D.int)], ⟨fun b o e => ?_, fun n c e => by simp at e, fun n b e => by simp at e, fun n m b e => by simp at e, fun b o e => by simp at e⟩, ?_, rfl, ?_⟩
 · dsimp only at e
   split at e
   · rename_i hb; subst hb; exact e
   · cases e
 · refine ⟨_, [], rfl, ⟨a, _, rfl, ?_, reps_ints ns⟩, rfl⟩
   show SqL k.K (fun b => if b = a then H a else none) a (ns.map V.int)
   rw [hk]
   rcases hS with (q | ⟨o, q⟩) | q
   · exact .inl (.inl (by simpa using q))
   · exact .inl (.inr ⟨o, by simpa using q⟩)
   · exact .inr q
 · rw [h]
   exact fun w' v H' le I r => r
theorem walk_sys {l : PySem.W.OpenLaw} {Y : Sys} {n iL : Nat} {dL : DefX} {q : Program} {loose : List Str} {XP : (Str → Option Value) → Heap → Prop} {d : DefRec} {x : Str} (ok : Y.ok = true) (eL : Y.defs[iL]? = some dL) (ea : dL.at_ = (d.name, none)) (ep : dL.ps = [x])
   (hn : l.most = some 63) (hdf : d.params.defaults = []) (hr : Room (2 * n + 2) callerA) (good : ∀ ns : List Int, ns.length ≤ 63 → ∃ S', psi Y n iL [.rl (ns.map D.int)] [] = .ok (.bl true) S') (nx : isXD Y.G iL = false := by rfl) :
   PySem.W.WalkO q loose XP (hookM 4 Y.fn Y.ts Y.ex).says l.row.toRowW d [] (fun f vs => PySem.call f vs) := by
 refine Att.attach_call hn hdf fun w t₀ t₁ mg mb fa oo pmm cdd docc aa vs ns GG YY o1 o2 o3 o4 o5 o6 o7 o8 => ?_
 obtain ⟨K, KX, c⟩ := YY
 have lev := fun base => lev_ok (P := l.prog) (base := base) ok KX GG.T.g c n iL dL eL
 obtain ⟨fd, F⟩ := c.t.d.defs (d := dL.he) (List.mem_append_left _ (List.mem_map.mpr ⟨dL, List.mem_of_getElem? eL, rfl⟩))
 have F' : FunD K dL.name dL.qual dL.params dL.body dL.C.sc [] [] (He.fAd K dL.at_) fd := F
 have hb := defsB_at (Sys.okD ok) iL dL eL
 unfold defB parB at hb
 simp only [Bool.and_eq_true, decide_eq_true_eq, List.isEmpty_iff, Option.isNone_iff_eq_none] at hb
 obtain ⟨b1, b2, ⟨b3, b4, b5, b6, b7, b8⟩, b9, b10, b11, b12, b13⟩ := hb
 have hfa : He.fAd K dL.at_ = fa := by
   have g1 := List.all_eq_true.mp (He.ba (He.ba c.more).2).1 dL (List.mem_of_getElem? eL)
   rw [ea] at g1 ⊢
   have g2 := He.glo_ok KX GG.T.g (show (He.Fa.glo d.name).ok K = true from g1)
   rw [o4] at g2
   cases g2
   rfl
 have bn := fun (s : Shared) (u : Value) => FunD.bindsA (ps := dL.ps) F' (fun _ _ _ _ _ _ us hl => bind_gen b3 b4 b5 b6 b7 b8 hl) s [u] (by rw [ep]; rfl)
 rw [ep] at bn
 refine law_call (K := K) (fd := fd) (CX := CXw (hotI Y.G iL) l.prog w) (sp := spOf (Y.ky K) dL.ps.length (psi Y n iL)) KX GG.T.g GG.T.b GG.T.builtins GG.T.nolimit o8 o5 o6 (Nat.le_trans o7 (by decide)) hr (fun base _ _ => ?_) bn (fun H hO hS => ?_) fun H e s' => cxw_none H t₁ e s'
 · obtain ⟨fd2, ⟨oc, od, osl, l2⟩, _, F2, _⟩ := lev base
   have F2 := F2 nx
   obtain ⟨oc1, od1, osl1, l1⟩ := FunD.at_ F'
   rw [l1] at l2
   cases l2
   rw [hfa] at F2
   rw [ep] at F2 ⊢
   exact F2
 · rw [ep]
   obtain ⟨S', h⟩ := good ns o7
   exact law_sp rfl hS h
end
end L2.MP
end
section
namespace L2.MP
open PySem PySem.Spec PyProof.Rows
end L2.MP
end
section
namespace L2.K41
open PySem PySem.Spec PyProof.Rows L2.MP
section
def top (i : Nat) : Stmt := PySem.Challenge.pw_matepoint_k41_rules_and_kinds_borne.main.body.getD i (.Pass ⟨0, 0, 0, 0⟩)
def GG : Gm where
 ar := [1, 1, 2, 1, 1, 2, 1, 2, 2, 1, 1, 1, 3, 3, 1]
 con := [(D.str "abcdefghijklmnopqrstuvwxyz"), (D.rt [(D.str "any"), (D.str "is"), (D.str "by"), (D.str "not"), (D.str "and"), (D.str "or")]), (D.int 8), (D.rt [(D.str "heavy"), (D.str "great"), (D.str "small"), (D.str "soon")]), (D.int 3), (D.int 4)]
 fld := []
 mth := [((580100734472995736, "append", Mn.append) : Nat × Str × Mn), ((1113607630035249405, "join", Mn.join) : Nat × Str × Mn), ((82645973330919789, "pop", Mn.pop) : Nat × Str × Mn)]
 fuel := 100000
 xcs := []
 xfl := []
 xin := []
 tb := []
 hotD := [200003, 200004]
def glt : List (Nat × Str × Gd) := [ge 82630973237919641 "all" (Gd.blt Blt.all), ge 2219307832723368451 "LETTERS" (Gd.con 0), ge 82616973118919390 "SIX" (Gd.con 1), ge 51754708455832430 "isinstance" (Gd.blt Blt.isinstance), ge 82648973353919833 "str" (Gd.blt Blt.str), ge 82641973296919721 "len" (Gd.blt Blt.len), ge 1855861644499957088 "MOST_LETTERS" (Gd.con 2), ge 2016207179946420794 "are_letters" (Gd.fn 0), ge 82648973338919790 "set" (Gd.blt Blt.set), ge 248005840482310280 "tuple" (Gd.blt Blt.tuple), ge 1709167894868438494 "RULES" (Gd.con 3), ge 1256748159521852734 "are_unlike_words" (Gd.fn 2), ge 318524173818505372 "MOST_RULES" (Gd.con 4), ge 265072943306656299 "is_word" (Gd.fn 1), ge 841685810025613961 "MOST_BORNE" (Gd.con 5), ge 82638973287919727 "int" (Gd.blt Blt.int), ge 1217403969876236662 "_law_draw" (Gd.fn 7), ge 662890622782221876 "range" (Gd.blt Blt.range), ge 408719510767023170 "_law_any_word" (Gd.fn 10), ge 1688287924079767144 "_law_pick" (Gd.fn 8), ge 807776620849555490 "list" (Gd.blt Blt.list), ge 31064657466331058 "bool" (Gd.blt Blt.bool), ge 301448913086613825 "_law_is" (Gd.fn 13), ge 1145524770986969163 "are_borne" (Gd.fn 4), ge 2182562970842738054 "is_rule" (Gd.fn 3), ge 1080591366044715448 "_law_cell_at" (Gd.fn 5), ge 1543854722208042327 "_law_others" (Gd.fn 12), ge 10667706839424970 "_law_kinds" (Gd.fn 11), ge 1382474915001073376 "_law_rule" (Gd.fn 9), ge 1076629905725379311 "_law_tape" (Gd.fn 6)]
def s0 : Stmt := top 4
def c0 : Ct := ⟨["thing", "sign"], defScope s0, none, [te 1082939895373473580 "thing" (Nd.loc 0), te 890310593385473784 "sign" (Nd.slo 1), te 82630973237919641 "all" (Nd.glo (Gd.blt Blt.all)), te 2219307832723368451 "LETTERS" (Nd.bgl (Gd.con 0)), te 82616973118919390 "SIX" (Nd.glo (Gd.con 1)), te 51754708455832430 "isinstance" (Nd.glo (Gd.blt Blt.isinstance)), te 82648973353919833 "str" (Nd.glo (Gd.blt Blt.str))], [], [], false, false, false, false, false, true⟩
def x0 : DefX := ⟨("are_letters", none), "are_letters", "are_letters", defArgs s0, defBody s0, ["thing"], c0⟩
def s1 : Stmt := top 5
def c1 : Ct := ⟨["thing"], defScope s1, none, [te 1082939895373473580 "thing" (Nd.loc 0), te 82641973296919721 "len" (Nd.glo (Gd.blt Blt.len)), te 1855861644499957088 "MOST_LETTERS" (Nd.glo (Gd.con 2)), te 2016207179946420794 "are_letters" (Nd.glo (Gd.fn 0))], [], [], false, false, false, false, false, true⟩
def x1 : DefX := ⟨("is_word", none), "is_word", "is_word", defArgs s1, defBody s1, ["thing"], c1⟩
def s2 : Stmt := top 10
def c2 : Ct := ⟨["thing", "most", "word"], defScope s2, none, [te 1082939895373473580 "thing" (Nd.loc 0), te 1807791620912555571 "most" (Nd.loc 1), te 278666575113086067 "word" (Nd.slo 2), te 82641973296919721 "len" (Nd.glo (Gd.blt Blt.len)), te 82648973338919790 "set" (Nd.glo (Gd.blt Blt.set)), te 82630973237919641 "all" (Nd.glo (Gd.blt Blt.all)), te 51754708455832430 "isinstance" (Nd.glo (Gd.blt Blt.isinstance)), te 82648973353919833 "str" (Nd.bgl (Gd.blt Blt.str)), te 248005840482310280 "tuple" (Nd.glo (Gd.blt Blt.tuple))], [], [], false, false, false, false, false, true⟩
def x2 : DefX := ⟨("are_unlike_words", none), "are_unlike_words", "are_unlike_words", defArgs s2, defBody s2, ["thing", "most"], c2⟩
def s3 : Stmt := top 11
def c3 : Ct := ⟨["thing", "word"], defScope s3, none, [te 1082939895373473580 "thing" (Nd.loc 0), te 278666575113086067 "word" (Nd.slo 1), te 82630973237919641 "all" (Nd.glo (Gd.blt Blt.all)), te 1709167894868438494 "RULES" (Nd.bgl (Gd.con 3)), te 1256748159521852734 "are_unlike_words" (Nd.glo (Gd.fn 2)), te 318524173818505372 "MOST_RULES" (Nd.glo (Gd.con 4))], [], [], false, false, false, false, false, true⟩
def x3 : DefX := ⟨("is_rule", none), "is_rule", "is_rule", defArgs s3, defBody s3, ["thing"], c3⟩
def s4 : Stmt := top 12
def c4 : Ct := ⟨["thing", "word"], defScope s4, none, [te 1082939895373473580 "thing" (Nd.loc 0), te 278666575113086067 "word" (Nd.slo 1), te 82630973237919641 "all" (Nd.glo (Gd.blt Blt.all)), te 265072943306656299 "is_word" (Nd.bgl (Gd.fn 1)), te 1256748159521852734 "are_unlike_words" (Nd.glo (Gd.fn 2)), te 841685810025613961 "MOST_BORNE" (Nd.glo (Gd.con 5))], [], [], false, false, false, false, false, true⟩
def x4 : DefX := ⟨("are_borne", none), "are_borne", "are_borne", defArgs s4, defBody s4, ["thing"], c4⟩
def s5 : Stmt := top 14
def c5 : Ct := ⟨["_law_script", "_law_k"], defScope s5, none, [te 1924275274927890197 "_law_script" (Nd.loc 0), te 2115376637814651689 "_law_k" (Nd.loc 1), te 82641973296919721 "len" (Nd.glo (Gd.blt Blt.len))], [], [], false, false, false, false, false, true⟩
def x5 : DefX := ⟨("_law_cell_at", none), "_law_cell_at", "_law_cell_at", defArgs s5, defBody s5, ["_law_script", "_law_k"], c5⟩
def s6 : Stmt := top 15
def c6 : Ct := ⟨["_law_cell"], defScope s6, none, [te 217381969782236540 "_law_cell" (Nd.loc 0), te 82638973287919727 "int" (Nd.glo (Gd.blt Blt.int))], [], [], true, false, false, false, false, true⟩
def x6 : DefX := ⟨("_law_tape", none), "_law_tape", "_law_tape", defArgs s6, defBody s6, ["_law_cell"], c6⟩
def s7 : Stmt := top 16
def c7 : Ct := ⟨["_law_tape_here", "_law_many", "_law_found", "_law_number"], defScope s7, none, [te 1240929288059711338 "_law_tape_here" (Nd.loc 0), te 994095933175460989 "_law_many" (Nd.loc 1), te 555241938460203833 "_law_found" (Nd.loc 2), te 1482815568956206891 "_law_number" (Nd.loc 3)], [], [], false, false, false, false, false, true⟩
def x7 : DefX := ⟨("_law_draw", none), "_law_draw", "_law_draw", defArgs s7, defBody s7, ["_law_tape_here", "_law_many"], c7⟩
def s8 : Stmt := top 17
def c8 : Ct := ⟨["_law_tape_here", "_law_some"], defScope s8, none, [te 1240929288059711338 "_law_tape_here" (Nd.loc 0), te 76634905779379401 "_law_some" (Nd.loc 1), te 1217403969876236662 "_law_draw" (Nd.glo (Gd.fn 7)), te 82641973296919721 "len" (Nd.glo (Gd.blt Blt.len))], [], [], false, false, false, false, false, true⟩
def x8 : DefX := ⟨("_law_pick", none), "_law_pick", "_law_pick", defArgs s8, defBody s8, ["_law_tape_here", "_law_some"], c8⟩
def s9 : Stmt := top 18
def c9 : Ct := ⟨["_law_tape_here", "_law_words", "_law_found", "_law_k"], defScope s9, none, [te 1240929288059711338 "_law_tape_here" (Nd.loc 0), te 1118318479782343655 "_law_words" (Nd.loc 1), te 555241938460203833 "_law_found" (Nd.loc 2), te 2115376637814651689 "_law_k" (Nd.loc 3), te 248005840482310280 "tuple" (Nd.glo (Gd.blt Blt.tuple)), te 662890622782221876 "range" (Nd.glo (Gd.blt Blt.range)), te 1217403969876236662 "_law_draw" (Nd.glo (Gd.fn 7)), te 82641973296919721 "len" (Nd.glo (Gd.blt Blt.len))], [1, 2], [], false, false, false, false, false, true⟩
def x9 : DefX := ⟨("_law_rule", none), "_law_rule", "_law_rule", defArgs s9, defBody s9, ["_law_tape_here"], c9⟩
def s10 : Stmt := top 19
def c10 : Ct := ⟨["_law_tape_here", "_law_found", "_law_k"], defScope s10, none, [te 1240929288059711338 "_law_tape_here" (Nd.loc 0), te 555241938460203833 "_law_found" (Nd.loc 1), te 2115376637814651689 "_law_k" (Nd.slo 2), te 82638973287919727 "int" (Nd.glo (Gd.blt Blt.int)), te 662890622782221876 "range" (Nd.glo (Gd.blt Blt.range)), te 1217403969876236662 "_law_draw" (Nd.glo (Gd.fn 7))], [], [], false, false, false, false, false, true⟩
def x10 : DefX := ⟨("_law_any_word", none), "_law_any_word", "_law_any_word", defArgs s10, defBody s10, ["_law_tape_here"], c10⟩
def s11 : Stmt := top 20
def c11 : Ct := ⟨["_law_tape_here", "_law_some", "_law_drawn", "_law_found", "_law_k"], defScope s11, none, [te 1240929288059711338 "_law_tape_here" (Nd.loc 0), te 76634905779379401 "_law_some" (Nd.loc 1), te 911885629150176430 "_law_drawn" (Nd.loc 2), te 555241938460203833 "_law_found" (Nd.loc 3), te 2115376637814651689 "_law_k" (Nd.loc 4), te 248005840482310280 "tuple" (Nd.glo (Gd.blt Blt.tuple)), te 662890622782221876 "range" (Nd.glo (Gd.blt Blt.range)), te 1217403969876236662 "_law_draw" (Nd.glo (Gd.fn 7)), te 82641973296919721 "len" (Nd.glo (Gd.blt Blt.len)), te 82638973287919727 "int" (Nd.glo (Gd.blt Blt.int)), te 408719510767023170 "_law_any_word" (Nd.glo (Gd.fn 10))], [1, 3], [], false, false, false, false, false, true⟩
def x11 : DefX := ⟨("_law_kinds", none), "_law_kinds", "_law_kinds", defArgs s11, defBody s11, ["_law_tape_here"], c11⟩
def s12 : Stmt := top 21
def c12 : Ct := ⟨["_law_tape_here", "_law_good", "_law_most", "_law_at", "_law_odd", "_law_found"], defScope s12, none, [te 1240929288059711338 "_law_tape_here" (Nd.loc 0), te 1911584960739542788 "_law_good" (Nd.loc 1), te 994109933264461125 "_law_most" (Nd.loc 2), te 301448913078613802 "_law_at" (Nd.loc 3), te 43315819254545501 "_law_odd" (Nd.loc 4), te 555241938460203833 "_law_found" (Nd.loc 5), te 1688287924079767144 "_law_pick" (Nd.glo (Gd.fn 8)), te 807776620849555490 "list" (Nd.glo (Gd.blt Blt.list)), te 1217403969876236662 "_law_draw" (Nd.glo (Gd.fn 7)), te 82641973296919721 "len" (Nd.glo (Gd.blt Blt.len))], [], [], false, false, false, false, false, true⟩
def x12 : DefX := ⟨("_law_others", none), "_law_others", "_law_others", defArgs s12, defBody s12, ["_law_tape_here", "_law_good", "_law_most"], c12⟩
def s13 : Stmt := top 22
def c13 : Ct := ⟨["_law_asked", "_law_thing", "_law_due", "_law_turn", "_law_found"], defScope s13, none, [te 1405624179119676398 "_law_asked" (Nd.loc 0), te 529495057090925171 "_law_thing" (Nd.loc 1), te 43304819205545454 "_law_due" (Nd.loc 2), te 1076649905847379506 "_law_turn" (Nd.loc 3), te 555241938460203833 "_law_found" (Nd.loc 4), te 662890622782221876 "range" (Nd.glo (Gd.blt Blt.range)), te 51754708455832430 "isinstance" (Nd.glo (Gd.blt Blt.isinstance)), te 31064657466331058 "bool" (Nd.glo (Gd.blt Blt.bool))], [], [], false, false, false, false, false, true⟩
def x13 : DefX := ⟨("_law_is", none), "_law_is", "_law_is", defArgs s13, defBody s13, ["_law_asked", "_law_thing", "_law_due"], c13⟩
def s14 : Stmt := top 23
def c14 : Ct := ⟨["_law_script", "_law_cell", "_law_tape_here", "_law_rule_here", "_law_kinds_here", "_law_strange", "_law_word"], defScope s14, none, [te 1924275274927890197 "_law_script" (Nd.loc 0), te 217381969782236540 "_law_cell" (Nd.loc 1), te 1240929288059711338 "_law_tape_here" (Nd.loc 2), te 117949281377352494 "_law_rule_here" (Nd.loc 3), te 1293949578084588672 "_law_kinds_here" (Nd.loc 4), te 2224898510356349144 "_law_strange" (Nd.loc 5), te 1770827896678685572 "_law_word" (Nd.slo 6), te 301448913086613825 "_law_is" (Nd.glo (Gd.fn 13)), te 1145524770986969163 "are_borne" (Nd.glo (Gd.fn 4)), te 2182562970842738054 "is_rule" (Nd.glo (Gd.fn 3)), te 1080591366044715448 "_law_cell_at" (Nd.glo (Gd.fn 5)), te 1543854722208042327 "_law_others" (Nd.glo (Gd.fn 12)), te 10667706839424970 "_law_kinds" (Nd.glo (Gd.fn 11)), te 1382474915001073376 "_law_rule" (Nd.glo (Gd.fn 9)), te 1076629905725379311 "_law_tape" (Nd.glo (Gd.fn 6))], [], [], false, false, false, false, false, true⟩
def x14 : DefX := ⟨("law", none), "law", "law", defArgs s14, defBody s14, ["_law_script"], c14⟩
def YY : Sys := ⟨GG, glt, [], [x0, x1, x2, x3, x4, x5, x6, x7, x8, x9, x10, x11, x12, x13, x14], 60, [], []⟩
theorem ok : YY.ok = true := by kernel_rfl
def b0 (φ : Nat → Fn) : M Flo :=
 (dSeq (dIf (dOrT (dNotT (dTru (dOp1 (isiD "str") (dPeek 0)))) (dOrT (dBl (dOp2 (cmpEq false) (dPeek 0) (M.ret (D.str "")))) (dBl (dOp2 (inF false) (dPeek 0) (M.ret (D.rt [(D.str "any"), (D.str "is"), (D.str "by"), (D.str "not"), (D.str "and"), (D.str "or")])))))) (dRet (M.ret (D.bl false))) (M.ret .nx))
 (dRet (dOp1 allD (dFz (dComp (dWalk (dVar 0)) (gNm 1) (M.ret true) (dOp2 (inF false) (dPeek 1) (M.ret (D.str "abcdefghijklmnopqrstuvwxyz"))) [1])))))
theorem e0 (φ : Nat → Fn) : bodyM GG φ 60 x0.m = b0 φ := by kernel_rfl
theorem p0 (n : Nat) : psi YY (n + 1) 0 = runD x0.m (b0 (psi YY n)) := by
 rw [← e0]; exact psi_n rfl rfl
def b1 (φ : Nat → Fn) : M Flo :=
 (dRet (dAnd (dFn φ 0 1 (dArgs [(dVar 0)])) (dOp2 leD (dOp1 lenD (dPeek 0)) (M.ret (D.int 8)))))
theorem e1 (φ : Nat → Fn) : bodyM GG φ 60 x1.m = b1 φ := by kernel_rfl
theorem p1 (n : Nat) : psi YY (n + 1) 1 = runD x1.m (b1 (psi YY n)) := by
 rw [← e1]; exact psi_n rfl rfl
def b2 (φ : Nat → Fn) : M Flo :=
 (dSeq (dIf (dOrT (dNotT (dTru (dOp1 (isiD "tuple") (dPeek 0)))) (dBl (dOp2 gtD (dOp1 lenD (dPeek 0)) (dPeek 1)))) (dRet (M.ret (D.bl false))) (M.ret .nx))
 (dSeq (dIf (dNotT (dTru (dOp1 allD (dFz (dComp (dWalk (dVar 0)) (gNm 2) (M.ret true) (dOp1 (isiD "str") (dPeek 2)) [2]))))) (dRet (M.ret (D.bl false))) (M.ret .nx))
 (dRet (dOp2 (cmpEq false) (dOp1 lsetD (dPeek 0)) (dOp1 lenD (dPeek 0))))))
theorem e2 (φ : Nat → Fn) : bodyM GG φ 60 x2.m = b2 φ := by kernel_rfl
theorem p2 (n : Nat) : psi YY (n + 1) 2 = runD x2.m (b2 (psi YY n)) := by
 rw [← e2]; exact psi_n rfl rfl
def b3 (φ : Nat → Fn) : M Flo :=
 (dRet (dAnd (dFn φ 2 2 (dArgs [(dVar 0), (M.ret (D.int 3))])) (dOp1 allD (dFz (dComp (dWalk (dVar 0)) (gNm 1) (M.ret true) (dOp2 (inF false) (dPeek 1) (M.ret (D.rt [(D.str "heavy"), (D.str "great"), (D.str "small"), (D.str "soon")]))) [1])))))
theorem e3 (φ : Nat → Fn) : bodyM GG φ 60 x3.m = b3 φ := by kernel_rfl
theorem p3 (n : Nat) : psi YY (n + 1) 3 = runD x3.m (b3 (psi YY n)) := by
 rw [← e3]; exact psi_n rfl rfl
def b4 (φ : Nat → Fn) : M Flo :=
 (dRet (dAnd (dFn φ 2 2 (dArgs [(dVar 0), (M.ret (D.int 4))])) (dOp1 allD (dFz (dComp (dWalk (dVar 0)) (gNm 1) (M.ret true) (dFn φ 1 1 (dArgs [(dVar 1)])) [1])))))
theorem e4 (φ : Nat → Fn) : bodyM GG φ 60 x4.m = b4 φ := by kernel_rfl
theorem p4 (n : Nat) : psi YY (n + 1) 4 = runD x4.m (b4 (psi YY n)) := by
 rw [← e4]; exact psi_n rfl rfl
def b5 (φ : Nat → Fn) : M Flo :=
 (dSeq (dIf (dBl (dOp2 ltD (dPeek 1) (dOp1 lenD (dPeek 0)))) (dRet (dOp2 ixD (dPeek 0) (dPeek 1))) (M.ret .nx))
 (dRet (M.ret (D.int 0))))
theorem e5 (φ : Nat → Fn) : bodyM GG φ 60 x5.m = b5 φ := by kernel_rfl
theorem p5 (n : Nat) : psi YY (n + 1) 5 = runD x5.m (b5 (psi YY n)) := by
 rw [← e5]; exact psi_n rfl rfl
def b6 (φ : Nat → Fn) : M Flo :=
 (dRetHp (dLst (dArgs [(dOp2 mulD (dPeek 0) (dOp1 intD (dOp2 geD (dPeek 0) (dOp2 powD (M.ret (D.int 10)) (M.ret (D.int 18)))))), (dOp2 modD (dPeek 0) (M.ret (D.int 2147483647))), (M.ret (D.int 0))])))
theorem e6 (φ : Nat → Fn) : bodyM GG φ 60 x6.m = b6 φ := by kernel_rfl
theorem p6 (n : Nat) : psi YY (n + 1) 6 = runD x6.m (b6 (psi YY n)) := by
 rw [← e6]; exact psi_n rfl rfl
def b7 (φ : Nat → Fn) : M Flo :=
 (dSeq (dIf (dBl (dOp2 gtD (dOp2 ixD (dPeek 0) (M.ret (D.int 0))) (M.ret (D.int 0)))) (dSeq (dSet 2 (dOp2 modD (dOp2 ixD (dPeek 0) (M.ret (D.int 0))) (dPeek 1)))
 (dSeq (dSetIx (dOp2 fdivD (dOp2 ixD (dPeek 0) (M.ret (D.int 0))) (dPeek 1)) (dPeek 0) (M.ret (D.int 0)))
 (dRet (dVar 2)))) (M.ret .nx))
 (dSeq (dSetIx (dOp2 addD (dOp2 ixD (dPeek 0) (M.ret (D.int 2))) (M.ret (D.int 1))) (dPeek 0) (M.ret (D.int 2)))
 (dSeq (dSet 3 (dOp2 modD (dOp2 mulD (dOp2 addD (dOp2 addD (dOp2 ixD (dPeek 0) (M.ret (D.int 1))) (dOp2 mulD (M.ret (D.int 7919)) (dOp2 ixD (dPeek 0) (M.ret (D.int 2))))) (M.ret (D.int 1))) (M.ret (D.int 48271))) (M.ret (D.int 2147483647))))
 (dSeq (dSet 3 (dOp2 modD (dOp2 mulD (dPeek 3) (dOp2 addD (dOp2 fdivD (dPeek 3) (M.ret (D.int 1009))) (M.ret (D.int 69621)))) (M.ret (D.int 2147483647))))
 (dRet (dOp2 modD (dOp2 modD (dOp2 mulD (dPeek 3) (dOp2 addD (dOp2 fdivD (dPeek 3) (M.ret (D.int 2003))) (M.ret (D.int 40692)))) (M.ret (D.int 2147483399))) (dPeek 1)))))))
theorem e7 (φ : Nat → Fn) : bodyM GG φ 60 x7.m = b7 φ := by kernel_rfl
theorem p7 (n : Nat) : psi YY (n + 1) 7 = runD x7.m (b7 (psi YY n)) := by
 rw [← e7]; exact psi_n rfl rfl
def b8 (φ : Nat → Fn) : M Flo :=
 (dRet (dOp2 ixD (dPeek 1) (dFn φ 7 2 (dArgs [(dVar 0), (dOp1 lenD (dPeek 1))]))))
theorem e8 (φ : Nat → Fn) : bodyM GG φ 60 x8.m = b8 φ := by kernel_rfl
theorem p8 (n : Nat) : psi YY (n + 1) 8 = runD x8.m (b8 (psi YY n)) := by
 rw [← e8]; exact psi_n rfl rfl
def b9 (φ : Nat → Fn) : M Flo :=
 (dSeq (dSetOwn 1 (dLst (dArgs [(M.ret (D.str "heavy")), (M.ret (D.str "great")), (M.ret (D.str "small")), (M.ret (D.str "soon"))])))
 (dSeq (dSetOwn 2 (dLst (dArgs [])))
 (dSeq (dFor (dRng1 (dOp2 ixD (dFz (dLst (dArgs [(M.ret (D.int 0)), (M.ret (D.int 1)), (M.ret (D.int 1)), (M.ret (D.int 2)), (M.ret (D.int 3))]))) (dFn φ 7 2 (dArgs [(dVar 0), (M.ret (D.int 5))])))) (gNm 3) (dExpr (dMut appF (dPeek 2) (dArgs [(dMut popAtF (dPeek 1) (dArgs [(dFn φ 7 2 (dArgs [(dVar 0), (dOp1 lenD (dPeek 1))]))]))]))))
 (dRet (dOp1 tupleD (dPeek 2))))))
theorem e9 (φ : Nat → Fn) : bodyM GG φ 60 x9.m = b9 φ := by kernel_rfl
theorem p9 (n : Nat) : psi YY (n + 1) 9 = runD x9.m (b9 (psi YY n)) := by
 rw [← e9]; exact psi_n rfl rfl
def b10 (φ : Nat → Fn) : M Flo :=
 (dSeq (dSet 1 (dSm1 joinD (M.ret (D.str "")) (dFz (dComp (dRng1 (dOp2 addD (M.ret (D.int 1)) (dFn φ 7 2 (dArgs [(dVar 0), (M.ret (D.int 8))])))) (gNm 2) (M.ret true) (dOp2 ixD (M.ret (D.str "abcdefghijklmnopqrstuvwxyz")) (dFn φ 7 2 (dArgs [(dVar 0), (M.ret (D.int 26))]))) [2]))))
 (dRet (dOp2 addD (dPeek 1) (dOp2 mulD (M.ret (D.str "s")) (dOp1 intD (dOp2 (inF false) (dPeek 1) (dTup (dArgs [(M.ret (D.str "any")), (M.ret (D.str "is")), (M.ret (D.str "by")), (M.ret (D.str "not")), (M.ret (D.str "and")), (M.ret (D.str "or"))]))))))))
theorem e10 (φ : Nat → Fn) : bodyM GG φ 60 x10.m = b10 φ := by kernel_rfl
theorem p10 (n : Nat) : psi YY (n + 1) 10 = runD x10.m (b10 (psi YY n)) := by
 rw [← e10]; exact psi_n rfl rfl
def b11 (φ : Nat → Fn) : M Flo :=
 (dSeq (dSetOwn 1 (dLst (dArgs [(M.ret (D.str "rye")), (M.ret (D.str "oat")), (M.ret (D.str "o")), (M.ret (D.str "anya")), (M.ret (D.str "zzzzzzzz")), (M.ret (D.str "island")), (M.ret (D.str "heavy")), (M.ret (D.str "soon")), (M.ret (D.str "notes")), (M.ret (D.str "ry"))])))
 (dSeq (dSet 2 (dFn φ 10 1 (dArgs [(dVar 0)])))
 (dSeq (dSetOwn 1 (dOpF2 catF (dPeek 1) (dOp2 mulD (dFz (dLst (dArgs [(dVar 2)]))) (dOp1 intD (dOp2 (inF true) (dPeek 2) (dPeek 1))))))
 (dSeq (dSetOwn 3 (dLst (dArgs [])))
 (dSeq (dFor (dRng1 (dFn φ 7 2 (dArgs [(dVar 0), (M.ret (D.int 5))]))) (gNm 4) (dExpr (dMut appF (dPeek 3) (dArgs [(dMut popAtF (dPeek 1) (dArgs [(dFn φ 7 2 (dArgs [(dVar 0), (dOp1 lenD (dPeek 1))]))]))]))))
 (dRet (dOp1 tupleD (dPeek 3))))))))
theorem e11 (φ : Nat → Fn) : bodyM GG φ 60 x11.m = b11 φ := by kernel_rfl
theorem p11 (n : Nat) : psi YY (n + 1) 11 = runD x11.m (b11 (psi YY n)) := by
 rw [← e11]; exact psi_n rfl rfl
def b12 (φ : Nat → Fn) : M Flo :=
 (dSeq (dSet 3 (dFn φ 7 2 (dArgs [(dVar 0), (dOp2 addD (dOp1 lenD (dPeek 1)) (M.ret (D.int 1)))])))
 (dSeq (dSet 4 (dFz (dLst (dArgs [(M.ret (D.str "")), (M.ret (D.str "Heavy")), (M.ret (D.str "heavy ")), (M.ret D.non), (M.ret (D.int 1)), (M.ret (D.bl true)), (dFz (dLst (dArgs [(M.ret (D.str "great"))]))), (dTup (dArgs [(M.ret (D.str "soon"))])), (M.ret (D.str "any")), (M.ret (D.str "not")), (M.ret (D.str "by")), (M.ret (D.str "or")), (M.ret (D.str "soonsoons"))]))))
 (dSeq (dSet 4 (dFn φ 8 2 (dArgs [(dVar 0), (dVar 4)])))
 (dSeq (dSet 5 (dFz (dLst (dArgs [(dFz (dOpF1 listF (dPeek 1))), (M.ret D.non), (M.ret (D.str "heavy")), (M.ret (D.str "")), (M.ret (D.int 7)), (M.ret (D.bl true)), (dFz (M.ret (Cell.dk [] []))), (dOp2 addD (dOp2 addD (dSl (dPeek 1) none (some (dVar 3))) (dTup (dArgs [(dVar 4)]))) (dSl (dPeek 1) (some (dVar 3)) none)), (dTup (dArgs [(dVar 1)]))]))))
 (dSeq (dIf (dBl (dOp2 (cmpEq true) (dPeek 1) (dTup (dArgs [])))) (dSet 5 (dOp2 addD (dPeek 5) (dFz (dLst (dArgs [(dOp2 addD (dPeek 1) (dSl (dPeek 1) none (some (M.ret (D.int 1))))), (dOp2 addD (dOp2 addD (dSl (dPeek 1) none (some (dVar 3))) (dTup (dArgs [(dVar 4)]))) (dSl (dPeek 1) (some (dOp2 addD (dPeek 3) (M.ret (D.int 1)))) none)), (dOp2 ixD (dPeek 1) (M.ret (D.int 0)))]))))) (M.ret .nx))
 (dRet (dFn φ 8 2 (dArgs [(dVar 0), (dOp2 addD (dPeek 5) (dFz (dLst (dArgs [(dSl (dTup (dArgs [(M.ret (D.str "heavy")), (M.ret (D.str "great")), (M.ret (D.str "small")), (M.ret (D.str "soon")), (M.ret (D.str "rye"))])) none (some (dOp2 addD (dPeek 2) (M.ret (D.int 1)))))]))))]))))))))
theorem e12 (φ : Nat → Fn) : bodyM GG φ 60 x12.m = b12 φ := by kernel_rfl
theorem p12 (n : Nat) : psi YY (n + 1) 12 = runD x12.m (b12 (psi YY n)) := by
 rw [← e12]; exact psi_n rfl rfl
def b13 (φ : Nat → Fn) : M Flo :=
 (dSeq (dFor (dRng1 (M.ret (D.int 2))) (gNm 3) (dSeq (dSet 4 (dCallL GG.ar (fun i => isHF GG i && okW GG c13 i) φ 0 (dArgs [(dVar 1)])))
 (dIf (dOrT (dNotT (dTru (dOp1 (isiD "bool") (dPeek 4)))) (dBl (dOp2 (cmpEq true) (dPeek 4) (dPeek 2)))) (dRet (M.ret (D.bl false))) (M.ret .nx))))
 (dRet (M.ret (D.bl true))))
theorem e13 (φ : Nat → Fn) : bodyM GG φ 60 x13.m = b13 φ := by kernel_rfl
theorem p13 (n : Nat) : psi YY (n + 1) 13 = runD x13.m (b13 (psi YY n)) := by
 rw [← e13]; exact psi_n rfl rfl
def b14 (φ : Nat → Fn) : M Flo :=
 (dSeq (dFor (dWalk (dOp2 addD (dFz (dLst (dArgs [(dFn φ 5 2 (dArgs [(dVar 0), (M.ret (D.int 0))]))]))) (dSl (dPeek 0) (some (M.ret (D.int 1))) (some (M.ret (D.int 12)))))) (gNm 1) (dSeq (dSet 2 (dFn φ 6 1 (dArgs [(dVar 1)])))
 (dSeq (dSet 3 (dFn φ 9 1 (dArgs [(dVar 2)])))
 (dSeq (dSet 4 (dFn φ 11 1 (dArgs [(dVar 2)])))
 (dSeq (dIf (dOrT (dNotT (dTru (dFn φ 13 3 (dArgs [(M.ret (D.fn 3)), (dVar 3), (M.ret (D.bl true))])))) (dNotT (dTru (dFn φ 13 3 (dArgs [(M.ret (D.fn 4)), (dVar 4), (M.ret (D.bl true))]))))) (dRet (M.ret (D.bl false))) (M.ret .nx))
 (dSeq (dIf (dNotT (dTru (dFn φ 13 3 (dArgs [(M.ret (D.fn 4)), (dVar 3), (M.ret (D.bl true))])))) (dRet (M.ret (D.bl false))) (M.ret .nx))
 (dSeq (dSet 5 (dFz (dComp (dWalk (dVar 4)) (gNm 6) (dBl (dOp2 (inF true) (dPeek 6) (dTup (dArgs [(M.ret (D.str "heavy")), (M.ret (D.str "great")), (M.ret (D.str "small")), (M.ret (D.str "soon"))])))) (dVar 6) [6])))
 (dSeq (dIf (dNotT (dTru (dFn φ 13 3 (dArgs [(M.ret (D.fn 3)), (dVar 4), (dOp2 (cmpEq false) (dPeek 5) (dFz (dLst (dArgs []))))])))) (dRet (M.ret (D.bl false))) (M.ret .nx))
 (dSeq (dIf (dNotT (dTru (dFn φ 13 3 (dArgs [(M.ret (D.fn 3)), (dFn φ 12 3 (dArgs [(dVar 2), (dVar 3), (M.ret (D.int 3))])), (M.ret (D.bl false))])))) (dRet (M.ret (D.bl false))) (M.ret .nx))
 (dIf (dNotT (dTru (dFn φ 13 3 (dArgs [(M.ret (D.fn 4)), (dFn φ 12 3 (dArgs [(dVar 2), (dVar 4), (M.ret (D.int 4))])), (M.ret (D.bl false))])))) (dRet (M.ret (D.bl false))) (M.ret .nx)))))))))))
 (dRet (dAnd (dFn φ 13 3 (dArgs [(M.ret (D.fn 3)), (dTup (dArgs [])), (M.ret (D.bl true))])) (dFn φ 13 3 (dArgs [(M.ret (D.fn 4)), (dTup (dArgs [])), (M.ret (D.bl true))])))))
theorem e14 (φ : Nat → Fn) : bodyM GG φ 60 x14.m = b14 φ := by kernel_rfl
theorem p14 (n : Nat) : psi YY (n + 1) 14 = runD x14.m (b14 (psi YY n)) := by
 rw [← e14]; exact psi_n rfl rfl
end
end L2.K41
end
section
namespace L2.K41
open PySem PySem.Spec PyProof.Rows L2.MP
abbrev RR : PySem.W.OpenRow := PySem.W.OpenLaw.row PySem.Challenge.rw_matepoint_k41_rules_and_kinds_borne
abbrev hkk : PySem.W.Hook := hookM 4 YY.fn YY.ts YY.ex
def obb (s : PySem.W.SharedT) : He.AlX := obsM 4 YY.fn YY.ts YY.ex (HandSHeadRun.getT s)
theorem obb_eq (s : PySem.W.SharedT) : obb s = hkk.obs s.abs := obsM_eq (HandSHeadRun.getT_eq s)
def loose0 : List PySem.Str := ["__name__", "LETTERS", "SIX", "MOST_LETTERS", "are_letters", "is_word", "RULES", "MOST_RULES", "MOST_BORNE", "are_unlike_words", "is_rule", "are_borne", "_law_cell_at", "_law_tape", "_law_draw", "_law_pick", "_law_rule", "_law_any_word", "_law_kinds", "_law_others", "_law_is"]
abbrev looseA : List PySem.Str := loose0
open PySem.W PySem.Calls HandSHeadRun in
theorem run0 (w : World) (os : OsState) : (endF (stepQ (denQ tabQ) RR.prog w) 12000 RR.prog w os).map (fun s => (looksF RR.prog (boot_heap w.params) s.abs, seenQ (PySem.W.view RR.prog [23]) looseA (importedModules RR.prog.main.body) (fun s => xlAt (PySem.W.view RR.prog [23]) [] s && recOk RR.toRowW.records s) s.abs)) = some (true, openGood (PySem.W.view RR.prog [23]) looseA) := by kernel_rfl
open PySem.W PySem.Calls HandSHeadRun in
theorem run2 (w : World) (os : OsState) : (endF (stepQ (denQ tabQ) RR.prog w) 12000 RR.prog w os).map (fun s => ((([] : List He.Fa).all fun f => f.ok (He.frT (getT s) (asM (getT s) 4))) && YY.fn.all fun d => d.ok (He.frT (getT s) (asM (getT s) 4)), YY.fn.map fun d => He.fnW (He.frT (getT s) (asM (getT s) 4)) d.at_)) = some (true, YY.fn.map He.DefD.val) := by kernel_rfl
open PySem.W PySem.Calls HandSHeadRun in
theorem run4 (w : World) (os : OsState) : (endF (stepQ (denQ tabQ) RR.prog w) 12000 RR.prog w os).map (fun s => (YY.ts.map fun t => He.dicW (He.frT (getT s) (asM (getT s) 4)) (t.1 (He.frT (getT s) (asM (getT s) 4))), YY.ex (He.frT (getT s) (asM (getT s) 4)))) = some (YY.ts.map fun t => some (He.keysIn w.params t.2), true) := by kernel_rfl
theorem runs (w : World) : HandSHeadRun.RunEq RR (PySem.W.view RR.prog [23]) hkk obb 12000 looseA w := fun os => run_join (run0 w os) (run2 w os) (run4 w os)
end L2.K41
open PySem PySem.W PySem.Calls PyProof.Rows
theorem L2.K41.holds (good : ∀ ns : List Int, ns.length ≤ 63 → ∃ S, L2.MP.psi L2.K41.YY 40 14 [.rl (ns.map L2.MP.D.int)] [] = .ok (.bl true) S) : PySem.Challenge.rw_matepoint_k41_rules_and_kinds_borne.Holds := by
 w_on; o_law
 refine HandSHeadRun.head_any (r := L2.K41.RR) (q := view L2.K41.RR.prog [23]) (H := L2.K41.hkk) (ob := L2.K41.obb) (M := 12000) (loose := L2.K41.looseA) (d := HandSHeadRun.topDef L2.K41.RR.prog 23) (kwd := []) L2.K41.obb_eq
   (by kernel_rfl) (fun s => by kernel_rfl) L2.K41.runs (by kernel_rfl) (by kernel_rfl) (by kernel_rfl) (by rfl) (by first | assumption | decide +kernel) (by decide +kernel) ⟨rfl, rfl, rfl, rfl, rfl, by decide +kernel⟩ ?hw ?hc
 case hw => w_witness2
 case hc => exact L2.MP.walk_sys (iL := 14) (dL := L2.K41.x14) (x := "_law_script") L2.K41.ok rfl (by kernel_rfl) rfl rfl (by kernel_rfl) ⟨rfl, by decide, by decide⟩ good
end
section
namespace L2.MP
open PySem PySem.Spec PyProof.Rows
def Vp {α : Type} (m : M α) (env : Envr) (S : Sto) (Q : α → Envr → Sto → Prop) (E : Exn → Envr → Sto → Prop) : Prop := match m env S with
 | .ok a e s => Q a e s
 | .exc x e s => E x e s
 | .bad => False
def Vc (r : FOut) (Q : D → Sto → Prop) (E : Exn → Sto → Prop) : Prop := match r with
 | .ok d s => Q d s
 | .exc x s => E x s
 | .bad => False
abbrev nE : Exn → Envr → Sto → Prop := fun _ _ _ => False
abbrev nX : Exn → Sto → Prop := fun _ _ => False
section
variable {α β : Type} {env : Envr} {S : Sto} {E : Exn → Envr → Sto → Prop}
theorem Vp.mono {m : M α} {Q Q' : α → Envr → Sto → Prop} {E' : Exn → Envr → Sto → Prop} (h : Vp m env S Q E) (hq : ∀ a e s, Q a e s → Q' a e s) (he : ∀ x e s, E x e s → E' x e s) : Vp m env S Q' E' := by
 unfold Vp at *
 cases e : m env S with
 | ok a e1 s1 => rw [e] at h; exact hq _ _ _ h
 | exc x e1 s1 => rw [e] at h; exact he _ _ _ h
 | bad => rw [e] at h; exact h
theorem Vc.mono {r : FOut} {Q Q' : D → Sto → Prop} {E E' : Exn → Sto → Prop} (h : Vc r Q E) (hq : ∀ a s, Q a s → Q' a s) (he : ∀ x s, E x s → E' x s) : Vc r Q' E' := by
 unfold Vc at *
 cases e : r with
 | ok a s1 => rw [e] at h; exact hq _ _ h
 | exc x s1 => rw [e] at h; exact he _ _ h
 | bad => rw [e] at h; exact h
theorem Vc.ok {r : FOut} {Q : D → Sto → Prop} (h : Vc r Q nX) : ∃ d s, r = .ok d s ∧ Q d s := by
 unfold Vc at h
 cases e : r with
 | ok a s1 => rw [e] at h; exact ⟨_, _, rfl, h⟩
 | exc x s1 => rw [e] at h; exact h.elim
 | bad => rw [e] at h; exact h.elim
theorem Vc.of {r : FOut} {d : D} {s : Sto} {Q : D → Sto → Prop} {E : Exn → Sto → Prop} (h : r = .ok d s) (q : Q d s) : Vc r Q E := by rw [h]; exact q
theorem v_bind {m : M α} {f : α → M β} {Q : β → Envr → Sto → Prop} (h : Vp m env S (fun a e s => Vp (f a) e s Q E) E) : Vp (M.bind m f) env S Q E := by
 unfold Vp M.bind at *
 cases e : m env S <;> (rw [e] at h; exact h)
theorem v_ret {a : α} {Q : α → Envr → Sto → Prop} (h : Q a env S) : Vp (M.ret a) env S Q E := h
theorem v_opt {o : Option α} {a : α} {Q : α → Envr → Sto → Prop} (e : o = some a) (h : Q a env S) : Vp (M.opt o) env S Q E := by subst e; exact h
theorem v_getS {Q : Envr × Sto → Envr → Sto → Prop} (h : Q (env, S) env S) : Vp getS env S Q E := h
theorem v_if {c : Prop} [Decidable c] {m m' : M α} {Q : α → Envr → Sto → Prop} (h : c) (q : Vp m env S Q E) : Vp (if c then m else m') env S Q E := by rw [if_pos h]; exact q
theorem v_var {i : Nat} {d : D} {Q : D → Envr → Sto → Prop} (e : env[i]? = some (.val d)) (h : Q d env S) : Vp (dVar i) env S Q E := by
 unfold Vp dVar; rw [e]; exact h
theorem v_varO {i : Nat} {c : Cell} {d : D} {Q : D → Envr → Sto → Prop} (e : env[i]? = some (.own c)) (f : frozen c = some d) (h : Q d (env.set i (.val d)) S) : Vp (dVar i) env S Q E := by
 unfold Vp dVar; rw [e]; dsimp only; rw [f]; exact h
theorem v_peek {i : Nat} {d : D} {Q : D → Envr → Sto → Prop} (e : env[i]? = some (.val d)) (h : Q d env S) : Vp (dPeek i) env S Q E := by
 unfold Vp dPeek; rw [e]; exact h
theorem v_peekO {i : Nat} {c : Cell} {Q : D → Envr → Sto → Prop} (e : env[i]? = some (.own c)) (h : Q (.own i) env S) : Vp (dPeek i) env S Q E := by
 unfold Vp dPeek; rw [e]; exact h
variable {a b c : M D} {Q : D → Envr → Sto → Prop}
theorem v_op2 {f : D → D → Option D} (h : Vp a env S (fun x e s => Vp b e s (fun y e s => ∃ z, f (view e s x) (view e s y) = some z ∧ Q z e s) E) E) : Vp (dOp2 f a b) env S Q E :=
 v_bind (h.mono (fun x e s h => v_bind (h.mono (fun y e s ⟨z, h1, h2⟩ => v_bind (v_getS (v_opt h1 h2))) fun _ _ _ q => q)) fun _ _ _ q => q)
theorem v_op1 {f : D → Option D} (h : Vp a env S (fun x e s => ∃ z, f (view e s x) = some z ∧ Q z e s) E) : Vp (dOp1 f a) env S Q E :=
 v_bind (h.mono (fun x e s ⟨z, h1, h2⟩ => v_bind (v_getS (v_opt h1 h2))) fun _ _ _ q => q)
theorem v_opF1 {f : D → Option Cell} {Q : Cell → Envr → Sto → Prop} (h : Vp a env S (fun x e s => ∃ z, f (view e s x) = some z ∧ Q z e s) E) : Vp (dOpF1 f a) env S Q E :=
 v_bind (h.mono (fun x e s ⟨z, h1, h2⟩ => v_bind (v_getS (v_opt h1 h2))) fun _ _ _ q => q)
theorem v_opF2 {f : D → D → Option Cell} {Q : Cell → Envr → Sto → Prop} (h : Vp a env S (fun x e s => Vp b e s (fun y e s => ∃ z, f (view e s x) (view e s y) = some z ∧ Q z e s) E) E) : Vp (dOpF2 f a b) env S Q E :=
 v_bind (h.mono (fun x e s h => v_bind (h.mono (fun y e s ⟨z, h1, h2⟩ => v_bind (v_getS (v_opt h1 h2))) fun _ _ _ q => q)) fun _ _ _ q => q)
theorem v_bl {Q : Bool → Envr → Sto → Prop} (h : Vp a env S (fun d e s => ∃ t, d = .bl t ∧ Q t e s) E) : Vp (dBl a) env S Q E :=
 v_bind (h.mono (fun d e s ⟨t, h1, h2⟩ => by subst h1; exact h2) fun _ _ _ q => q)
theorem v_and (h : Vp a env S (fun d e s => ∃ t, d = .bl t ∧ (t = true → Vp b e s Q E) ∧ (t = false → Q (.bl false) e s)) E) : Vp (dAnd a b) env S Q E :=
 v_bind (v_bl (h.mono (fun d e s ⟨t, h1, h2, h3⟩ => ⟨t, h1, by cases t <;> first | exact h3 rfl | exact h2 rfl⟩) fun _ _ _ q => q))
theorem v_or (h : Vp a env S (fun d e s => ∃ t, d = .bl t ∧ (t = false → Vp b e s Q E) ∧ (t = true → Q (.bl true) e s)) E) : Vp (dOr a b) env S Q E :=
 v_bind (v_bl (h.mono (fun d e s ⟨t, h1, h2, h3⟩ => ⟨t, h1, by cases t <;> first | exact h2 rfl | exact h3 rfl⟩) fun _ _ _ q => q))
theorem v_not (h : Vp a env S (fun d e s => ∃ t, d = .bl t ∧ Q (.bl (!t)) e s) E) : Vp (dNot a) env S Q E :=
 v_bind (v_bl (h.mono (fun d e s ⟨t, h1, h2⟩ => ⟨t, h1, h2⟩) fun _ _ _ q => q))
theorem v_chain {f g : D → D → Option D} (h : Vp a env S (fun x e s => Vp b e s (fun y e s => ∃ t, f (view e s x) (view e s y) = some (.bl t) ∧ (t = true → Vp c e s (fun u e s => ∃ z, g (view e s y) (view e s u) = some z ∧ Q z e s) E) ∧ (t = false → Q (.bl false) e s)) E) E) : Vp (dChain f g a b c) env S Q E :=
 v_bind (h.mono (fun x e s h => v_bind (h.mono (fun y e s ⟨t, h1, h2, h3⟩ => v_bind (v_getS (v_bind (v_opt h1 (by
   cases t with
   | true => exact v_bind ((h2 rfl).mono (fun u e s ⟨z, h4, h5⟩ => v_bind (v_getS (v_opt h4 h5))) fun _ _ _ q => q)
   | false => exact h3 rfl))))) fun _ _ _ q => q)) fun _ _ _ q => q)
theorem v_chainP {f g : D → D → Option D} (h : Vp a env S (fun x e s => Vp b e s (fun y e s => ∃ t, f (view e s x) (view e s y) = some (.bl t) ∧ Vp c e s (fun u e' s' => e' = e ∧ s' = s ∧ ∃ t2, g (view e s y) (view e s u) = some (.bl t2) ∧ Q (.bl (t && t2)) e s) nE) E) E) : Vp (dChain f g a b c) env S Q E :=
 v_chain (h.mono (fun x e s h => h.mono (fun y e s ⟨t, h1, h2⟩ => ⟨t, h1, fun ht => h2.mono (fun u e' s' ⟨z1, z2, t2, z3, z4⟩ => by subst z1 z2 ht; exact ⟨.bl t2, z3, z4⟩) fun _ _ _ q => q.elim, fun ht => by
   subst ht
   unfold Vp at h2
   cases ec : c e s with
   | bad => rw [ec] at h2; exact h2.elim
   | exc x e1 s1 => rw [ec] at h2; exact h2.elim
   | ok u e1 s1 => rw [ec] at h2; obtain ⟨_, _, t2, _, z⟩ := h2; exact z⟩) fun _ _ _ q => q) fun _ _ _ q => q)
theorem v_ite {m : M Bool} {p q : M α} {Q : α → Envr → Sto → Prop} (h : Vp m env S (fun t e s => (t = true → Vp p e s Q E) ∧ (t = false → Vp q e s Q E)) E) : Vp (dIf m p q) env S Q E :=
 v_bind (h.mono (fun t e s ⟨h1, h2⟩ => by cases t <;> first | exact h2 rfl | exact h1 rfl) fun _ _ _ q => q)
theorem v_notT {m : M Bool} {Q : Bool → Envr → Sto → Prop} (h : Vp m env S (fun t e s => Q (!t) e s) E) : Vp (dNotT m) env S Q E := v_bind h
theorem v_andT {m p : M Bool} {Q : Bool → Envr → Sto → Prop} (h : Vp m env S (fun t e s => (t = true → Vp p e s Q E) ∧ (t = false → Q false e s)) E) : Vp (dAndT m p) env S Q E :=
 v_bind (h.mono (fun t e s ⟨h1, h2⟩ => by cases t <;> first | exact h2 rfl | exact h1 rfl) fun _ _ _ q => q)
theorem v_orT {m p : M Bool} {Q : Bool → Envr → Sto → Prop} (h : Vp m env S (fun t e s => (t = true → Q true e s) ∧ (t = false → Vp p e s Q E)) E) : Vp (dOrT m p) env S Q E :=
 v_bind (h.mono (fun t e s ⟨h1, h2⟩ => by cases t <;> first | exact h2 rfl | exact h1 rfl) fun _ _ _ q => q)
theorem v_tru {Q : Bool → Envr → Sto → Prop} (h : Vp a env S (fun d e s => ∃ t, truD (view e s d) = some t ∧ Q t e s) E) : Vp (dTru a) env S Q E :=
 v_bind (h.mono (fun d e s ⟨t, h1, h2⟩ => v_bind (v_getS (v_opt h1 h2))) fun _ _ _ q => q)
theorem v_nil {Q : List D → Envr → Sto → Prop} (h : Q [] env S) : Vp (dArgs []) env S Q E := h
theorem v_cons {m : M D} {r : List (M D)} {Q : List D → Envr → Sto → Prop} (h : Vp m env S (fun d e s => Vp (dArgs r) e s (fun ds e s => Q (d :: ds) e s) E) E) : Vp (dArgs (m :: r)) env S Q E :=
 v_bind (h.mono (fun d e s h => v_bind (h.mono (fun ds e s h => h) fun _ _ _ q => q)) fun _ _ _ q => q)
theorem v_tup {m : M (List D)} (h : Vp m env S (fun ds e s => ds.length ≤ sizeLine ∧ Q (.tup ds) e s) E) : Vp (dTup m) env S Q E :=
 v_bind (h.mono (fun d e s ⟨h1, h2⟩ => by rw [if_pos h1]; exact h2) fun _ _ _ q => q)
theorem v_lst {m : M (List D)} {Q : Cell → Envr → Sto → Prop} (h : Vp m env S (fun ds e s => ds.length ≤ sizeLine ∧ Q (.lst ds) e s) E) : Vp (dLst m) env S Q E :=
 v_bind (h.mono (fun d e s ⟨h1, h2⟩ => by rw [if_pos h1]; exact h2) fun _ _ _ q => q)
theorem v_fz {m : M Cell} (h : Vp m env S (fun c e s => ∃ d, frozen c = some d ∧ Q d e s) E) : Vp (dFz m) env S Q E :=
 v_bind (h.mono (fun c e s ⟨d, h1, h2⟩ => v_opt h1 h2) fun _ _ _ q => q)
theorem v_part0 {Q : Option Int → Envr → Sto → Prop} (h : Q none env S) : Vp (dPart none) env S Q E := h
theorem v_part {m : M D} {Q : Option Int → Envr → Sto → Prop} (h : Vp m env S (fun d e s => ∃ i, d = .int i ∧ Q (some i) e s) E) : Vp (dPart (some m)) env S Q E :=
 v_bind (h.mono (fun d e s ⟨i, h1, h2⟩ => by subst h1; exact h2) fun _ _ _ q => q)
theorem v_sl {lo hi : Option (M D)} (h : Vp a env S (fun x e s => Vp (dPart lo) e s (fun l e s => Vp (dPart hi) e s (fun u e s => ∃ z, slD (view e s x) l u = some z ∧ Q z e s) E) E) E) : Vp (dSl a lo hi) env S Q E :=
 v_bind (h.mono (fun x e s h => v_bind (h.mono (fun l e s h => v_bind (h.mono (fun u e s ⟨z, h1, h2⟩ => v_bind (v_getS (v_opt h1 h2))) fun _ _ _ q => q)) fun _ _ _ q => q)) fun _ _ _ q => q)
theorem v_slF {lo hi : Option (M D)} {Q : Cell → Envr → Sto → Prop} (h : Vp a env S (fun x e s => Vp (dPart lo) e s (fun l e s => Vp (dPart hi) e s (fun u e s => ∃ z, slF (view e s x) l u = some z ∧ Q z e s) E) E) E) : Vp (dSlF a lo hi) env S Q E :=
 v_bind (h.mono (fun x e s h => v_bind (h.mono (fun l e s h => v_bind (h.mono (fun u e s ⟨z, h1, h2⟩ => v_bind (v_getS (v_opt h1 h2))) fun _ _ _ q => q)) fun _ _ _ q => q)) fun _ _ _ q => q)
theorem v_sm0 {f : Str → Option D} (h : Vp a env S (fun x e s => ∃ z d, x = .str z ∧ f z = some d ∧ Q d e s) E) : Vp (dSm0 f a) env S Q E :=
 v_bind (h.mono (fun x e s ⟨z, d, h1, h2, h3⟩ => by subst h1; exact v_opt h2 h3) fun _ _ _ q => q)
theorem v_sm1 {f : Str → D → Option D} (h : Vp a env S (fun x e s => ∃ z, x = .str z ∧ Vp b e s (fun y e s => ∃ d, f z (view e s y) = some d ∧ Q d e s) E) E) : Vp (dSm1 f a b) env S Q E :=
 v_bind (h.mono (fun x e s ⟨z, h1, h2⟩ => by subst h1; exact v_bind (h2.mono (fun y e s ⟨d, h3, h4⟩ => v_bind (v_getS (v_opt h3 h4))) fun _ _ _ q => q)) fun _ _ _ q => q)
theorem v_pr0 {Q : List (D × D) → Envr → Sto → Prop} (h : Q [] env S) : Vp (dPairs []) env S Q E := h
theorem v_pr {p q : M D} {r : List (M D × M D)} {Q : List (D × D) → Envr → Sto → Prop} (h : Vp p env S (fun x e s => Vp q e s (fun y e s => Vp (dPairs r) e s (fun l e s => Q ((x, y) :: l) e s) E) E) E) : Vp (dPairs ((p, q) :: r)) env S Q E :=
 v_bind (h.mono (fun x e s h => v_bind (h.mono (fun y e s h => v_bind (h.mono (fun l e s h => h) fun _ _ _ q => q)) fun _ _ _ q => q)) fun _ _ _ q => q)
theorem v_disp {ps : List (M D × M D)} {Q : Cell → Envr → Sto → Prop} (h : Vp (dPairs ps) env S (fun l e s => ∃ l', keyPairs l = some l' ∧ l'.length ≤ 15 ∧ Q (.dk (mergeD [] [] l').1 (mergeD [] [] l').2) e s) E) : Vp (dDisp ps) env S Q E :=
 v_bind (h.mono (fun l e s ⟨l', h1, h2, h3⟩ => by rw [h1]; dsimp only; rw [if_pos h2]; exact h3) fun _ _ _ q => q)
theorem v_fn {φ : Nat → Fn} {i n : Nat} {args : M (List D)} (h : Vp args env S (fun ds e s => ds.length = n ∧ Vc (φ i ds s) (fun d s' => Q d e s') (fun x s' => E x e s')) E) : Vp (dFn φ i n args) env S Q E :=
 v_bind (h.mono (fun ds e s ⟨h1, h2⟩ => by
   refine v_if h1 ?_
   unfold Vc at h2
   unfold Vp
   dsimp only
   cases q : φ i ds s <;> (rw [q] at h2; exact h2)) fun _ _ _ q => q)
variable {R : Flo → Envr → Sto → Prop}
theorem v_seq {s t : M Flo} (h : Vp s env S (fun f e s => match f with
   | .nx => Vp t e s R E
   | f => R f e s) E) : Vp (dSeq s t) env S R E :=
 v_bind (h.mono (fun f e s h => by cases f <;> exact h) fun _ _ _ q => q)
theorem v_set {i : Nat} {m : M D} (h : Vp m env S (fun d e s => R .nx (e.set i (.val d)) s) E) : Vp (dSet i m) env S R E :=
 v_bind (h.mono (fun d e s h => h) fun _ _ _ q => q)
theorem v_setOwn {i : Nat} {m : M Cell} (h : Vp m env S (fun d e s => R .nx (e.set i (.own d)) s) E) : Vp (dSetOwn i m) env S R E :=
 v_bind (h.mono (fun d e s h => h) fun _ _ _ q => q)
theorem v_setHp {i : Nat} {m : M Cell} (h : Vp m env S (fun c e s => R .nx (e.set i (.val (.ref s.length))) (s ++ [c])) E) : Vp (dSetHp i m) env S R E :=
 v_bind (h.mono (fun d e s h => h) fun _ _ _ q => q)
theorem v_asg {g : Tgt} {m : M D} (h : Vp m env S (fun d e s => ∃ e', g d e = some e' ∧ R .nx e' s) E) : Vp (dAsg g m) env S R E :=
 v_bind (h.mono (fun d e s ⟨e', h1, h2⟩ => by
   show Vp (M.bind (setTg g d) fun _ => M.ret .nx) e s R E
   unfold Vp M.bind setTg
   rw [h1]; exact h2) fun _ _ _ q => q)
theorem v_expr {m : M D} (h : Vp m env S (fun d e s => R .nx e s) E) : Vp (dExpr m) env S R E := v_bind h
theorem v_retS {m : M D} (h : Vp m env S (fun d e s => R (.rt d) e s) E) : Vp (dRet m) env S R E := v_bind h
theorem v_retHp {m : M Cell} (h : Vp m env S (fun c e s => R (.rt (.ref s.length)) e (s ++ [c])) E) : Vp (dRetHp m) env S R E :=
 v_bind (h.mono (fun d e s h => h) fun _ _ _ q => q)
theorem v_mut {f : Cell → List D → Option (Cell × D)} {o : M D} {args : M (List D)} (h : Vp o env S (fun x e s => (∃ l, cellOf e s x = some (.lst l)) ∧ Vp args e s (fun ds e s => ∃ c p e' s', cellOf e s x = some c ∧ f c ds = some p ∧ setCell x p.1 e s = .ok () e' s' ∧ Q p.2 e' s') E) E) : Vp (dMut f o args) env S Q E :=
 v_bind (h.mono (fun x e s ⟨⟨l, h1⟩, h2⟩ => v_bind (v_getS (by
   rw [h1]
   exact v_bind (h2.mono (fun ds e s ⟨c, p, e', s', h3, h4, h5, h6⟩ => v_bind (v_getS (v_bind (v_opt (a := p) (show (cellOf e s x).bind (fun c => f c ds) = some p by rw [h3]; exact h4) (v_bind (by unfold Vp; rw [h5]; exact h6)))))) fun _ _ _ q => q)))) fun _ _ _ q => q)
theorem v_setIx {v o i : M D} (h : Vp v env S (fun d e s => Vp o e s (fun x e s => Vp i e s (fun j e s => ∃ c c' e' s', cellOf e s x = some c ∧ setIxF c (view e s j) d = some c' ∧ setCell x c' e s = .ok () e' s' ∧ R .nx e' s') E) E) E) : Vp (dSetIx v o i) env S R E :=
 v_bind (h.mono (fun d e s h => v_bind (h.mono (fun x e s h => v_bind (h.mono (fun j e s ⟨c, c', e', s', h1, h2, h3, h4⟩ => v_bind (v_getS (v_bind (v_opt (a := c') (by rw [h1]; exact h2) (v_bind (by unfold Vp; rw [h3]; exact h4)))))) fun _ _ _ q => q)) fun _ _ _ q => q)) fun _ _ _ q => q)
theorem v_walk {Q : Src → Envr → Sto → Prop} (h : Vp a env S (fun d e s => ∃ z, srcOf d s = some z ∧ Q z e s) E) : Vp (dWalk a) env S Q E :=
 v_bind (h.mono (fun d e s ⟨z, h1, h2⟩ => v_bind (v_getS (v_opt h1 h2))) fun _ _ _ q => q)
theorem v_rng1 {Q : Src → Envr → Sto → Prop} (h : Vp a env S (fun d e s => ∃ j, d = .int j ∧ rgB j = true ∧ Q (upto 0 j, none) e s) E) : Vp (dRng1 a) env S Q E :=
 v_bind (h.mono (fun d e s ⟨j, h1, h2, h3⟩ => by subst h1; dsimp only; rw [if_pos h2]; exact h3) fun _ _ _ q => q)
theorem v_rng2 {Q : Src → Envr → Sto → Prop} (h : Vp a env S (fun c e s => Vp b e s (fun d e s => ∃ i j, c = .int i ∧ d = .int j ∧ (rgB i && rgB j) = true ∧ Q (upto i j, none) e s) E) E) : Vp (dRng2 a b) env S Q E :=
 v_bind (h.mono (fun c e s h => v_bind (h.mono (fun d e s ⟨i, j, h1, h2, h3, h4⟩ => by subst h1 h2; dsimp only; rw [if_pos h3]; exact h4) fun _ _ _ q => q)) fun _ _ _ q => q)
theorem enumOf_val {x : D} {s : Sto} {l : List D} (h : enumSrc x = some l) : enumOf x s = some (enumFrom 0 l, none) := by
 unfold enumOf
 split
 · cases h
 · rw [h]; rfl
theorem v_enumO {Q : Src → Envr → Sto → Prop} (h : Vp a env S (fun x e s => ∃ z, enumOf x s = some z ∧ Q z e s) E) : Vp (dEnum a) env S Q E :=
 v_bind (h.mono (fun x e s ⟨l, h1, h2⟩ => v_bind (v_getS (v_opt h1 h2))) fun _ _ _ q => q)
theorem v_enum {Q : Src → Envr → Sto → Prop} (h : Vp a env S (fun x e s => ∃ l, enumSrc x = some l ∧ Q (enumFrom 0 l, none) e s) E) : Vp (dEnum a) env S Q E :=
 v_enumO (h.mono (fun x e s ⟨l, h1, h2⟩ => ⟨_, enumOf_val h1, h2⟩) fun _ _ _ q => q)
theorem v_zip {Q : Src → Envr → Sto → Prop} (h : Vp a env S (fun x e s => Vp b e s (fun y e s => ∃ l, seqOf2 x y = some l ∧ Q (l, none) e s) E) E) : Vp (dZip a b) env S Q E :=
 v_bind (h.mono (fun x e s h => v_bind (h.mono (fun y e s ⟨l, h1, h2⟩ => v_opt (by rw [h1]; rfl) h2) fun _ _ _ q => q)) fun _ _ _ q => q)
theorem v_loop {src : Src} {g : Tgt} {m : M Flo} (I : List D → Envr → Sto → Prop) (hn : src.2 = none) (step : ∀ d r e s, I (d :: r) e s → ∃ e1, g d e = some e1 ∧ Vp m e1 s (fun f e s => match f with
   | .nx => I r e s
   | .ct => I r e s
   | .bk => R .nx e s
   | .rt v => R (.rt v) e s) E) (fin : ∀ e s, I [] e s → R .nx e s) : ∀ (l : List D) (env : Envr) (S : Sto), I l env S → Vp (loopL src g m l) env S R E
 | [], env, S, h => by
   unfold Vp loopL
   rw [hn]
   exact fin _ _ h
 | d :: r, env, S, h => by
   obtain ⟨e1, h1, h2⟩ := step d r env S h
   unfold Vp at h2
   unfold Vp loopL
   rw [hn, if_pos (show gOk none src.1 S = true from rfl), h1]
   dsimp only
   cases em : m e1 S with
   | bad => rw [em] at h2; exact h2
   | exc x e s => rw [em] at h2; exact h2
   | ok f e s =>
     rw [em] at h2
     cases f with
     | nx => exact v_loop I hn step fin r e s h2
     | ct => exact v_loop I hn step fin r e s h2
     | bk => exact h2
     | rt v => exact h2
theorem v_for {it : M Src} {g : Tgt} {m : M Flo} (h : Vp it env S (fun src e s => Vp (loopL src g m src.1) e s R E) E) : Vp (dFor it g m) env S R E := v_bind h
theorem v_compL {src : Src} {g : Tgt} {tt : M Bool} {te : M D} {vs : List Nat} (hn : src.2 = none) (I : List D → List D → Envr → Sto → Prop) (Q : List D → Envr → Sto → Prop) (step : ∀ d r acc e s, I (d :: r) acc e s → ∃ e1, g d e = some e1 ∧ Vp tt e1 s (fun t e s => (t = true → Vp te e s (fun x e s => I r (acc ++ [x]) (wipeE e vs) s) nE) ∧ (t = false → I r acc (wipeE e vs) s)) nE)
   (fin : ∀ acc e s, I [] acc e s → Q acc e s) : ∀ (l acc : List D) (env : Envr) (S : Sto), I l acc env S → ∃ acc' e s, compL src g tt te vs l acc env S = .ok acc' e s ∧ Q acc' e s
 | [], acc, env, S, h => ⟨acc, env, S, by unfold compL; rw [hn]; rfl, fin _ _ _ h⟩
 | d :: r, acc, env, S, h => by
   obtain ⟨e1, h1, h2⟩ := step d r acc env S h
   unfold compL
   rw [hn, if_pos (show gOk none src.1 S = true from rfl), h1]
   dsimp only
   unfold Vp at h2
   cases em : tt e1 S with
   | bad => rw [em] at h2; exact h2.elim
   | exc x e s => rw [em] at h2; exact h2.elim
   | ok t e s =>
     rw [em] at h2
     cases t with
     | false => exact v_compL hn I Q step fin r acc _ _ (h2.2 rfl)
     | true =>
       have h3 := h2.1 rfl
       unfold Vp at h3
       dsimp only
       cases ee : te e s with
       | bad => rw [ee] at h3; exact h3.elim
       | exc x e s => rw [ee] at h3; exact h3.elim
       | ok x e2 s2 => rw [ee] at h3; exact v_compL hn I Q step fin r _ _ _ h3
theorem v_comp {it : M Src} {g : Tgt} {tt : M Bool} {te : M D} {vs : List Nat} {Q : Cell → Envr → Sto → Prop} (h : Vp it env S (fun src e s => src.1.length ≤ sizeLine ∧ ∃ acc e' s', compL src g tt te vs src.1 [] (wipeE e vs) s = .ok acc e' s' ∧ Q (.lst acc) e' s') E) : Vp (dComp it g tt te vs) env S Q E :=
 v_bind (h.mono (fun src e s ⟨h1, acc, e', s', h2, h3⟩ => by
   refine v_if h1 ?_
   unfold Vp
   dsimp only
   rw [h2]; exact h3) fun _ _ _ q => q)
theorem v_def {dm : DefM} {m : M Flo} {ds : List D} {Q : D → Sto → Prop} {E : Exn → Sto → Prop} (hl : ds.length = dm.ps.length) (env : Envr) (he : ds.map Slot.val ++ List.replicate (dm.C.N.length - ds.length) Slot.no = env) (h : Vp m env S (fun f e s => match f with
   | .nx => Q .non s
   | .rt d => Q d s
   | _ => False) (fun x e s => E x s)) : Vc (runD dm m ds S) Q E := by
 subst he
 unfold Vp at h
 unfold runD Vc
 rw [if_pos hl]
 cases em : m (ds.map Slot.val ++ List.replicate (dm.C.N.length - ds.length) Slot.no) S with
 | bad => rw [em] at h; exact h
 | exc x e s => rw [em] at h; exact h
 | ok f e s => rw [em] at h; cases f <;> exact h
end
theorem add_ss {a b : Str} (h : a.length + b.length ≤ sizeLine) : addD (.str a) (.str b) = some (.str (a ++ b)) := if_pos h
theorem add_ll {a b : List D} (h : a.length + b.length ≤ sizeLine) : addD (.lst a) (.lst b) = some (.lst (a ++ b)) := if_pos h
theorem add_tt {a b : List D} (h : a.length + b.length ≤ sizeLine) : addD (.tup a) (.tup b) = some (.tup (a ++ b)) := if_pos h
theorem mul_ir {i j : Int} (h : j.natAbs.log2 < 63) : mulD (.int i) (.int j) = some (.int (i * j)) := if_pos (by unfold mulB; rw [decide_eq_true h, Bool.true_or, Bool.or_true])
theorem fdiv_ii {i j : Int} (h : 0 < j) (h2 : j.natAbs.log2 < 9000) : fdivD (.int i) (.int j) = some (.int (i / j)) := if_pos (by simp [divB, h, h2])
theorem mod_ii {i j : Int} (h : 0 < j) : modD (.int i) (.int j) = some (.int (i % j)) := if_pos (decide_eq_true h)
theorem log2_le {n m : Nat} (h : n < 2 ^ m) (hm : 0 < m) : n.log2 < m := by
 by_cases hn : n = 0
 · subst hn; simpa using hm
 · exact (Nat.log2_lt hn).mpr h
end L2.MP
namespace L2.MP
open PySem PySem.Spec PyProof.Rows
section
theorem vcompP {src : Src} {g : Tgt} {tt : M Bool} {te : M D} {vs : List Nat} (hn : src.2 = none) (P : D → Bool) (f : D → D) (env : Envr) (S : Sto) : ∀ (l acc : List D), (∀ d ∈ l, ∃ e1, g d env = some e1 ∧ Vp tt e1 S (fun t e s => t = P d ∧ s = S ∧ (t = true → Vp te e s (fun x e s => x = f d ∧ s = S ∧ wipeE e vs = env) nE) ∧ (t = false → wipeE e vs = env)) nE) →
   compL src g tt te vs l acc env S = .ok (acc ++ (l.filter P).map f) env S
 | [], acc, _ => by unfold compL; rw [hn]; simp [gOk]
 | d :: r, acc, h => by
   obtain ⟨e1, h1, h2⟩ := h d List.mem_cons_self
   have ih := fun acc => vcompP (src := src) hn P f env S r acc fun x hx => h x (List.mem_cons_of_mem _ hx)
   unfold compL
   rw [hn, if_pos (show gOk none src.1 S = true from rfl), h1]
   dsimp only
   unfold Vp at h2
   cases em : tt e1 S with
   | bad => rw [em] at h2; exact h2.elim
   | exc x e s => rw [em] at h2; exact h2.elim
   | ok t e s =>
     rw [em] at h2
     obtain ⟨q1, q2, q3, q4⟩ := h2
     subst q2
     cases t with
     | false =>
       dsimp only
       rw [q4 rfl, ih, List.filter_cons, ← q1]; rfl
     | true =>
       have h3 := q3 rfl
       unfold Vp at h3
       dsimp only
       cases ee : te e s with
       | bad => rw [ee] at h3; exact h3.elim
       | exc x e s => rw [ee] at h3; exact h3.elim
       | ok x e2 s2 =>
         rw [ee] at h3
         obtain ⟨z1, z2, z3⟩ := h3
         dsimp only
         rw [z3, z2, ih, List.filter_cons, ← q1, z1]
         simp
end
@[irreducible] def Wp {α : Type} (m : M α) (env : Envr) (S : Sto) (Q : α → Envr → Sto → Prop) (E : Exn → Envr → Sto → Prop) : Prop := Vp m env S Q E
@[irreducible] def Wc (r : FOut) (Q : D → Sto → Prop) (E : Exn → Sto → Prop) : Prop := Vc r Q E
section
variable {α β : Type} {env : Envr} {S : Sto} {E : Exn → Envr → Sto → Prop}
theorem Wp.mono {m : M α} {Q Q' : α → Envr → Sto → Prop} {E' : Exn → Envr → Sto → Prop} (h : Wp m env S Q E) (hq : ∀ a e s, Q a e s → Q' a e s) (he : ∀ x e s, E x e s → E' x e s) : Wp m env S Q' E' := by
 delta Wp Wc at *
 exact Vp.mono h hq he
theorem Wc.mono {r : FOut} {Q Q' : D → Sto → Prop} {E E' : Exn → Sto → Prop} (h : Wc r Q E) (hq : ∀ a s, Q a s → Q' a s) (he : ∀ x s, E x s → E' x s) : Wc r Q' E' := by
 delta Wp Wc at *
 exact Vc.mono h hq he
theorem Wc.ok {r : FOut} {Q : D → Sto → Prop} (h : Wc r Q nX) : ∃ d s, r = .ok d s ∧ Q d s := by
 delta Wp Wc at *
 exact Vc.ok h
theorem Wc.of {r : FOut} {d : D} {s : Sto} {Q : D → Sto → Prop} {E : Exn → Sto → Prop} (h : r = .ok d s) (q : Q d s) : Wc r Q E := by
 delta Wp Wc at *
 exact Vc.of h q
theorem w_bind {m : M α} {f : α → M β} {Q : β → Envr → Sto → Prop} (h : Wp m env S (fun a e s => Wp (f a) e s Q E) E) : Wp (M.bind m f) env S Q E := by
 delta Wp Wc at *
 exact v_bind h
theorem w_ret {a : α} {Q : α → Envr → Sto → Prop} (h : Q a env S) : Wp (M.ret a) env S Q E := by
 delta Wp Wc at *
 exact v_ret h
theorem w_var {i : Nat} {d : D} {Q : D → Envr → Sto → Prop} (e : env[i]? = some (.val d)) (h : Q d env S) : Wp (dVar i) env S Q E := by
 delta Wp Wc at *
 exact v_var e h
theorem w_varO {i : Nat} {c : Cell} {d : D} {Q : D → Envr → Sto → Prop} (e : env[i]? = some (.own c)) (f : frozen c = some d) (h : Q d (env.set i (.val d)) S) : Wp (dVar i) env S Q E := by
 delta Wp Wc at *
 exact v_varO e f h
theorem w_peek {i : Nat} {d : D} {Q : D → Envr → Sto → Prop} (e : env[i]? = some (.val d)) (h : Q d env S) : Wp (dPeek i) env S Q E := by
 delta Wp Wc at *
 exact v_peek e h
theorem w_peekO {i : Nat} {c : Cell} {Q : D → Envr → Sto → Prop} (e : env[i]? = some (.own c)) (h : Q (.own i) env S) : Wp (dPeek i) env S Q E := by
 delta Wp Wc at *
 exact v_peekO e h
variable {a b c : M D} {Q : D → Envr → Sto → Prop}
theorem w_op2 {f : D → D → Option D} (h : Wp a env S (fun x e s => Wp b e s (fun y e s => ∃ z, f (view e s x) (view e s y) = some z ∧ Q z e s) E) E) : Wp (dOp2 f a b) env S Q E := by
 delta Wp Wc at *
 exact v_op2 h
theorem w_op1 {f : D → Option D} (h : Wp a env S (fun x e s => ∃ z, f (view e s x) = some z ∧ Q z e s) E) : Wp (dOp1 f a) env S Q E := by
 delta Wp Wc at *
 exact v_op1 h
theorem w_opF1 {f : D → Option Cell} {Q : Cell → Envr → Sto → Prop} (h : Wp a env S (fun x e s => ∃ z, f (view e s x) = some z ∧ Q z e s) E) : Wp (dOpF1 f a) env S Q E := by
 delta Wp Wc at *
 exact v_opF1 h
theorem w_opF2 {f : D → D → Option Cell} {Q : Cell → Envr → Sto → Prop} (h : Wp a env S (fun x e s => Wp b e s (fun y e s => ∃ z, f (view e s x) (view e s y) = some z ∧ Q z e s) E) E) : Wp (dOpF2 f a b) env S Q E := by
 delta Wp Wc at *
 exact v_opF2 h
theorem w_bl {Q : Bool → Envr → Sto → Prop} (h : Wp a env S (fun d e s => ∃ t, d = .bl t ∧ Q t e s) E) : Wp (dBl a) env S Q E := by
 delta Wp Wc at *
 exact v_bl h
theorem w_and (h : Wp a env S (fun d e s => ∃ t, d = .bl t ∧ (t = true → Wp b e s Q E) ∧ (t = false → Q (.bl false) e s)) E) : Wp (dAnd a b) env S Q E := by
 delta Wp Wc at *
 exact v_and h
theorem w_or (h : Wp a env S (fun d e s => ∃ t, d = .bl t ∧ (t = false → Wp b e s Q E) ∧ (t = true → Q (.bl true) e s)) E) : Wp (dOr a b) env S Q E := by
 delta Wp Wc at *
 exact v_or h
theorem w_not (h : Wp a env S (fun d e s => ∃ t, d = .bl t ∧ Q (.bl (!t)) e s) E) : Wp (dNot a) env S Q E := by
 delta Wp Wc at *
 exact v_not h
theorem w_chainP {f g : D → D → Option D} (h : Wp a env S (fun x e s => Wp b e s (fun y e s => ∃ t, f (view e s x) (view e s y) = some (.bl t) ∧ Wp c e s (fun u e' s' => e' = e ∧ s' = s ∧ ∃ t2, g (view e s y) (view e s u) = some (.bl t2) ∧ Q (.bl (t && t2)) e s) nE) E) E) : Wp (dChain f g a b c) env S Q E := by
 delta Wp Wc at *
 exact v_chainP h
theorem w_ite {m : M Bool} {p q : M α} {Q : α → Envr → Sto → Prop} (h : Wp m env S (fun t e s => (t = true → Wp p e s Q E) ∧ (t = false → Wp q e s Q E)) E) : Wp (dIf m p q) env S Q E := by
 delta Wp Wc at *
 exact v_ite h
theorem w_notT {m : M Bool} {Q : Bool → Envr → Sto → Prop} (h : Wp m env S (fun t e s => Q (!t) e s) E) : Wp (dNotT m) env S Q E := by
 delta Wp Wc at *
 exact v_notT h
theorem w_andT {m p : M Bool} {Q : Bool → Envr → Sto → Prop} (h : Wp m env S (fun t e s => (t = true → Wp p e s Q E) ∧ (t = false → Q false e s)) E) : Wp (dAndT m p) env S Q E := by
 delta Wp Wc at *
 exact v_andT h
theorem w_orT {m p : M Bool} {Q : Bool → Envr → Sto → Prop} (h : Wp m env S (fun t e s => (t = true → Q true e s) ∧ (t = false → Wp p e s Q E)) E) : Wp (dOrT m p) env S Q E := by
 delta Wp Wc at *
 exact v_orT h
theorem w_tru {Q : Bool → Envr → Sto → Prop} (h : Wp a env S (fun d e s => ∃ t, truD (view e s d) = some t ∧ Q t e s) E) : Wp (dTru a) env S Q E := by
 delta Wp Wc at *
 exact v_tru h
theorem w_nil {Q : List D → Envr → Sto → Prop} (h : Q [] env S) : Wp (dArgs []) env S Q E := by
 delta Wp Wc at *
 exact v_nil h
theorem w_cons {m : M D} {r : List (M D)} {Q : List D → Envr → Sto → Prop} (h : Wp m env S (fun d e s => Wp (dArgs r) e s (fun ds e s => Q (d :: ds) e s) E) E) : Wp (dArgs (m :: r)) env S Q E := by
 delta Wp Wc at *
 exact v_cons h
theorem w_tup {m : M (List D)} (h : Wp m env S (fun ds e s => ds.length ≤ sizeLine ∧ Q (.tup ds) e s) E) : Wp (dTup m) env S Q E := by
 delta Wp Wc at *
 exact v_tup h
theorem w_lst {m : M (List D)} {Q : Cell → Envr → Sto → Prop} (h : Wp m env S (fun ds e s => ds.length ≤ sizeLine ∧ Q (.lst ds) e s) E) : Wp (dLst m) env S Q E := by
 delta Wp Wc at *
 exact v_lst h
theorem w_fz {m : M Cell} (h : Wp m env S (fun c e s => ∃ d, frozen c = some d ∧ Q d e s) E) : Wp (dFz m) env S Q E := by
 delta Wp Wc at *
 exact v_fz h
theorem w_part0 {Q : Option Int → Envr → Sto → Prop} (h : Q none env S) : Wp (dPart none) env S Q E := by
 delta Wp Wc at *
 exact v_part0 h
theorem w_part {m : M D} {Q : Option Int → Envr → Sto → Prop} (h : Wp m env S (fun d e s => ∃ i, d = .int i ∧ Q (some i) e s) E) : Wp (dPart (some m)) env S Q E := by
 delta Wp Wc at *
 exact v_part h
theorem w_sl {lo hi : Option (M D)} (h : Wp a env S (fun x e s => Wp (dPart lo) e s (fun l e s => Wp (dPart hi) e s (fun u e s => ∃ z, slD (view e s x) l u = some z ∧ Q z e s) E) E) E) : Wp (dSl a lo hi) env S Q E := by
 delta Wp Wc at *
 exact v_sl h
theorem w_slF {lo hi : Option (M D)} {Q : Cell → Envr → Sto → Prop} (h : Wp a env S (fun x e s => Wp (dPart lo) e s (fun l e s => Wp (dPart hi) e s (fun u e s => ∃ z, slF (view e s x) l u = some z ∧ Q z e s) E) E) E) : Wp (dSlF a lo hi) env S Q E := by
 delta Wp Wc at *
 exact v_slF h
theorem w_sm0 {f : Str → Option D} (h : Wp a env S (fun x e s => ∃ z d, x = .str z ∧ f z = some d ∧ Q d e s) E) : Wp (dSm0 f a) env S Q E := by
 delta Wp Wc at *
 exact v_sm0 h
theorem w_sm1 {f : Str → D → Option D} (h : Wp a env S (fun x e s => ∃ z, x = .str z ∧ Wp b e s (fun y e s => ∃ d, f z (view e s y) = some d ∧ Q d e s) E) E) : Wp (dSm1 f a b) env S Q E := by
 delta Wp Wc at *
 exact v_sm1 h
theorem w_pr0 {Q : List (D × D) → Envr → Sto → Prop} (h : Q [] env S) : Wp (dPairs []) env S Q E := by
 delta Wp Wc at *
 exact v_pr0 h
theorem w_pr {p q : M D} {r : List (M D × M D)} {Q : List (D × D) → Envr → Sto → Prop} (h : Wp p env S (fun x e s => Wp q e s (fun y e s => Wp (dPairs r) e s (fun l e s => Q ((x, y) :: l) e s) E) E) E) : Wp (dPairs ((p, q) :: r)) env S Q E := by
 delta Wp Wc at *
 exact v_pr h
theorem w_disp {ps : List (M D × M D)} {Q : Cell → Envr → Sto → Prop} (h : Wp (dPairs ps) env S (fun l e s => ∃ l', keyPairs l = some l' ∧ l'.length ≤ 15 ∧ Q (.dk (mergeD [] [] l').1 (mergeD [] [] l').2) e s) E) : Wp (dDisp ps) env S Q E := by
 delta Wp Wc at *
 exact v_disp h
theorem w_fn {φ : Nat → Fn} {i n : Nat} {args : M (List D)} (h : Wp args env S (fun ds e s => ds.length = n ∧ Wc (φ i ds s) (fun d s' => Q d e s') (fun x s' => E x e s')) E) : Wp (dFn φ i n args) env S Q E := by
 delta Wp Wc at *
 exact v_fn h
variable {R : Flo → Envr → Sto → Prop}
theorem w_seq {s t : M Flo} (h : Wp s env S (fun f e s => match f with
   | .nx => Wp t e s R E
   | f => R f e s) E) : Wp (dSeq s t) env S R E := by
 delta Wp Wc at *
 exact v_seq h
theorem w_set {i : Nat} {m : M D} (h : Wp m env S (fun d e s => R .nx (e.set i (.val d)) s) E) : Wp (dSet i m) env S R E := by
 delta Wp Wc at *
 exact v_set h
theorem w_setOwn {i : Nat} {m : M Cell} (h : Wp m env S (fun d e s => R .nx (e.set i (.own d)) s) E) : Wp (dSetOwn i m) env S R E := by
 delta Wp Wc at *
 exact v_setOwn h
theorem w_setHp {i : Nat} {m : M Cell} (h : Wp m env S (fun c e s => R .nx (e.set i (.val (.ref s.length))) (s ++ [c])) E) : Wp (dSetHp i m) env S R E := by
 delta Wp Wc at *
 exact v_setHp h
theorem w_asg {g : Tgt} {m : M D} (h : Wp m env S (fun d e s => ∃ e', g d e = some e' ∧ R .nx e' s) E) : Wp (dAsg g m) env S R E := by
 delta Wp Wc at *
 exact v_asg h
theorem w_expr {m : M D} (h : Wp m env S (fun d e s => R .nx e s) E) : Wp (dExpr m) env S R E := by
 delta Wp Wc at *
 exact v_expr h
theorem w_retS {m : M D} (h : Wp m env S (fun d e s => R (.rt d) e s) E) : Wp (dRet m) env S R E := by
 delta Wp Wc at *
 exact v_retS h
theorem w_retHp {m : M Cell} (h : Wp m env S (fun c e s => R (.rt (.ref s.length)) e (s ++ [c])) E) : Wp (dRetHp m) env S R E := by
 delta Wp Wc at *
 exact v_retHp h
theorem w_mut {f : Cell → List D → Option (Cell × D)} {o : M D} {args : M (List D)} (h : Wp o env S (fun x e s => (∃ l, cellOf e s x = some (.lst l)) ∧ Wp args e s (fun ds e s => ∃ c p e' s', cellOf e s x = some c ∧ f c ds = some p ∧ setCell x p.1 e s = .ok () e' s' ∧ Q p.2 e' s') E) E) : Wp (dMut f o args) env S Q E := by
 delta Wp Wc at *
 exact v_mut h
theorem w_setIx {v o i : M D} (h : Wp v env S (fun d e s => Wp o e s (fun x e s => Wp i e s (fun j e s => ∃ c c' e' s', cellOf e s x = some c ∧ setIxF c (view e s j) d = some c' ∧ setCell x c' e s = .ok () e' s' ∧ R .nx e' s') E) E) E) : Wp (dSetIx v o i) env S R E := by
 delta Wp Wc at *
 exact v_setIx h
theorem w_walk {Q : Src → Envr → Sto → Prop} (h : Wp a env S (fun d e s => ∃ z, srcOf d s = some z ∧ Q z e s) E) : Wp (dWalk a) env S Q E := by
 delta Wp Wc at *
 exact v_walk h
theorem w_rng1 {Q : Src → Envr → Sto → Prop} (h : Wp a env S (fun d e s => ∃ j, d = .int j ∧ rgB j = true ∧ Q (upto 0 j, none) e s) E) : Wp (dRng1 a) env S Q E := by
 delta Wp Wc at *
 exact v_rng1 h
theorem w_rng2 {Q : Src → Envr → Sto → Prop} (h : Wp a env S (fun c e s => Wp b e s (fun d e s => ∃ i j, c = .int i ∧ d = .int j ∧ (rgB i && rgB j) = true ∧ Q (upto i j, none) e s) E) E) : Wp (dRng2 a b) env S Q E := by
 delta Wp Wc at *
 exact v_rng2 h
theorem w_enum {Q : Src → Envr → Sto → Prop} (h : Wp a env S (fun x e s => ∃ l, enumSrc x = some l ∧ Q (enumFrom 0 l, none) e s) E) : Wp (dEnum a) env S Q E := by
 delta Wp Wc at *
 exact v_enum h
theorem w_enumO {Q : Src → Envr → Sto → Prop} (h : Wp a env S (fun x e s => ∃ z, enumOf x s = some z ∧ Q z e s) E) : Wp (dEnum a) env S Q E := by
 delta Wp Wc at *
 exact v_enumO h
theorem w_zip {Q : Src → Envr → Sto → Prop} (h : Wp a env S (fun x e s => Wp b e s (fun y e s => ∃ l, seqOf2 x y = some l ∧ Q (l, none) e s) E) E) : Wp (dZip a b) env S Q E := by
 delta Wp Wc at *
 exact v_zip h
theorem w_loop {src : Src} {g : Tgt} {m : M Flo} (I : List D → Envr → Sto → Prop) (hn : src.2 = none) (step : ∀ d r e s, I (d :: r) e s → ∃ e1, g d e = some e1 ∧ Wp m e1 s (fun f e s => match f with
   | .nx => I r e s
   | .ct => I r e s
   | .bk => R .nx e s
   | .rt v => R (.rt v) e s) E) (fin : ∀ e s, I [] e s → R .nx e s) : ∀ (l : List D) (env : Envr) (S : Sto), I l env S → Wp (loopL src g m l) env S R E := by
 delta Wp Wc at *
 exact v_loop I hn step fin
theorem w_for {it : M Src} {g : Tgt} {m : M Flo} (h : Wp it env S (fun src e s => Wp (loopL src g m src.1) e s R E) E) : Wp (dFor it g m) env S R E := by
 delta Wp Wc at *
 exact v_for h
theorem w_compL {src : Src} {g : Tgt} {tt : M Bool} {te : M D} {vs : List Nat} (hn : src.2 = none) (I : List D → List D → Envr → Sto → Prop) (Q : List D → Envr → Sto → Prop) (step : ∀ d r acc e s, I (d :: r) acc e s → ∃ e1, g d e = some e1 ∧ Wp tt e1 s (fun t e s => (t = true → Wp te e s (fun x e s => I r (acc ++ [x]) (wipeE e vs) s) nE) ∧ (t = false → I r acc (wipeE e vs) s)) nE)
   (fin : ∀ acc e s, I [] acc e s → Q acc e s) : ∀ (l acc : List D) (env : Envr) (S : Sto), I l acc env S → ∃ acc' e s, compL src g tt te vs l acc env S = .ok acc' e s ∧ Q acc' e s := by
 delta Wp Wc at *
 exact v_compL hn I Q step fin
theorem w_comp {it : M Src} {g : Tgt} {tt : M Bool} {te : M D} {vs : List Nat} {Q : Cell → Envr → Sto → Prop} (h : Wp it env S (fun src e s => src.1.length ≤ sizeLine ∧ ∃ acc e' s', compL src g tt te vs src.1 [] (wipeE e vs) s = .ok acc e' s' ∧ Q (.lst acc) e' s') E) : Wp (dComp it g tt te vs) env S Q E := by
 delta Wp Wc at *
 exact v_comp h
theorem w_def {dm : DefM} {m : M Flo} {ds : List D} {Q : D → Sto → Prop} {E : Exn → Sto → Prop} (hl : ds.length = dm.ps.length) (env : Envr) (he : ds.map Slot.val ++ List.replicate (dm.C.N.length - ds.length) Slot.no = env) (h : Wp m env S (fun f e s => match f with
   | .nx => Q .non s
   | .rt d => Q d s
   | _ => False) (fun x e s => E x s)) : Wc (runD dm m ds S) Q E := by
 delta Wp Wc at *
 exact v_def hl env he h
end
section
class Rl (p : outParam Prop) (q : Prop) : Prop where
 go : p → q
variable {α β : Type} {env : Envr} {S : Sto} {E : Exn → Envr → Sto → Prop} {a b c : M D} {Q : D → Envr → Sto → Prop} {R : Flo → Envr → Sto → Prop}
instance {s t : M Flo} : Rl (Wp s env S (fun f e s => match f with
   | .nx => Wp t e s R E
   | f => R f e s) E) (Wp (dSeq s t) env S R E) := ⟨w_seq⟩
instance {i : Nat} {m : M D} : Rl (Wp m env S (fun d e s => R .nx (e.set i (.val d)) s) E) (Wp (dSet i m) env S R E) := ⟨w_set⟩
instance {i : Nat} {m : M Cell} : Rl (Wp m env S (fun d e s => R .nx (e.set i (.own d)) s) E) (Wp (dSetOwn i m) env S R E) := ⟨w_setOwn⟩
instance {i : Nat} {m : M Cell} : Rl (Wp m env S (fun c e s => R .nx (e.set i (.val (.ref s.length))) (s ++ [c])) E) (Wp (dSetHp i m) env S R E) := ⟨w_setHp⟩
instance {m : M D} : Rl (Wp m env S (fun d e s => R (.rt d) e s) E) (Wp (dRet m) env S R E) := ⟨w_retS⟩
instance {m : M Cell} : Rl (Wp m env S (fun c e s => R (.rt (.ref s.length)) e (s ++ [c])) E) (Wp (dRetHp m) env S R E) := ⟨w_retHp⟩
instance {m : M Bool} {p q : M α} {Q : α → Envr → Sto → Prop} : Rl (Wp m env S (fun t e s => (t = true → Wp p e s Q E) ∧ (t = false → Wp q e s Q E)) E) (Wp (dIf m p q) env S Q E) := ⟨w_ite⟩
instance {m : M D} : Rl (Wp m env S (fun d e s => R .nx e s) E) (Wp (dExpr m) env S R E) := ⟨w_expr⟩
instance {g : Tgt} {m : M D} : Rl (Wp m env S (fun d e s => ∃ e', g d e = some e' ∧ R .nx e' s) E) (Wp (dAsg g m) env S R E) := ⟨w_asg⟩
instance {v o i : M D} : Rl (Wp v env S (fun d e s => Wp o e s (fun x e s => Wp i e s (fun j e s => ∃ c c' e' s', cellOf e s x = some c ∧ setIxF c (view e s j) d = some c' ∧ setCell x c' e s = .ok () e' s' ∧ R .nx e' s') E) E) E) (Wp (dSetIx v o i) env S R E) := ⟨w_setIx⟩
instance {f : Cell → List D → Option (Cell × D)} {o : M D} {args : M (List D)} : Rl (Wp o env S (fun x e s => (∃ l, cellOf e s x = some (.lst l)) ∧ Wp args e s (fun ds e s => ∃ c p e' s', cellOf e s x = some c ∧ f c ds = some p ∧ setCell x p.1 e s = .ok () e' s' ∧ Q p.2 e' s') E) E) (Wp (dMut f o args) env S Q E) := ⟨w_mut⟩
instance {Q : Bool → Envr → Sto → Prop} : Rl (Wp a env S (fun d e s => ∃ t, d = .bl t ∧ Q t e s) E) (Wp (dBl a) env S Q E) := ⟨w_bl⟩
instance {f : D → D → Option D} : Rl (Wp a env S (fun x e s => Wp b e s (fun y e s => ∃ z, f (view e s x) (view e s y) = some z ∧ Q z e s) E) E) (Wp (dOp2 f a b) env S Q E) := ⟨w_op2⟩
instance {f : D → Option D} : Rl (Wp a env S (fun x e s => ∃ z, f (view e s x) = some z ∧ Q z e s) E) (Wp (dOp1 f a) env S Q E) := ⟨w_op1⟩
instance {f : D → Option Cell} {Q : Cell → Envr → Sto → Prop} : Rl (Wp a env S (fun x e s => ∃ z, f (view e s x) = some z ∧ Q z e s) E) (Wp (dOpF1 f a) env S Q E) := ⟨w_opF1⟩
instance {f : D → D → Option Cell} {Q : Cell → Envr → Sto → Prop} : Rl (Wp a env S (fun x e s => Wp b e s (fun y e s => ∃ z, f (view e s x) (view e s y) = some z ∧ Q z e s) E) E) (Wp (dOpF2 f a b) env S Q E) := ⟨w_opF2⟩
instance {f g : D → D → Option D} : Rl (Wp a env S (fun x e s => Wp b e s (fun y e s => ∃ t, f (view e s x) (view e s y) = some (.bl t) ∧ Wp c e s (fun u e' s' => e' = e ∧ s' = s ∧ ∃ t2, g (view e s y) (view e s u) = some (.bl t2) ∧ Q (.bl (t && t2)) e s) nE) E) E) (Wp (dChain f g a b c) env S Q E) := ⟨w_chainP⟩
instance  : Rl (Wp a env S (fun d e s => ∃ t, d = .bl t ∧ (t = true → Wp b e s Q E) ∧ (t = false → Q (.bl false) e s)) E) (Wp (dAnd a b) env S Q E) := ⟨w_and⟩
instance  : Rl (Wp a env S (fun d e s => ∃ t, d = .bl t ∧ (t = false → Wp b e s Q E) ∧ (t = true → Q (.bl true) e s)) E) (Wp (dOr a b) env S Q E) := ⟨w_or⟩
instance  : Rl (Wp a env S (fun d e s => ∃ t, d = .bl t ∧ Q (.bl (!t)) e s) E) (Wp (dNot a) env S Q E) := ⟨w_not⟩
instance {m : M Bool} {Q : Bool → Envr → Sto → Prop} : Rl (Wp m env S (fun t e s => Q (!t) e s) E) (Wp (dNotT m) env S Q E) := ⟨w_notT⟩
instance {m p : M Bool} {Q : Bool → Envr → Sto → Prop} : Rl (Wp m env S (fun t e s => (t = true → Wp p e s Q E) ∧ (t = false → Q false e s)) E) (Wp (dAndT m p) env S Q E) := ⟨w_andT⟩
instance {m p : M Bool} {Q : Bool → Envr → Sto → Prop} : Rl (Wp m env S (fun t e s => (t = true → Q true e s) ∧ (t = false → Wp p e s Q E)) E) (Wp (dOrT m p) env S Q E) := ⟨w_orT⟩
instance {Q : Bool → Envr → Sto → Prop} : Rl (Wp a env S (fun d e s => ∃ t, truD (view e s d) = some t ∧ Q t e s) E) (Wp (dTru a) env S Q E) := ⟨w_tru⟩
instance {m : M Cell} : Rl (Wp m env S (fun c e s => ∃ d, frozen c = some d ∧ Q d e s) E) (Wp (dFz m) env S Q E) := ⟨w_fz⟩
instance {m : M (List D)} {Q : Cell → Envr → Sto → Prop} : Rl (Wp m env S (fun ds e s => ds.length ≤ sizeLine ∧ Q (.lst ds) e s) E) (Wp (dLst m) env S Q E) := ⟨w_lst⟩
instance {m : M (List D)} : Rl (Wp m env S (fun ds e s => ds.length ≤ sizeLine ∧ Q (.tup ds) e s) E) (Wp (dTup m) env S Q E) := ⟨w_tup⟩
instance {m : M D} {r : List (M D)} {Q : List D → Envr → Sto → Prop} : Rl (Wp m env S (fun d e s => Wp (dArgs r) e s (fun ds e s => Q (d :: ds) e s) E) E) (Wp (dArgs (m :: r)) env S Q E) := ⟨w_cons⟩
instance {Q : List D → Envr → Sto → Prop} : Rl (Q [] env S) (Wp (dArgs []) env S Q E) := ⟨w_nil⟩
instance {lo hi : Option (M D)} : Rl (Wp a env S (fun x e s => Wp (dPart lo) e s (fun l e s => Wp (dPart hi) e s (fun u e s => ∃ z, slD (view e s x) l u = some z ∧ Q z e s) E) E) E) (Wp (dSl a lo hi) env S Q E) := ⟨w_sl⟩
instance {lo hi : Option (M D)} {Q : Cell → Envr → Sto → Prop} : Rl (Wp a env S (fun x e s => Wp (dPart lo) e s (fun l e s => Wp (dPart hi) e s (fun u e s => ∃ z, slF (view e s x) l u = some z ∧ Q z e s) E) E) E) (Wp (dSlF a lo hi) env S Q E) := ⟨w_slF⟩
instance {m : M D} {Q : Option Int → Envr → Sto → Prop} : Rl (Wp m env S (fun d e s => ∃ i, d = .int i ∧ Q (some i) e s) E) (Wp (dPart (some m)) env S Q E) := ⟨w_part⟩
instance {Q : Option Int → Envr → Sto → Prop} : Rl (Q none env S) (Wp (dPart none) env S Q E) := ⟨w_part0⟩
instance {f : Str → Option D} : Rl (Wp a env S (fun x e s => ∃ z d, x = .str z ∧ f z = some d ∧ Q d e s) E) (Wp (dSm0 f a) env S Q E) := ⟨w_sm0⟩
instance {f : Str → D → Option D} : Rl (Wp a env S (fun x e s => ∃ z, x = .str z ∧ Wp b e s (fun y e s => ∃ d, f z (view e s y) = some d ∧ Q d e s) E) E) (Wp (dSm1 f a b) env S Q E) := ⟨w_sm1⟩
instance {ps : List (M D × M D)} {Q : Cell → Envr → Sto → Prop} : Rl (Wp (dPairs ps) env S (fun l e s => ∃ l', keyPairs l = some l' ∧ l'.length ≤ 15 ∧ Q (.dk (mergeD [] [] l').1 (mergeD [] [] l').2) e s) E) (Wp (dDisp ps) env S Q E) := ⟨w_disp⟩
instance {p q : M D} {r : List (M D × M D)} {Q : List (D × D) → Envr → Sto → Prop} : Rl (Wp p env S (fun x e s => Wp q e s (fun y e s => Wp (dPairs r) e s (fun l e s => Q ((x, y) :: l) e s) E) E) E) (Wp (dPairs ((p, q) :: r)) env S Q E) := ⟨w_pr⟩
instance {Q : List (D × D) → Envr → Sto → Prop} : Rl (Q [] env S) (Wp (dPairs []) env S Q E) := ⟨w_pr0⟩
instance {it : M Src} {g : Tgt} {m : M Flo} : Rl (Wp it env S (fun src e s => Wp (loopL src g m src.1) e s R E) E) (Wp (dFor it g m) env S R E) := ⟨w_for⟩
instance {Q : Src → Envr → Sto → Prop} : Rl (Wp a env S (fun d e s => ∃ z, srcOf d s = some z ∧ Q z e s) E) (Wp (dWalk a) env S Q E) := ⟨w_walk⟩
instance {Q : Src → Envr → Sto → Prop} : Rl (Wp a env S (fun d e s => ∃ j, d = .int j ∧ rgB j = true ∧ Q (upto 0 j, none) e s) E) (Wp (dRng1 a) env S Q E) := ⟨w_rng1⟩
instance {Q : Src → Envr → Sto → Prop} : Rl (Wp a env S (fun c e s => Wp b e s (fun d e s => ∃ i j, c = .int i ∧ d = .int j ∧ (rgB i && rgB j) = true ∧ Q (upto i j, none) e s) E) E) (Wp (dRng2 a b) env S Q E) := ⟨w_rng2⟩
instance {Q : Src → Envr → Sto → Prop} : Rl (Wp a env S (fun x e s => Wp b e s (fun y e s => ∃ l, seqOf2 x y = some l ∧ Q (l, none) e s) E) E) (Wp (dZip a b) env S Q E) := ⟨w_zip⟩
instance {φ : Nat → Fn} {i n : Nat} {args : M (List D)} : Rl (Wp args env S (fun ds e s => ds.length = n ∧ Wc (φ i ds s) (fun d s' => Q d e s') (fun x s' => E x e s')) E) (Wp (dFn φ i n args) env S Q E) := ⟨w_fn⟩
instance {it : M Src} {g : Tgt} {tt : M Bool} {te : M D} {vs : List Nat} {Q : Cell → Envr → Sto → Prop} : Rl (Wp it env S (fun src e s => src.1.length ≤ sizeLine ∧ ∃ acc e' s', compL src g tt te vs src.1 [] (wipeE e vs) s = .ok acc e' s' ∧ Q (.lst acc) e' s') E) (Wp (dComp it g tt te vs) env S Q E) := ⟨w_comp⟩
instance {a : α} {Q : α → Envr → Sto → Prop} : Rl (Q a env S) (Wp (M.ret a) env S Q E) := ⟨w_ret⟩
end
section
theorem compP {src : Src} {g : Tgt} {tt : M Bool} {te : M D} {vs : List Nat} (hn : src.2 = none) (P : D → Bool) (f : D → D) (env : Envr) (S : Sto) : ∀ (l acc : List D), (∀ d ∈ l, ∃ e1, g d env = some e1 ∧ Wp tt e1 S (fun t e s => t = P d ∧ s = S ∧ (t = true → Wp te e s (fun x e s => x = f d ∧ s = S ∧ wipeE e vs = env) nE) ∧ (t = false → wipeE e vs = env)) nE) →
   compL src g tt te vs l acc env S = .ok (acc ++ (l.filter P).map f) env S := by
 delta Wp Wc at *
 exact vcompP hn P f env S
end
def stc (a b c : Int) : Cell := .lst [.int a, .int b, .int c]
structure Val (a b c : Int) (n : Nat) : Prop where
 a0 : 0 ≤ a
 b0 : 0 ≤ b
 b1 : b < 2147483647
 c0 : 0 ≤ c
 c1 : c + n ≤ 1000000000
theorem Val.less {a b c : Int} {n m : Nat} (h : Val a b c n) (l : m ≤ n) : Val a b c m := ⟨h.a0, h.b0, h.b1, h.c0, by have := h.c1; omega⟩
theorem log2_int {i : Int} {m : Nat} (h1 : 0 ≤ i) (h : i < 2 ^ m) (hm : 0 < m) : i.natAbs.log2 < m := log2_le (by
 have : (i.natAbs : Int) = i := Int.natAbs_of_nonneg h1
 have h2 : (i.natAbs : Int) < ((2 ^ m : Nat) : Int) := by rw [this]; simpa using h
 exact Int.ofNat_lt.mp h2) hm
theorem atI_nat {α : Type} {l : List α} {i : Nat} {d : α} (e : l[i]? = some d) : atI l (i : Int) = some d := by
 have h := (List.getElem?_eq_some_iff.mp e).1
 have hx : ixN l.length (i : Int) = some i := by
   unfold ixN
   rw [if_pos (by omega), if_pos (by omega)]
   simp
 unfold atI
 rw [hx]
 exact e
theorem len_list {z : Str} : z.cps.toList.length = z.length := by simp [Str.length]
theorem at_some {l : List D} {r : Int} (h0 : 0 ≤ r) (h1 : r < l.length) : ∃ d, ixD (.lst l) (.int r) = some d ∧ d ∈ l := by
 obtain ⟨i, rfl⟩ := Int.eq_ofNat_of_zero_le h0
 have hi : i < l.length := by omega
 exact ⟨l[i], atI_nat (by rw [List.getElem?_eq_getElem hi]), List.getElem_mem hi⟩
theorem sum_le {n : Nat} : ∀ {ys : List Str}, (∀ y ∈ ys, y.length ≤ n) → (ys.map (·.length)).sum ≤ n * ys.length
 | [], _ => by simp
 | y :: ys, h => by
   have h1 := h y List.mem_cons_self
   have h2 := sum_le fun z hz => h z (List.mem_cons_of_mem _ hz)
   rw [List.map_cons, List.sum_cons, List.length_cons, Nat.mul_succ]
   omega
theorem upto_len {j : Int} : (upto 0 j).length = j.toNat := by unfold upto; simp
theorem ix0 {x : D} {l : List D} : ixD (.tup (x :: l)) (.int 0) = some x := atI_nat (i := 0) (l := x :: l) rfl
theorem ix1 {x y : D} {l : List D} : ixD (.tup (x :: y :: l)) (.int 1) = some y := atI_nat (i := 1) (l := x :: y :: l) rfl
theorem ix2 {x y z : D} {l : List D} : ixD (.tup (x :: y :: z :: l)) (.int 2) = some z := atI_nat (i := 2) (l := x :: y :: z :: l) rfl
theorem ix3 {x y z u : D} {l : List D} : ixD (.tup (x :: y :: z :: u :: l)) (.int 3) = some u := atI_nat (i := 3) (l := x :: y :: z :: u :: l) rfl
def PF (F : Fn) (dom : D → Prop) (f : D → D) : Prop := ∀ d S (Q : D → Sto → Prop) (E : Exn → Sto → Prop), dom d → Q (f d) S → Wc (F [d] S) Q E
structure Flat (d : D) : Prop where
 t : (typeD d).isSome = true
 s : ∀ s, d = .str s → s.length ≤ sizeLine
theorem Flat.view {d : D} (h : Flat d) (e : Envr) (S : Sto) : view e S d = d := by
 cases d <;> first | rfl | exact absurd h.t (by simp [typeD])
theorem view_of {d : D} (h : (typeD d).isSome = true) (e : Envr) (S : Sto) : L2.MP.view e S d = d := by
 cases d <;> first | rfl | exact absurd h (by simp [typeD])
theorem isi_eq {d : D} {t T : String} (ht : typeD d = some t) : isiD T d = some (.bl (t == T || (t == "bool" && T == "int"))) := by unfold isiD; rw [ht]; rfl
end L2.MP
end
section
namespace L2.MP
open PySem PySem.Spec PyProof.Rows
local macro_rules
 | `(tactic| trivial) => `(tactic| first
   | refine w_seq ?_ | refine w_set ?_ | refine w_setOwn ?_ | refine w_setHp ?_ | refine w_retS ?_ | refine w_retHp ?_ | refine w_ite ?_ | refine w_expr ?_ | refine w_asg ?_ | refine w_setIx ?_ | refine w_mut ?_ | refine w_bl ?_
   | refine w_op2 ?_ | refine w_op1 ?_ | refine w_opF1 ?_ | refine w_chainP ?_ | refine w_and ?_ | refine w_or ?_ | refine w_not ?_ | refine w_notT ?_ | refine w_andT ?_ | refine w_orT ?_ | refine w_tru ?_ | refine w_fz ?_
   | refine w_lst ?_ | refine w_tup ?_ | refine w_cons ?_ | refine w_nil ?_ | refine w_sl ?_ | refine w_slF ?_ | refine w_part ?_ | refine w_part0 ?_ | refine w_sm0 ?_ | refine w_sm1 ?_ | refine w_disp ?_ | refine w_pr ?_
   | refine w_pr0 ?_ | refine w_for ?_ | refine w_walk ?_ | refine w_rng1 ?_ | refine w_rng2 ?_ | refine w_enum ?_ | refine w_zip ?_ | refine w_fn ?_ | refine w_comp ?_ | refine w_var rfl ?_ | refine w_peek rfl ?_ | refine w_peekO rfl ?_
   | refine w_varO rfl rfl ?_ | refine w_ret ?_)
local macro_rules
 | `(tactic| trivial) => `(tactic| first
   | refine Rl.go ?_ | ((with_reducible apply w_var); exact rfl) | ((with_reducible apply w_peek); exact rfl) | ((with_reducible apply w_peekO); exact rfl) | ((with_reducible apply w_varO); exact rfl; exact rfl)
   | with_reducible (first | refine w_enum ?_)
   | refine ⟨_, ix0, ?_⟩ | refine ⟨_, ix1, ?_⟩ | refine ⟨_, ix2, ?_⟩ | refine ⟨_, ix3, ?_⟩ | refine ⟨_, rfl, ?_⟩ | refine ⟨rfl, ?_⟩ | refine ⟨Nat.le_of_ble_eq_true rfl, ?_⟩ | refine ⟨fun _ => ?_, fun h => Bool.noConfusion (show true = false from h)⟩ | refine ⟨fun h => Bool.noConfusion (show false = true from h), fun _ => ?_⟩)
def cellB : M Flo :=
 (dSeq (dIf (dBl (dOp2 ltD (dPeek 1) (dOp1 lenD (dPeek 0)))) (dRet (dOp2 ixD (dPeek 0) (dPeek 1))) (M.ret .nx))
 (dRet (M.ret (.int 0))))
theorem lcell_ok {dm : DefM} (h1 : dm.ps.length = 2) (h2 : dm.C.N.length = 2) {ns : List Int} {i : Nat} {S : Sto} {Q : D → Sto → Prop} {E : Exn → Sto → Prop} (q : Q (.int (ns.getD i 0)) S) : Wc (runD dm cellB [.rl (ns.map D.int), .int i] S) Q E := by
 refine w_def (by rw [h1]; rfl) [.val (.rl (ns.map D.int)), .val (.int i)] (by rw [h2]; rfl) ?_
 unfold cellB
 repeat trivial
 rw [List.length_map]
 refine ⟨fun h => ?_, fun h => ?_⟩
 · have h : i < ns.length := by have := of_decide_eq_true h; omega
   repeat trivial
   refine ⟨_, (show atI (ns.map D.int) (i : Int) = some (.int (ns.getD i 0)) from atI_nat (by rw [List.getElem?_map, List.getElem?_eq_getElem h, List.getD_eq_getElem?_getD, List.getElem?_eq_getElem h]; rfl)), ?_⟩
   exact q
 · have h : ¬ i < ns.length := by have := of_decide_eq_false h; omega
   repeat trivial
   rw [List.getD_eq_getElem?_getD, List.getElem?_eq_none (by omega)] at q
   exact q
end L2.MP
end
section
namespace L2.MP
open PySem PySem.Spec PyProof.Rows L2.MP
local macro_rules
 | `(tactic| trivial) => `(tactic| first
   | refine w_seq ?_ | refine w_set ?_ | refine w_setOwn ?_ | refine w_setHp ?_ | refine w_retS ?_ | refine w_retHp ?_ | refine w_ite ?_ | refine w_expr ?_ | refine w_asg ?_ | refine w_setIx ?_ | refine w_mut ?_ | refine w_hp ?_
   | refine w_lm1 ?_ | refine w_bl ?_ | refine w_op2 ?_ | refine w_op1 ?_ | refine w_opF1 ?_ | refine w_opF2 ?_ | refine w_chainP ?_ | refine w_and ?_ | refine w_or ?_ | refine w_not ?_ | refine w_notT ?_ | refine w_andT ?_
   | refine w_orT ?_ | refine w_tru ?_ | refine w_fz ?_ | refine w_lst ?_ | refine w_tup ?_ | refine w_cons ?_ | refine w_nil ?_ | refine w_sl ?_ | refine w_slF ?_ | refine w_part ?_ | refine w_part0 ?_ | refine w_sm0 ?_
   | refine w_sm1 ?_ | refine w_disp ?_ | refine w_pr ?_ | refine w_pr0 ?_ | refine w_for ?_ | refine w_walk ?_ | refine w_rng1 ?_ | refine w_rng2 ?_ | refine w_enum ?_ | refine w_zip ?_ | refine w_fn ?_ | refine w_comp ?_
   | refine w_var rfl ?_ | refine w_peek rfl ?_ | refine w_peekO rfl ?_ | refine w_varO rfl rfl ?_ | refine w_ret ?_)
local macro_rules
 | `(tactic| trivial) => `(tactic| first
   | refine Rl.go ?_ | ((with_reducible apply w_var); exact rfl) | ((with_reducible apply w_peek); exact rfl) | ((with_reducible apply w_peekO); exact rfl) | ((with_reducible apply w_varO); exact rfl; exact rfl)
   | with_reducible (first | refine w_hp ?_ | refine w_lm1 ?_ | refine w_enum ?_)
   | refine ⟨_, ix0, ?_⟩ | refine ⟨_, ix1, ?_⟩ | refine ⟨_, ix2, ?_⟩ | refine ⟨_, ix3, ?_⟩ | refine ⟨_, rfl, ?_⟩ | refine ⟨rfl, ?_⟩ | refine ⟨Nat.le_of_ble_eq_true rfl, ?_⟩ | refine ⟨fun _ => ?_, fun h => Bool.noConfusion (show true = false from h)⟩ | refine ⟨fun h => Bool.noConfusion (show false = true from h), fun _ => ?_⟩)
section
variable {A B : Prop}
theorem br_dec {p : Prop} [Decidable p] (h1 : p → A) (h2 : ¬ p → B) : (decide p = true → A) ∧ (decide p = false → B) := ⟨fun h => h1 (of_decide_eq_true h), fun h => h2 (of_decide_eq_false h)⟩
end
theorem cut_to {α : Type} {l : List α} {i : Nat} : cutD l none (some (i : Int)) = l.take i := by
 unfold cutD
 rw [HT.sIx_nat, HT.sIx_none, List.drop_zero, Nat.sub_zero]
 rcases Nat.le_total i l.length with h | h
 · rw [Nat.min_eq_left h]
 · rw [Nat.min_eq_right h, List.take_of_length_le (Nat.le_refl _), List.take_of_length_le h]
theorem cut_len' {α : Type} {l : List α} {lo hi : Option Int} : (cutD l lo hi).length ≤ l.length := by
 unfold cutD
 rw [List.length_take, List.length_drop]; omega
theorem cut_mem' {α : Type} {l : List α} {lo hi : Option Int} {d : α} (h : d ∈ cutD l lo hi) : d ∈ l := by
 unfold cutD at h
 exact List.mem_of_mem_drop (List.mem_of_mem_take h)
section
variable {g : Tgt} {te : M D} {vs : List Nat} {env : Envr} {S : Sto} {Q : List D → Envr → Sto → Prop}
theorem w_compM {l : List D} (f : D → D) (hl : l.length ≤ sizeLine)
   (step : ∀ d ∈ l, ∃ e1, g d (wipeE env vs) = some e1 ∧ Wp te e1 S (fun x e s => x = f d ∧ s = S ∧ wipeE e vs = wipeE env vs) nE)
   (q : Q (l.map f) (wipeE env vs) S) : l.length ≤ sizeLine ∧ ∃ acc e' s', compL (l, none) g (M.ret true) te vs l [] (wipeE env vs) S = .ok acc e' s' ∧ Q acc e' s' := by
 refine ⟨hl, _, _, _, compP (src := (l, none)) rfl (fun _ => true) f (wipeE env vs) S l [] (fun d hd => ?_), ?_⟩
 · obtain ⟨e1, h1, h2⟩ := step d hd
   exact ⟨e1, h1, w_ret ⟨rfl, rfl, fun _ => h2, fun h => nomatch h⟩⟩
 · rw [List.nil_append, List.filter_eq_self.mpr (fun _ _ => rfl)]; exact q
end
theorem pf_at {F : Fn} {dom : D → Prop} {f : D → D} {d r : D} {S : Sto} {Q : D → Sto → Prop} {E : Exn → Sto → Prop} (h : PF F dom f) (hd : dom d) (e : f d = r) (q : Q r S) : Wc (F [d] S) Q E := h d S Q E hd (by subst e; exact q)
section
variable {E : Exn → Envr → Sto → Prop} {env : Envr} {S : Sto} {Q : D → Envr → Sto → Prop} {a b : M D}
theorem v_hp {m : M Cell} (h : Vp m env S (fun c e s => Q (.ref s.length) e (s ++ [c])) E) : Vp (dHp m) env S Q E := v_bind (h.mono (fun c e s h => h) fun _ _ _ q => q)
theorem w_hp {m : M Cell} (h : Wp m env S (fun c e s => Q (.ref s.length) e (s ++ [c])) E) : Wp (dHp m) env S Q E := by
 delta Wp at *
 exact v_hp h
theorem v_lm1 {f : List D → D → Option D} (h : Vp a env S (fun x e s => (∃ l, lstOf (view e s x) = some l) ∧ Vp b e s (fun y e s => ∃ l d, lstOf (view e s x) = some l ∧ f l (view e s y) = some d ∧ Q d e s) E) E) : Vp (dLm1 f a b) env S Q E :=
 v_bind (h.mono (fun x e s ⟨⟨l, h1⟩, h2⟩ => v_bind (v_getS (by
   dsimp only
   rw [h1]
   exact v_bind (h2.mono (fun y e s ⟨l, d, h3, h4, h5⟩ => v_bind (v_getS (v_opt (a := d) (by dsimp only; rw [h3]; exact h4) h5))) fun _ _ _ q => q)))) fun _ _ _ q => q)
theorem w_lm1 {f : List D → D → Option D} (h : Wp a env S (fun x e s => (∃ l, lstOf (view e s x) = some l) ∧ Wp b e s (fun y e s => ∃ l d, lstOf (view e s x) = some l ∧ f l (view e s y) = some d ∧ Q d e s) E) E) : Wp (dLm1 f a b) env S Q E := by
 delta Wp at *
 exact v_lm1 h
end
section
variable {α β : Type} {env : Envr} {S : Sto} {E : Exn → Envr → Sto → Prop} {a b c : M D} {Q : D → Envr → Sto → Prop} {R : Flo → Envr → Sto → Prop}
instance {m : M Cell} : Rl (Wp m env S (fun c e s => Q (.ref s.length) e (s ++ [c])) E) (Wp (dHp m) env S Q E) := ⟨w_hp⟩
instance {f : List D → D → Option D} : Rl (Wp a env S (fun x e s => (∃ l, lstOf (view e s x) = some l) ∧ Wp b e s (fun y e s => ∃ l d, lstOf (view e s x) = some l ∧ f l (view e s y) = some d ∧ Q d e s) E) E) (Wp (dLm1 f a b) env S Q E) := ⟨w_lm1⟩
end
end L2.MP
end
section
namespace L2.MP
open PySem PySem.Spec PyProof.Rows
section
variable {env : Envr} {S : Sto} {E : Exn → Envr → Sto → Prop} {t : Xt}
theorem w_raise0 {c : Nat} {Q : Flo → Envr → Sto → Prop} (h : E ⟨c, []⟩ env S) : Wp (dRaise0 c) env S Q E := by
 delta Wp
 exact h
theorem w_raise1 {c : Nat} {f : Str} {m : M D} {Q : Flo → Envr → Sto → Prop} (h : Wp m env S (fun d e s => E ⟨c, [(f, d)]⟩ e s) E) : Wp (dRaise1 c f m) env S Q E := by
 delta Wp at *
 unfold Vp dRaise1 M.bind at *
 cases e : m env S with
 | ok a e1 s1 => rw [e] at h; exact h
 | exc x e1 s1 => rw [e] at h; exact h
 | bad => rw [e] at h; exact h
end
section
variable {α β : Type} {env : Envr} {S : Sto} {E : Exn → Envr → Sto → Prop} {a b c : M D} {Q : D → Envr → Sto → Prop} {R : Flo → Envr → Sto → Prop}
instance {c : Nat} {Q : Flo → Envr → Sto → Prop} : Rl (E ⟨c, []⟩ env S) (Wp (dRaise0 c) env S Q E) := ⟨w_raise0⟩
instance {c : Nat} {f : Str} {m : M D} {Q : Flo → Envr → Sto → Prop} : Rl (Wp m env S (fun d e s => E ⟨c, [(f, d)]⟩ e s) E) (Wp (dRaise1 c f m) env S Q E) := ⟨w_raise1⟩
end
end L2.MP
end
section
namespace L2.MP
open PySem PySem.Spec PyProof.Rows L2.MP
local macro_rules
 | `(tactic| trivial) => `(tactic| first
   | refine w_seq ?_ | refine w_set ?_ | refine w_setOwn ?_ | refine w_setHp ?_ | refine w_retS ?_ | refine w_retHp ?_ | refine w_ite ?_ | refine w_expr ?_ | refine w_asg ?_ | refine w_setIx ?_ | refine w_mut ?_ | refine w_hp ?_
   | refine w_lm1 ?_ | refine w_bl ?_ | refine w_op2 ?_ | refine w_op1 ?_ | refine w_opF1 ?_ | refine w_opF2 ?_ | refine w_chainP ?_ | refine w_and ?_ | refine w_or ?_ | refine w_not ?_ | refine w_notT ?_ | refine w_andT ?_
   | refine w_orT ?_ | refine w_tru ?_ | refine w_fz ?_ | refine w_lst ?_ | refine w_tup ?_ | refine w_cons ?_ | refine w_nil ?_ | refine w_sl ?_ | refine w_slF ?_ | refine w_part ?_ | refine w_part0 ?_ | refine w_sm0 ?_
   | refine w_sm1 ?_ | refine w_disp ?_ | refine w_pr ?_ | refine w_pr0 ?_ | refine w_for ?_ | refine w_walk ?_ | refine w_rng1 ?_ | refine w_rng2 ?_ | refine w_enum ?_ | refine w_zip ?_ | refine w_fn ?_ | refine w_comp ?_
   | refine w_var rfl ?_ | refine w_peek rfl ?_ | refine w_peekO rfl ?_ | refine w_varO rfl rfl ?_ | refine w_ret ?_)
local macro_rules
 | `(tactic| trivial) => `(tactic| first
   | refine Rl.go ?_ | ((with_reducible apply w_var); exact rfl) | ((with_reducible apply w_peek); exact rfl) | ((with_reducible apply w_peekO); exact rfl) | ((with_reducible apply w_varO); exact rfl; exact rfl)
   | with_reducible (first | refine w_hp ?_ | refine w_lm1 ?_ | refine w_enum ?_)
   | refine ⟨_, ix0, ?_⟩ | refine ⟨_, ix1, ?_⟩ | refine ⟨_, ix2, ?_⟩ | refine ⟨_, ix3, ?_⟩ | refine ⟨_, rfl, ?_⟩ | refine ⟨rfl, ?_⟩ | refine ⟨Nat.le_of_ble_eq_true rfl, ?_⟩ | refine ⟨fun _ => ?_, fun h => Bool.noConfusion (show true = false from h)⟩ | refine ⟨fun h => Bool.noConfusion (show false = true from h), fun _ => ?_⟩)
section
variable {S : Sto} {Q : D → Sto → Prop} {E : Exn → Sto → Prop} {φ : Nat → Fn} {dm : DefM}
def six : List D := [.str "any", .str "is", .str "by", .str "not", .str "and", .str "or"]
def LET : Str := "abcdefghijklmnopqrstuvwxyz"
def isL (s : Str) : Bool := !(decide (s = "")) && (!(memD (.str s) six) && s.cps.toList.all fun c => decide (c ∈ LET.cps.toList))
def isLD : D → Bool
 | .str s => isL s
 | _ => false
def lettersB (φ : Nat → Fn) : M Flo :=
 (dSeq (dIf (dOrT (dNotT (dTru (dOp1 (isiD "str") (dPeek 0)))) (dOrT (dBl (dOp2 (cmpEq false) (dPeek 0) (M.ret (D.str "")))) (dBl (dOp2 (inF false) (dPeek 0) (M.ret (D.rt [(D.str "any"), (D.str "is"), (D.str "by"), (D.str "not"), (D.str "and"), (D.str "or")])))))) (dRet (M.ret (D.bl false))) (M.ret .nx))
 (dRet (dOp1 allD (dFz (dComp (dWalk (dVar 0)) (gNm 1) (M.ret true) (dOp2 (inF false) (dPeek 1) (M.ret (D.str "abcdefghijklmnopqrstuvwxyz"))) [1])))))
theorem letters_s (h1 : dm.ps.length = 1) (h2 : dm.C.N.length = 2) {s : Str} (hs : s.length ≤ sizeLine) (q : Q (.bl (isL s)) S) : Wc (runD dm (lettersB φ) [.str s] S) Q E := by
 refine w_def (by rw [h1]; rfl) [.val (.str s), .no] (by rw [h2]; rfl) ?_
 unfold lettersB
 have go : ∀ (h1 : decide (s = "") = false) (h2 : memD (.str s) six = false), Wp (dRet (dOp1 allD (dFz (dComp (dWalk (dVar 0)) (gNm 1) (M.ret true) (dOp2 (inF false) (dPeek 1) (M.ret (.str "abcdefghijklmnopqrstuvwxyz"))) [1])))) [.val (.str s), .no] S (fun f e s => match f with
   | .nx => Q .non s
   | .rt d => Q d s
   | _ => False) (fun x e s => E x s) := fun h1 h2 => by
   repeat trivial
   have step : ∀ d ∈ MP.signs s, ∃ e1, gNm 1 d (wipeE [.val (.str s), .no] [1]) = some e1 ∧ Wp (M.ret true) e1 S (fun t e s' => t = (fun _ => true) d ∧ s' = S ∧ (t = true → Wp (dOp2 (inF false) (dPeek 1) (M.ret (.str "abcdefghijklmnopqrstuvwxyz"))) e s' (fun x e s' => x = (fun d => D.bl ((inD d (.str LET)).getD false)) d ∧ s' = S ∧ wipeE e [1] = wipeE [.val (.str s), .no] [1]) nE) ∧ (t = false → wipeE e [1] = wipeE [.val (.str s), .no] [1])) nE := fun d hd => by
     obtain ⟨c, hc, rfl⟩ := List.mem_map.mp (show d ∈ s.cps.toList.map fun c => D.str ⟨#[c]⟩ from hd)
     refine ⟨_, rfl, ?_⟩
     repeat trivial
     exact ⟨by show D.bl (false != decide _) = D.bl (decide _); simp; rfl, rfl, rfl⟩
   refine ⟨by show (MP.signs s).length ≤ _; unfold MP.signs; rw [List.length_map]; exact hs, _, _, _, compP rfl (fun _ => true) (fun d => .bl ((inD d (.str LET)).getD false)) _ _ _ _ step, ?_⟩
   repeat trivial
   refine ⟨.bl ((s.cps.toList.map fun c => decide (c ∈ LET.cps.toList)).all id), ?_, ?_⟩
   · show allD (.lst ([] ++ (((MP.signs s).filter fun _ => true).map fun d => D.bl ((inD d (.str LET)).getD false)))) = _
     have e : ([] ++ (((MP.signs s).filter fun _ => true).map fun d => D.bl ((inD d (.str LET)).getD false))) = (s.cps.toList.map fun c => decide (c ∈ LET.cps.toList)).map D.bl := by
       rw [List.nil_append, List.filter_eq_self.mpr (fun _ _ => rfl)]
       unfold MP.signs
       rw [List.map_map, List.map_map]
       rfl
     rw [e]
     show Option.map _ (getBools (List.map D.bl _)) = _
     rw [bools_map]; rfl
   · have : isL s = (s.cps.toList.map fun c => decide (c ∈ LET.cps.toList)).all id := by
       unfold isL
       rw [h1, h2]
       simp
     rw [← this]
     exact q
 have bad1 : decide (s = "") = true → Q (.bl false) S := fun h => by
   unfold isL at q; rw [h] at q; exact q
 have bad2 : memD (.str s) six = true → Q (.bl false) S := fun h => by
   unfold isL at q; rw [h] at q; simpa using q
 repeat trivial
 refine ⟨fun h => ?_, fun h => ?_⟩
 · repeat trivial
   exact bad1 (by simpa using h)
 · have h1 : decide (s = "") = false := by simpa using h
   repeat trivial
   refine ⟨fun h => ?_, fun h => ?_⟩
   · repeat trivial
     exact bad2 (by simpa [six] using h)
   · refine w_ret ?_
     exact go h1 (by simpa [six] using h)
theorem letters_n (h1 : dm.ps.length = 1) (h2 : dm.C.N.length = 2) {d : D} {t : String} (ht : typeD d = some t) (hn : (t == "str") = false) (q : Q (.bl false) S) : Wc (runD dm (lettersB φ) [d] S) Q E := by
 have hv := view_of (d := d) (by rw [ht]; rfl)
 refine w_def (by rw [h1]; rfl) [.val d, .no] (by rw [h2]; rfl) ?_
 unfold lettersB
 repeat trivial
 refine ⟨.bl false, by rw [hv, isi_eq ht, hn]; simp, false, rfl, ?_⟩
 repeat trivial
theorem letters_ok (h1 : dm.ps.length = 1) (h2 : dm.C.N.length = 2) : PF (runD dm (lettersB φ)) Flat (fun d => .bl (isLD d)) := fun d S Q E hd q => by
 cases d with
 | str s => exact letters_s h1 h2 (hd.s s rfl) q
 | ref n => exact absurd hd.t (by simp [typeD])
 | own n => exact absurd hd.t (by simp [typeD])
 | fn n => exact absurd hd.t (by simp [typeD])
 | _ => exact letters_n h1 h2 rfl rfl q
def isW (s : Str) : Bool := isL s && decide ((s.length : Int) ≤ 8)
def isWD : D → Bool
 | .str s => isW s
 | _ => false
def wordB (φ : Nat → Fn) (i : Nat) : M Flo :=
 (dRet (dAnd (dFn φ i 1 (dArgs [(dVar 0)])) (dOp2 leD (dOp1 lenD (dPeek 0)) (M.ret (D.int 8)))))
theorem word_ok (h1 : dm.ps.length = 1) (h2 : dm.C.N.length = 1) {i : Nat} (hi : PF (φ i) Flat (fun d => .bl (isLD d))) : PF (runD dm (wordB φ i)) Flat (fun d => .bl (isWD d)) := fun d S Q E hd q => by
 have q : Q (.bl (isWD d)) S := q
 refine w_def (by rw [h1]; rfl) [.val d] (by rw [h2]; rfl) ?_
 unfold wordB
 repeat trivial
 refine hi d S _ _ hd ?_
 refine ⟨_, rfl, fun h => ?_, fun h => ?_⟩
 · obtain ⟨s, rfl⟩ : ∃ s, d = .str s := by
     cases d with
     | str s => exact ⟨s, rfl⟩
     | _ => cases h
   have h : isL s = true := h
   repeat trivial
   refine ⟨.int s.length, if_pos (hd.s s rfl), ?_⟩
   repeat trivial
   have e : isWD (.str s) = decide ((s.length : Int) ≤ 8) := by show (isL s && _) = _; rw [h]; rfl
   rw [e] at q
   exact q
 · have e : isWD d = false := by
     cases d <;> try rfl
     simp only [isLD] at h
     simp only [isWD, isW, h]; rfl
   rw [e] at q
   repeat trivial
def isN (i : Int) : Bool := decide (0 ≤ i) && decide (i ≤ 1000000000)
def isND : D → Bool
 | .int i => isN i
 | _ => false
end
section
mutual
def plD : Nat → D → Bool
 | _, .non => true
 | _, .bl _ => true
 | _, .int _ => true
 | _, .str s => PyData.strOk s && decide (s.length ≤ 1000000)
 | n + 1, .lst l => plDs n l
 | n + 1, .tup l => plDs n l
 | _, .dk _ _ => true
 | _, .dt _ _ => true
 | _, _ => false
def plDs : Nat → List D → Bool
 | _, [] => true
 | n, x :: xs => plD n x && plDs n xs
end
theorem plDs_mem {n : Nat} : ∀ {l : List D}, plDs n l = true → ∀ x ∈ l, plD n x = true
 | [], _, x, h => nomatch h
 | y :: ys, h, x, hx => by
   unfold plDs at h
   rw [Bool.and_eq_true] at h
   rcases List.mem_cons.mp hx with rfl | hx
   · exact h.1
   · exact plDs_mem h.2 x hx
theorem plDs_of {n : Nat} : ∀ {l : List D}, (∀ x ∈ l, plD n x = true) → plDs n l = true
 | [], _ => rfl
 | y :: ys, h => by
   unfold plDs
   rw [h y List.mem_cons_self, plDs_of fun x hx => h x (List.mem_cons_of_mem _ hx)]; rfl
theorem plD_flat {n : Nat} {d : D} (h : plD n d = true) : Flat d := by
 cases d with
 | ref m => cases n <;> cases h
 | own m => cases n <;> cases h
 | fn m => cases n <;> cases h
 | str s =>
   have h : (PyData.strOk s && decide (s.length ≤ 1000000)) = true := by cases n <;> exact h
   rw [Bool.and_eq_true] at h
   refine ⟨rfl, fun t e => ?_⟩
   cases e
   exact Nat.le_trans (of_decide_eq_true h.2) (by decide)
 | _ => exact ⟨rfl, fun s e => by cases e⟩
end
section
variable {S : Sto} {Q : D → Sto → Prop} {E : Exn → Sto → Prop} {φ : Nat → Fn} {dm : DefM}
def enc (p : D × Nat) : D := .tup [p.1, .int p.2]
end
section
variable {S : Sto} {Q : D → Sto → Prop} {E : Exn → Sto → Prop} {φ : Nat → Fn} {dm : DefM}
theorem glue_cps (ys : List Str) : (Txt.join "" ys).cps.toList = ys.flatMap fun y => y.cps.toList := by
 show (Builtin.Str.glued "" ys).cps.toList = _
 rw [StrLaws.glued_eq_join]
 induction ys with
 | nil => rfl
 | cons x r ih =>
   cases r with
   | nil => show x.cps.toList = _; simp
   | cons y r =>
     show (x ++ "" ++ Str.join "" (y :: r)).cps.toList = _
     have e : (x ++ ("" : Str) ++ Str.join "" (y :: r)).cps = x.cps ++ ("" : Str).cps ++ (Str.join "" (y :: r)).cps := rfl
     rw [e, Array.toList_append, Array.toList_append, ih]
     have e0 : ("" : Str).cps.toList = [] := by decide +kernel
     rw [e0]
     simp
def Let1 (d : D) : Prop := ∃ c, d = .str ⟨#[c]⟩ ∧ c ∈ LET.cps.toList
theorem let_strs : ∀ {l : List D}, (∀ x ∈ l, Let1 x) → ∃ cs : List Nat, getStrs l = some (cs.map fun c => ⟨#[c]⟩) ∧ cs.length = l.length ∧ ∀ c ∈ cs, c ∈ LET.cps.toList
 | [], _ => ⟨[], rfl, rfl, fun _ h => (nomatch h)⟩
 | x :: l, h => by
   obtain ⟨c, rfl, hc⟩ := h x List.mem_cons_self
   obtain ⟨cs, h1, h2, h3⟩ := let_strs fun y hy => h y (List.mem_cons_of_mem _ hy)
   refine ⟨c :: cs, by unfold getStrs; rw [h1]; rfl, by simp [h2], fun z hz => ?_⟩
   rcases List.mem_cons.mp hz with rfl | hz
   · exact hc
   · exact h3 z hz
theorem join_lets (cs : List Nat) : (Txt.join "" (cs.map fun c => ⟨#[c]⟩)).cps.toList = cs := by
 rw [glue_cps, List.flatMap_map]
 induction cs with
 | nil => rfl
 | cons c cs ih => rw [List.flatMap_cons, ih]; rfl
theorem sign_let {z : Str} {r : Int} (hz : z.length ≤ sizeLine) (h0 : 0 ≤ r) (h1 : r < z.length) : ∃ c, ixD (.str z) (.int r) = some (.str ⟨#[c]⟩) ∧ c ∈ z.cps.toList := by
 obtain ⟨i, rfl⟩ := Int.eq_ofNat_of_zero_le h0
 have hi : i < z.cps.toList.length := by rw [MP.len_list]; omega
 refine ⟨z.cps.toList[i], ?_, List.getElem_mem hi⟩
 show (if z.length ≤ sizeLine then (atI z.cps.toList (i : Int)).map fun c => D.str ⟨#[c]⟩ else none) = _
 rw [if_pos hz, MP.atI_nat (by rw [List.getElem?_eq_getElem hi])]
 rfl
theorem isW_len {w : Str} (h : isW w = true) : w.length ≤ 8 := by
 unfold isW at h
 rw [Bool.and_eq_true] at h
 have := of_decide_eq_true h.2
 omega
theorem isW_of {w : Str} (h1 : 1 ≤ w.length) (h8 : w.length ≤ 8) (hs : memD (.str w) six = false) (hl : ∀ c ∈ w.cps.toList, c ∈ LET.cps.toList) : isW w = true := by
 unfold isW isL
 rw [hs]
 have e : decide (w = "") = false := decide_eq_false fun z => by subst z; exact absurd h1 (by decide +kernel)
 rw [e]
 have e2 : (w.cps.toList.all fun c => decide (c ∈ LET.cps.toList)) = true := List.all_eq_true.mpr fun c hc => decide_eq_true (hl c hc)
 rw [e2, decide_eq_true (by omega : (w.length : Int) ≤ 8)]; rfl
theorem isW_ok {w : Str} (h : isW w = true) : PyData.strOk w = true := by
 unfold isW isL at h
 simp only [Bool.and_eq_true, List.all_eq_true, decide_eq_true_eq] at h
 unfold PyData.strOk
 rw [Array.all_eq_true_iff_forall_mem]
 intro c hc
 have h1 := h.1.2.2 c (Array.mem_toList_iff.mpr hc)
 have key : ∀ c ∈ LET.cps.toList, c < 0x110000 := by decide +kernel
 exact decide_eq_true (key c h1)
theorem six_s {w : Str} (h : memD (.str w) six = true) : isW (w ++ "s") = true := by
 have : w = "any" ∨ w = "is" ∨ w = "by" ∨ w = "not" ∨ w = "and" ∨ w = "or" := by
   unfold memD six at h
   simp only [List.any_cons, List.any_nil, eqD, Bool.or_false, Bool.or_eq_true, beq_iff_eq] at h
   rcases h with h | h | h | h | h | h <;> simp [← h]
 rcases this with rfl | rfl | rfl | rfl | rfl | rfl <;> decide +kernel
end
section
variable {S : Sto} {Q : D → Sto → Prop} {E : Exn → Sto → Prop} {φ : Nat → Fn} {dm : DefM}
mutual
theorem plD_up : ∀ (n : Nat) (d : D), plD n d = true → plD (n + 1) d = true
 | n, .non, _ => by cases n <;> rfl
 | n, .bl _, _ => by cases n <;> rfl
 | n, .int _, _ => by cases n <;> rfl
 | n, .str s, h => by cases n <;> exact h
 | 0, .lst l, h => by cases h
 | n + 1, .lst l, h => plDs_up n l h
 | 0, .tup l, h => by cases h
 | n + 1, .tup l, h => plDs_up n l h
 | n, .rl _, h => by cases n <;> cases h
 | n, .rt _, h => by cases n <;> cases h
 | n, .dk _ _, h => by cases n <;> rfl
 | n, .dt _ _, h => by cases n <;> rfl
 | n, .ref _, h => by cases n <;> cases h
 | n, .own _, h => by cases n <;> cases h
 | n, .fn _, h => by cases n <;> cases h
theorem plDs_up : ∀ (n : Nat) (l : List D), plDs n l = true → plDs (n + 1) l = true
 | n, [], _ => rfl
 | n, x :: l, h => by
   unfold plDs at h ⊢
   rw [Bool.and_eq_true] at h ⊢
   exact ⟨plD_up n x h.1, plDs_up n l h.2⟩
end
theorem plD_le {n m : Nat} {d : D} (h : plD n d = true) (l : n ≤ m) : plD m d = true := by
 induction l with
 | refl => exact h
 | step _ ih => exact plD_up _ _ ih
end
section
variable {S : Sto} {Q : D → Sto → Prop} {E : Exn → Sto → Prop} {φ : Nat → Fn} {dm : DefM}
def PlX (d : D) : Prop := ∃ n, plD n d = true
end
section
variable {S : Sto} {Q : D → Sto → Prop} {E : Exn → Sto → Prop} {φ : Nat → Fn} {dm : DefM}
theorem pl_cons {n : Nat} {x : D} {l : List D} (h : plD n x = true) (g : plDs n l = true) : plDs n (x :: l) = true := by unfold plDs; rw [h, g]; rfl
end
section
variable {S : Sto} {Q : D → Sto → Prop} {E : Exn → Sto → Prop} {φ : Nat → Fn} {dm : DefM}
theorem px_all : ∀ {l : List D}, (∀ x ∈ l, PlX x) → ∃ n, plDs n l = true
 | [], _ => ⟨0, rfl⟩
 | x :: l, h => by
   obtain ⟨n, hn⟩ := h x List.mem_cons_self
   obtain ⟨m, hm⟩ := px_all fun y hy => h y (List.mem_cons_of_mem _ hy)
   refine ⟨max n m, pl_cons (plD_le hn (Nat.le_max_left _ _)) (plDs_of fun y hy => plD_le (plDs_mem hm y hy) (Nat.le_max_right _ _))⟩
theorem px_tup {l : List D} (h : ∀ x ∈ l, PlX x) : PlX (.tup l) := by
 obtain ⟨n, hn⟩ := px_all h
 exact ⟨n + 1, hn⟩
theorem px_str {s : Str} (h : (PyData.strOk s && decide (s.length ≤ 1000000)) = true) : PlX (.str s) := ⟨0, h⟩
end
section
inductive W where
 | any | is (w : Str) | by (w : Str) | least (w : Str) (i : Int) | most (w : Str) (i : Int) | not (x : W) | and (l : List W) | or (l : List W)
mutual
def W.toD : W → D
 | .any => .tup [.str "any"]
 | .is w => .tup [.str "is", .str w]
 | .by w => .tup [.str "by", .str w]
 | .least w i => .tup [.str "least", .str w, .int i]
 | .most w i => .tup [.str "most", .str w, .int i]
 | .not x => .tup [.str "not", x.toD]
 | .and l => .tup [.str "and", .tup (W.toDs l)]
 | .or l => .tup [.str "or", .tup (W.toDs l)]
def W.toDs : List W → List D
 | [] => []
 | x :: l => x.toD :: W.toDs l
end
mutual
def W.deep : W → Nat
 | .not x => x.deep + 1
 | .and l => W.deeps l + 1
 | .or l => W.deeps l + 1
 | .any => 1
 | .is _ => 1
 | .by _ => 1
 | .least _ _ => 1
 | .most _ _ => 1
def W.deeps : List W → Nat
 | [] => 0
 | x :: l => max x.deep (W.deeps l)
end
mutual
def W.parts : W → Nat
 | .not x => x.parts + 1
 | .and l => W.partss l + 1
 | .or l => W.partss l + 1
 | .any => 1
 | .is _ => 1
 | .by _ => 1
 | .least _ _ => 1
 | .most _ _ => 1
def W.partss : List W → Nat
 | [] => 0
 | x :: l => x.parts + W.partss l
end
mutual
def W.fine : W → Bool
 | .any => true
 | .is w => isW w
 | .by w => isW w
 | .least w i => isW w && isN i
 | .most w i => isW w && isN i
 | .not x => x.fine
 | .and l => decide (2 ≤ l.length ∧ l.length ≤ 6) && W.fines l
 | .or l => decide (2 ≤ l.length ∧ l.length ≤ 6) && W.fines l
def W.fines : List W → Bool
 | [] => true
 | x :: l => x.fine && W.fines l
end
end
section
structure Crd where
 name : Str
 kind : Str
 marks : List Str
 sizes : List (Str × Int)
def szD (p : Str × Int) : D := .tup [.str p.1, .int p.2]
def Crd.toD (c : Crd) : D := .tup [.str c.name, .str c.kind, .tup (c.marks.map D.str), .tup (c.sizes.map szD)]
def Crd.few (c : Crd) : Prop := c.marks.length ≤ 100 ∧ c.sizes.length ≤ 100
def sizeOf (w : Str) : List (Str × Int) → Option Int
 | [] => none
 | p :: r => if p.1 = w then some p.2 else sizeOf w r
mutual
def W.lets (c : Crd) : W → Bool
 | .any => true
 | .is w => decide (w ∈ c.marks)
 | .by w => decide (c.name = w)
 | .least w i => match sizeOf w c.sizes with
   | some j => decide (i ≤ j)
   | none => false
 | .most w i => match sizeOf w c.sizes with
   | some j => decide (j ≤ i)
   | none => false
 | .not x => !x.lets c
 | .and l => W.all c l
 | .or l => W.ex c l
def W.all (c : Crd) : List W → Bool
 | [] => true
 | x :: l => x.lets c && W.all c l
def W.ex (c : Crd) : List W → Bool
 | [] => false
 | x :: l => x.lets c || W.ex c l
end
variable {S : Sto} {Q : D → Sto → Prop} {E : Exn → Sto → Prop} {φ : Nat → Fn} {dm : DefM}
theorem mem_strs (w : Str) (l : List Str) : memD (.str w) (l.map D.str) = decide (w ∈ l) := by
 unfold memD
 induction l with
 | nil => rfl
 | cons x l ih =>
   rw [List.map_cons, List.any_cons, ih]
   have e : eqD (.str x) (.str w) = decide (w = x) := by
     show (x == w) = _
     by_cases h : w = x
     · subst h; simp
     · rw [decide_eq_false h]; simpa using fun z => h z.symm
   rw [e]
   by_cases h : w = x
   · rw [decide_eq_true h, Bool.true_or, decide_eq_true (by rw [h]; exact List.mem_cons_self)]
   · rw [decide_eq_false h, Bool.false_or]
     congr 1
     rw [eq_iff_iff, List.mem_cons]
     exact ⟨.inr, fun z => z.resolve_left h⟩
theorem few_line {n : Nat} (h : n ≤ 100) : n ≤ sizeLine := Nat.le_trans h (by decide)
end
section
theorem fx (b : Bool) : (false != b) = b := by cases b <;> rfl
variable {S : Sto} {Q : D → Sto → Prop} {E : Exn → Sto → Prop} {φ : Nat → Fn} {dm : DefM}
end
section
theorem set_same {α : Type} {l : List α} {i : Nat} {x : α} (h : i < l.length) : (l.set i x)[i]? = some x := List.getElem?_set_self h
theorem set_set' {α : Type} (l : List α) (i : Nat) (x y : α) : (l.set i x).set i y = l.set i y := set_set_same l i x y
def Well (i : Nat) (S0 S : Sto) : Prop := i < S0.length ∧ ∃ a b c, 0 ≤ a ∧ S = S0.set i (stc a b c)
theorem Well.len {i : Nat} {S0 S : Sto} (h : Well i S0 S) : S.length = S0.length := by
 obtain ⟨_, a, b, c, _, rfl⟩ := h
 simp
theorem Well.set {i j : Nat} {S0 S : Sto} {x : Cell} (h : Well i S0 S) (hj : j ≠ i) : Well i (S0.set j x) (S.set j x) := by
 obtain ⟨hl, a, b, c, h0, rfl⟩ := h
 exact ⟨by simpa using hl, a, b, c, h0, List.set_comm _ _ (Ne.symm hj)⟩
theorem Well.app {i : Nat} {S0 S : Sto} {x : Cell} (h : Well i S0 S) : Well i (S0 ++ [x]) (S ++ [x]) := by
 obtain ⟨hl, a, b, c, h0, rfl⟩ := h
 exact ⟨by simp; omega, a, b, c, h0, by rw [List.set_append_left _ _ hl]⟩
theorem Well.new {S : Sto} {a b c : Int} (h : 0 ≤ a) : Well S.length (S ++ [stc a b c]) (S ++ [stc a b c]) := ⟨by simp, a, b, c, h, by simp⟩
theorem Well.trans {i : Nat} {S0 S S' : Sto} (h : Well i S0 S) (g : Well i S S') : Well i S0 S' := by
 obtain ⟨hl, a, b, c, h0, rfl⟩ := h
 obtain ⟨_, a', b', c', h0', rfl⟩ := g
 exact ⟨hl, a', b', c', h0', set_set' _ _ _ _⟩
theorem Well.refl {i : Nat} {S0 S : Sto} (h : Well i S0 S) : Well i S S := by
 obtain ⟨hl, a, b, c, h0, rfl⟩ := h
 exact ⟨by simpa using hl, a, b, c, h0, (set_set' _ _ _ _).symm⟩
variable {S : Sto} {Q : D → Sto → Prop} {E : Exn → Sto → Prop} {φ : Nat → Fn} {dm : DefM}
def PkW (F : Fn) : Prop := ∀ (i : Nat) (m : Int) (S0 S : Sto) (Q : D → Sto → Prop) (E : Exn → Sto → Prop), Well i S0 S → 0 < m → m < 1000000000000000000 → (∀ r S', 0 ≤ r → r < m → Well i S0 S' → Q (.int r) S') → Wc (F [.ref i, .int m] S) Q E
theorem log2_63 {i : Int} (h : i.natAbs < 2 ^ 40) : i.natAbs.log2 < 63 := by
 have := log2_le (m := 40) h (by decide)
 omega
theorem mul_il {i j : Int} (h : i.natAbs.log2 < 63) : mulD (.int i) (.int j) = some (.int (i * j)) := if_pos (by unfold mulB; rw [decide_eq_true h, Bool.or_true, Bool.or_true])
theorem stc_ix {e : Envr} {S : Sto} {i : Nat} {a b c : Int} (h : S[i]? = some (stc a b c)) : ixD (view e S (.ref i)) (.int 0) = some (.int a) ∧ ixD (view e S (.ref i)) (.int 1) = some (.int b) ∧ ixD (view e S (.ref i)) (.int 2) = some (.int c) := by
 unfold view
 dsimp only
 rw [h]
 exact ⟨rfl, rfl, rfl⟩
theorem stc_cell {e : Envr} {S : Sto} {i : Nat} {x : Cell} (h : S[i]? = some x) : cellOf e S (.ref i) = some x := h
end
section
section
variable {g : Tgt} {te : M D} {vs : List Nat} {env : Envr} {S : Sto} {Q : List D → Envr → Sto → Prop}
theorem w_compI {l : List D} (P : D → Prop) (I : Sto → Prop) (hI : I S) (hl : l.length ≤ sizeLine)
   (step : ∀ d ∈ l, ∀ S, I S → ∃ e1, g d (wipeE env vs) = some e1 ∧ Wp te e1 S (fun x e s => P x ∧ wipeE e vs = wipeE env vs ∧ I s) nE)
   (q : ∀ acc S', (∀ x ∈ acc, P x) → acc.length = l.length → I S' → Q acc (wipeE env vs) S') : l.length ≤ sizeLine ∧ ∃ acc e' s', compL (l, none) g (M.ret true) te vs l [] (wipeE env vs) S = .ok acc e' s' ∧ Q acc e' s' := by
 refine ⟨hl, w_compL rfl (fun r acc e s => (∀ d ∈ r, d ∈ l) ∧ (∀ x ∈ acc, P x) ∧ acc.length + r.length = l.length ∧ e = wipeE env vs ∧ I s) Q (fun d r acc e s ⟨h1, h2, h3, h4, h5⟩ => ?_) (fun acc e s ⟨h1, h2, h3, h4, h5⟩ => ?_) l [] _ _ ⟨fun _ h => h, (fun _ h => nomatch h), by simp, rfl, hI⟩⟩
 · subst h4
   obtain ⟨e1, f1, f2⟩ := step d (h1 d List.mem_cons_self) s h5
   refine ⟨e1, f1, w_ret ⟨fun _ => ?_, fun h => nomatch h⟩⟩
   delta Wp at *
   exact f2.mono (fun x e s ⟨k1, k2, k3⟩ => ⟨fun d hd => h1 d (List.mem_cons_of_mem _ hd), fun y hy => by
     rcases List.mem_append.mp hy with hy | hy
     · exact h2 y hy
     · simp at hy; subst hy; exact k1, by rw [List.length_append]; simp at h3 ⊢; omega, k2, k3⟩) fun _ _ _ q => q
 · subst h4
   exact q acc s h2 (by simpa using h3) h5
end
variable {S : Sto} {Q : D → Sto → Prop} {E : Exn → Sto → Prop} {φ : Nat → Fn} {dm : DefM}
end
section
variable {S : Sto} {Q : D → Sto → Prop} {E : Exn → Sto → Prop} {φ : Nat → Fn} {dm : DefM}
def Crd.fine (c : Crd) : Prop := isW c.name = true ∧ isW c.kind = true ∧ (∀ x ∈ c.marks, isW x = true) ∧ c.marks.Nodup ∧ c.marks.length ≤ 6 ∧ (∀ p ∈ c.sizes, isW p.1 = true ∧ isN p.2 = true) ∧ (c.sizes.map (·.1)).Nodup ∧ c.sizes.length ≤ 4
theorem Crd.fine.few {c : Crd} (h : c.fine) : c.few := ⟨by have := h.2.2.2.2.1; omega, by have := h.2.2.2.2.2.2.2; omega⟩
theorem isW_all {ws : List Str} (h : ws.all isW = true) : ∀ w ∈ ws, isW w = true := List.all_eq_true.mp h
def Rel (P : D → D → Prop) : List D → List D → Prop
 | [], [] => True
 | a :: l, b :: m => P a b ∧ Rel P l m
 | _, _ => False
theorem Rel.app {P : D → D → Prop} {a b : D} (h : P a b) : ∀ {l m : List D}, Rel P l m → Rel P (l ++ [a]) (m ++ [b])
 | [], [], _ => ⟨h, trivial⟩
 | _ :: _, _ :: _, ⟨h1, h2⟩ => ⟨h1, Rel.app h h2⟩
 | [], _ :: _, h => h.elim
 | _ :: _, [], h => h.elim
theorem Rel.len {P : D → D → Prop} : ∀ {l m : List D}, Rel P l m → l.length = m.length
 | [], [], _ => rfl
 | _ :: _, _ :: _, ⟨_, h2⟩ => by simpa using h2.len
 | [], _ :: _, h => h.elim
 | _ :: _, [], h => h.elim
theorem sortS_mem {xs : List Str} {x : Str} : x ∈ sortS xs ↔ x ∈ xs := List.mem_mergeSort
end
section
variable {S : Sto} {Q : D → Sto → Prop} {E : Exn → Sto → Prop} {φ : Nat → Fn} {dm : DefM}
def Rise (xs : List Str) : Prop := xs.Pairwise fun a b => a.cps.toList < b.cps.toList
structure Crd.good (c : Crd) : Prop where
 name : isW c.name = true
 kind : isW c.kind = true
 marks : ∀ x ∈ c.marks, isW x = true
 rise : Rise c.marks
 len : c.marks.length ≤ 6
 sizes : ∀ p ∈ c.sizes, isW p.1 = true ∧ isN p.2 = true
 riseS : Rise (c.sizes.map (·.1))
 lenS : c.sizes.length ≤ 6
theorem Crd.good.few {c : Crd} (h : c.good) : c.few := ⟨by have := h.len; omega, by have := h.lenS; omega⟩
end
section
variable {S : Sto} {Q : D → Sto → Prop} {E : Exn → Sto → Prop} {φ : Nat → Fn} {dm : DefM}
def tapeB : M Flo :=
 (dRetHp (dLst (dArgs [(dOp2 mulD (dPeek 0) (dOp1 intD (dOp2 geD (dPeek 0) (dOp2 powD (M.ret (D.int 10)) (M.ret (D.int 18)))))), (dOp2 modD (dPeek 0) (M.ret (D.int 2147483647))), (M.ret (D.int 0))])))
theorem tape_ok (h1 : dm.ps.length = 1) (h2 : dm.C.N.length = 1) {x : Int} (q : ∀ S', (∃ y, S' = S ++ [y]) → Well S.length S' S' → Q (.ref S.length) S') : Wc (runD dm tapeB [.int x] S) Q E := by
 refine w_def (by rw [h1]; rfl) [.val (.int x)] (by rw [h2]; rfl) ?_
 unfold tapeB
 have e18 : (10 : Int) ^ Int.toNat 18 = 1000000000000000000 := by decide +kernel
 have key : ∃ a : Int, 0 ≤ a ∧ mulD (.int x) (.int (if decide ((10 : Int) ^ Int.toNat 18 ≤ x) = true then 1 else 0)) = some (.int a) := by
   by_cases h : (10 : Int) ^ Int.toNat 18 ≤ x
   · rw [decide_eq_true h]
     exact ⟨x * 1, by omega, mul_ir (j := 1) (by decide)⟩
   · rw [decide_eq_false h]
     exact ⟨x * 0, by omega, mul_ir (j := 0) (by decide)⟩
 obtain ⟨a, a0, ea⟩ := key
 repeat trivial
 refine ⟨_, ea, ?_⟩
 repeat trivial
 exact q _ ⟨_, rfl⟩ (Well.new a0)
def drawTB (φ : Nat → Fn) : M Flo :=
 (dSeq (dIf (dBl (dOp2 gtD (dOp2 ixD (dPeek 0) (M.ret (D.int 0))) (M.ret (D.int 0)))) (dSeq (dSet 2 (dOp2 modD (dOp2 ixD (dPeek 0) (M.ret (D.int 0))) (dPeek 1)))
 (dSeq (dSetIx (dOp2 fdivD (dOp2 ixD (dPeek 0) (M.ret (D.int 0))) (dPeek 1)) (dPeek 0) (M.ret (D.int 0)))
 (dRet (dVar 2)))) (M.ret .nx))
 (dSeq (dSetIx (dOp2 addD (dOp2 ixD (dPeek 0) (M.ret (D.int 2))) (M.ret (D.int 1))) (dPeek 0) (M.ret (D.int 2)))
 (dSeq (dSet 3 (dOp2 modD (dOp2 mulD (dOp2 addD (dOp2 addD (dOp2 ixD (dPeek 0) (M.ret (D.int 1))) (dOp2 mulD (M.ret (D.int 7919)) (dOp2 ixD (dPeek 0) (M.ret (D.int 2))))) (M.ret (D.int 1))) (M.ret (D.int 48271))) (M.ret (D.int 2147483647))))
 (dSeq (dSet 3 (dOp2 modD (dOp2 mulD (dPeek 3) (dOp2 addD (dOp2 fdivD (dPeek 3) (M.ret (D.int 1009))) (M.ret (D.int 69621)))) (M.ret (D.int 2147483647))))
 (dRet (dOp2 modD (dOp2 modD (dOp2 mulD (dPeek 3) (dOp2 addD (dOp2 fdivD (dPeek 3) (M.ret (D.int 2003))) (M.ret (D.int 40692)))) (M.ret (D.int 2147483399))) (dPeek 1)))))))
theorem drawT_ok (h1 : dm.ps.length = 2) (h2 : dm.C.N.length = 4) : PkW (runD dm (drawTB φ)) := fun i m S0 S Q E hw hm hm2 q => by
 have lm : m.natAbs.log2 < 9000 := log2_int (m := 8999) (by omega) (Int.lt_of_lt_of_le hm2 (by decide +kernel)) (by decide) |> fun h => by omega
 obtain ⟨hl, a, b, c, a0, rfl⟩ := hw
 have g0 : (S0.set i (stc a b c))[i]? = some (stc a b c) := set_same hl
 refine w_def (by rw [h1]; rfl) [.val (.ref i), .val (.int m), .no, .no] (by rw [h2]; rfl) ?_
 unfold drawTB
 repeat trivial
 refine ⟨_, (stc_ix g0).1, ?_⟩
 repeat trivial
 refine br_dec (fun h => ?_) (fun h => ?_)
 · repeat trivial
   refine ⟨_, (stc_ix g0).1, ?_⟩
   repeat trivial
   refine ⟨_, mod_ii hm, ?_⟩
   repeat trivial
   refine ⟨_, (stc_ix g0).1, ?_⟩
   repeat trivial
   refine ⟨_, fdiv_ii hm lm, ?_⟩
   repeat trivial
   refine ⟨_, _, _, _, stc_cell g0, rfl, rfl, ?_⟩
   rw [set_set']
   repeat trivial
   exact q _ _ (Int.emod_nonneg _ (by omega)) (Int.emod_lt_of_pos _ hm) ⟨hl, a / m, b, c, Int.ediv_nonneg a0 (by omega), rfl⟩
 · repeat trivial
   refine ⟨_, (stc_ix g0).2.2, ?_⟩
   repeat trivial
   refine ⟨_, _, _, _, stc_cell g0, rfl, rfl, ?_⟩
   rw [set_set']
   have g1 : (S0.set i (stc a b (c + 1)))[i]? = some (stc a b (c + 1)) := set_same hl
   show Wp _ _ (S0.set i (stc a b (c + 1))) _ _
   repeat trivial
   refine ⟨_, (stc_ix g1).2.1, ?_⟩
   repeat trivial
   refine ⟨_, (stc_ix g1).2.2, ?_⟩
   repeat trivial
   refine ⟨_, mul_il (i := 7919) (log2_63 (by decide)), ?_⟩
   repeat trivial
   refine ⟨_, mul_ir (j := 48271) (log2_63 (by decide)), ?_⟩
   repeat trivial
   dsimp only
   generalize hz : (b + 7919 * (c + 1) + 1) * 48271 % 2147483647 = z
   have z0 : 0 ≤ z ∧ z < 2147483647 := by omega
   repeat trivial
   refine ⟨_, mul_il (i := z) (log2_63 (by omega)), ?_⟩
   repeat trivial
   dsimp only
   generalize hy : z * (z / 1009 + 69621) % 2147483647 = y
   have y0 : 0 ≤ y ∧ y < 2147483647 := by subst hy; exact ⟨Int.emod_nonneg _ (by decide), Int.emod_lt_of_pos _ (by decide)⟩
   repeat trivial
   refine ⟨_, mul_il (i := y) (log2_63 (by omega)), ?_⟩
   repeat trivial
   refine ⟨_, mod_ii hm, ?_⟩
   repeat trivial
   exact q _ _ (Int.emod_nonneg _ (by omega)) (Int.emod_lt_of_pos _ hm) ⟨hl, a, b, c + 1, a0, rfl⟩
def pickTB (φ : Nat → Fn) (dr : Nat) : M Flo :=
 (dRet (dOp2 ixD (dPeek 1) (dFn φ dr 2 (dArgs [(dVar 0), (dOp1 lenD (dPeek 1))]))))
def PkL (F : Fn) : Prop := ∀ (l : List D) (i : Nat) (S0 S : Sto) (Q : D → Sto → Prop) (E : Exn → Sto → Prop), 0 < l.length → l.length ≤ 1000 → Well i S0 S → (∀ d S', d ∈ l → Well i S0 S' → Q d S') → Wc (F [.ref i, .lst l] S) Q E
theorem pickT_ok (h1 : dm.ps.length = 2) (h2 : dm.C.N.length = 2) {dr : Nat} (hd : PkW (φ dr)) : PkL (runD dm (pickTB φ dr)) := fun l i S0 S Q E h0 h3 hw q => by
 refine w_def (by rw [h1]; rfl) [.val (.ref i), .val (.lst l)] (by rw [h2]; rfl) ?_
 unfold pickTB
 repeat trivial
 refine hd i _ S0 _ _ _ hw (by omega) (by omega) fun r S1 r0 r1 hw => ?_
 obtain ⟨d, e, hd⟩ := at_some (l := l) r0 r1
 refine ⟨_, e, ?_⟩
 exact q d S1 hd hw
end
section
variable {S : Sto} {Q : D → Sto → Prop} {E : Exn → Sto → Prop} {φ : Nat → Fn} {dm : DefM}
structure Ofr where
 side : Str
 card : Crd
 wish : W
 many : Int
 least : Int
 weight : Int
 till : Int
def Ofr.toD (o : Ofr) : D := .tup [.str o.side, o.card.toD, o.wish.toD, .int o.many, .int o.least, .int o.weight, .int o.till]
structure Ofr.good (o : Ofr) : Prop where
 card : o.card.good
 fine : o.wish.fine = true
 deep : o.wish.deep ≤ 3
 parts : o.wish.parts ≤ 13
 m1 : 1 ≤ o.many
 m2 : o.many ≤ 1000000
 l1 : 1 ≤ o.least
 l2 : o.least ≤ o.many
 w1 : 0 ≤ o.weight
 w2 : o.weight ≤ 1000
end
section
variable {S : Sto} {Q : D → Sto → Prop} {E : Exn → Sto → Prop} {φ : Nat → Fn} {dm : DefM}
def firstT : D → D
 | .tup [x, _] => x
 | _ => .non
theorem firstT_map (l : List (Str × Int)) : (l.map szD).map firstT = (l.map (·.1)).map D.str := by
 rw [List.map_map, List.map_map]; rfl
end
section
variable {S : Sto} {Q : D → Sto → Prop} {E : Exn → Sto → Prop} {φ : Nat → Fn} {dm : DefM}
def Sm : Nat → D → Prop
 | 0, _ => False
 | n + 1, d => d = .non ∨ (∃ b, d = .bl b) ∨ (∃ i, d = .int i) ∨ ∃ l, d = .tup l ∧ l.length ≤ 100 ∧ ∀ x ∈ l, Sm n x
theorem Sm.up : ∀ {n : Nat} {d : D}, Sm n d → Sm (n + 1) d
 | n + 1, d, h => by
   unfold Sm at *
   rcases h with h | h | h | ⟨l, h1, h2, h3⟩
   · exact .inl h
   · exact .inr (.inl h)
   · exact .inr (.inr (.inl h))
   · exact .inr (.inr (.inr ⟨l, h1, h2, fun x hx => (h3 x hx).up⟩))
theorem Sm.tup {n : Nat} {l : List D} (h1 : l.length ≤ 100) (h2 : ∀ x ∈ l, Sm n x) : Sm (n + 1) (.tup l) := by unfold Sm; exact .inr (.inr (.inr ⟨l, rfl, h1, h2⟩))
theorem Sm.bl {n : Nat} {b : Bool} : Sm (n + 1) (.bl b) := by unfold Sm; exact .inr (.inl ⟨b, rfl⟩)
theorem Sm.int {n : Nat} {i : Int} : Sm (n + 1) (.int i) := by unfold Sm; exact .inr (.inr (.inl ⟨i, rfl⟩))
theorem Sm.non {n : Nat} : Sm (n + 1) .non := by unfold Sm; exact .inl rfl
end
section
variable {S : Sto} {Q : D → Sto → Prop} {E : Exn → Sto → Prop} {φ : Nat → Fn} {dm : DefM}
theorem px_mem {l : List D} (h : PlX (.tup l)) : ∀ x ∈ l, PlX x := fun x hx => by
 obtain ⟨n, h⟩ := h
 cases n with
 | zero => cases h
 | succ n => exact ⟨n, plDs_mem h x hx⟩
end
section
theorem in1 {P : D → Prop} {a : D} (h : P a) : ∀ x ∈ [a], P x := fun x hx => by simp at hx; exact hx ▸ h
end
section
variable {S : Sto} {Q : D → Sto → Prop} {E : Exn → Sto → Prop} {φ : Nat → Fn} {dm : DefM}
def adj (xs : List Str) (k : Nat) : Bool := match xs[k]?, xs[k + 1]? with
 | some a, some b => decide (a.cps.toList < b.cps.toList)
 | _, _ => false
def riseS (xs : List Str) : Bool := (List.range (xs.length - 1)).all (adj xs)
theorem rise_of {xs : List Str} (h : Rise xs) : riseS xs = true := by
 unfold riseS
 rw [List.all_eq_true]
 intro k hk
 have hk := List.mem_range.mp hk
 have h1 : k + 1 < xs.length := by omega
 unfold adj
 rw [List.getElem?_eq_getElem (by omega : k < xs.length), List.getElem?_eq_getElem h1]
 exact decide_eq_true (List.pairwise_iff_getElem.mp h k (k + 1) (by omega) h1 (by omega))
def strsOf : List D → List Str
 | .str s :: r => s :: strsOf r
 | _ :: r => strsOf r
 | [] => []
theorem strsOf_map (xs : List Str) : strsOf (xs.map D.str) = xs := by
 induction xs with
 | nil => rfl
 | cons x xs ih => show x :: strsOf (xs.map D.str) = _; rw [ih]
def marksD : D → Bool
 | .tup l => decide ((l.length : Int) ≤ 6) && (l.all isWD && riseS (strsOf l))
 | _ => false
theorem all_map (p : D → Bool) (l : List D) : allD (.lst (l.map fun d => D.bl (p d))) = some (.bl (l.all p)) := by
 have e : (l.map fun d => D.bl (p d)) = (l.map p).map D.bl := by rw [List.map_map]; rfl
 rw [e]
 show Option.map _ (getBools _) = _
 rw [bools_map]
 show some (D.bl ((l.map p).all id)) = _
 rw [List.all_map]; rfl
theorem PlX.flat {d : D} (h : PlX d) : Flat d := plD_flat h.choose_spec
def isSzD : D → Bool
 | .tup [a, b] => isWD a && isND b
 | _ => false
def sizesD : D → Bool
 | .tup l => decide ((l.length : Int) ≤ 6) && (l.all isSzD && riseS (strsOf (l.map firstT)))
 | _ => false
def isCardD : D → Bool
 | .tup [a, b, m, s] => isWD a && (isWD b && (marksD m && sizesD s))
 | _ => false
end
section
variable {S : Sto} {Q : D → Sto → Prop} {E : Exn → Sto → Prop} {φ : Nat → Fn} {dm : DefM}
theorem px_ok {s : Str} (h : (PyData.strOk s && decide (s.length ≤ 1000000)) = true) : PlX (.str s) := px_str h
end
section
variable {S : Sto} {Q : D → Sto → Prop} {E : Exn → Sto → Prop} {φ : Nat → Fn} {dm : DefM}
theorem isW_px {w : Str} (h : isW w = true) : PlX (.str w) := px_ok (by
 have := isW_len h
 rw [isW_ok h, decide_eq_true (by omega)]; rfl)
theorem strs_px {xs : List Str} (h : ∀ x ∈ xs, isW x = true) : ∀ y ∈ xs.map D.str, PlX y := fun y hy => by
 obtain ⟨x, hx, rfl⟩ := List.mem_map.mp hy
 exact isW_px (h x hx)
end
section
variable {S : Sto} {Q : D → Sto → Prop} {E : Exn → Sto → Prop} {φ : Nat → Fn} {dm : DefM}
structure SzF (ps : List (Str × Int)) : Prop where
 w : ∀ p ∈ ps, isW p.1 = true ∧ isN p.2 = true
 r : Rise (ps.map (·.1))
 l : ps.length ≤ 6
end
section
variable {S : Sto} {Q : D → Sto → Prop} {E : Exn → Sto → Prop} {φ : Nat → Fn} {dm : DefM}
theorem Crd.good.sz {c : Crd} (h : c.good) : SzF c.sizes := ⟨h.sizes, h.riseS, h.lenS⟩
theorem Crd.good.is {c : Crd} (h : c.good) : isCardD c.toD = true := by
 have h1 : marksD (.tup (c.marks.map D.str)) = true := by
   show (decide (((c.marks.map D.str).length : Int) ≤ 6) && ((c.marks.map D.str).all isWD && L2.MP.riseS (strsOf (c.marks.map D.str)))) = true
   have hl := h.len
   rw [strsOf_map, rise_of h.rise, Bool.and_true, List.length_map, decide_eq_true (by omega), Bool.true_and, List.all_eq_true]
   intro d hd
   obtain ⟨x, hx, rfl⟩ := List.mem_map.mp hd
   exact h.marks x hx
 have h2 : sizesD (.tup (c.sizes.map szD)) = true := by
   show (decide (((c.sizes.map szD).length : Int) ≤ 6) && ((c.sizes.map szD).all isSzD && L2.MP.riseS (strsOf ((c.sizes.map szD).map firstT)))) = true
   have hl := h.lenS
   rw [firstT_map, strsOf_map, rise_of h.riseS, Bool.and_true, List.length_map, decide_eq_true (by omega), Bool.true_and, List.all_eq_true]
   intro d hd
   obtain ⟨p, hp, rfl⟩ := List.mem_map.mp hd
   have := h.sizes p hp
   show (isW p.1 && isN p.2) = true
   rw [this.1, this.2]; rfl
 show (isW c.name && (isW c.kind && (_ && _))) = true
 rw [h.name, h.kind, h1, h2]; rfl
end
end L2.MP
end
section
namespace L2.MP
open PySem PySem.Spec PyProof.Rows L2.MP
section
class RgB (j : Int) : Prop where
 ok : rgB j = true
theorem rg_and {j : Int} {A : Prop} [h : RgB j] (a : A) : rgB j = true ∧ A := ⟨h.ok, a⟩
end
section
def Fr (env : Envr) : List Nat → Envr → Prop
 | [], e => e = env
 | v :: vs, e => ∃ s, Fr (env.set v s) vs e
section
variable {R : Flo → Envr → Sto → Prop} {E : Exn → Envr → Sto → Prop} {env : Envr} {S : Sto}
theorem w_loopA {α : Type} {src : Src} {g : Tgt} {m : M Flo} (mk : α → Envr) (vs : List Nat) (I : List D → α → Sto → Prop) (a0 : α) (hn : src.2 = none) {l : List D} (h0 : I l a0 S) (hf : Fr (mk a0) vs env)
   (step : ∀ d r a s e, I (d :: r) a s → Fr (mk a) vs e → ∃ e1, g d e = some e1 ∧ Wp m e1 s (fun f e s => match f with
     | .nx => ∃ a', Fr (mk a') vs e ∧ I r a' s
     | .ct => ∃ a', Fr (mk a') vs e ∧ I r a' s
     | .bk => R .nx e s
     | .rt v => R (.rt v) e s) E)
   (fin : ∀ a s e, I [] a s → Fr (mk a) vs e → R .nx e s) : Wp (loopL src g m l) env S R E :=
 w_loop (fun r e s => ∃ a, Fr (mk a) vs e ∧ I r a s) hn (fun d r e s ⟨a, h1, h2⟩ => step d r a s e h2 h1) (fun e s ⟨a, h1, h2⟩ => fin a s e h2 h1) l env S ⟨a0, hf, h0⟩
theorem w_loopF {src : Src} {g : Tgt} {m : M Flo} (env0 : Envr) (vs : List Nat) (I : List D → Sto → Prop) (hn : src.2 = none) {l : List D} (h0 : I l S) (hf : Fr env0 vs env)
   (step : ∀ d r s e, I (d :: r) s → Fr env0 vs e → ∃ e1, g d e = some e1 ∧ Wp m e1 s (fun f e s => match f with
     | .nx => Fr env0 vs e ∧ I r s
     | .ct => Fr env0 vs e ∧ I r s
     | .bk => R .nx e s
     | .rt v => R (.rt v) e s) E)
   (fin : ∀ s e, I [] s → Fr env0 vs e → R .nx e s) : Wp (loopL src g m l) env S R E :=
 w_loop (fun r e s => Fr env0 vs e ∧ I r s) hn (fun d r e s ⟨h1, h2⟩ => step d r s e h2 h1) (fun e s ⟨h1, h2⟩ => fin s e h2 h1) l env S ⟨hf, h0⟩
end
section
variable {R : Flo → Envr → Sto → Prop} {E : Exn → Envr → Sto → Prop} {env : Envr} {S : Sto}
theorem w_fld {cs : List Nat} {f : Str} {o : M D} {Q : D → Envr → Sto → Prop} (h : Wp o env S (fun x e s => ∃ n c fs d, x = .ref n ∧ s[n]? = some (.ins c fs) ∧ c ∈ cs ∧ lookF f fs = some d ∧ Q d e s) E) : Wp (dFld cs f o) env S Q E := by
 refine w_bind ?_
 delta Wp at *
 refine h.mono (fun x e s ⟨n, c, fs, d, h1, h2, h3, h4, h5⟩ => ?_) fun _ _ _ q => q
 subst h1
 unfold Vp
 dsimp only
 rw [h2]
 dsimp only
 rw [if_pos h3, h4]
 exact h5
theorem w_setFld {cs : List Nat} {f : Str} {o v : M D} (h : Wp v env S (fun d e s => Wp o e s (fun x e s => ∃ n c fs, x = .ref n ∧ s[n]? = some (.ins c fs) ∧ (c ∈ cs ∧ fs.length < 1000) ∧ R .nx e (s.set n (.ins c (putG f d fs)))) E) E) : Wp (dSetFld cs f o v) env S R E := by
 refine w_bind ?_
 delta Wp at *
 refine h.mono (fun d e s h => ?_) fun _ _ _ q => q
 refine v_bind (h.mono (fun x e s ⟨n, c, fs, h1, h2, h3, h4⟩ => ?_) fun _ _ _ q => q)
 subst h1
 refine v_bind (v_getS (v_bind (v_opt (a := s.set n (.ins c (putG f d fs))) ?_ ?_)))
 · unfold putS
   dsimp only
   rw [h2]
   dsimp only
   rw [if_pos h3]
 · exact h4
theorem w_setFldF {cs : List Nat} {f : Str} {o : M D} {v : M Cell} (h : Wp v env S (fun d e s => Wp o e s (fun x e s => ∃ n c fs, x = .ref n ∧ (s ++ [d])[n]? = some (.ins c fs) ∧ (c ∈ cs ∧ fs.length < 1000) ∧ R .nx e ((s ++ [d]).set n (.ins c (putG f (.ref s.length) fs)))) E) E) : Wp (dSetFldF cs f o v) env S R E := by
 refine w_bind ?_
 delta Wp at *
 refine h.mono (fun d e s h => ?_) fun _ _ _ q => q
 refine v_bind (h.mono (fun x e s ⟨n, c, fs, h1, h2, h3, h4⟩ => ?_) fun _ _ _ q => q)
 subst h1
 refine v_bind (v_getS (v_bind (v_opt (a := (s ++ [d]).set n (.ins c (putG f (.ref s.length) fs))) ?_ ?_)))
 · unfold putS
   dsimp only
   rw [h2]
   dsimp only
   rw [if_pos h3]
 · exact h4
theorem w_make {c n : Nat} {F : Fn} {args : M (List D)} {Q : D → Envr → Sto → Prop} (h : Wp args env S (fun ds e s => ds.length + 1 = n ∧ Wc (F (.ref s.length :: ds) (s ++ [.ins c []])) (fun d s' => d = .non ∧ Q (.ref s.length) e s') (fun x s' => E x e s')) E) : Wp (dMake c n F args) env S Q E := by
 refine w_bind ?_
 delta Wp Wc at *
 refine h.mono (fun ds e s ⟨h1, h2⟩ => ?_) fun _ _ _ q => q
 refine v_if (by rw [List.length_cons]; exact h1) ?_
 unfold Vc at h2
 unfold Vp
 dsimp only
 cases q : F (.ref s.length :: ds) (s ++ [.ins c []]) with
 | ok d s' =>
   rw [q] at h2
   obtain ⟨e1, h3⟩ := h2
   subst e1
   exact h3
 | exc x s' => rw [q] at h2; exact h2
 | bad => rw [q] at h2; exact h2
theorem w_meths {G : Gm} {φ : Nat → Fn} {l : List (Nat × Nat)} {m : Str} {o : M D} {args : M (List D)} {Q : D → Envr → Sto → Prop} (h : Wp o env S (fun x e s => ∃ n c fs i, x = .ref n ∧ s[n]? = some (.ins c fs) ∧ lkc l c = some i ∧ lookF m fs = none ∧
   Wp args e s (fun ds e s => ds.length + 1 = G.ar.getD i 0 ∧ Wc (φ i (.ref n :: ds) s) (fun d s' => Q d e s') (fun x s' => E x e s')) E) E) : Wp (dMeths G φ l m o args) env S Q E := by
 refine w_bind ?_
 delta Wp Wc at *
 refine h.mono (fun x e s ⟨n, c, fs, i, h1, h2, h3, h4, h5⟩ => ?_) fun _ _ _ q => q
 subst h1
 unfold Vp
 have e1 : insAny s (.ref n) = some (c, fs) := by
   unfold insAny
   dsimp only
   rw [h2]
 dsimp only
 rw [e1]
 dsimp only
 rw [h3]
 dsimp only
 rw [if_pos h4]
 refine v_bind (h5.mono (fun ds e s ⟨k1, k2⟩ => ?_) fun _ _ _ q => q)
 refine v_if (by rw [List.length_cons]; exact k1) ?_
 unfold Vc at k2
 unfold Vp
 dsimp only
 cases q : φ i (.ref n :: ds) s <;> (rw [q] at k2; exact k2)
theorem w_augIx {f : Int → Int → Int} {o i v : M D} (h : Wp o env S (fun x e s => Wp i e s (fun j e s => ∃ n, (cellOf e s x).bind (augAt j) = some n ∧ Wp v e s (fun d e s => ∃ m c e' s', d = .int m ∧ (cellOf e s x).bind (augSet j (f n m)) = some c ∧ setCell x c e s = .ok () e' s' ∧ R .nx e' s') E) E) E) : Wp (dAugIx f o i v) env S R E := by
 refine w_bind ?_
 delta Wp at *
 refine h.mono (fun x e s h => ?_) fun _ _ _ q => q
 refine v_bind (h.mono (fun j e s ⟨n, h1, h2⟩ => ?_) fun _ _ _ q => q)
 refine v_bind (v_getS (v_bind (v_opt h1 (v_bind (h2.mono (fun d e s ⟨m, c, e', s', k1, k2, k3, k4⟩ => ?_) fun _ _ _ q => q)))))
 subst k1
 refine v_bind (v_opt (a := m) rfl (v_bind (v_getS (v_bind (v_opt k2 (v_bind ?_))))))
 unfold Vp
 rw [k3]
 exact k4
end
section
variable {E : Exn → Envr → Sto → Prop} {env : Envr} {S : Sto} {Q : D → Envr → Sto → Prop} {a b : M D}
theorem w_count (h : Wp a env S (fun x e s => ∃ l, lstOf (view e s x) = some l ∧ Wp b e s (fun y e s => ∃ l d, lstOf (view e s x) = some l ∧ cntF l (view e s y) = some d ∧ Q d e s) E) E) : Wp (dCount a b) env S Q E := by
 have h2 : Wp (dLm1 cntF a b) env S Q E := by
   refine w_lm1 ?_
   delta Wp at *
   exact h.mono (fun x e s ⟨l, k1, k2⟩ => ⟨⟨l, k1⟩, k2⟩) fun _ _ _ q => q
 delta Wp at *
 unfold Vp dCount at *
 cases e : a env S with
 | ok x e1 s1 =>
   rw [e] at h
   obtain ⟨l, k1, _⟩ := h
   cases x <;> first | exact h2 | skip
   unfold view lstOf at k1
   cases k1
 | exc x e1 s1 => exact h2
 | bad => exact h2
end
section
variable {α β : Type} {env : Envr} {S : Sto} {E : Exn → Envr → Sto → Prop} {a b c : M D} {Q : D → Envr → Sto → Prop} {R : Flo → Envr → Sto → Prop}
instance  : Rl (Wp a env S (fun x e s => ∃ l, lstOf (view e s x) = some l ∧ Wp b e s (fun y e s => ∃ l d, lstOf (view e s x) = some l ∧ cntF l (view e s y) = some d ∧ Q d e s) E) E) (Wp (dCount a b) env S Q E) := ⟨w_count⟩
instance {f : Int → Int → Int} {o i v : M D} : Rl (Wp o env S (fun x e s => Wp i e s (fun j e s => ∃ n, (cellOf e s x).bind (augAt j) = some n ∧ Wp v e s (fun d e s => ∃ m c e' s', d = .int m ∧ (cellOf e s x).bind (augSet j (f n m)) = some c ∧ setCell x c e s = .ok () e' s' ∧ R .nx e' s') E) E) E) (Wp (dAugIx f o i v) env S R E) := ⟨w_augIx⟩
instance {cs : List Nat} {f : Str} {o : M D} {Q : D → Envr → Sto → Prop} : Rl (Wp o env S (fun x e s => ∃ n c fs d, x = .ref n ∧ s[n]? = some (.ins c fs) ∧ c ∈ cs ∧ lookF f fs = some d ∧ Q d e s) E) (Wp (dFld cs f o) env S Q E) := ⟨w_fld⟩
instance {G : Gm} {φ : Nat → Fn} {l : List (Nat × Nat)} {m : Str} {o : M D} {args : M (List D)} {Q : D → Envr → Sto → Prop} : Rl (Wp o env S (fun x e s => ∃ n c fs i, x = .ref n ∧ s[n]? = some (.ins c fs) ∧ lkc l c = some i ∧ lookF m fs = none ∧
   Wp args e s (fun ds e s => ds.length + 1 = G.ar.getD i 0 ∧ Wc (φ i (.ref n :: ds) s) (fun d s' => Q d e s') (fun x s' => E x e s')) E) E) (Wp (dMeths G φ l m o args) env S Q E) := ⟨w_meths⟩
instance {cs : List Nat} {f : Str} {o v : M D} : Rl (Wp v env S (fun d e s => Wp o e s (fun x e s => ∃ n c fs, x = .ref n ∧ s[n]? = some (.ins c fs) ∧ (c ∈ cs ∧ fs.length < 1000) ∧ R .nx e (s.set n (.ins c (putG f d fs)))) E) E) (Wp (dSetFld cs f o v) env S R E) := ⟨w_setFld⟩
instance {cs : List Nat} {f : Str} {o : M D} {v : M Cell} : Rl (Wp v env S (fun d e s => Wp o e s (fun x e s => ∃ n c fs, x = .ref n ∧ (s ++ [d])[n]? = some (.ins c fs) ∧ (c ∈ cs ∧ fs.length < 1000) ∧ R .nx e ((s ++ [d]).set n (.ins c (putG f (.ref s.length) fs)))) E) E) (Wp (dSetFldF cs f o v) env S R E) := ⟨w_setFldF⟩
instance {c n : Nat} {F : Fn} {args : M (List D)} {Q : D → Envr → Sto → Prop} : Rl (Wp args env S (fun ds e s => ds.length + 1 = n ∧ Wc (F (.ref s.length :: ds) (s ++ [.ins c []])) (fun d s' => d = .non ∧ Q (.ref s.length) e s') (fun x s' => E x e s')) E) (Wp (dMake c n F args) env S Q E) := ⟨w_make⟩
end
end
end L2.MP
end
section
namespace L2.MP
open PySem PySem.Spec PyProof.Rows L2.MP
local macro_rules
 | `(tactic| trivial) => `(tactic| first
   | refine w_seq ?_ | refine w_set ?_ | refine w_setOwn ?_ | refine w_setHp ?_ | refine w_retS ?_ | refine w_retHp ?_ | refine w_ite ?_ | refine w_expr ?_ | refine w_asg ?_ | refine w_setIx ?_ | refine w_mut ?_ | refine w_hp ?_
   | refine w_lm1 ?_ | refine w_bl ?_ | refine w_op2 ?_ | refine w_op1 ?_ | refine w_opF1 ?_ | refine w_opF2 ?_ | refine w_chainP ?_ | refine w_and ?_ | refine w_or ?_ | refine w_not ?_ | refine w_notT ?_ | refine w_andT ?_
   | refine w_orT ?_ | refine w_tru ?_ | refine w_fz ?_ | refine w_lst ?_ | refine w_tup ?_ | refine w_cons ?_ | refine w_nil ?_ | refine w_sl ?_ | refine w_slF ?_ | refine w_part ?_ | refine w_part0 ?_ | refine w_sm0 ?_
   | refine w_sm1 ?_ | refine w_disp ?_ | refine w_pr ?_ | refine w_pr0 ?_ | refine w_for ?_ | refine w_walk ?_ | refine w_rng1 ?_ | refine w_rng2 ?_ | refine w_enum ?_ | refine w_zip ?_ | refine w_fn ?_ | refine w_comp ?_
   | refine w_var rfl ?_ | refine w_peek rfl ?_ | refine w_peekO rfl ?_ | refine w_varO rfl rfl ?_ | refine w_ret ?_)
local macro_rules
 | `(tactic| trivial) => `(tactic| first
   | refine Rl.go ?_ | ((with_reducible apply w_var); exact rfl) | ((with_reducible apply w_peek); exact rfl) | ((with_reducible apply w_peekO); exact rfl) | ((with_reducible apply w_varO); exact rfl; exact rfl)
   | with_reducible (first | refine w_hp ?_ | refine w_lm1 ?_ | refine w_enum ?_)
   | refine ⟨_, ix0, ?_⟩ | refine ⟨_, ix1, ?_⟩ | refine ⟨_, ix2, ?_⟩ | refine ⟨_, ix3, ?_⟩ | refine rg_and ?_ | refine ⟨_, rfl, ?_⟩ | refine ⟨rfl, ?_⟩ | refine ⟨Nat.le_of_ble_eq_true rfl, ?_⟩ | refine ⟨fun _ => ?_, fun h => Bool.noConfusion (show true = false from h)⟩ | refine ⟨fun h => Bool.noConfusion (show false = true from h), fun _ => ?_⟩)
section
variable {S : Sto} {Q : D → Sto → Prop} {E : Exn → Sto → Prop} {φ : Nat → Fn} {dm : DefM}
abbrev Sof := List (Ofr × Int)
def onD (p : Ofr × Int) : D := .tup [p.1.toD, .int p.2]
def setD (s : Sof) : List D := s.map onD
structure SetOk (n : Nat) (s : Sof) : Prop where
 two : s.length = 2 ∨ s.length = 3
 wish : ∀ p ∈ s, p.1.wish.fine = true ∧ p.1.wish.deep ≤ n
 card : ∀ p ∈ s, p.1.card.few
theorem SetOk.line {n : Nat} {s : Sof} (h : SetOk n s) : (setD s).length ≤ sizeLine := few_line (by rw [setD, List.length_map]; have := h.two; omega)
def SF (F : Fn) (n : Nat) (f : Sof → D) : Prop := ∀ (s : Sof) (S : Sto) (Q : D → Sto → Prop) (E : Exn → Sto → Prop), SetOk n s → Q (f s) S → Wc (F [.lst (setD s)] S) Q E
def leastL (s : Sof) : Int := minI (s.map (·.2))
def shortB (s : Sof) (p : Ofr × Int) : Bool := decide (leastL s < if p.2 < p.1.least then p.2 else p.1.least)
def kindOf : D → D
 | .tup [.tup (_ :: .tup (_ :: k :: _) :: _), _] => k
 | _ => .non
def kindsS (s : Sof) : List Str := s.map fun p => p.1.card.kind
def namesS (s : Sof) : List Str := s.map fun p => p.1.card.name
theorem getStrs_map : ∀ l : List Str, getStrs (l.map D.str) = some l
 | [] => rfl
 | a :: l => by rw [List.map_cons]; unfold getStrs; rw [getStrs_map l]; rfl
def unlikeS (s : Sof) : Bool := decide ((1 : Int) < (onto (kindsS s) []).length)
def alikeS (s : Sof) : Bool := decide (((onto (namesS s) []).length : Int) < s.length)
def prN (n : Nat) : List (Nat × Nat) := (List.range n).flatMap fun i => ((List.range n).filter fun j => i != j).map fun j => (i, j)
def letAt (s : Sof) (p : Nat × Nat) : Bool := match s[p.1]?, s[p.2]? with
 | some a, some b => a.1.wish.lets b.1.card
 | _, _ => false
def shortAt (s : Sof) (k : Nat) : Bool := match s[k]? with
 | some p => shortB s p
 | none => false
def allLet (s : Sof) : Bool := (prN s.length).all (letAt s)
def anyShort (s : Sof) : Bool := (List.range s.length).any (shortAt s)
def partS (s : Sof) : Int := if unlikeS s = true ∨ alikeS s = true then 0 else if allLet s = false then 0 else if anyShort s = true then 0 else leastL s
end
section
variable {S : Sto} {Q : D → Sto → Prop} {E : Exn → Sto → Prop} {φ : Nat → Fn} {dm : DefM}
structure Near (s : Sof) : Prop where
 two : s.length = 2 ∨ s.length = 3
 good : ∀ p ∈ s, p.1.good ∧ p.1.card.kind = "rye" ∧ p.1.wish = .any ∧ 1 ≤ p.2
 names : (namesS s).Nodup
theorem Near.ok {s : Sof} (h : Near s) (n : Nat) : SetOk (n + 1) s := ⟨h.two, fun p hp => by rw [(h.good p hp).2.2.1]; exact ⟨rfl, by simp [W.deep]⟩, fun p hp => (h.good p hp).1.card.few⟩
theorem onto_same {x : Str} : ∀ {l : List Str}, (∀ y ∈ l, y = x) → (onto l [x]) = [x]
 | [], _ => rfl
 | y :: l, h => by
   have e : y = x := h y List.mem_cons_self
   subst e
   show onto l (if y ∈ [y] then [y] else y :: [y]) = _
   rw [if_pos (by simp)]
   exact onto_same fun z hz => h z (List.mem_cons_of_mem _ hz)
theorem onto_one {x : Str} {l : List Str} (h : ∀ y ∈ l, y = x) : (onto l []).length ≤ 1 := by
 cases l with
 | nil => exact Nat.zero_le _
 | cons y l =>
   have e : y = x := h y List.mem_cons_self
   subst e
   show (onto l (if y ∈ [] then [] else [y])).length ≤ 1
   rw [if_neg (by simp), onto_same fun z hz => h z (List.mem_cons_of_mem _ hz)]
   exact Nat.le_refl _
theorem onto_nodup : ∀ {l L : List Str}, l.Nodup → (∀ x ∈ l, x ∉ L) → (onto l L).length = l.length + L.length
 | [], L, _, _ => by simp [onto]
 | x :: l, L, h, hL => by
   show (onto l (if x ∈ L then L else x :: L)).length = _
   rw [if_neg (hL x List.mem_cons_self)]
   rw [List.nodup_cons] at h
   rw [onto_nodup h.2 fun y hy => by
     rw [List.mem_cons]
     rintro (rfl | hz)
     · exact h.1 hy
     · exact hL y (List.mem_cons_of_mem _ hy) hz]
   simp; omega
theorem Near.alike {s : Sof} (h : Near s) : alikeS s = false := by
 unfold alikeS
 have := onto_nodup (L := []) h.names fun _ _ z => nomatch z
 have e : (namesS s).length = s.length := List.length_map _
 exact decide_eq_false (by rw [this, e]; simp)
theorem minI_ge {b : Int} : ∀ {l : List Int}, 0 < l.length → (∀ x ∈ l, b ≤ x) → b ≤ minI l
 | [], h, _ => absurd h (by simp)
 | [a], _, h => h a List.mem_cons_self
 | a :: c :: l, _, h => by
   show b ≤ min a (minI (c :: l))
   have := h a List.mem_cons_self
   have := minI_ge (l := c :: l) (by simp) fun x hx => h x (List.mem_cons_of_mem _ hx)
   omega
theorem Near.least {s : Sof} (h : Near s) : 1 ≤ leastL s := minI_ge (by have := h.two; rw [List.length_map]; omega) fun x hx => by
 obtain ⟨p, hp, rfl⟩ := List.mem_map.mp hx
 exact (h.good p hp).2.2.2
abbrev sides2 : List Str := ["give", "take"]
abbrev sides3 : List Str := ["give", "take", "bear"]
end
section
variable {S : Sto} {Q : D → Sto → Prop} {E : Exn → Sto → Prop} {φ : Nat → Fn} {dm : DefM}
section
variable {g : Tgt} {te : M D} {tt : M Bool} {vs : List Nat} {env : Envr} {S : Sto} {Q : List D → Envr → Sto → Prop}
theorem w_compT {α : Type} {xs : List α} {fd : α → D} (p : α → Bool) (h : α → D) (hl : xs.length ≤ sizeLine)
   (step : ∀ x ∈ xs, ∃ e1, g (fd x) (wipeE env vs) = some e1 ∧ Wp tt e1 S (fun t e s => t = p x ∧ s = S ∧ (t = true → Wp te e s (fun y e s => y = h x ∧ s = S ∧ wipeE e vs = wipeE env vs) nE) ∧ (t = false → wipeE e vs = wipeE env vs)) nE)
   (q : Q ((xs.filter p).map h) (wipeE env vs) S) : (xs.map fd).length ≤ sizeLine ∧ ∃ acc e' s', compL (xs.map fd, none) g tt te vs (xs.map fd) [] (wipeE env vs) S = .ok acc e' s' ∧ Q acc e' s' := by
 refine ⟨by rw [List.length_map]; exact hl, w_compL rfl (fun r acc e s => e = wipeE env vs ∧ s = S ∧ ∃ m : List α, r = m.map fd ∧ (∀ d ∈ m, d ∈ xs) ∧ acc ++ (m.filter p).map h = (xs.filter p).map h) Q (fun d r acc e s ⟨h1, h2, m, h3, h4, h5⟩ => ?_) (fun acc e s ⟨h1, h2, m, h3, h4, h5⟩ => ?_) _ [] _ _ ⟨rfl, rfl, xs, rfl, fun _ h => h, rfl⟩⟩
 · cases m with
   | nil => cases h3
   | cons x m =>
     rw [List.map_cons] at h3
     injection h3 with h3 h3'
     subst h1 h2 h3 h3'
     obtain ⟨e1, k1, k2⟩ := step x (h4 x List.mem_cons_self)
     refine ⟨e1, k1, ?_⟩
     have hr := fun d hd => h4 d (List.mem_cons_of_mem _ hd)
     delta Wp at *
     refine k2.mono (fun t e s ⟨z1, z2, z3, z4⟩ => ?_) fun _ _ _ q => q
     subst z1 z2
     refine ⟨fun ht => ?_, fun ht => ⟨z4 ht, rfl, m, rfl, hr, by rw [← h5, List.filter_cons, ht]; rfl⟩⟩
     exact (z3 ht).mono (fun y e s ⟨u1, u2, u3⟩ => ⟨u3, u2, m, rfl, hr, by subst u1; rw [← h5, List.filter_cons, ht, if_pos rfl, List.map_cons, List.append_assoc]; rfl⟩) fun _ _ _ q => q
 · have : m = [] := by cases m with | nil => rfl | cons x m => cases h3
   subst h1 h2 this
   rw [show acc = (xs.filter p).map h by rw [← h5]; simp]
   exact q
end
structure SetW (s : Sof) : Prop where
 sides : s.map (fun p => p.1.side) = sides2 ∨ s.map (fun p => p.1.side) = sides3
 good : ∀ p ∈ s, p.1.good ∧ 1 ≤ p.2 ∧ p.2 ≤ p.1.many ∧ isN p.1.till = true
theorem SetW.two {s : Sof} (h : SetW s) : s.length = 2 ∨ s.length = 3 := by
 rcases h.sides with e | e <;> (have := congrArg List.length e; rw [List.length_map] at this; simp at this; omega)
theorem SetW.ok {s : Sof} (h : SetW s) : SetOk 3 s := ⟨h.two, fun p hp => ⟨(h.good p hp).1.fine, (h.good p hp).1.deep⟩, fun p hp => (h.good p hp).1.card.few⟩
theorem SetW.nd {s : Sof} (h : SetW s) : (s.map fun p => p.1.side).Nodup := by
 rcases h.sides with e | e <;> rw [e] <;> decide +kernel
theorem SetW.side {s : Sof} (h : SetW s) {p : Ofr × Int} (hp : p ∈ s) : p.1.side ∈ sides3 := by
 have : p.1.side ∈ s.map fun p => p.1.side := List.mem_map_of_mem hp
 rcases h.sides with e | e <;> rw [e] at this
 · exact List.mem_of_mem_take (i := 2) this
 · exact this
end
end L2.MP
end
section
namespace L2.MP
open PySem PySem.Spec PyProof.Rows L2.MP
local macro_rules
 | `(tactic| trivial) => `(tactic| first
   | refine w_seq ?_ | refine w_set ?_ | refine w_setOwn ?_ | refine w_setHp ?_ | refine w_retS ?_ | refine w_retHp ?_ | refine w_ite ?_ | refine w_expr ?_ | refine w_asg ?_ | refine w_setIx ?_ | refine w_mut ?_ | refine w_hp ?_
   | refine w_lm1 ?_ | refine w_bl ?_ | refine w_op2 ?_ | refine w_op1 ?_ | refine w_opF1 ?_ | refine w_opF2 ?_ | refine w_chainP ?_ | refine w_and ?_ | refine w_or ?_ | refine w_not ?_ | refine w_notT ?_ | refine w_andT ?_
   | refine w_orT ?_ | refine w_tru ?_ | refine w_fz ?_ | refine w_lst ?_ | refine w_tup ?_ | refine w_cons ?_ | refine w_nil ?_ | refine w_sl ?_ | refine w_slF ?_ | refine w_part ?_ | refine w_part0 ?_ | refine w_sm0 ?_
   | refine w_sm1 ?_ | refine w_disp ?_ | refine w_pr ?_ | refine w_pr0 ?_ | refine w_for ?_ | refine w_walk ?_ | refine w_rng1 ?_ | refine w_rng2 ?_ | refine w_enum ?_ | refine w_zip ?_ | refine w_fn ?_ | refine w_comp ?_
   | refine w_count ?_ | refine w_raise0 ?_ | refine w_raise1 ?_ | refine w_augIx ?_ | refine w_var rfl ?_ | refine w_peek rfl ?_ | refine w_peekO rfl ?_ | refine w_varO rfl rfl ?_ | refine w_ret ?_)
local macro_rules
 | `(tactic| trivial) => `(tactic| first
   | refine Rl.go ?_ | ((with_reducible apply w_var); exact rfl) | ((with_reducible apply w_peek); exact rfl) | ((with_reducible apply w_peekO); exact rfl) | ((with_reducible apply w_varO); exact rfl; exact rfl)
   | with_reducible (first | refine w_hp ?_ | refine w_lm1 ?_ | refine w_enum ?_ | refine w_count ?_ | refine w_raise0 ?_ | refine w_raise1 ?_ | refine w_augIx ?_)
   | refine ⟨_, ix0, ?_⟩ | refine ⟨_, ix1, ?_⟩ | refine ⟨_, ix2, ?_⟩ | refine ⟨_, ix3, ?_⟩ | refine rg_and ?_ | refine ⟨_, rfl, ?_⟩ | refine ⟨rfl, ?_⟩ | refine ⟨Nat.le_of_ble_eq_true rfl, ?_⟩ | refine ⟨fun _ => ?_, fun h => Bool.noConfusion (show true = false from h)⟩ | refine ⟨fun h => Bool.noConfusion (show false = true from h), fun _ => ?_⟩)
section
def ltN : D → D → Bool
 | .int i, .int j => decide (i < j)
 | _, _ => false
def qtD : D → Bool
 | .tup [a, b] => isND a && (isND b && ltN a b)
 | _ => false
abbrev Qt := Int × Int
def qtE (p : Qt) : D := .tup [.int p.1, .int p.2]
def gapAt (ps : List Qt) (k : Nat) : Bool := match ps[k]?, ps[k + 1]? with
 | some p, some q => decide (p.2 < q.1)
 | _, _ => false
def gapB (ps : List Qt) : Bool := (List.range (ps.length - 1)).all (gapAt ps)
def qtP : D → Qt
 | .tup [.int a, .int b] => (a, b)
 | _ => (0, 0)
theorem qtP_map (ps : List Qt) : (ps.map qtE).map qtP = ps := by
 rw [List.map_map]
 conv => rhs; rw [← List.map_id ps]
 rfl
def quietD : D → Bool
 | .tup l => !(decide ((8 : Int) < (l.length : Nat))) && (l.all qtD && gapB (l.map qtP))
 | _ => false
end
section
def isStrD : D → Bool
 | .str _ => true
 | _ => false
theorem isi_str' {d : D} (h : Flat d) : isiD "str" d = some (.bl (isStrD d)) := by
 have h := h.t
 cases d <;> first | (cases h; done) | rfl | kernel_rfl
theorem all_strs : ∀ {l : List D}, l.all isStrD = true → ∃ xs : List Str, l = xs.map D.str
 | [], _ => ⟨[], rfl⟩
 | x :: l, h => by
   rw [List.all_cons, Bool.and_eq_true] at h
   obtain ⟨xs, rfl⟩ := all_strs h.2
   cases x <;> simp only [isStrD] at h <;> try (exact absurd h.1 (by decide))
   rename_i s
   exact ⟨s :: xs, rfl⟩
theorem lset_tup {l : List Str} (h : l.length < 64) : lsetD (.tup (l.map D.str)) = some (.int (onto l []).length) := by
 show (if (l.map D.str).length < 64 then _ else none) = _
 rw [if_pos (by rw [List.length_map]; exact h), getStrs_map]
theorem len_eqb (a b : Nat) : (false != eqD (.int (a : Nat)) (.int (b : Nat))) = decide (a = b) := by
 show (false != ((a : Int) == (b : Int))) = _
 by_cases h : a = b
 · subst h; simp
 · have : ((a : Int) == (b : Int)) = false := by
     apply beq_eq_false_iff_ne.mpr
     omega
   rw [this, decide_eq_false h]; rfl
def unlikeD (m : Int) : D → Bool
 | .tup l => !(decide (m < (l.length : Nat))) && (l.all isStrD && decide ((onto (strsOf l) []).length = l.length))
 | _ => false
def unlikeWB (φ : Nat → Fn) : M Flo :=
 (dSeq (dIf (dOrT (dNotT (dTru (dOp1 (isiD "tuple") (dPeek 0)))) (dBl (dOp2 gtD (dOp1 lenD (dPeek 0)) (dPeek 1)))) (dRet (M.ret (D.bl false))) (M.ret .nx))
 (dSeq (dIf (dNotT (dTru (dOp1 allD (dFz (dComp (dWalk (dVar 0)) (gNm 2) (M.ret true) (dOp1 (isiD "str") (dPeek 2)) [2]))))) (dRet (M.ret (D.bl false))) (M.ret .nx))
 (dRet (dOp2 (cmpEq false) (dOp1 lsetD (dPeek 0)) (dOp1 lenD (dPeek 0))))))
def UwOk (F : Fn) : Prop := ∀ (d : D) (m : Int) (S : Sto) (Q : D → Sto → Prop) (E : Exn → Sto → Prop), PlX d → m ≤ 50 → Q (.bl (unlikeD m d)) S → Wc (F [d, .int m] S) Q E
theorem unlikeW_ok (h1 : dm.ps.length = 2) (h2 : dm.C.N.length = 3) : UwOk (runD dm (unlikeWB φ)) := fun d m S Q E hd hm q => by
 refine w_def (by rw [h1]; rfl) [.val d, .val (.int m), .no] (by rw [h2]; rfl) ?_
 unfold unlikeWB
 obtain ⟨n, h⟩ := id hd
 cases d with
 | tup l =>
   have e : unlikeD m (.tup l) = (!(decide (m < (l.length : Nat))) && (l.all isStrD && decide ((onto (strsOf l) []).length = l.length))) := rfl
   repeat trivial
   refine br_dec (fun h6 => ?_) (fun h6 => ?_)
   · rw [e, decide_eq_true h6] at q
     repeat trivial
   · rw [e, decide_eq_false h6, Bool.not_false, Bool.true_and] at q
     repeat trivial
     refine w_compM (l := l) (fun d => .bl (isStrD d)) (few_line (by omega)) (fun d hd' => ?_) ?_
     · refine ⟨_, rfl, ?_⟩
       refine w_op1 (w_peek rfl ⟨_, by rw [(px_mem hd d hd').flat.view]; exact isi_str' (px_mem hd d hd').flat, ?_⟩)
       repeat trivial
     · repeat trivial
       refine ⟨_, all_map isStrD l, _, rfl, ?_⟩
       cases ea : l.all isStrD with
       | false =>
         rw [ea] at q
         repeat trivial
       | true =>
         rw [ea, Bool.true_and] at q
         obtain ⟨xs, rfl⟩ := all_strs ea
         rw [strsOf_map] at q
         rw [List.length_map] at h6
         repeat trivial
         refine ⟨_, lset_tup (by omega), ?_⟩
         repeat trivial
         show Q (.bl (false != eqD (.int ((onto xs []).length : Nat)) (.int ((xs.map D.str).length : Nat)))) S
         rw [len_eqb]
         exact q
 | non => repeat trivial
 | bl b => repeat trivial
 | int i => repeat trivial
 | str s => repeat trivial
 | lst l => repeat trivial
 | dk a b => repeat trivial
 | dt a b => repeat trivial
 | _ => cases n <;> cases h
def eltsD : D → List D
 | .tup l => l
 | _ => []
def ruleDs : List D := [D.str "heavy", D.str "great", D.str "small", D.str "soon"]
def ruleD (d : D) : Bool := unlikeD 3 d && (eltsD d).all (fun x => memD x ruleDs)
def borneD (d : D) : Bool := unlikeD 4 d && (eltsD d).all isWD
def isRuleB (φ : Nat → Fn) (c_uw : Nat) : M Flo :=
 (dRet (dAnd (dFn φ c_uw 2 (dArgs [(dVar 0), (M.ret (D.int 3))])) (dOp1 allD (dFz (dComp (dWalk (dVar 0)) (gNm 1) (M.ret true) (dOp2 (inF false) (dPeek 1) (M.ret (D.rt [(D.str "heavy"), (D.str "great"), (D.str "small"), (D.str "soon")]))) [1])))))
def areBorneB (φ : Nat → Fn) (c_uw c_is_word : Nat) : M Flo :=
 (dRet (dAnd (dFn φ c_uw 2 (dArgs [(dVar 0), (M.ret (D.int 4))])) (dOp1 allD (dFz (dComp (dWalk (dVar 0)) (gNm 1) (M.ret true) (dFn φ c_is_word 1 (dArgs [(dVar 1)])) [1])))))
theorem unlikeD_tup {m : Int} {d : D} (h : unlikeD m d = true) : ∃ xs : List Str, d = .tup (xs.map D.str) ∧ (xs.length : Int) ≤ m := by
 unfold unlikeD at h
 split at h
 · rw [Bool.and_eq_true, Bool.and_eq_true] at h
   obtain ⟨xs, rfl⟩ := all_strs h.2.1
   refine ⟨xs, rfl, ?_⟩
   have := h.1
   rw [List.length_map] at this
   simpa using this
 · cases h
theorem isRule_ok (h1 : dm.ps.length = 1) (h2 : dm.C.N.length = 2) {cu : Nat} (hu : UwOk (φ cu)) : PF (runD dm (isRuleB φ cu)) PlX (fun d => .bl (ruleD d)) := fun d S Q E hd q => by
 have q : Q (.bl (ruleD d)) S := q
 unfold ruleD at q
 refine w_def (by rw [h1]; rfl) [.val d, .no] (by rw [h2]; rfl) ?_
 unfold isRuleB
 repeat trivial
 refine hu _ _ _ _ _ hd (by decide) ?_
 cases eu : unlikeD 3 d with
 | false => rw [eu] at q; repeat trivial
 | true =>
   rw [eu, Bool.true_and] at q
   obtain ⟨xs, rfl, hl⟩ := unlikeD_tup eu
   repeat trivial
   refine w_compM (l := xs.map D.str) (fun d => .bl (memD d ruleDs)) (few_line (by rw [List.length_map]; omega)) (fun d hd' => ?_) ?_
   · obtain ⟨x, _, rfl⟩ := List.mem_map.mp hd'
     refine ⟨_, rfl, ?_⟩
     have e : inF false (.str x) (.rt ruleDs) = some (.bl (memD (.str x) ruleDs)) := by
       show Option.map _ (inD _ _) = _
       show Option.map _ (some (memD (.str x) ruleDs)) = _
       cases memD (.str x) ruleDs <;> rfl
     refine w_op2 (w_peek rfl (w_ret ⟨_, e, ?_⟩))
     repeat trivial
   · repeat trivial
     refine ⟨_, all_map (fun d => memD d ruleDs) _, ?_⟩
     exact q
theorem areBorne_ok (h1 : dm.ps.length = 1) (h2 : dm.C.N.length = 2) {cu cw : Nat} (hu : UwOk (φ cu)) (hw : PF (φ cw) Flat (fun d => .bl (isWD d))) : PF (runD dm (areBorneB φ cu cw)) PlX (fun d => .bl (borneD d)) := fun d S Q E hd q => by
 have q : Q (.bl (borneD d)) S := q
 unfold borneD at q
 refine w_def (by rw [h1]; rfl) [.val d, .no] (by rw [h2]; rfl) ?_
 unfold areBorneB
 repeat trivial
 refine hu _ _ _ _ _ hd (by decide) ?_
 cases eu : unlikeD 4 d with
 | false => rw [eu] at q; repeat trivial
 | true =>
   rw [eu, Bool.true_and] at q
   obtain ⟨xs, rfl, hl⟩ := unlikeD_tup eu
   repeat trivial
   refine w_compM (l := xs.map D.str) (fun d => .bl (isWD d)) (few_line (by rw [List.length_map]; omega)) (fun y hy => ?_) ?_
   · refine ⟨_, rfl, ?_⟩
     repeat trivial
     refine pf_at hw (px_mem hd y hy).flat rfl ?_
     repeat trivial
   · repeat trivial
     refine ⟨_, all_map isWD _, ?_⟩
     exact q
end
section
def ltL : List Int → List Int → Bool
 | [], [] => false
 | [], _ :: _ => true
 | _ :: _, [] => false
 | a :: x, b :: y => decide (a < b) || (decide (a = b) && ltL x y)
def leL (a b : List Int) : Bool := !ltL b a
def tupI (l : List Int) : D := .tup (l.map D.int)
abbrev Rk := List Int × List Int
def ltR (a b : Rk) : Bool := ltL a.1 b.1 || (decide (a.1 = b.1) && ltL a.2 b.2)
def leR (a b : Rk) : Bool := !ltR b a
theorem ltL_irrefl : ∀ a : List Int, ltL a a = false
 | [] => rfl
 | a :: x => by simp [ltL, ltL_irrefl x]
structure Wt where
 n : Int
 o : Ofr
 l : Int
def rkW (w : Wt) (x : Str) : Int := if x = "heavy" then 0 - w.o.weight else if x = "great" then 0 - w.l else if x = "small" then w.l else w.o.till
def rankL (rule : List Str) (w : Wt) : List Int := rule.map (rkW w) ++ [w.n]
variable {S : Sto} {Q : D → Sto → Prop} {E : Exn → Sto → Prop} {φ : Nat → Fn} {dm : DefM}
theorem app_one {T : Type} {enc : T → D} {F : List T} {x : T} (h : F.length < sizeLine) : appF (.lst (F.map enc)) [enc x] = some (.lst ((F ++ [x]).map enc), .non) := by
 unfold appF
 dsimp only
 rw [if_pos (by rw [List.length_map]; exact h)]; simp
theorem s10 : (1000000 : Nat) ≤ sizeLine := by decide
def rowRanks (rule : List Str) (ws : List Wt) : List (List Int) := (ws.map (rankL rule)).mergeSort leL
def rowL (rule : List Str) (ws : List Wt) : List Int := (rowRanks rule ws).map fun r => r.getLast?.getD 0
end
section
variable {S : Sto} {Q : D → Sto → Prop} {E : Exn → Sto → Prop} {φ : Nat → Fn} {dm : DefM}
def sideL (ws : List Wt) (sd kd : Str) : List Int := (ws.filter fun w => decide (w.o.side = sd) && decide (w.o.card.kind = kd)).map (·.n)
theorem sideL_mem {ws : List Wt} {sd kd : Str} {n : Int} : n ∈ sideL ws sd kd ↔ ∃ w ∈ ws, w.n = n ∧ w.o.side = sd ∧ w.o.card.kind = kd := by
 unfold sideL
 rw [List.mem_map]
 constructor
 · rintro ⟨w, hw, rfl⟩
   obtain ⟨h1, h2⟩ := List.mem_filter.mp hw
   rw [Bool.and_eq_true, decide_eq_true_eq, decide_eq_true_eq] at h2
   exact ⟨w, h1, rfl, h2.1, h2.2⟩
 · rintro ⟨w, hw, rfl, h1, h2⟩
   exact ⟨w, List.mem_filter.mpr ⟨hw, by rw [decide_eq_true h1, decide_eq_true h2]; rfl⟩, rfl⟩
def kindsL (ws : List Wt) : List Str := sortS (onto (ws.map fun w => w.o.card.kind) [])
theorem kindsL_mem {ws : List Wt} {k : Str} : k ∈ kindsL ws ↔ ∃ w ∈ ws, w.o.card.kind = k := by
 unfold kindsL
 rw [sortS_mem, onto_mem, List.mem_map]
 simp
def setsT (borne : List Str) (ws : List Wt) (k : Str) (g t : Int) : List (List Int) := if k ∈ borne then (sideL ws "bear" k).map fun b => [g, t, b] else [[g, t]]
def setsG (borne : List Str) (ws : List Wt) (k : Str) (g : Int) : List (List Int) := (sideL ws "take" k).flatMap (setsT borne ws k g)
def setsK (borne : List Str) (ws : List Wt) (k : Str) : List (List Int) := (sideL ws "give" k).flatMap (setsG borne ws k)
def setsRaw (borne : List Str) (ws : List Wt) : List (List Int) := (kindsL ws).flatMap (setsK borne ws)
def setsL (borne : List Str) (ws : List Wt) : List (List Int) := (setsRaw borne ws).mergeSort leL
theorem setsRaw_mem {borne : List Str} {ws : List Wt} {s : List Int} : s ∈ setsRaw borne ws ↔ ∃ k g t, g ∈ sideL ws "give" k ∧ t ∈ sideL ws "take" k ∧ ((k ∈ borne ∧ ∃ b ∈ sideL ws "bear" k, s = [g, t, b]) ∨ (k ∉ borne ∧ s = [g, t])) := by
 unfold setsRaw setsK setsG setsT
 constructor
 · intro h
   obtain ⟨k, hk, h⟩ := List.mem_flatMap.mp h
   obtain ⟨g, hg, h⟩ := List.mem_flatMap.mp h
   obtain ⟨t, ht, h⟩ := List.mem_flatMap.mp h
   refine ⟨k, g, t, hg, ht, ?_⟩
   split at h
   · rename_i hb
     obtain ⟨b, hb', rfl⟩ := List.mem_map.mp h
     exact .inl ⟨hb, b, hb', rfl⟩
   · rename_i hb
     simp at h
     exact .inr ⟨hb, h⟩
 · rintro ⟨k, g, t, hg, ht, h⟩
   have hk : k ∈ kindsL ws := by
     obtain ⟨w, hw, _, _, e⟩ := sideL_mem.mp hg
     exact kindsL_mem.mpr ⟨w, hw, e⟩
   refine List.mem_flatMap.mpr ⟨k, hk, List.mem_flatMap.mpr ⟨g, hg, List.mem_flatMap.mpr ⟨t, ht, ?_⟩⟩⟩
   rcases h with ⟨hb, b, hb', rfl⟩ | ⟨hb, rfl⟩
   · rw [if_pos hb]; exact List.mem_map.mpr ⟨b, hb', rfl⟩
   · rw [if_neg hb]; exact List.mem_cons_self
theorem setsL_mem {borne : List Str} {ws : List Wt} {s : List Int} : s ∈ setsL borne ws ↔ s ∈ setsRaw borne ws := List.mem_mergeSort
end
section
variable {S : Sto} {Q : D → Sto → Prop} {E : Exn → Sto → Prop} {φ : Nat → Fn} {dm : DefM}
def zipI : Nat → List Int → List (Nat × Int)
 | _, [] => []
 | k, x :: l => (k, x) :: zipI (k + 1) l
def swapP (p : Nat × Int) : Int × Nat := (p.2, p.1)
def placesL (row : List Int) : List (Int × Nat) := (zipI 0 row).map swapP
def placeOf (row : List Int) (n : Int) : Nat := (((placesL row).find? fun p => decide (p.1 = n)).map (·.2)).getD 0
theorem find_of {T : Type} {l : List (Int × T)} {n : Int} (h : n ∈ l.map (·.1)) : ∃ p, (l.find? fun p => decide (p.1 = n)) = some p ∧ p ∈ l ∧ p.1 = n := by
 cases e : l.find? fun p => decide (p.1 = n) with
 | none =>
   obtain ⟨p, hp, rfl⟩ := List.mem_map.mp h
   have := List.find?_eq_none.mp e p hp
   simp at this
 | some p => exact ⟨p, rfl, List.mem_of_find?_eq_some e, by simpa using List.find?_some e⟩
def onP (w : Wt) : Int × (Ofr × Int) := (w.n, (w.o, w.l))
def sofOf (ws : List Wt) (s : List Int) : Sof := s.filterMap fun n => ((ws.map onP).find? fun p => decide (p.1 = n)).map (·.2)
def rkOf (row : List Int) (s : List Int) : Rk := (sortI (s.map fun n => (placeOf row n : Int)), s)
def ranksL (rule borne : List Str) (ws : List Wt) : List Rk := ((setsL borne ws).map (rkOf (rowL rule ws))).mergeSort leR
def firstR (rule borne : List Str) (ws : List Wt) : Option Rk := (ranksL rule borne ws).find? fun r => decide (0 < partS (sofOf ws r.2))
structure WsOk (n : Nat) (ws : List Wt) : Prop where
 len : ws.length ≤ 63
 nd : (ws.map (·.n)).Nodup
 wish : ∀ w ∈ ws, w.o.wish.fine = true ∧ w.o.wish.deep ≤ n
 card : ∀ w ∈ ws, w.o.card.few
theorem sof_at {ws : List Wt} {n : Int} (h : n ∈ ws.map (·.n)) : ∃ w ∈ ws, w.n = n ∧ ((ws.map onP).find? fun p => decide (p.1 = n)) = some (onP w) := by
 have ef : (ws.map onP).map (·.1) = ws.map (·.n) := by rw [List.map_map]; rfl
 obtain ⟨p, e, hp, hn⟩ := find_of (l := ws.map onP) (n := n) (by rw [ef]; exact h)
 obtain ⟨w, hw, rfl⟩ := List.mem_map.mp hp
 exact ⟨w, hw, hn, e⟩
theorem sof_cons {ws : List Wt} {n : Int} {s : List Int} {w : Wt} (e : ((ws.map onP).find? fun p => decide (p.1 = n)) = some (onP w)) : sofOf ws (n :: s) = (w.o, w.l) :: sofOf ws s := by
 unfold sofOf
 rw [List.filterMap_cons, e]; rfl
theorem sof_len {ws : List Wt} : ∀ {s : List Int}, (∀ n ∈ s, n ∈ ws.map (·.n)) → (sofOf ws s).length = s.length ∧ ∀ p ∈ sofOf ws s, ∃ w ∈ ws, p = (w.o, w.l)
 | [], _ => ⟨rfl, fun _ h => nomatch h⟩
 | n :: s, h => by
   obtain ⟨w, hw, _, e⟩ := sof_at (h n List.mem_cons_self)
   obtain ⟨i1, i2⟩ := sof_len fun m hm => h m (List.mem_cons_of_mem _ hm)
   rw [sof_cons e]
   refine ⟨by rw [List.length_cons, i1, List.length_cons], fun p hp => ?_⟩
   rcases List.mem_cons.mp hp with rfl | hp
   · exact ⟨w, hw, rfl⟩
   · exact i2 p hp
theorem sets_num {borne : List Str} {ws : List Wt} {s : List Int} (h : s ∈ setsRaw borne ws) : (s.length = 2 ∨ s.length = 3) ∧ ∀ n ∈ s, n ∈ ws.map (·.n) := by
 have mem : ∀ {sd kd n}, n ∈ sideL ws sd kd → n ∈ ws.map (·.n) := fun h => by
   obtain ⟨w, hw, rfl, _⟩ := sideL_mem.mp h
   exact List.mem_map_of_mem hw
 obtain ⟨k, g, t, hg, ht, h⟩ := setsRaw_mem.mp h
 rcases h with ⟨_, b, hb, rfl⟩ | ⟨_, rfl⟩
 · refine ⟨.inr rfl, fun n hn => ?_⟩
   simp only [List.mem_cons, List.not_mem_nil, or_false] at hn
   rcases hn with rfl | rfl | rfl
   · exact mem hg
   · exact mem ht
   · exact mem hb
 · refine ⟨.inl rfl, fun n hn => ?_⟩
   simp only [List.mem_cons, List.not_mem_nil, or_false] at hn
   rcases hn with rfl | rfl
   · exact mem hg
   · exact mem ht
theorem WsOk.set {n : Nat} {ws : List Wt} (h : WsOk n ws) {borne : List Str} {s : List Int} (hs : s ∈ setsRaw borne ws) : SetOk n (sofOf ws s) := by
 obtain ⟨h1, h2⟩ := sets_num hs
 obtain ⟨i1, i2⟩ := sof_len h2
 exact ⟨by rw [i1]; exact h1, fun p hp => by obtain ⟨w, hw, rfl⟩ := i2 p hp; exact h.wish w hw, fun p hp => by obtain ⟨w, hw, rfl⟩ := i2 p hp; exact h.card w hw⟩
theorem rowL_mem {rule : List Str} {ws : List Wt} {n : Int} : n ∈ rowL rule ws ↔ n ∈ ws.map (·.n) := by
 unfold rowL rowRanks
 rw [List.mem_map, List.mem_map]
 constructor
 · rintro ⟨r, hr, rfl⟩
   obtain ⟨w, hw, rfl⟩ := List.mem_map.mp (List.mem_mergeSort.mp hr)
   exact ⟨w, hw, by unfold rankL; simp⟩
 · rintro ⟨w, hw, rfl⟩
   exact ⟨rankL rule w, List.mem_mergeSort.mpr (List.mem_map_of_mem hw), by unfold rankL; simp⟩
end
section
variable {S : Sto} {Q : D → Sto → Prop} {E : Exn → Sto → Prop} {φ : Nat → Fn} {dm : DefM}
def ruleWs : List Str := ["heavy", "great", "small", "soon"]
structure RuleOk (rule : List Str) : Prop where
 len : rule.length ≤ 3
 mem : ∀ x ∈ rule, x ∈ ruleWs
 nd : rule.Nodup
def ruleTB (φ : Nat → Fn) (c_draw : Nat) : M Flo :=
 (dSeq (dSetOwn 1 (dLst (dArgs [(M.ret (D.str "heavy")), (M.ret (D.str "great")), (M.ret (D.str "small")), (M.ret (D.str "soon"))])))
 (dSeq (dSetOwn 2 (dLst (dArgs [])))
 (dSeq (dFor (dRng1 (dOp2 ixD (dFz (dLst (dArgs [(M.ret (D.int 0)), (M.ret (D.int 1)), (M.ret (D.int 1)), (M.ret (D.int 2)), (M.ret (D.int 3))]))) (dFn φ c_draw 2 (dArgs [(dVar 0), (M.ret (D.int 5))])))) (gNm 3) (dExpr (dMut appF (dPeek 2) (dArgs [(dMut popAtF (dPeek 1) (dArgs [(dFn φ c_draw 2 (dArgs [(dVar 0), (dOp1 lenD (dPeek 1))]))]))]))))
 (dRet (dOp1 tupleD (dPeek 2))))))
def DrX {α : Type} (F : Fn) (enc : α → D) (P : α → Prop) : Prop := ∀ (i : Nat) (S0 S : Sto) (Q : D → Sto → Prop) (E : Exn → Sto → Prop), Well i S0 S → (∀ x S', P x → Well i S0 S' → Q (enc x) S') → Wc (F [.ref i] S) Q E
def strsT (l : List Str) : D := .tup (l.map D.str)
theorem popAt_x {T : Type} {enc : T → D} {L : List T} {x : Nat} (hx : x < L.length) (hz : x < 1000000) : popAtF (.lst (L.map enc)) [.int (x : Nat)] = some (.lst ((L.eraseIdx x).map enc), enc L[x]) := by
 have h1 : -(2 ^ 63) ≤ ((x : Nat) : Int) ∧ ((x : Nat) : Int) < 2 ^ 63 := ⟨by omega, by omega⟩
 unfold popAtF
 dsimp only
 rw [if_pos h1]
 have e1 : seqIndex? ((x : Nat) : Int) (L.map enc).length = some x := by
   rw [List.length_map]
   unfold seqIndex?
   have : ¬ ((x : Nat) : Int) < 0 := by omega
   simp [this, hx]
 rw [e1]
 show ((L.map enc)[x]?).map _ = _
 rw [List.getElem?_map, List.getElem?_eq_getElem hx]
 simp [List.eraseIdx_eq_take_drop_succ, List.map_take, List.map_drop]
theorem erase_perm {T : Type} {L F : List T} {x : Nat} (hx : x < L.length) : (F ++ [L[x]] ++ L.eraseIdx x).Perm (F ++ L) := by
 rw [List.append_assoc]
 refine List.Perm.append_left F ?_
 rw [List.eraseIdx_eq_take_drop_succ]
 have e := (List.perm_middle (a := L[x]) (l₁ := L.take x) (l₂ := L.drop (x + 1))).symm
 rw [← List.drop_eq_getElem_cons hx, List.take_append_drop] at e
 exact e
theorem ruleT_ok (h1 : dm.ps.length = 1) (h2 : dm.C.N.length = 4) {dr : Nat} (hd : PkW (φ dr)) : DrX (runD dm (ruleTB φ dr)) strsT RuleOk := fun i S0 S Q E hw q => by
 have z := s10
 refine w_def (by rw [h1]; rfl) [.val (.ref i), .no, .no, .no] (by rw [h2]; rfl) ?_
 unfold ruleTB
 repeat trivial
 refine hd i _ S0 _ _ _ hw (by decide) (by decide) fun r S1 r0 r1 hw => ?_
 obtain ⟨d, e, hd'⟩ := at_some (l := [.int 0, .int 1, .int 1, .int 2, .int 3]) r0 r1
 obtain ⟨m, rfl, m1⟩ : ∃ m : Nat, d = .int (m : Nat) ∧ m ≤ 3 := by
   simp only [List.mem_cons, List.not_mem_nil, or_false] at hd'
   rcases hd' with rfl | rfl | rfl | rfl | rfl
   · exact ⟨0, rfl, by decide⟩
   · exact ⟨1, rfl, by decide⟩
   · exact ⟨1, rfl, by decide⟩
   · exact ⟨2, rfl, by decide⟩
   · exact ⟨3, rfl, by decide⟩
 refine ⟨_, e, ?_⟩
 haveI : RgB (m : Nat) := ⟨by simp [rgB]; omega⟩
 repeat trivial
 refine w_loopA (mk := fun p : List Str × List Str => [.val (.ref i), .own (.lst (p.1.map D.str)), .own (.lst (p.2.map D.str)), .no]) [3] (fun l p s => Well i S0 s ∧ (p.2 ++ p.1).Perm ruleWs ∧ p.2.length + l.length ≤ 3) (ruleWs, []) rfl ⟨hw, by simp, by rw [upto_len]; simp; omega⟩ ⟨_, rfl⟩ (fun d l p s e ⟨hw, hp, hl⟩ ⟨s3, he⟩ => ?_) (fun p s e ⟨hw, hp, hl⟩ ⟨s3, he⟩ => ?_)
 · obtain ⟨L, F⟩ := p
   subst he
   have hlen : F.length + L.length = 4 := by have := hp.length_eq; simpa [ruleWs] using this
   rw [List.length_cons] at hl
   dsimp only at hl
   refine ⟨_, rfl, ?_⟩
   repeat trivial
   refine ⟨⟨_, rfl⟩, ?_⟩
   repeat trivial
   refine ⟨⟨_, rfl⟩, ?_⟩
   repeat trivial
   dsimp only
   rw [List.length_map]
   refine hd i _ S0 s _ _ hw (by omega) (by omega) fun x S2 x0 x1 hw => ?_
   obtain ⟨x, rfl⟩ := Int.eq_ofNat_of_zero_le x0
   have hx : x < L.length := by omega
   repeat trivial
   refine ⟨_, _, _, _, rfl, popAt_x (enc := D.str) hx (by omega), rfl, ?_⟩
   refine w_nil ?_
   refine ⟨_, _, _, _, rfl, app_one (enc := D.str) (by omega), rfl, ?_⟩
   exact ⟨(L.eraseIdx x, F ++ [L[x]]), ⟨_, rfl⟩, hw, (erase_perm hx).trans hp, by rw [List.length_append]; simp; omega⟩
 · obtain ⟨L, F⟩ := p
   subst he
   repeat trivial
   have nd : (F ++ L).Nodup := hp.nodup_iff.mpr (by decide +kernel)
   exact q F s ⟨by simpa using hl, fun x hx => hp.mem_iff.mp (List.mem_append_left _ hx), (List.nodup_append.mp nd).1⟩ hw
def BorneOk (b : List Str) : Prop := b.length ≤ 4 ∧ b.Nodup ∧ ∀ x ∈ b, isW x = true
structure WtG (w : Wt) : Prop where
 good : w.o.good
 side : w.o.side = "give" ∨ w.o.side = "take" ∨ w.o.side = "bear"
 kind : w.o.card.kind = "rye" ∨ w.o.card.kind = "oat" ∨ w.o.card.kind = "o"
 l1 : 1 ≤ w.l
 l2 : w.l ≤ w.o.many
structure WsG (m : Nat) (ws : List Wt) : Prop where
 each : ∀ w ∈ ws, WtG w
 rise : ws.Pairwise fun a b => a.n < b.n
 len : ws.length ≤ m
theorem WsG.nd {m : Nat} {ws : List Wt} (h : WsG m ws) : (ws.map (·.n)).Nodup := by
 rw [List.nodup_iff_pairwise_ne, List.pairwise_map]
 exact h.rise.imp fun h e => by omega
theorem WsG.ok {m : Nat} {ws : List Wt} (h : WsG m ws) (hm : m ≤ 63) : WsOk 3 ws := ⟨by have := h.len; omega, h.nd, fun w hw => ⟨(h.each w hw).good.fine, (h.each w hw).good.deep⟩, fun w hw => (h.each w hw).good.card.few⟩
end
section
section
variable {env : Envr} {S : Sto} {E : Exn → Envr → Sto → Prop} {R : D → Envr → Sto → Prop} {φ : Nat → Fn}
theorem w_callL {ar : List Nat} {ok : Nat → Bool} {i j : Nat} {args : M (List D)} (h1 : env[i]? = some (.val (.fn j))) (h2 : ok j = true) (h : Wp args env S (fun ds e s => ds.length = ar.getD j 0 ∧ Wc (φ j ds s) (fun d s' => R d e s') (fun x s' => E x e s')) E) : Wp (dCallL ar ok φ i args) env S R E := by
 have k : Wp (M.bind args fun ds => if ds.length = ar.getD j 0 then (fun env S => (φ j ds S).out env : M D) else M.fail) env S R E := by
   refine w_bind (Wp.mono h (fun ds e s ⟨h1, h2⟩ => ?_) fun _ _ _ q => q)
   have e0 : (if ds.length = ar.getD j 0 then (fun env S => (φ j ds S).out env : M D) else M.fail) = (fun env S => (φ j ds S).out env : M D) := if_pos h1
   refine (congrArg (fun m : M D => Wp m e s R E) e0).mpr ?_
   delta Wp Wc at *
   unfold Vp
   unfold Vc at h2
   dsimp only
   cases e2 : φ j ds s with
   | ok d s' => rw [e2] at h2; exact h2
   | exc x s' => rw [e2] at h2; exact h2
   | bad => rw [e2] at h2; exact h2
 delta Wp at *
 unfold Vp dCallL
 unfold Vp at k
 rw [h1]
 dsimp only
 rw [if_pos h2]
 exact k
end
end
section
theorem ltL_asymm : ∀ {a b : List Int}, ltL a b = true → ltL b a = false
 | [], [], h => rfl
 | [], _ :: _, h => rfl
 | _ :: _, [], h => nomatch h
 | a :: x, b :: y, h => by
   simp only [ltL, Bool.or_eq_true, Bool.and_eq_true, decide_eq_true_eq] at h
   simp only [ltL, Bool.or_eq_false_iff, Bool.and_eq_false_iff, decide_eq_false_iff_not]
   rcases h with h | ⟨h, g⟩
   · exact ⟨by omega, .inl (by omega)⟩
   · exact ⟨by omega, .inr (ltL_asymm g)⟩
theorem ltL_trans : ∀ {a b c : List Int}, ltL a b = true → ltL b c = true → ltL a c = true
 | [], [], _, h, _ => nomatch h
 | [], _ :: _, [], _, h => nomatch h
 | [], _ :: _, _ :: _, _, _ => rfl
 | _ :: _, [], _, h, _ => nomatch h
 | _ :: _, _ :: _, [], _, h => nomatch h
 | a :: x, b :: y, c :: z, h, g => by
   simp only [ltL, Bool.or_eq_true, Bool.and_eq_true, decide_eq_true_eq] at h g ⊢
   rcases h with h | ⟨h, h2⟩
   · rcases g with g | ⟨g, _⟩
     · exact .inl (by omega)
     · exact .inl (by omega)
   · rcases g with g | ⟨g, g2⟩
     · exact .inl (by omega)
     · exact .inr ⟨by omega, ltL_trans h2 g2⟩
theorem ltL_tri : ∀ (a b : List Int), ltL a b = false → ltL b a = false → a = b
 | [], [], _, _ => rfl
 | [], _ :: _, h, _ => nomatch h
 | _ :: _, [], _, h => nomatch h
 | a :: x, b :: y, h, g => by
   simp only [ltL, Bool.or_eq_false_iff, Bool.and_eq_false_iff, decide_eq_false_iff_not] at h g
   have e : a = b := by omega
   subst e
   rw [ltL_tri x y (h.2.resolve_left fun z => z rfl) (g.2.resolve_left fun z => z rfl)]
theorem leL_iff {a b : List Int} : leL a b = true ↔ ltL b a = false := by unfold leL; simp
theorem leL_trans {a b c : List Int} (h : leL a b = true) (g : leL b c = true) : leL a c = true := by
 rw [leL_iff] at *
 cases e : ltL c a with
 | false => rfl
 | true =>
   cases e2 : ltL a b with
   | true => rw [ltL_trans e e2] at g; cases g
   | false => rw [ltL_tri a b e2 h] at e; rw [e] at g; cases g
theorem leL_total (a b : List Int) : (leL a b || leL b a) = true := by
 rw [Bool.or_eq_true, leL_iff, leL_iff]
 cases e : ltL b a with
 | false => exact .inl rfl
 | true => exact .inr (ltL_asymm e)
theorem leL_antisymm {a b : List Int} (h : leL a b = true) (g : leL b a = true) : a = b := ltL_tri a b (leL_iff.mp g) (leL_iff.mp h)
theorem leL_sorted (l : List (List Int)) : (l.mergeSort leL).Pairwise fun a b => leL a b = true := List.pairwise_mergeSort (le := leL) (fun a b c => leL_trans) leL_total l
theorem leL_of {l m : List (List Int)} (h : l.Pairwise fun a b => leL a b = true) (p : l.Perm m) : m.mergeSort leL = l :=
 List.Perm.eq_of_pairwise (le := fun a b => leL a b = true) (fun a b _ _ h1 h2 => leL_antisymm h1 h2) (leL_sorted m) h ((List.mergeSort_perm m leL).trans p.symm)
variable {S : Sto} {Q : D → Sto → Prop} {E : Exn → Sto → Prop} {φ : Nat → Fn} {dm : DefM}
end
section
variable {S : Sto} {Q : D → Sto → Prop} {E : Exn → Sto → Prop} {φ : Nat → Fn} {dm : DefM}
theorem sortI_pw (l : List Int) : (sortI l).Pairwise fun a b => a ≤ b := by
 have := List.pairwise_mergeSort (le := fun a b : Int => decide (a ≤ b)) (fun a b c h1 h2 => by simp at *; omega) (fun a b => by simp; omega) l
 exact this.imp fun h => by simpa using h
theorem sortI_perm (l : List Int) : (sortI l).Perm l := List.mergeSort_perm _ _
theorem Well.self {i : Nat} {S : Sto} {c : Cell} (h : Well i S S) : Well i (S ++ [c]) (S ++ [c]) := h.app
end
section
theorem ltR_tri (a b : Rk) (h : ltR a b = false) (g : ltR b a = false) : a = b := by
 unfold ltR at h g
 rw [Bool.or_eq_false_iff, Bool.and_eq_false_iff, decide_eq_false_iff_not] at h g
 have e : a.1 = b.1 := ltL_tri _ _ h.1 g.1
 have e2 : a.2 = b.2 := ltL_tri _ _ (h.2.resolve_left fun z => z e) (g.2.resolve_left fun z => z e.symm)
 exact Prod.ext e e2
theorem ltR_trans {a b c : Rk} (h : ltR a b = true) (g : ltR b c = true) : ltR a c = true := by
 unfold ltR at *
 rw [Bool.or_eq_true, Bool.and_eq_true, decide_eq_true_eq] at *
 rcases h with h | ⟨h, h2⟩
 · rcases g with g | ⟨g, _⟩
   · exact .inl (ltL_trans h g)
   · exact .inl (g ▸ h)
 · rcases g with g | ⟨g, g2⟩
   · exact .inl (h ▸ g)
   · exact .inr ⟨h.trans g, ltL_trans h2 g2⟩
theorem ltR_asymm {a b : Rk} (h : ltR a b = true) : ltR b a = false := by
 cases e : ltR b a with
 | false => rfl
 | true =>
   have := ltR_trans h e
   unfold ltR at this
   rw [ltL_irrefl, ltL_irrefl] at this
   simp at this
theorem leR_iff {a b : Rk} : leR a b = true ↔ ltR b a = false := by unfold leR; simp
theorem leR_trans {a b c : Rk} (h : leR a b = true) (g : leR b c = true) : leR a c = true := by
 rw [leR_iff] at *
 cases e : ltR c a with
 | false => rfl
 | true =>
   cases e2 : ltR a b with
   | true => rw [ltR_trans e e2] at g; cases g
   | false => rw [ltR_tri a b e2 h] at e; rw [e] at g; cases g
theorem leR_total (a b : Rk) : (leR a b || leR b a) = true := by
 rw [Bool.or_eq_true, leR_iff, leR_iff]
 cases e : ltR b a with
 | false => exact .inl rfl
 | true => exact .inr (ltR_asymm e)
theorem leR_antisymm {a b : Rk} (h : leR a b = true) (g : leR b a = true) : a = b := ltR_tri a b (leR_iff.mp g) (leR_iff.mp h)
theorem leR_sorted (l : List Rk) : (l.mergeSort leR).Pairwise fun a b => leR a b = true := List.pairwise_mergeSort (le := leR) (fun a b c => leR_trans) leR_total l
theorem find_least {p : Rk → Bool} : ∀ {l : List Rk}, l.Pairwise (fun a b => leR a b = true) → ∀ x, l.find? p = some x → ∀ y ∈ l, p y = true → leR x y = true
 | [], _, x, h, _, _, _ => nomatch h
 | a :: l, hl, x, h, y, hy, py => by
   obtain ⟨h1, h2⟩ := List.pairwise_cons.mp hl
   rw [List.find?_cons] at h
   cases e : p a with
   | true =>
     rw [e] at h
     cases h
     rcases List.mem_cons.mp hy with rfl | hy
     · rw [leR_iff]
       unfold ltR
       rw [ltL_irrefl, ltL_irrefl]; simp
     · exact h1 y hy
   | false =>
     rw [e] at h
     rcases List.mem_cons.mp hy with rfl | hy
     · rw [e] at py; cases py
     · exact find_least h2 x h y hy py
theorem first_is {rule borne : List Str} {ws : List Wt} {r : Rk} (h1 : r ∈ ranksL rule borne ws) (h2 : 0 < partS (sofOf ws r.2)) (h3 : ∀ y ∈ ranksL rule borne ws, 0 < partS (sofOf ws y.2) → leR r y = true) : firstR rule borne ws = some r := by
 unfold firstR
 cases e : (ranksL rule borne ws).find? fun r => decide (0 < partS (sofOf ws r.2)) with
 | none =>
   have := List.find?_eq_none.mp e r h1
   simp at this
   omega
 | some x =>
   have hx := List.mem_of_find?_eq_some e
   have px : 0 < partS (sofOf ws x.2) := by simpa using List.find?_some e
   have hs : (ranksL rule borne ws).Pairwise fun a b => leR a b = true := leR_sorted _
   rw [leR_antisymm (find_least hs x e r h1 (decide_eq_true h2)) (h3 x hx px)]
theorem first_none {rule borne : List Str} {ws : List Wt} (h : ∀ y ∈ ranksL rule borne ws, ¬ 0 < partS (sofOf ws y.2)) : firstR rule borne ws = none := by
 unfold firstR
 exact List.find?_eq_none.mpr fun x hx => by simpa using h x hx
theorem ranks_mem {rule borne : List Str} {ws : List Wt} {r : Rk} : r ∈ ranksL rule borne ws ↔ ∃ s ∈ setsL borne ws, r = rkOf (rowL rule ws) s := by
 unfold ranksL
 rw [List.mem_mergeSort, List.mem_map]
 exact ⟨fun ⟨s, h, e⟩ => ⟨s, h, e.symm⟩, fun ⟨s, h, e⟩ => ⟨s, h, e.symm⟩⟩
structure BestOk (rule borne : List Str) (ws : List Wt) (done : List (List Int)) (b : Option (List Int)) : Prop where
 no : b = none → ∀ s ∈ done, ¬ 0 < partS (sofOf ws s)
 yes : ∀ t, b = some t → t ∈ done ∧ 0 < partS (sofOf ws t) ∧ ∀ s ∈ done, 0 < partS (sofOf ws s) → leR (rkOf (rowL rule ws) t) (rkOf (rowL rule ws) s) = true
theorem leR_refl (a : Rk) : leR a a = true := by
 rw [leR_iff]
 unfold ltR
 rw [ltL_irrefl, ltL_irrefl]; simp
theorem BestOk.take {rule borne : List Str} {ws : List Wt} {done : List (List Int)} {b : Option (List Int)} (h : BestOk rule borne ws done b) {x : List Int} (hx : 0 < partS (sofOf ws x)) (hb : ∀ t, b = some t → ltL (rkOf (rowL rule ws) x).1 (rkOf (rowL rule ws) t).1 = true) : BestOk rule borne ws (done ++ [x]) (some x) := by
 refine ⟨fun e => (nomatch e), fun t e => ?_⟩
 cases e
 refine ⟨by simp, hx, fun s hs ps => ?_⟩
 rcases List.mem_append.mp hs with hs | hs
 · cases eb : b with
   | none => exact absurd ps (h.no eb s hs)
   | some t =>
     obtain ⟨_, _, h3⟩ := h.yes t eb
     refine leR_trans ?_ (h3 s hs ps)
     rw [leR_iff]
     refine ltR_asymm ?_
     unfold ltR
     rw [hb t eb]; rfl
 · simp at hs; subst hs; exact leR_refl _
theorem BestOk.done {rule borne : List Str} {ws : List Wt} {b : Option (List Int)} (h : BestOk rule borne ws (setsL borne ws) b) : firstR rule borne ws = b.map (rkOf (rowL rule ws)) := by
 cases b with
 | none =>
   refine first_none fun y hy => ?_
   obtain ⟨s, hs, rfl⟩ := ranks_mem.mp hy
   exact h.no rfl s hs
 | some t =>
   obtain ⟨h1, h2, h3⟩ := h.yes t rfl
   refine first_is (ranks_mem.mpr ⟨t, h1, rfl⟩) h2 fun y hy py => ?_
   obtain ⟨s, hs, rfl⟩ := ranks_mem.mp hy
   exact h3 s hs py
variable {S : Sto} {Q : D → Sto → Prop} {E : Exn → Sto → Prop} {φ : Nat → Fn} {dm : DefM}
theorem ranks_num {rule borne : List Str} {ws : List Wt} {r : Rk} (h : r ∈ ranksL rule borne ws) : r.2 ∈ setsRaw borne ws := by
 obtain ⟨s, hs, rfl⟩ := ranks_mem.mp h
 exact setsL_mem.mp hs
theorem firstR_mem {rule borne : List Str} {ws : List Wt} {r : Rk} (h : firstR rule borne ws = some r) : r.2 ∈ setsRaw borne ws ∧ 0 < partS (sofOf ws r.2) := by
 unfold firstR at h
 exact ⟨ranks_num (List.mem_of_find?_eq_some h), by simpa using List.find?_some h⟩
end
section
theorem place_k {n : Int} : ∀ {k : Nat} {row : List Int}, n ∈ row → (((zipI k row).map swapP).find? fun p => decide (p.1 = n)).map (·.2) = some (k + row.idxOf n)
 | _, [], h => nomatch h
 | k, x :: row, h => by
   rw [zipI, List.map_cons, List.find?_cons, List.idxOf_cons]
   by_cases e : x = n
   · subst e
     simp [swapP]
   · have hm : n ∈ row := by
       rcases List.mem_cons.mp h with h | h
       · exact absurd h.symm e
       · exact h
     have e1 : decide ((swapP (k, x)).1 = n) = false := decide_eq_false e
     have e2 : (x == n) = false := by simpa using e
     rw [e1, e2]
     dsimp only
     rw [place_k hm]
     simp
     omega
theorem place_idx {row : List Int} {n : Int} (h : n ∈ row) : placeOf row n = row.idxOf n := by
 unfold placeOf placesL
 rw [place_k h]
 simp
theorem nd_filter {ws : List Wt} {f : Wt → Bool} (nd : (ws.map (·.n)).Nodup) : ((ws.filter f).map (·.n)).Nodup := List.Nodup.sublist (List.Sublist.map _ List.filter_sublist) nd
variable {S : Sto} {Q : D → Sto → Prop} {E : Exn → Sto → Prop} {φ : Nat → Fn} {dm : DefM}
theorem WsOk.filter {n : Nat} {ws : List Wt} (h : WsOk n ws) (f : Wt → Bool) : WsOk n (ws.filter f) := ⟨Nat.le_trans (List.length_filter_le _ _) h.len, nd_filter h.nd, fun w hw => h.wish w (List.mem_filter.mp hw).1, fun w hw => h.card w (List.mem_filter.mp hw).1⟩
end
end L2.MP
end
section
namespace L2.MP
open PySem PySem.Spec PyProof.Rows L2.MP
local macro_rules
 | `(tactic| trivial) => `(tactic| first
   | refine w_seq ?_ | refine w_set ?_ | refine w_setOwn ?_ | refine w_setHp ?_ | refine w_retS ?_ | refine w_retHp ?_ | refine w_ite ?_ | refine w_expr ?_ | refine w_asg ?_ | refine w_setIx ?_ | refine w_mut ?_ | refine w_hp ?_
   | refine w_lm1 ?_ | refine w_bl ?_ | refine w_op2 ?_ | refine w_op1 ?_ | refine w_opF1 ?_ | refine w_opF2 ?_ | refine w_chainP ?_ | refine w_and ?_ | refine w_or ?_ | refine w_not ?_ | refine w_notT ?_ | refine w_andT ?_
   | refine w_orT ?_ | refine w_tru ?_ | refine w_fz ?_ | refine w_lst ?_ | refine w_tup ?_ | refine w_cons ?_ | refine w_nil ?_ | refine w_sl ?_ | refine w_slF ?_ | refine w_part ?_ | refine w_part0 ?_ | refine w_sm0 ?_
   | refine w_sm1 ?_ | refine w_disp ?_ | refine w_pr ?_ | refine w_pr0 ?_ | refine w_for ?_ | refine w_walk ?_ | refine w_rng1 ?_ | refine w_rng2 ?_ | refine w_enum ?_ | refine w_zip ?_ | refine w_fn ?_ | refine w_comp ?_
   | refine w_count ?_ | refine w_raise0 ?_ | refine w_raise1 ?_ | refine w_augIx ?_ | refine w_var rfl ?_ | refine w_peek rfl ?_ | refine w_peekO rfl ?_ | refine w_varO rfl rfl ?_ | refine w_ret ?_ | refine w_setFld ?_ | refine w_setFldF ?_ | refine w_make ?_
   | refine w_fld ?_ | refine w_meths ?_)
local macro_rules
 | `(tactic| trivial) => `(tactic| first
   | refine Rl.go ?_ | ((with_reducible apply w_var); exact rfl) | ((with_reducible apply w_peek); exact rfl) | ((with_reducible apply w_peekO); exact rfl) | ((with_reducible apply w_varO); exact rfl; exact rfl)
   | with_reducible (first | refine w_hp ?_ | refine w_lm1 ?_ | refine w_enum ?_ | refine w_count ?_ | refine w_raise0 ?_ | refine w_raise1 ?_ | refine w_augIx ?_)
   | refine ⟨_, ix0, ?_⟩ | refine ⟨_, ix1, ?_⟩ | refine ⟨_, ix2, ?_⟩ | refine ⟨_, ix3, ?_⟩ | refine rg_and ?_ | refine ⟨_, rfl, ?_⟩ | refine ⟨rfl, ?_⟩ | refine ⟨Nat.le_of_ble_eq_true rfl, ?_⟩ | refine ⟨fun _ => ?_, fun h => Bool.noConfusion (show true = false from h)⟩ | refine ⟨fun h => Bool.noConfusion (show false = true from h), fun _ => ?_⟩)
section
variable {R : Flo → Envr → Sto → Prop}
local macro_rules
 | `(tactic| trivial) => `(tactic| first
   | with_reducible (first | refine w_setFld ?_ | refine w_setFldF ?_ | refine w_make ?_ | refine w_fld ?_ | refine w_meths ?_))
def hF (r b q t : D) (n : Nat) : List (Str × D) := [("rule", r), ("borne", b), ("quiet", q), ("time", t), ("offers", .ref (n + 1)), ("lefts", .ref (n + 2)), ("ends", .ref (n + 3)), ("lines", .ref (n + 4))]
end
end L2.MP
end
section
namespace L2.MP
open PySem PySem.Spec PyProof.Rows L2.MP
local macro_rules
 | `(tactic| trivial) => `(tactic| first
   | refine w_seq ?_ | refine w_set ?_ | refine w_setOwn ?_ | refine w_setHp ?_ | refine w_retS ?_ | refine w_retHp ?_ | refine w_ite ?_ | refine w_expr ?_ | refine w_asg ?_ | refine w_setIx ?_ | refine w_mut ?_ | refine w_hp ?_
   | refine w_lm1 ?_ | refine w_bl ?_ | refine w_op2 ?_ | refine w_op1 ?_ | refine w_opF1 ?_ | refine w_opF2 ?_ | refine w_chainP ?_ | refine w_and ?_ | refine w_or ?_ | refine w_not ?_ | refine w_notT ?_ | refine w_andT ?_
   | refine w_orT ?_ | refine w_tru ?_ | refine w_fz ?_ | refine w_lst ?_ | refine w_tup ?_ | refine w_cons ?_ | refine w_nil ?_ | refine w_sl ?_ | refine w_slF ?_ | refine w_part ?_ | refine w_part0 ?_ | refine w_sm0 ?_
   | refine w_sm1 ?_ | refine w_disp ?_ | refine w_pr ?_ | refine w_pr0 ?_ | refine w_for ?_ | refine w_walk ?_ | refine w_rng1 ?_ | refine w_rng2 ?_ | refine w_enum ?_ | refine w_zip ?_ | refine w_fn ?_ | refine w_comp ?_
   | refine w_count ?_ | refine w_raise0 ?_ | refine w_raise1 ?_ | refine w_augIx ?_ | refine w_var rfl ?_ | refine w_peek rfl ?_ | refine w_peekO rfl ?_ | refine w_varO rfl rfl ?_ | refine w_ret ?_ | refine w_fld ?_ | refine w_meths ?_ | refine w_enumO ?_)
local macro_rules
 | `(tactic| trivial) => `(tactic| first
   | refine Rl.go ?_ | ((with_reducible apply w_var); exact rfl) | ((with_reducible apply w_peek); exact rfl) | ((with_reducible apply w_peekO); exact rfl) | ((with_reducible apply w_varO); exact rfl; exact rfl)
   | with_reducible (first | refine w_hp ?_ | refine w_lm1 ?_ | refine w_enum ?_ | refine w_count ?_ | refine w_raise0 ?_ | refine w_raise1 ?_ | refine w_augIx ?_)
   | refine ⟨_, ix0, ?_⟩ | refine ⟨_, ix1, ?_⟩ | refine ⟨_, ix2, ?_⟩ | refine ⟨_, ix3, ?_⟩ | refine rg_and ?_ | refine ⟨_, rfl, ?_⟩ | refine ⟨rfl, ?_⟩ | refine ⟨Nat.le_of_ble_eq_true rfl, ?_⟩ | refine ⟨fun _ => ?_, fun h => Bool.noConfusion (show true = false from h)⟩ | refine ⟨fun h => Bool.noConfusion (show false = true from h), fun _ => ?_⟩)
section
variable {R : Flo → Envr → Sto → Prop}
local macro_rules
 | `(tactic| trivial) => `(tactic| first
   | with_reducible (first | refine w_fld ?_ | refine w_meths ?_ | refine w_enumO ?_))
end
end L2.MP
end
section
namespace L2.MP
open PySem PySem.Spec PyProof.Rows L2.MP
local macro_rules
 | `(tactic| trivial) => `(tactic| first
   | refine w_seq ?_ | refine w_set ?_ | refine w_setOwn ?_ | refine w_setHp ?_ | refine w_retS ?_ | refine w_retHp ?_ | refine w_ite ?_ | refine w_expr ?_ | refine w_asg ?_ | refine w_setIx ?_ | refine w_mut ?_ | refine w_hp ?_
   | refine w_lm1 ?_ | refine w_bl ?_ | refine w_op2 ?_ | refine w_op1 ?_ | refine w_opF1 ?_ | refine w_opF2 ?_ | refine w_chainP ?_ | refine w_and ?_ | refine w_or ?_ | refine w_not ?_ | refine w_notT ?_ | refine w_andT ?_
   | refine w_orT ?_ | refine w_tru ?_ | refine w_fz ?_ | refine w_lst ?_ | refine w_tup ?_ | refine w_cons ?_ | refine w_nil ?_ | refine w_sl ?_ | refine w_slF ?_ | refine w_part ?_ | refine w_part0 ?_ | refine w_sm0 ?_
   | refine w_sm1 ?_ | refine w_disp ?_ | refine w_pr ?_ | refine w_pr0 ?_ | refine w_for ?_ | refine w_walk ?_ | refine w_rng1 ?_ | refine w_rng2 ?_ | refine w_enum ?_ | refine w_zip ?_ | refine w_fn ?_ | refine w_comp ?_
   | refine w_count ?_ | refine w_raise0 ?_ | refine w_raise1 ?_ | refine w_augIx ?_ | refine w_var rfl ?_ | refine w_peek rfl ?_ | refine w_peekO rfl ?_ | refine w_varO rfl rfl ?_ | refine w_ret ?_)
local macro_rules
 | `(tactic| trivial) => `(tactic| first
   | refine Rl.go ?_ | ((with_reducible apply w_var); exact rfl) | ((with_reducible apply w_peek); exact rfl) | ((with_reducible apply w_peekO); exact rfl) | ((with_reducible apply w_varO); exact rfl; exact rfl)
   | with_reducible (first | refine w_hp ?_ | refine w_lm1 ?_ | refine w_enum ?_ | refine w_count ?_ | refine w_raise0 ?_ | refine w_raise1 ?_ | refine w_augIx ?_)
   | refine ⟨_, ix0, ?_⟩ | refine ⟨_, ix1, ?_⟩ | refine ⟨_, ix2, ?_⟩ | refine ⟨_, ix3, ?_⟩ | refine rg_and ?_ | refine ⟨_, rfl, ?_⟩ | refine ⟨rfl, ?_⟩ | refine ⟨Nat.le_of_ble_eq_true rfl, ?_⟩ | refine ⟨fun _ => ?_, fun h => Bool.noConfusion (show true = false from h)⟩ | refine ⟨fun h => Bool.noConfusion (show false = true from h), fun _ => ?_⟩)
section
structure QOk (qs : List Qt) : Prop where
 len : qs.length ≤ 8
 each : ∀ p ∈ qs, 0 ≤ p.1 ∧ p.1 < p.2 ∧ p.2 ≤ 1000000000
 gap : gapB qs = true
 last : ∀ l, qs.getLast? = some l → ∀ p ∈ qs, p.1 < l.2
def qsD (qs : List Qt) : D := .tup (qs.map qtE)
theorem qt_qtE (p : Qt) : qtD (qtE p) = (isN p.1 && (isN p.2 && decide (p.1 < p.2))) := rfl
theorem QOk.all {qs : List Qt} (h : QOk qs) : (qs.map qtE).all qtD = true := by
 rw [List.all_eq_true]
 intro d hd
 obtain ⟨p, hp, rfl⟩ := List.mem_map.mp hd
 obtain ⟨h1, h2, h3⟩ := h.each p hp
 rw [qt_qtE]
 unfold isN
 simp
 omega
theorem quiet_qs (qs : List Qt) : quietD (qsD qs) = (!(decide ((8 : Int) < (qs.length : Nat))) && ((qs.map qtE).all qtD && gapB qs)) := by
 show (!(decide ((8 : Int) < ((qs.map qtE).length : Nat))) && ((qs.map qtE).all qtD && gapB ((qs.map qtE).map qtP))) = _
 rw [qtP_map, List.length_map]
theorem QOk.quiet {qs : List Qt} (h : QOk qs) : quietD (qsD qs) = true := by
 rw [quiet_qs, h.all, h.gap, decide_eq_false (by have := h.len; omega)]
 rfl
end
section
structure Cm where
 o : Ofr
 l : Int
 e : Option (Str × Int)
def endD : Option (Str × Int) → D
 | none => .non
 | some (w, t) => .tup [.str w, .int t]
inductive Row where
 | come (t : Int) (o : Ofr) (n : Int) | off (t : Int) (x : Str) | change (t : Int) (o : Ofr) (n : Int) | less (t : Int) (x : Str) (m : Int)
 | wait (t : Int) (x : Str) (u : Int) | meet (t : Int) (ns : List Int) (m : Int) | out (t : Int) (n : Int)
def Row.toD : Row → D
 | .come t o n => .tup [.str "come", .int t, o.toD, .int n]
 | .off t x => .tup [.str "off", .int t, .str x]
 | .change t o n => .tup [.str "change", .int t, o.toD, .int n]
 | .less t x m => .tup [.str "less", .int t, .str x, .int m]
 | .wait t x u => .tup [.str "wait", .int t, .str x, .int u]
 | .meet t ns m => .tup [.str "meet", .int t, tupI ns, .int m]
 | .out t n => .tup [.str "out", .int t, .int n]
structure Cfg where
 rule : List Str
 borne : List Str
 quiet : List Qt
structure Hs where
 time : Option Int
 cs : List Cm
 lines : List Row
def timeD : Option Int → D
 | none => .non
 | some t => .int t
def wtsK : Nat → List Cm → List Wt
 | _, [] => []
 | k, c :: r => match c.e with
   | none => ⟨(k : Nat), c.o, c.l⟩ :: wtsK (k + 1) r
   | some _ => wtsK (k + 1) r
def Hs.wts (H : Hs) : List Wt := wtsK 0 H.cs
theorem wtsK_n {k : Nat} {c : Cm} {r : List Cm} (h : c.e = none) : wtsK k (c :: r) = ⟨(k : Nat), c.o, c.l⟩ :: wtsK (k + 1) r := by rw [wtsK, h]
theorem wtsK_s {k : Nat} {c : Cm} {r : List Cm} {x : Str × Int} (h : c.e = some x) : wtsK k (c :: r) = wtsK (k + 1) r := by rw [wtsK, h]
theorem wtsK_mem {w : Wt} : ∀ {k : Nat} {cs : List Cm}, w ∈ wtsK k cs ↔ ∃ i c, cs[i]? = some c ∧ c.e = none ∧ w = ⟨((k + i : Nat) : Int), c.o, c.l⟩
 | k, [] => by simp [wtsK]
 | k, c :: r => by
   have ih := @wtsK_mem w (k + 1) r
   have e1 : (∃ i d, (c :: r)[i]? = some d ∧ d.e = none ∧ w = ⟨((k + i : Nat) : Int), d.o, d.l⟩) ↔ (c.e = none ∧ w = ⟨(k : Nat), c.o, c.l⟩) ∨ w ∈ wtsK (k + 1) r := by
     rw [ih]
     constructor
     · rintro ⟨i, d, h1, h2, h3⟩
       cases i with
       | zero => simp at h1; subst h1; exact .inl ⟨h2, h3⟩
       | succ i => rw [List.getElem?_cons_succ] at h1; exact .inr ⟨i, d, h1, h2, by rw [h3, show k + (i + 1) = k + 1 + i by omega]⟩
     · rintro (⟨h2, h3⟩ | ⟨i, d, h1, h2, h3⟩)
       · exact ⟨0, c, rfl, h2, h3⟩
       · exact ⟨i + 1, d, by rw [List.getElem?_cons_succ]; exact h1, h2, by rw [h3, show k + (i + 1) = k + 1 + i by omega]⟩
   rw [e1]
   cases h : c.e with
   | none => rw [wtsK_n h]; simp
   | some _ => rw [wtsK_s h]; simp
theorem wtsK_ge {k : Nat} {cs : List Cm} {w : Wt} (h : w ∈ wtsK k cs) : (k : Int) ≤ w.n := by
 obtain ⟨i, c, _, _, rfl⟩ := wtsK_mem.mp h
 dsimp only; omega
theorem wtsK_rise : ∀ {k : Nat} {cs : List Cm}, (wtsK k cs).Pairwise fun a b => a.n < b.n
 | _, [] => List.Pairwise.nil
 | k, c :: r => by
   cases h : c.e with
   | none =>
     rw [wtsK_n h]
     refine List.Pairwise.cons (fun w hw => ?_) wtsK_rise
     have := wtsK_ge hw
     dsimp only; omega
   | some _ => rw [wtsK_s h]; exact wtsK_rise
theorem wts_nd (H : Hs) : (H.wts.map (·.n)).Nodup := by
 rw [List.nodup_iff_pairwise_ne, List.pairwise_map]
 exact wtsK_rise.imp fun h e => by omega
theorem wts_mem {H : Hs} {w : Wt} : w ∈ H.wts ↔ ∃ i c, H.cs[i]? = some c ∧ c.e = none ∧ w = ⟨(i : Nat), c.o, c.l⟩ := by
 unfold Hs.wts
 rw [wtsK_mem]
 constructor
 · rintro ⟨i, c, h1, h2, h3⟩; exact ⟨i, c, h1, h2, by rw [h3, Nat.zero_add]⟩
 · rintro ⟨i, c, h1, h2, h3⟩; exact ⟨i, c, h1, h2, by rw [h3, Nat.zero_add]⟩
theorem wtsK_len_le : ∀ {k : Nat} {cs ds : List Cm}, cs.length = ds.length → (∀ (i : Nat) (c d : Cm), cs[i]? = some c → ds[i]? = some d → d.e = none → c.e = none) → (wtsK k ds).length ≤ (wtsK k cs).length
 | _, [], [], _, _ => Nat.le_refl _
 | k, c :: cs, d :: ds, hl, h => by
   have ih := @wtsK_len_le (k + 1) cs ds (by simpa using hl) fun i a b h1 h2 => h (i + 1) a b (by rw [List.getElem?_cons_succ]; exact h1) (by rw [List.getElem?_cons_succ]; exact h2)
   have h0 := h 0 c d rfl rfl
   cases hd : d.e with
   | none => rw [wtsK_n hd, wtsK_n (h0 hd)]; simp; omega
   | some _ =>
     rw [wtsK_s hd]
     cases hc : c.e with
     | none => rw [wtsK_n hc]; simp; omega
     | some _ => rw [wtsK_s hc]; exact ih
theorem wtsK_len_lt : ∀ {k : Nat} {cs ds : List Cm}, cs.length = ds.length → (∀ (i : Nat) (c d : Cm), cs[i]? = some c → ds[i]? = some d → d.e = none → c.e = none) → (∃ (i : Nat) (c d : Cm), cs[i]? = some c ∧ ds[i]? = some d ∧ c.e = none ∧ d.e ≠ none) → (wtsK k ds).length + 1 ≤ (wtsK k cs).length
 | _, [], [], _, _, ⟨i, c, d, h, _⟩ => by simp at h
 | k, c :: cs, d :: ds, hl, h, ⟨i, a, b, h1, h2, h3, h4⟩ => by
   have hl' : cs.length = ds.length := by simpa using hl
   have hs : ∀ (i : Nat) (a b : Cm), cs[i]? = some a → ds[i]? = some b → b.e = none → a.e = none := fun i a b h1 h2 => h (i + 1) a b (by rw [List.getElem?_cons_succ]; exact h1) (by rw [List.getElem?_cons_succ]; exact h2)
   have h0 := h 0 c d rfl rfl
   cases i with
   | zero =>
     simp at h1 h2
     subst h1 h2
     have ih := wtsK_len_le (k := k + 1) hl' hs
     cases hd : d.e with
     | none => exact absurd hd h4
     | some _ => rw [wtsK_s hd, wtsK_n h3]; simp; omega
   | succ i =>
     rw [List.getElem?_cons_succ] at h1 h2
     have ih := wtsK_len_lt (k := k + 1) hl' hs ⟨i, a, b, h1, h2, h3, h4⟩
     cases hd : d.e with
     | none => rw [wtsK_n hd, wtsK_n (h0 hd)]; simp; omega
     | some _ =>
       rw [wtsK_s hd]
       cases hc : c.e with
       | none => rw [wtsK_n hc]; simp; omega
       | some _ => rw [wtsK_s hc]; exact ih
theorem wtsK_app : ∀ {k : Nat} {cs ds : List Cm}, wtsK k (cs ++ ds) = wtsK k cs ++ wtsK (k + cs.length) ds
 | k, [], ds => by simp [wtsK]
 | k, c :: cs, ds => by
   have e := @wtsK_app (k + 1) cs ds
   rw [show k + 1 + cs.length = k + (c :: cs).length by simp; omega] at e
   rw [List.cons_append]
   cases hc : c.e with
   | none => rw [wtsK_n hc, wtsK_n hc, e, List.cons_append]
   | some _ => rw [wtsK_s hc, wtsK_s hc, e]
def quietAt (qs : List Qt) (t : Int) : Bool := qs.any fun p => decide (p.1 ≤ t) && decide (t < p.2)
def metC (t m : Int) (c : Cm) : Cm := { c with l := c.l - m, e := if c.l - m = 0 then some ("met", t) else c.e }
def meetAll (t m : Int) (ns : List Int) (cs : List Cm) : List Cm := ns.foldl (fun cs n => cs.modify n.toNat (metC t m)) cs
def Hs.meet (t : Int) (ns : List Int) (m : Int) (H : Hs) : Hs := { H with cs := meetAll t m ns H.cs, lines := H.lines ++ [.meet t ns m] }
def settleN (g : Cfg) (t : Int) : Nat → Hs → Hs
 | 0, H => H
 | n + 1, H => match firstR g.rule g.borne H.wts with
   | none => H
   | some r => settleN g t n (H.meet t r.2 (partS (sofOf H.wts r.2)))
def settle (g : Cfg) (t : Int) (H : Hs) : Hs := if quietAt g.quiet t = true then H else settleN g t (H.wts.length + 1) H
def moments (g : Cfg) (t0 t : Int) (H : Hs) : List Int := sortI (onto ((H.wts.map (·.o.till) ++ g.quiet.map (·.2)).filter fun m => decide (t0 < m) && decide (m ≤ t)) [])
def outC (t : Int) (c : Cm) : Cm := match c.e with
 | none => if c.o.till = t then { c with e := some ("out", t) } else c
 | some _ => c
def Hs.outs (t : Int) (H : Hs) : Hs := { H with cs := H.cs.map (outC t), lines := H.lines ++ (H.wts.filter fun w => decide (w.o.till = t)).map fun w => .out t w.n }
def momentS (g : Cfg) (m : Int) (H : Hs) : Hs := settle g m (Hs.outs m { H with time := some m })
def passed (g : Cfg) (t : Int) (H : Hs) : Hs := match H.time with
 | none => H
 | some t0 => (moments g t0 t H).foldl (fun H m => momentS g m H) H
def reach (g : Cfg) (t : Int) (H : Hs) : Hs := { passed g t H with time := some t }
def named (x : Str) (H : Hs) : Option Int := (H.wts.find? fun w => decide (w.o.card.name = x)).map (·.n)
def timeOk (t : Int) (H : Hs) : Bool := isN t && (match H.time with
 | none => true
 | some t0 => decide (t0 ≤ t))
inductive Rf where
 | offer | time | has | no | late | full | many | number
 deriving DecidableEq
inductive Res where
 | told (n : Int) | done | ref (r : Rf)
 deriving DecidableEq
def begunS (g : Cfg) (t : Int) (o : Ofr) (row : Row) (H : Hs) : Hs := settle g t { H with cs := H.cs ++ [⟨o, o.many, none⟩], lines := H.lines ++ [row] }
def endC (w : Str) (t : Int) (c : Cm) : Cm := { c with e := some (w, t) }
def Hs.ended (n : Int) (w : Str) (t : Int) (H : Hs) : Hs := { H with cs := H.cs.modify n.toNat (endC w t) }
def comeR (g : Cfg) (t : Int) (o : Ofr) (H : Hs) : Res × Hs :=
 if timeOk t H = true then
   let K := reach g t H
   if (named o.card.name K).isSome = true then (.ref .has, K)
   else if o.till ≤ t then (.ref .late, K)
   else if 30 ≤ K.wts.length then (.ref .full, K)
   else (.told K.cs.length, begunS g t o (.come t o K.cs.length) K)
 else (.ref .time, H)
def offR (g : Cfg) (t : Int) (x : Str) (H : Hs) : Res × Hs :=
 if timeOk t H = true then
   let K := reach g t H
   match named x K with
   | none => (.ref .no, K)
   | some n => (.done, settle g t { K.ended n "off" t with lines := K.lines ++ [.off t x] })
 else (.ref .time, H)
def changeR (g : Cfg) (t : Int) (o : Ofr) (H : Hs) : Res × Hs :=
 if timeOk t H = true then
   let K := reach g t H
   match named o.card.name K with
   | none => (.ref .no, K)
   | some n => if o.till ≤ t then (.ref .late, K) else (.told K.cs.length, begunS g t o (.change t o K.cs.length) (K.ended n "changed" t))
 else (.ref .time, H)
def leftN (n : Int) (H : Hs) : Int := (H.cs[n.toNat]?.map (·.l)).getD 0
def lessR (g : Cfg) (t : Int) (x : Str) (m : Int) (H : Hs) : Res × Hs :=
 if timeOk t H = true then
   let K := reach g t H
   match named x K with
   | none => (.ref .no, K)
   | some n => if 1 ≤ m ∧ m < leftN n K then (.done, settle g t { K with cs := K.cs.modify n.toNat (fun c => { c with l := m }), lines := K.lines ++ [.less t x m] }) else (.ref .many, K)
 else (.ref .time, H)
def tillC (u : Int) (c : Cm) : Cm := { c with o := { c.o with till := u } }
def waitR (g : Cfg) (t : Int) (x : Str) (u : Int) (H : Hs) : Res × Hs :=
 if timeOk t H = true ∧ isN u = true then
   let K := reach g t H
   match named x K with
   | none => (.ref .no, K)
   | some n => if u ≤ t then (.ref .late, K) else (.done, settle g t { K with cs := K.cs.modify n.toNat (tillC u), lines := K.lines ++ [.wait t x u] })
 else (.ref .time, H)
end
section
structure Ofr.ok (o : Ofr) : Prop where
 side : o.side = "give" ∨ o.side = "take" ∨ o.side = "bear"
 card : o.card.good
 fine : o.wish.fine = true
 deep : o.wish.deep ≤ 6
 parts : o.wish.parts ≤ 40
 m1 : 1 ≤ o.many
 m2 : o.many ≤ 1000000
 l1 : 1 ≤ o.least
 l2 : o.least ≤ o.many
 w1 : 0 ≤ o.weight
 w2 : o.weight ≤ 1000
 till : isN o.till = true
structure CfgOk (g : Cfg) : Prop where
 rule : RuleOk g.rule
 borne : BorneOk g.borne
 quiet : QOk g.quiet
structure HOk (b : Nat) (H : Hs) : Prop where
 ofr : ∀ c ∈ H.cs, c.o.ok
 left : ∀ c ∈ H.cs, c.e = none → 1 ≤ c.l ∧ c.l ≤ c.o.many
 few : H.wts.length ≤ 30
 len : H.cs.length ≤ b
 lines : H.lines.length + H.wts.length ≤ 2 * b
 time : ∀ t, H.time = some t → isN t = true
theorem HOk.mono {b b' : Nat} {H : Hs} (h : HOk b H) (hb : b ≤ b') : HOk b' H := ⟨h.ofr, h.left, h.few, by have := h.len; omega, by have := h.lines; omega, h.time⟩
theorem wt_at {H : Hs} {w : Wt} (h : w ∈ H.wts) : ∃ c, H.cs[w.n.toNat]? = some c ∧ c.e = none ∧ w = ⟨(w.n.toNat : Nat), c.o, c.l⟩ ∧ 0 ≤ w.n := by
 obtain ⟨i, c, h1, h2, rfl⟩ := wts_mem.mp h
 exact ⟨c, by simpa using h1, h2, by simp, by simp⟩
theorem minI_mem : ∀ {l : List Int}, l ≠ [] → minI l ∈ l ∧ ∀ x ∈ l, minI l ≤ x
 | [], h => absurd rfl h
 | [a], _ => by simp [minI]
 | a :: b :: r, _ => by
   obtain ⟨h1, h2⟩ := minI_mem (l := b :: r) (by simp)
   have e : minI (a :: b :: r) = min a (minI (b :: r)) := rfl
   rw [e]
   constructor
   · rcases Int.le_total a (minI (b :: r)) with h | h
     · rw [Int.min_eq_left h]; exact List.mem_cons_self
     · rw [Int.min_eq_right h]; exact List.mem_cons_of_mem _ h1
   · intro x hx
     rcases List.mem_cons.mp hx with rfl | hx
     · omega
     · have := h2 x hx; omega
theorem part_least {s : Sof} (h : 0 < partS s) : partS s = leastL s := by
 unfold partS at h ⊢
 split at h
 · omega
 · split at h
   · omega
   · split at h
     · omega
     · rename_i h1 h2 h3
       rw [if_neg h1, if_neg h2, if_neg h3]
theorem sof_mem {ws : List Wt} {s : List Int} (hs : ∀ n ∈ s, n ∈ ws.map (·.n)) {p : Ofr × Int} : p ∈ sofOf ws s ↔ ∃ n ∈ s, ((ws.map onP).find? fun p => decide (p.1 = n)).map (·.2) = some p := by
 unfold sofOf
 rw [List.mem_filterMap]
theorem find_wt {ws : List Wt} (nd : (ws.map (·.n)).Nodup) {w : Wt} (hw : w ∈ ws) : ((ws.map onP).find? fun p => decide (p.1 = w.n)) = some (onP w) := by
 obtain ⟨v, hv, e, h⟩ := sof_at (List.mem_map_of_mem (f := (·.n)) hw)
 have : v = w := by
   have h1 := List.pairwise_map.mp (List.nodup_iff_pairwise_ne.mp nd)
   exact Classical.byContradiction fun hne => by
     rcases List.mem_iff_getElem.mp hv with ⟨i, hi, rfl⟩
     rcases List.mem_iff_getElem.mp hw with ⟨j, hj, rfl⟩
     rw [List.pairwise_iff_getElem] at h1
     rcases Nat.lt_trichotomy i j with h | h | h
     · exact h1 i j hi hj h e
     · subst h; exact hne rfl
     · exact h1 j i hj hi h e.symm
 subst this; exact h
theorem wt_uniq {ws : List Wt} (nd : (ws.map (·.n)).Nodup) {v w : Wt} (hv : v ∈ ws) (hw : w ∈ ws) (e : v.n = w.n) : v = w := by
 have h1 := find_wt nd hv
 have h2 := find_wt nd hw
 rw [e, h2] at h1
 injection h1 with h1
 obtain ⟨a, b, c⟩ := v
 obtain ⟨a', b', c'⟩ := w
 unfold onP at h1
 simp at h1
 obtain ⟨rfl, rfl, rfl⟩ := h1
 rfl
theorem sets_nd {borne : List Str} {ws : List Wt} (nd : (ws.map (·.n)).Nodup) {s : List Int} (h : s ∈ setsRaw borne ws) : s.Nodup := by
 have ne : ∀ {a b : Str} {k : Str} {n m : Int}, n ∈ sideL ws a k → m ∈ sideL ws b k → a ≠ b → n ≠ m := fun h1 h2 hab e => by
   obtain ⟨v, hv, e1, s1, _⟩ := sideL_mem.mp h1
   obtain ⟨w, hw, e2, s2, _⟩ := sideL_mem.mp h2
   have := wt_uniq nd hv hw (by rw [e1, e2, e])
   subst this
   exact hab (s1.symm.trans s2)
 obtain ⟨k, g, t, hg, ht, h⟩ := setsRaw_mem.mp h
 have gt := ne hg ht (by decide)
 rcases h with ⟨_, b, hb, rfl⟩ | ⟨_, rfl⟩
 · have gb := ne hg hb (by decide)
   have tb := ne ht hb (by decide)
   simp [gt, gb, tb]
 · simp [gt]
theorem meetAll_len {t m : Int} : ∀ {ns : List Int} {cs : List Cm}, (meetAll t m ns cs).length = cs.length
 | [], _ => rfl
 | n :: ns, cs => by
   have := @meetAll_len t m ns (cs.modify n.toNat (metC t m))
   rw [List.length_modify] at this
   exact this
theorem meetAll_get {t m : Int} : ∀ {ns : List Int} {cs : List Cm}, ns.Nodup → (∀ n ∈ ns, 0 ≤ n) → ∀ i : Nat, (meetAll t m ns cs)[i]? = if (i : Int) ∈ ns then (cs[i]?).map (metC t m) else cs[i]?
 | [], cs, _, _, i => by simp [meetAll]
 | n :: ns, cs, nd, h0, i => by
   have nd' := List.nodup_cons.mp nd
   have ih := @meetAll_get t m ns (cs.modify n.toNat (metC t m)) nd'.2 (fun x hx => h0 x (List.mem_cons_of_mem _ hx)) i
   have e : meetAll t m (n :: ns) cs = meetAll t m ns (cs.modify n.toNat (metC t m)) := rfl
   have hn := h0 n List.mem_cons_self
   rw [e, ih, List.getElem?_modify]
   by_cases h : n.toNat = i
   · have : (i : Int) = n := by omega
     rw [if_neg (by rw [this]; exact nd'.1), if_pos (by rw [this]; exact List.mem_cons_self)]
     cases cs[i]? <;> simp [h]
   · have : (i : Int) ≠ n := by omega
     have e2 : (fun a => if n.toNat = i then metC t m a else a) <$> cs[i]? = cs[i]? := by
       cases cs[i]? <;> simp [h]
     rw [e2]
     by_cases hi : (i : Int) ∈ ns
     · rw [if_pos hi, if_pos (List.mem_cons_of_mem _ hi)]
     · rw [if_neg hi, if_neg (by simp [this, hi])]
structure FirstOf (g : Cfg) (H : Hs) (ns : List Int) (m : Int) : Prop where
 nd : ns.Nodup
 ns0 : ∀ n ∈ ns, ∃ c, H.cs[n.toNat]? = some c ∧ c.e = none ∧ m ≤ c.l ∧ 0 ≤ n
 least : ∃ n ∈ ns, ∃ c, H.cs[n.toNat]? = some c ∧ c.e = none ∧ c.l = m
 pos : 0 < m
 len : ns.length = 2 ∨ ns.length = 3
theorem firstOf {g : Cfg} {H : Hs} {r : Rk} (h : firstR g.rule g.borne H.wts = some r) : FirstOf g H r.2 (partS (sofOf H.wts r.2)) := by
 obtain ⟨h1, h2⟩ := firstR_mem h
 obtain ⟨l1, l2⟩ := sets_num h1
 have e := part_least h2
 have hne : (sofOf H.wts r.2).map (·.2) ≠ [] := by
   have := (sof_len l2).1
   intro h
   have : (sofOf H.wts r.2).length = 0 := by rw [← List.length_map (·.2), h]; rfl
   omega
 obtain ⟨m1, m2⟩ := minI_mem hne
 have nd := wts_nd H
 have each : ∀ n ∈ r.2, ∃ c, H.cs[n.toNat]? = some c ∧ c.e = none ∧ (c.o, c.l) ∈ sofOf H.wts r.2 ∧ 0 ≤ n := fun n hn => by
   obtain ⟨w, hw, rfl⟩ := List.mem_map.mp (l2 n hn)
   obtain ⟨c, c1, c2, c3, c4⟩ := wt_at hw
   refine ⟨c, c1, c2, (sof_mem l2).mpr ⟨w.n, hn, ?_⟩, c4⟩
   rw [find_wt nd hw]
   rw [c3]; rfl
 refine ⟨sets_nd nd h1, fun n hn => ?_, ?_, h2, l1⟩
 · obtain ⟨c, c1, c2, c3, c4⟩ := each n hn
   exact ⟨c, c1, c2, by rw [e]; exact m2 _ (List.mem_map_of_mem (f := (·.2)) c3), c4⟩
 · obtain ⟨p, hp, ep⟩ := List.mem_map.mp m1
   obtain ⟨n, hn, hf⟩ := (sof_mem l2).mp hp
   obtain ⟨c, c1, c2, c3, c4⟩ := each n hn
   obtain ⟨w, hw, rfl⟩ := List.mem_map.mp (l2 n hn)
   rw [find_wt nd hw] at hf
   obtain ⟨c', d1, d2, d3, d4⟩ := wt_at hw
   rw [c1] at d1
   cases d1
   refine ⟨w.n, hn, c, c1, c2, ?_⟩
   rw [e]
   show c.l = minI ((sofOf H.wts r.2).map (·.2))
   rw [← ep]
   have : p = (w.o, w.l) := by injection hf with hf; exact hf.symm
   rw [this, d3]
theorem meet_lt {g : Cfg} {H : Hs} {ns : List Int} {m t : Int} (h : FirstOf g H ns m) : (H.meet t ns m).wts.length + 1 ≤ H.wts.length := by
 have g0 := @meetAll_get t m ns H.cs h.nd (fun n hn => (h.ns0 n hn).choose_spec.2.2.2)
 refine wtsK_len_lt (cs := H.cs) (ds := meetAll t m ns H.cs) meetAll_len.symm (fun i c d h1 h2 h3 => ?_) ?_
 · rw [g0 i, h1] at h2
   split at h2
   · simp at h2
     subst h2
     unfold metC at h3
     dsimp only at h3
     split at h3
     · cases h3
     · exact h3
   · cases h2; exact h3
 · obtain ⟨n, hn, c, c1, c2, c3⟩ := h.least
   obtain ⟨_, _, _, _, n0⟩ := h.ns0 n hn
   refine ⟨n.toNat, c, metC t m c, c1, ?_, c2, ?_⟩
   · rw [g0, if_pos (by rw [Int.toNat_of_nonneg n0]; exact hn), c1]; rfl
   · unfold metC
     dsimp only
     rw [if_pos (by omega)]
     simp
theorem meet_len {H : Hs} {ns : List Int} {m t : Int} : (H.meet t ns m).cs.length = H.cs.length := meetAll_len
theorem HOk.meet {g : Cfg} {b : Nat} {H : Hs} {ns : List Int} {m t : Int} (h : HOk b H) (f : FirstOf g H ns m) : HOk b (H.meet t ns m) := by
 have g0 := @meetAll_get t m ns H.cs f.nd (fun n hn => (f.ns0 n hn).choose_spec.2.2.2)
 have lt := meet_lt (t := t) f
 have each : ∀ c ∈ (H.meet t ns m).cs, ∃ (i : Nat) (d : Cm), H.cs[i]? = some d ∧ ((c = d) ∨ ((i : Int) ∈ ns ∧ c = metC t m d)) := fun c hc => by
   obtain ⟨i, hi⟩ := List.mem_iff_getElem?.mp hc
   have hi : (meetAll t m ns H.cs)[i]? = some c := hi
   rw [g0 i] at hi
   split at hi
   · rename_i hm
     cases hd : H.cs[i]? with
     | none => rw [hd] at hi; cases hi
     | some d => rw [hd] at hi; simp at hi; exact ⟨i, d, hd, .inr ⟨hm, hi.symm⟩⟩
   · exact ⟨i, c, hi, .inl rfl⟩
 refine ⟨fun c hc => ?_, fun c hc he => ?_, by have := h.few; omega, by rw [meet_len]; exact h.len, ?_, h.time⟩
 · obtain ⟨i, d, hd, rfl | ⟨_, rfl⟩⟩ := each c hc
   · exact h.ofr _ (List.mem_of_getElem? hd)
   · exact h.ofr d (List.mem_of_getElem? hd)
 · obtain ⟨i, d, hd, rfl | ⟨hi, rfl⟩⟩ := each c hc
   · exact h.left _ (List.mem_of_getElem? hd) he
   · obtain ⟨c', k1, k2, k3, k4⟩ := f.ns0 _ hi
     rw [Int.toNat_natCast, hd] at k1
     cases k1
     have hl := h.left d (List.mem_of_getElem? hd) k2
     have := f.pos
     unfold metC at he ⊢
     dsimp only at he ⊢
     split at he
     · cases he
     · constructor <;> omega
 · have := h.lines
   show (H.lines ++ [_]).length + _ ≤ _
   rw [List.length_append]
   simp only [List.length_cons, List.length_nil]
   omega
theorem settleN_ok {g : Cfg} {b : Nat} {t : Int} : ∀ {n : Nat} {H : Hs}, HOk b H → HOk b (settleN g t n H) ∧ (settleN g t n H).time = H.time ∧ (settleN g t n H).cs.length = H.cs.length ∧ (settleN g t n H).wts.length ≤ H.wts.length
 | 0, H, h => ⟨h, rfl, rfl, Nat.le_refl _⟩
 | n + 1, H, h => by
   unfold settleN
   cases e : firstR g.rule g.borne H.wts with
   | none => exact ⟨h, rfl, rfl, Nat.le_refl _⟩
   | some r =>
     dsimp only
     obtain ⟨i1, i2, i3, i4⟩ := settleN_ok (n := n) (h.meet (t := t) (firstOf e))
     have := meet_lt (t := t) (firstOf e)
     exact ⟨i1, i2, i3.trans meet_len, by omega⟩
theorem settle_ok {g : Cfg} {b : Nat} {t : Int} {H : Hs} (h : HOk b H) : HOk b (settle g t H) ∧ (settle g t H).time = H.time ∧ (settle g t H).cs.length = H.cs.length ∧ (settle g t H).wts.length ≤ H.wts.length := by
 unfold settle
 split
 · exact ⟨h, rfl, rfl, Nat.le_refl _⟩
 · exact settleN_ok h
end
section
theorem filter_two {α : Type} (p : α → Bool) : ∀ l : List α, (l.filter p).length + (l.filter fun a => !p a).length = l.length
 | [] => rfl
 | a :: l => by
   have := filter_two p l
   rw [List.filter_cons, List.filter_cons]
   cases p a <;> simp <;> omega
theorem wtsK_out {t : Int} : ∀ {k : Nat} {cs : List Cm}, wtsK k (cs.map (outC t)) = (wtsK k cs).filter fun w => !decide (w.o.till = t)
 | _, [] => rfl
 | k, c :: cs => by
   have ih := @wtsK_out t (k + 1) cs
   rw [List.map_cons]
   cases h : c.e with
   | some x =>
     have e : outC t c = c := by unfold outC; rw [h]
     rw [e, wtsK_s h, wtsK_s h, ih]
   | none =>
     rw [wtsK_n h, List.filter_cons]
     by_cases ht : c.o.till = t
     · have e : outC t c = { c with e := some ("out", t) } := by unfold outC; rw [h]; dsimp only; rw [if_pos ht]
       rw [e, wtsK_s (x := ("out", t)) rfl, ih]
       simp [ht]
     · have e : outC t c = c := by unfold outC; rw [h]; dsimp only; rw [if_neg ht]
       rw [e, wtsK_n h, ih]
       simp [ht]
theorem outs_wts {t : Int} {H : Hs} : (H.outs t).wts = H.wts.filter fun w => !decide (w.o.till = t) := wtsK_out
theorem outC_o {t : Int} (c : Cm) : (outC t c).o = c.o ∧ (outC t c).l = c.l ∧ ((outC t c).e = none → c.e = none) := by
 unfold outC
 cases h : c.e with
 | none => dsimp only; split <;> exact ⟨rfl, rfl, fun _ => rfl⟩
 | some _ => exact ⟨rfl, rfl, fun e => by dsimp only at e; rw [h] at e; cases e⟩
theorem HOk.outs {b : Nat} {H : Hs} {t : Int} (h : HOk b H) : HOk b (H.outs t) := by
 refine ⟨fun c hc => ?_, fun c hc he => ?_, ?_, ?_, ?_, h.time⟩
 · obtain ⟨d, hd, rfl⟩ := List.mem_map.mp hc
   rw [(outC_o d).1]; exact h.ofr d hd
 · obtain ⟨d, hd, rfl⟩ := List.mem_map.mp hc
   obtain ⟨e1, e2, e3⟩ := outC_o (t := t) d
   rw [e1, e2]; exact h.left d hd (e3 he)
 · rw [outs_wts]; exact Nat.le_trans (List.length_filter_le _ _) h.few
 · show (H.cs.map _).length ≤ b
   rw [List.length_map]; exact h.len
 · rw [outs_wts]
   show (H.lines ++ _).length + _ ≤ _
   rw [List.length_append, List.length_map]
   have := filter_two (fun w : Wt => decide (w.o.till = t)) H.wts
   have := h.lines
   omega
theorem HOk.timed {b : Nat} {H : Hs} {t : Int} (h : HOk b H) (ht : isN t = true) : HOk b { H with time := some t } := ⟨h.ofr, h.left, h.few, h.len, h.lines, fun u e => by cases e; exact ht⟩
theorem outs_len {H : Hs} {t : Int} : (H.outs t).cs.length = H.cs.length := List.length_map _
theorem momentS_ok {g : Cfg} {b : Nat} {m : Int} {H : Hs} (h : HOk b H) (hm : isN m = true) : HOk b (momentS g m H) ∧ (momentS g m H).time = some m ∧ (momentS g m H).cs.length = H.cs.length ∧ (momentS g m H).wts.length ≤ H.wts.length := by
 obtain ⟨i1, i2, i3, i4⟩ := settle_ok (g := g) (t := m) ((h.timed hm).outs (t := m))
 refine ⟨i1, i2, i3.trans outs_len, Nat.le_trans i4 ?_⟩
 rw [outs_wts]
 exact List.length_filter_le _ _
theorem sortI_mem' {l : List Int} {x : Int} : x ∈ sortI l ↔ x ∈ l := List.mem_mergeSort
theorem moments_mem {g : Cfg} {t0 t m : Int} {H : Hs} : m ∈ moments g t0 t H ↔ (m ∈ H.wts.map (·.o.till) ∨ m ∈ g.quiet.map (·.2)) ∧ t0 < m ∧ m ≤ t := by
 unfold moments
 rw [sortI_mem', onto_mem, List.mem_filter, List.mem_append]
 simp
theorem isN_iff {t : Int} : isN t = true ↔ 0 ≤ t ∧ t ≤ 1000000000 := by
 unfold isN
 simp
theorem passed_ok {g : Cfg} {b : Nat} {t : Int} {H : Hs} (h : HOk b H) (ht : isN t = true) : HOk b (passed g t H) ∧ (passed g t H).cs.length = H.cs.length ∧ (passed g t H).wts.length ≤ H.wts.length := by
 unfold passed
 cases e : H.time with
 | none => exact ⟨h, rfl, Nat.le_refl _⟩
 | some t0 =>
   dsimp only
   have h0 := h.time t0 e
   have hm : ∀ m ∈ moments g t0 t H, isN m = true := fun m hm => by
     have := (moments_mem.mp hm).2
     rw [isN_iff] at *
     omega
   generalize moments g t0 t H = ms at hm
   have : ∀ (ms : List Int) (K : Hs), (∀ m ∈ ms, isN m = true) → HOk b K → HOk b (ms.foldl (fun H m => momentS g m H) K) ∧ (ms.foldl (fun H m => momentS g m H) K).cs.length = K.cs.length ∧ (ms.foldl (fun H m => momentS g m H) K).wts.length ≤ K.wts.length := by
     intro ms
     induction ms with
     | nil => intro K _ hK; exact ⟨hK, rfl, Nat.le_refl _⟩
     | cons m ms ih =>
       intro K hm hK
       obtain ⟨j1, _, j3, j4⟩ := momentS_ok (g := g) hK (hm m List.mem_cons_self)
       obtain ⟨k1, k2, k3⟩ := ih (momentS g m K) (fun x hx => hm x (List.mem_cons_of_mem _ hx)) j1
       exact ⟨k1, k2.trans j3, by rw [List.foldl_cons]; omega⟩
   exact this ms H hm h
theorem reach_ok {g : Cfg} {b : Nat} {t : Int} {H : Hs} (h : HOk b H) (ht : isN t = true) : HOk b (reach g t H) ∧ (reach g t H).cs.length = H.cs.length ∧ (reach g t H).wts.length ≤ H.wts.length ∧ (reach g t H).time = some t := by
 obtain ⟨i1, i2, i3⟩ := passed_ok (g := g) h ht
 exact ⟨i1.timed ht, i2, i3, rfl⟩
theorem timeOk_N {t : Int} {H : Hs} (h : timeOk t H = true) : isN t = true := by
 unfold timeOk at h
 rw [Bool.and_eq_true] at h
 exact h.1
theorem HOk.begun {g : Cfg} {b : Nat} {t : Int} {o : Ofr} {row : Row} {H : Hs} (h : HOk b H) (ho : o.ok) (hf : H.wts.length < 30) : HOk (b + 1) (begunS g t o row H) := by
 have ew : ∀ (c : Cm) , c.e = none → wtsK 0 (H.cs ++ [c]) = H.wts ++ [⟨((H.cs.length : Nat) : Int), c.o, c.l⟩] := fun c hc => by
   rw [wtsK_app, wtsK_n hc, Nat.zero_add]; rfl
 unfold begunS
 suffices key : HOk (b + 1) { H with cs := H.cs ++ [⟨o, o.many, none⟩], lines := H.lines ++ [row] } from (settle_ok key).1
 refine ⟨fun c hc => ?_, fun c hc he => ?_, ?_, ?_, ?_, h.time⟩
 · rcases List.mem_append.mp hc with hc | hc
   · exact h.ofr c hc
   · simp at hc; subst hc; exact ho
 · rcases List.mem_append.mp hc with hc | hc
   · exact h.left c hc he
   · simp at hc; subst hc; have := ho.m1; constructor
     · exact this
     · exact Int.le_refl _
 · show (wtsK 0 (H.cs ++ [_])).length ≤ 30
   rw [ew _ rfl, List.length_append]
   simp; omega
 · show (H.cs ++ [_]).length ≤ b + 1
   rw [List.length_append]
   have := h.len
   simp; omega
 · show (H.lines ++ [_]).length + (wtsK 0 (H.cs ++ [_])).length ≤ 2 * (b + 1)
   rw [ew _ rfl, List.length_append, List.length_append]
   have := h.lines
   simp; omega
theorem named_at {H : Hs} {x : Str} {n : Int} (h : named x H = some n) : ∃ c, H.cs[n.toNat]? = some c ∧ c.e = none ∧ c.o.card.name = x ∧ 0 ≤ n ∧ (⟨n, c.o, c.l⟩ : Wt) ∈ H.wts := by
 unfold named at h
 cases hf : H.wts.find? fun w => decide (w.o.card.name = x) with
 | none => rw [hf] at h; cases h
 | some w =>
   rw [hf] at h
   cases h
   obtain ⟨c, c1, c2, c3, c4⟩ := wt_at (List.mem_of_find?_eq_some hf)
   have hx := List.find?_some hf
   refine ⟨c, c1, c2, ?_, c4, ?_⟩
   · rw [c3] at hx; exact of_decide_eq_true hx
   · have : (⟨w.n, c.o, c.l⟩ : Wt) = w := by rw [c3]
     rw [this]; exact List.mem_of_find?_eq_some hf
theorem modify_mem {f : Cm → Cm} {i : Nat} {cs : List Cm} {c : Cm} (h : c ∈ cs.modify i f) : ∃ (j : Nat) (d : Cm), cs[j]? = some d ∧ ((j ≠ i ∧ c = d) ∨ (j = i ∧ c = f d)) := by
 obtain ⟨j, hj⟩ := List.mem_iff_getElem?.mp h
 rw [List.getElem?_modify] at hj
 cases hd : cs[j]? with
 | none => rw [hd] at hj; cases hj
 | some d =>
   rw [hd] at hj
   simp at hj
   by_cases hi : i = j
   · rw [if_pos hi] at hj; exact ⟨j, d, hd, .inr ⟨hi.symm, hj.symm⟩⟩
   · rw [if_neg hi] at hj; exact ⟨j, d, hd, .inl ⟨fun e => hi e.symm, hj.symm⟩⟩
theorem modify_at {f : Cm → Cm} {i j : Nat} {cs : List Cm} {c d : Cm} (h1 : cs[j]? = some c) (h2 : (cs.modify i f)[j]? = some d) : d = if i = j then f c else c := by
 rw [List.getElem?_modify, h1] at h2
 simp at h2
 exact h2.symm
theorem HOk.ended {b : Nat} {H : Hs} {n : Int} {w : Str} {t : Int} {c : Cm} (h : HOk b H) (hc : H.cs[n.toNat]? = some c) (he : c.e = none) : HOk b (H.ended n w t) ∧ (H.ended n w t).wts.length + 1 ≤ H.wts.length := by
 have lt : (H.ended n w t).wts.length + 1 ≤ H.wts.length := by
   refine wtsK_len_lt (cs := H.cs) (ds := H.cs.modify n.toNat (endC w t)) (List.length_modify ..).symm (fun i a d h1 h2 h3 => ?_) ⟨n.toNat, c, endC w t c, hc, by rw [List.getElem?_modify, hc]; simp, he, by unfold endC; simp⟩
   have := modify_at h1 h2
   split at this
   · subst this; cases h3
   · subst this; exact h3
 refine ⟨⟨fun d hd => ?_, fun d hd e => ?_, by have := h.few; omega, by show (H.cs.modify _ _).length ≤ b; rw [List.length_modify]; exact h.len, by have := h.lines; show H.lines.length + _ ≤ _; omega, h.time⟩, lt⟩
 · obtain ⟨j, d', h1, ⟨_, rfl⟩ | ⟨_, rfl⟩⟩ := modify_mem hd
   · exact h.ofr _ (List.mem_of_getElem? h1)
   · exact h.ofr d' (List.mem_of_getElem? h1)
 · obtain ⟨j, d', h1, ⟨_, rfl⟩ | ⟨_, rfl⟩⟩ := modify_mem hd
   · exact h.left _ (List.mem_of_getElem? h1) e
   · cases e
theorem wtsK_modify_len {f : Cm → Cm} (hf : ∀ c, (f c).e = c.e) {i : Nat} : ∀ {k : Nat} {cs : List Cm}, (wtsK k (cs.modify i f)).length = (wtsK k cs).length := fun {k cs} => by
 apply Nat.le_antisymm
 · refine wtsK_len_le (List.length_modify ..).symm fun j c d h1 h2 h3 => ?_
   have := modify_at h1 h2
   split at this
   · rw [this, hf] at h3; exact h3
   · rw [this] at h3; exact h3
 · refine wtsK_len_le (List.length_modify ..) fun j c d h1 h2 h3 => ?_
   have := modify_at h2 h1
   split at this
   · rw [this, hf]; exact h3
   · rw [this]; exact h3
theorem HOk.modify {b : Nat} {H : Hs} {f : Cm → Cm} {n : Int} {row : Row} (h : HOk b H) (hf : ∀ c, (f c).e = c.e) (hg : ∀ c, H.cs[n.toNat]? = some c → (f c).o.ok ∧ (c.e = none → 1 ≤ (f c).l ∧ (f c).l ≤ (f c).o.many)) : HOk (b + 1) { H with cs := H.cs.modify n.toNat f, lines := H.lines ++ [row] } := by
 refine ⟨fun d hd => ?_, fun d hd e => ?_, ?_, ?_, ?_, h.time⟩
 · obtain ⟨j, d', h1, ⟨_, rfl⟩ | ⟨rfl, rfl⟩⟩ := modify_mem hd
   · exact h.ofr _ (List.mem_of_getElem? h1)
   · exact (hg d' h1).1
 · obtain ⟨j, d', h1, ⟨_, rfl⟩ | ⟨rfl, rfl⟩⟩ := modify_mem hd
   · exact h.left _ (List.mem_of_getElem? h1) e
   · exact (hg d' h1).2 (by rw [hf] at e; exact e)
 · show (wtsK 0 (H.cs.modify _ _)).length ≤ 30
   rw [wtsK_modify_len hf]; exact h.few
 · show (H.cs.modify _ _).length ≤ b + 1
   rw [List.length_modify]; have := h.len; omega
 · show (H.lines ++ [row]).length + (wtsK 0 (H.cs.modify _ _)).length ≤ 2 * (b + 1)
   rw [wtsK_modify_len hf, List.length_append]
   have := h.lines
   have e : (wtsK 0 H.cs).length = H.wts.length := rfl
   rw [e]
   simp; omega
theorem HOk.lined {b : Nat} {H : Hs} {row : Row} (h : HOk b H) : HOk (b + 1) { H with lines := H.lines ++ [row] } :=
 ⟨h.ofr, h.left, h.few, by have := h.len; show H.cs.length ≤ b + 1; omega, by have := h.lines; show (H.lines ++ [row]).length + H.wts.length ≤ _; rw [List.length_append]; simp; omega, h.time⟩
theorem HOk.come {g : Cfg} {b : Nat} {t : Int} {o : Ofr} {H : Hs} (h : HOk b H) (ho : o.ok) : HOk (b + 1) (comeR g t o H).2 := by
 unfold comeR
 split
 · rename_i ht
   have hk := (reach_ok (g := g) h (timeOk_N ht)).1
   dsimp only
   split
   · exact hk.mono (by omega)
   · split
     · exact hk.mono (by omega)
     · split
       · exact hk.mono (by omega)
       · exact hk.begun ho (by omega)
 · exact h.mono (by omega)
theorem HOk.off {g : Cfg} {b : Nat} {t : Int} {x : Str} {H : Hs} (h : HOk b H) : HOk (b + 1) (offR g t x H).2 := by
 unfold offR
 split
 · rename_i ht
   have hk := (reach_ok (g := g) h (timeOk_N ht)).1
   dsimp only
   cases hn : named x (reach g t H) with
   | none => exact hk.mono (by omega)
   | some n =>
     obtain ⟨c, c1, c2, _⟩ := named_at hn
     exact (settle_ok (H := { (reach g t H).ended n "off" t with lines := (reach g t H).lines ++ [.off t x] }) (hk.ended (w := "off") (t := t) c1 c2).1.lined).1
 · exact h.mono (by omega)
theorem HOk.change {g : Cfg} {b : Nat} {t : Int} {o : Ofr} {H : Hs} (h : HOk b H) (ho : o.ok) : HOk (b + 1) (changeR g t o H).2 := by
 unfold changeR
 split
 · rename_i ht
   have hk := (reach_ok (g := g) h (timeOk_N ht)).1
   dsimp only
   cases hn : named o.card.name (reach g t H) with
   | none => exact hk.mono (by omega)
   | some n =>
     obtain ⟨c, c1, c2, _⟩ := named_at hn
     dsimp only
     split
     · exact hk.mono (by omega)
     · obtain ⟨k1, k2⟩ := hk.ended (w := "changed") (t := t) c1 c2
       exact k1.begun ho (by have := hk.few; omega)
 · exact h.mono (by omega)
theorem leftN_at {H : Hs} {n : Int} {c : Cm} (h : H.cs[n.toNat]? = some c) : leftN n H = c.l := by unfold leftN; rw [h]; rfl
theorem HOk.less {g : Cfg} {b : Nat} {t m : Int} {x : Str} {H : Hs} (h : HOk b H) : HOk (b + 1) (lessR g t x m H).2 := by
 unfold lessR
 split
 · rename_i ht
   have hk := (reach_ok (g := g) h (timeOk_N ht)).1
   dsimp only
   cases hn : named x (reach g t H) with
   | none => exact hk.mono (by omega)
   | some n =>
     obtain ⟨c, c1, c2, _⟩ := named_at hn
     dsimp only
     split
     · rename_i hm
       suffices key : HOk (b + 1) { reach g t H with cs := (reach g t H).cs.modify n.toNat (fun c => { c with l := m }), lines := (reach g t H).lines ++ [.less t x m] } from (settle_ok key).1
       generalize reach g t H = K at *
       refine hk.modify (f := fun c => { c with l := m }) (fun _ => rfl) fun d hd => ?_
       rw [c1] at hd
       cases hd
       refine ⟨hk.ofr c (List.mem_of_getElem? c1), fun _ => ?_⟩
       have := hk.left c (List.mem_of_getElem? c1) c2
       rw [leftN_at c1] at hm
       dsimp only
       omega
     · exact hk.mono (by omega)
 · exact h.mono (by omega)
theorem HOk.wait {g : Cfg} {b : Nat} {t u : Int} {x : Str} {H : Hs} (h : HOk b H) : HOk (b + 1) (waitR g t x u H).2 := by
 unfold waitR
 split
 · rename_i ht
   have hk := (reach_ok (g := g) h (timeOk_N ht.1)).1
   dsimp only
   cases hn : named x (reach g t H) with
   | none => exact hk.mono (by omega)
   | some n =>
     obtain ⟨c, c1, c2, _⟩ := named_at hn
     dsimp only
     split
     · exact hk.mono (by omega)
     · suffices key : HOk (b + 1) { reach g t H with cs := (reach g t H).cs.modify n.toNat (tillC u), lines := (reach g t H).lines ++ [.wait t x u] } from (settle_ok key).1
       generalize reach g t H = K at *
       refine hk.modify (f := tillC u) (fun _ => rfl) fun d hd => ?_
       rw [c1] at hd
       cases hd
       have k := hk.ofr c (List.mem_of_getElem? c1)
       exact ⟨⟨k.side, k.card, k.fine, k.deep, k.parts, k.m1, k.m2, k.l1, k.l2, k.w1, k.w2, ht.2⟩, fun _ => hk.left c (List.mem_of_getElem? c1) c2⟩
 · exact h.mono (by omega)
end
end L2.MP
end
section
namespace L2.MP
open PySem PySem.Spec PyProof.Rows L2.MP
local macro_rules
 | `(tactic| trivial) => `(tactic| first
   | refine w_seq ?_ | refine w_set ?_ | refine w_setOwn ?_ | refine w_setHp ?_ | refine w_retS ?_ | refine w_retHp ?_ | refine w_ite ?_ | refine w_expr ?_ | refine w_asg ?_ | refine w_setIx ?_ | refine w_mut ?_ | refine w_hp ?_
   | refine w_lm1 ?_ | refine w_bl ?_ | refine w_op2 ?_ | refine w_op1 ?_ | refine w_opF1 ?_ | refine w_opF2 ?_ | refine w_chainP ?_ | refine w_and ?_ | refine w_or ?_ | refine w_not ?_ | refine w_notT ?_ | refine w_andT ?_
   | refine w_orT ?_ | refine w_tru ?_ | refine w_fz ?_ | refine w_lst ?_ | refine w_tup ?_ | refine w_cons ?_ | refine w_nil ?_ | refine w_sl ?_ | refine w_slF ?_ | refine w_part ?_ | refine w_part0 ?_ | refine w_sm0 ?_
   | refine w_sm1 ?_ | refine w_disp ?_ | refine w_pr ?_ | refine w_pr0 ?_ | refine w_for ?_ | refine w_walk ?_ | refine w_rng1 ?_ | refine w_rng2 ?_ | refine w_enum ?_ | refine w_zip ?_ | refine w_fn ?_ | refine w_comp ?_
   | refine w_count ?_ | refine w_raise0 ?_ | refine w_raise1 ?_ | refine w_augIx ?_ | refine w_var rfl ?_ | refine w_peek rfl ?_ | refine w_peekO rfl ?_ | refine w_varO rfl rfl ?_ | refine w_ret ?_ | refine w_fld ?_ | refine w_meths ?_ | refine w_enumO ?_
   | refine w_setFld ?_)
local macro_rules
 | `(tactic| trivial) => `(tactic| first
   | refine Rl.go ?_ | ((with_reducible apply w_var); exact rfl) | ((with_reducible apply w_peek); exact rfl) | ((with_reducible apply w_peekO); exact rfl) | ((with_reducible apply w_varO); exact rfl; exact rfl)
   | with_reducible (first | refine w_hp ?_ | refine w_lm1 ?_ | refine w_enum ?_ | refine w_count ?_ | refine w_raise0 ?_ | refine w_raise1 ?_ | refine w_augIx ?_)
   | refine ⟨_, ix0, ?_⟩ | refine ⟨_, ix1, ?_⟩ | refine ⟨_, ix2, ?_⟩ | refine ⟨_, ix3, ?_⟩ | refine rg_and ?_ | refine ⟨_, rfl, ?_⟩ | refine ⟨rfl, ?_⟩ | refine ⟨Nat.le_of_ble_eq_true rfl, ?_⟩ | refine ⟨fun _ => ?_, fun h => Bool.noConfusion (show true = false from h)⟩ | refine ⟨fun h => Bool.noConfusion (show false = true from h), fun _ => ?_⟩)
section
variable {R : Flo → Envr → Sto → Prop}
local macro_rules
 | `(tactic| trivial) => `(tactic| first
   | with_reducible (first | refine w_fld ?_ | refine w_meths ?_ | refine w_enumO ?_ | refine w_setFld ?_))
structure Ad where
 n : Nat
 o : Nat
 l : Nat
 e : Nat
 x : Nat
def Ad.all (a : Ad) : List Nat := [a.n, a.o, a.l, a.e, a.x]
def hA (r b q t : D) (a : Ad) : List (Str × D) := [("rule", r), ("borne", b), ("quiet", q), ("time", t), ("offers", .ref a.o), ("lefts", .ref a.l), ("ends", .ref a.e), ("lines", .ref a.x)]
def cO (c : Cm) : D := c.o.toD
def cL (c : Cm) : D := .int c.l
def cE (c : Cm) : D := endD c.e
structure HAt (c : Nat) (a : Ad) (g : Cfg) (H : Hs) (S : Sto) : Prop where
 n : S[a.n]? = some (.ins c (hA (strsT g.rule) (strsT g.borne) (qsD g.quiet) (timeD H.time) a))
 o : S[a.o]? = some (.lst (H.cs.map cO))
 l : S[a.l]? = some (.lst (H.cs.map cL))
 e : S[a.e]? = some (.lst (H.cs.map cE))
 x : S[a.x]? = some (.lst (H.lines.map Row.toD))
 nd : a.all.Nodup
def Only (L : List Nat) (S S' : Sto) : Prop := S'.length = S.length ∧ ∀ m, m ∉ L → S'[m]? = S[m]?
theorem Only.refl {L : List Nat} {S : Sto} : Only L S S := ⟨rfl, fun _ _ => rfl⟩
theorem Only.trans {L : List Nat} {S S' S'' : Sto} (h : Only L S S') (k : Only L S' S'') : Only L S S'' := ⟨k.1.trans h.1, fun m hm => (k.2 m hm).trans (h.2 m hm)⟩
theorem Only.set {L : List Nat} {S : Sto} {i : Nat} {c : Cell} (h : i ∈ L) : Only L S (S.set i c) := ⟨by rw [List.length_set], fun m hm => List.getElem?_set_ne fun e => hm (by rw [← e]; exact h)⟩
theorem Only.mono {L M : List Nat} {S S' : Sto} (h : Only L S S') (hl : ∀ x ∈ L, x ∈ M) : Only M S S' := ⟨h.1, fun m hm => h.2 m fun k => hm (hl m k)⟩
theorem Ad.ne {a : Ad} (h : a.all.Nodup) : a.n ≠ a.o ∧ a.n ≠ a.l ∧ a.n ≠ a.e ∧ a.n ≠ a.x ∧ a.o ≠ a.l ∧ a.o ≠ a.e ∧ a.o ≠ a.x ∧ a.l ≠ a.e ∧ a.l ≠ a.x ∧ a.e ≠ a.x := by
 unfold Ad.all at h
 simp at h
 omega
theorem HAt.frame {c : Nat} {a : Ad} {g : Cfg} {H : Hs} {S S' : Sto} {L : List Nat} (h : HAt c a g H S) (k : Only L S S') (d : ∀ m ∈ a.all, m ∉ L) : HAt c a g H S' :=
 ⟨(k.2 _ (d _ (by simp [Ad.all]))).trans h.n, (k.2 _ (d _ (by simp [Ad.all]))).trans h.o, (k.2 _ (d _ (by simp [Ad.all]))).trans h.l, (k.2 _ (d _ (by simp [Ad.all]))).trans h.e, (k.2 _ (d _ (by simp [Ad.all]))).trans h.x, h.nd⟩
def lastX (xt : Nat) (H : Hs) : Exn := ⟨xt, [("last", timeD H.time)]⟩
end
section
variable {R : Flo → Envr → Sto → Prop}
local macro_rules
 | `(tactic| trivial) => `(tactic| first
   | with_reducible (first | refine w_fld ?_ | refine w_meths ?_ | refine w_enumO ?_ | refine w_setFld ?_))
theorem HOk.rule {g : Cfg} (h : CfgOk g) : g.rule.length ≤ 100 := by have := h.rule.len; omega
end
section
variable {R : Flo → Envr → Sto → Prop}
local macro_rules
 | `(tactic| trivial) => `(tactic| first
   | with_reducible (first | refine w_fld ?_ | refine w_meths ?_ | refine w_enumO ?_ | refine w_setFld ?_))
end
section
variable {R : Flo → Envr → Sto → Prop}
local macro_rules
 | `(tactic| trivial) => `(tactic| first
   | with_reducible (first | refine w_fld ?_ | refine w_meths ?_ | refine w_enumO ?_ | refine w_setFld ?_))
structure Xc where
 xo : Nat
 xt : Nat
 xh : Nat
 xn : Nat
 xl : Nat
 xf : Nat
 xm : Nat
 xk : Nat
def Xc.exn (x : Xc) (H : Hs) : Rf → Exn
 | .offer => ⟨x.xo, []⟩
 | .time => lastX x.xt H
 | .has => ⟨x.xh, []⟩
 | .no => ⟨x.xn, []⟩
 | .late => ⟨x.xl, []⟩
 | .full => ⟨x.xf, []⟩
 | .many => ⟨x.xm, []⟩
 | .number => ⟨x.xk, []⟩
end
end L2.MP
end
section
namespace L2.MP
open PySem PySem.Spec PyProof.Rows L2.MP
local macro_rules
 | `(tactic| trivial) => `(tactic| first
   | refine w_seq ?_ | refine w_set ?_ | refine w_setOwn ?_ | refine w_setHp ?_ | refine w_retS ?_ | refine w_retHp ?_ | refine w_ite ?_ | refine w_expr ?_ | refine w_asg ?_ | refine w_setIx ?_ | refine w_mut ?_ | refine w_hp ?_
   | refine w_lm1 ?_ | refine w_bl ?_ | refine w_op2 ?_ | refine w_op1 ?_ | refine w_opF1 ?_ | refine w_opF2 ?_ | refine w_chainP ?_ | refine w_and ?_ | refine w_or ?_ | refine w_not ?_ | refine w_notT ?_ | refine w_andT ?_
   | refine w_orT ?_ | refine w_tru ?_ | refine w_fz ?_ | refine w_lst ?_ | refine w_tup ?_ | refine w_cons ?_ | refine w_nil ?_ | refine w_sl ?_ | refine w_slF ?_ | refine w_part ?_ | refine w_part0 ?_ | refine w_sm0 ?_
   | refine w_sm1 ?_ | refine w_disp ?_ | refine w_pr ?_ | refine w_pr0 ?_ | refine w_for ?_ | refine w_walk ?_ | refine w_rng1 ?_ | refine w_rng2 ?_ | refine w_enum ?_ | refine w_zip ?_ | refine w_fn ?_ | refine w_comp ?_
   | refine w_count ?_ | refine w_raise0 ?_ | refine w_raise1 ?_ | refine w_augIx ?_ | refine w_var rfl ?_ | refine w_peek rfl ?_ | refine w_peekO rfl ?_ | refine w_varO rfl rfl ?_ | refine w_ret ?_)
local macro_rules
 | `(tactic| trivial) => `(tactic| first
   | refine Rl.go ?_ | ((with_reducible apply w_var); exact rfl) | ((with_reducible apply w_peek); exact rfl) | ((with_reducible apply w_peekO); exact rfl) | ((with_reducible apply w_varO); exact rfl; exact rfl)
   | with_reducible (first | refine w_hp ?_ | refine w_lm1 ?_ | refine w_enum ?_ | refine w_count ?_ | refine w_raise0 ?_ | refine w_raise1 ?_ | refine w_augIx ?_)
   | refine ⟨_, ix0, ?_⟩ | refine ⟨_, ix1, ?_⟩ | refine ⟨_, ix2, ?_⟩ | refine ⟨_, ix3, ?_⟩ | refine rg_and ?_ | refine ⟨_, rfl, ?_⟩ | refine ⟨rfl, ?_⟩ | refine ⟨Nat.le_of_ble_eq_true rfl, ?_⟩ | refine ⟨fun _ => ?_, fun h => Bool.noConfusion (show true = false from h)⟩ | refine ⟨fun h => Bool.noConfusion (show false = true from h), fun _ => ?_⟩)
section
structure Mor where
 fo : Ofr → Ofr
 fx : Str → Str
 dt : Int
 fk : Int
 sw : Bool
def swp : List Int → List Int
 | a :: b :: r => b :: a :: r
 | l => l
theorem swp_perm : ∀ l : List Int, (swp l).Perm l
 | [] => .nil
 | [a] => .refl _
 | a :: b :: r => .swap _ _ _
def Mor.s (M : Mor) (l : List Int) : List Int := if M.sw = true then swp l else l
theorem Mor.s_perm (M : Mor) (l : List Int) : (M.s l).Perm l := by
 unfold Mor.s
 split
 · exact swp_perm l
 · exact .refl _
def Mor.e (M : Mor) (e : Option (Str × Int)) : Option (Str × Int) := e.map fun p => (p.1, p.2 + M.dt)
def Mor.c (M : Mor) (c : Cm) : Cm := ⟨M.fo c.o, c.l * M.fk, M.e c.e⟩
def Mor.w (M : Mor) (w : Wt) : Wt := ⟨w.n, M.fo w.o, w.l * M.fk⟩
def Mor.r (M : Mor) : Row → Row
 | .come t o n => .come (t + M.dt) (M.fo o) n
 | .off t x => .off (t + M.dt) (M.fx x)
 | .change t o n => .change (t + M.dt) (M.fo o) n
 | .less t x m => .less (t + M.dt) (M.fx x) (m * M.fk)
 | .wait t x u => .wait (t + M.dt) (M.fx x) (u + M.dt)
 | .meet t ns m => .meet (t + M.dt) (M.s ns) (m * M.fk)
 | .out t n => .out (t + M.dt) n
def Mor.h (M : Mor) (H : Hs) : Hs := ⟨H.time.map (· + M.dt), H.cs.map M.c, H.lines.map M.r⟩
def first2 (g : Cfg) (ws : List Wt) : Option (List Int × Int) := (firstR g.rule g.borne ws).map fun r => (r.2, partS (sofOf ws r.2))
structure Mor.Ok (M : Mor) (g g' : Cfg) (P : Ofr → Prop) (N : Str → Prop) : Prop where
 k : 0 < M.fk
 till : ∀ o, P o → (M.fo o).till = o.till + M.dt
 many : ∀ o, P o → (M.fo o).many = o.many * M.fk
 tillU : ∀ o u, P o → M.fo { o with till := u } = { M.fo o with till := u + M.dt } ∧ P { o with till := u }
 name : ∀ o, P o → (M.fo o).card.name = M.fx o.card.name
 nm : ∀ o, P o → N o.card.name
 inj : ∀ x y, N x → N y → M.fx x = M.fx y → x = y
 quiet : g'.quiet = g.quiet.map fun p => (p.1 + M.dt, p.2 + M.dt)
 first : ∀ ws, WsOk 6 ws → (∀ w ∈ ws, P w.o ∧ 1 ≤ w.l) → first2 g' (ws.map M.w) = (first2 g ws).map fun p => (M.s p.1, p.2 * M.fk)
def HP (P : Ofr → Prop) (H : Hs) : Prop := ∀ c ∈ H.cs, P c.o
section
variable {M : Mor} {g g' : Cfg} {P : Ofr → Prop} {N : Str → Prop} {b : Nat}
theorem HP.meet {H : Hs} {t m : Int} {ns : List Int} (h : HP P H) (nd : ns.Nodup) (h0 : ∀ n ∈ ns, 0 ≤ n) : HP P (H.meet t ns m) := fun c hc => by
 obtain ⟨i, hi⟩ := List.mem_iff_getElem?.mp hc
 have hi : (meetAll t m ns H.cs)[i]? = some c := hi
 rw [meetAll_get nd h0] at hi
 split at hi
 · cases hd : H.cs[i]? with
   | none => rw [hd] at hi; cases hi
   | some d => rw [hd] at hi; cases hi; exact h d (List.mem_of_getElem? hd)
 · exact h c (List.mem_of_getElem? hi)
end
end
section
theorem leL_sort_by {α : Type} (k : α → List Int) (l : List α) : (l.map k).mergeSort leL = (l.mergeSort fun a b => leL (k a) (k b)).map k := by
 refine leL_of ?_ ?_
 · rw [List.pairwise_map]
   exact List.pairwise_mergeSort (le := fun a b => leL (k a) (k b)) (fun a b c => leL_trans) (fun a b => leL_total _ _) l
 · exact (List.mergeSort_perm l _).map k
theorem rowL_by (rule : List Str) (ws : List Wt) : rowL rule ws = (ws.mergeSort fun a b => leL (rankL rule a) (rankL rule b)).map (·.n) := by
 unfold rowL rowRanks
 rw [leL_sort_by, List.map_map]
 refine List.map_congr_left fun w _ => ?_
 show ((rankL rule w).getLast?).getD 0 = w.n
 unfold rankL
 simp
theorem ltL_map {f h : Str → Int} {f' h' : Str → Int} {a b : Int} : ∀ {rule : List Str}, (∀ x ∈ rule, (f' x < h' x ↔ f x < h x) ∧ (f' x = h' x ↔ f x = h x)) → ltL (rule.map f' ++ [a]) (rule.map h' ++ [b]) = ltL (rule.map f ++ [a]) (rule.map h ++ [b])
 | [], _ => rfl
 | x :: r, hx => by
   obtain ⟨h1, h2⟩ := hx x List.mem_cons_self
   have ih := ltL_map (rule := r) (a := a) (b := b) fun y hy => hx y (List.mem_cons_of_mem _ hy)
   show (decide (f' x < h' x) || (decide (f' x = h' x) && ltL (r.map f' ++ [a]) (r.map h' ++ [b]))) = (decide (f x < h x) || (decide (f x = h x) && ltL (r.map f ++ [a]) (r.map h ++ [b])))
   rw [ih, decide_eq_decide.mpr h1, decide_eq_decide.mpr h2]
theorem row_like {rule : List Str} {ws : List Wt} {f : Wt → Wt} (hn : ∀ w, (f w).n = w.n) (h : ∀ v ∈ ws, ∀ w ∈ ws, ∀ x ∈ rule, (rkW (f v) x < rkW (f w) x ↔ rkW v x < rkW w x) ∧ (rkW (f v) x = rkW (f w) x ↔ rkW v x = rkW w x)) : rowL rule (ws.map f) = rowL rule ws := by
 rw [rowL_by, rowL_by]
 have e : (ws.map f).mergeSort (fun a b => leL (rankL rule a) (rankL rule b)) = (ws.mergeSort fun a b => leL (rankL rule (f a)) (rankL rule (f b))).map f := by
   rw [List.map_mergeSort (r := fun a b => leL (rankL rule (f a)) (rankL rule (f b)))]
   intro a _ b _; rfl
 have e2 : ws.mergeSort (fun a b => leL (rankL rule (f a)) (rankL rule (f b))) = ws.mergeSort fun a b => leL (rankL rule a) (rankL rule b) := by
   have key : ∀ a ∈ ws, ∀ b ∈ ws, leL (rankL rule (f a)) (rankL rule (f b)) = leL (rankL rule a) (rankL rule b) := fun a ha b hb => by
     unfold leL rankL
     rw [hn, hn, ltL_map fun x hx => h b hb a ha x hx]
   have := List.map_mergeSort (r := fun a b => leL (rankL rule (f a)) (rankL rule (f b))) (s := fun a b => leL (rankL rule a) (rankL rule b)) (f := id) (l := ws) (fun a ha b hb => key a ha b hb)
   simpa using this
 rw [e, e2, List.map_map]
 exact List.map_congr_left fun w _ => hn w
def prOk (p q : Ofr × Int) : Prop := p.1.card.kind = q.1.card.kind ∧ p.1.card.name ≠ q.1.card.name ∧ p.1.wish.lets q.1.card = true ∧ q.1.wish.lets p.1.card = true
theorem prOk_symm {p q : Ofr × Int} (h : prOk p q) : prOk q p := ⟨h.1.symm, fun e => h.2.1 e.symm, h.2.2.2, h.2.2.1⟩
theorem unlike_iff {s : Sof} : unlikeS s = false ↔ s.Pairwise fun p q => p.1.card.kind = q.1.card.kind := by
 unfold unlikeS
 rw [decide_eq_false_iff_not]
 have hp : (s.Pairwise fun p q => p.1.card.kind = q.1.card.kind) ↔ (kindsS s).Pairwise (· = ·) := by unfold kindsS; rw [List.pairwise_map]
 rw [hp]
 generalize kindsS s = l
 constructor
 · intro h
   cases l with
   | nil => exact .nil
   | cons x r =>
     have hx : ∀ y ∈ x :: r, y = x := fun y hy => by
       have m1 := (onto_mem (xs := x :: r) (L := [])).mpr (.inl hy)
       have m2 := (onto_mem (xs := x :: r) (L := []) (k := x)).mpr (.inl List.mem_cons_self)
       generalize onto (x :: r) [] = L at h m1 m2
       match L, h, m1, m2 with
       | [], _, m1, _ => cases m1
       | [z], _, m1, m2 => rw [List.mem_singleton.mp m1, List.mem_singleton.mp m2]
       | _ :: _ :: _, h, _, _ => simp at h; omega
     refine List.pairwise_iff_getElem.mpr fun i j hi hj _ => ?_
     rw [hx _ (List.getElem_mem hi), hx _ (List.getElem_mem hj)]
 · intro h
   cases l with
   | nil => simp [onto]
   | cons x r =>
     have := onto_one (x := x) (l := x :: r) fun y hy => by
       rcases List.mem_cons.mp hy with rfl | hy
       · rfl
       · exact ((List.pairwise_cons.mp h).1 y hy).symm
     omega
theorem onto_nd_len : ∀ {l L : List Str}, (onto l L).length = l.length + L.length → l.Nodup
 | [], L, _ => List.nodup_nil
 | x :: l, L, h => by
   have e : onto (x :: l) L = onto l (if x ∈ L then L else x :: L) := rfl
   rw [e] at h
   have le := onto_len (xs := l) (L := if x ∈ L then L else x :: L)
   by_cases hx : x ∈ L
   · rw [if_pos hx] at h le
     rw [List.length_cons] at h
     omega
   · rw [if_neg hx] at h le
     refine List.nodup_cons.mpr ⟨fun hm => ?_, onto_nd_len (L := x :: L) (by rw [h]; simp; omega)⟩
     -- x stands in L already when it comes again
     have key : ∀ {l L : List Str}, (∃ y ∈ l, y ∈ L) → (onto l L).length < l.length + L.length := by
       intro l
       induction l with
       | nil => rintro L ⟨y, hy, _⟩; cases hy
       | cons z l ih =>
         rintro L ⟨y, hy, hL⟩
         have e : onto (z :: l) L = onto l (if z ∈ L then L else z :: L) := rfl
         rw [e]
         by_cases hz : z ∈ L
         · rw [if_pos hz]
           have := onto_len (xs := l) (L := L)
           rw [List.length_cons]; omega
         · rw [if_neg hz]
           rcases List.mem_cons.mp hy with rfl | hy
           · exact absurd hL hz
           · have := ih (L := z :: L) ⟨y, hy, List.mem_cons_of_mem _ hL⟩
             rw [List.length_cons] at this ⊢; omega
     have := key (l := l) (L := x :: L) ⟨x, hm, List.mem_cons_self⟩
     rw [h] at this
     simp at this
     omega
theorem alike_iff {s : Sof} : alikeS s = false ↔ s.Pairwise fun p q => p.1.card.name ≠ q.1.card.name := by
 unfold alikeS
 rw [decide_eq_false_iff_not]
 have hp : (s.Pairwise fun p q => p.1.card.name ≠ q.1.card.name) ↔ (namesS s).Nodup := by unfold namesS; rw [List.nodup_iff_pairwise_ne, List.pairwise_map]
 have hl : s.length = (namesS s).length := by unfold namesS; rw [List.length_map]
 rw [hp, hl]
 generalize namesS s = l
 constructor
 · intro h
   have := onto_len (xs := l) (L := [])
   exact onto_nd_len (L := []) (by simp at this ⊢; omega)
 · intro h
   have := onto_nodup (l := l) (L := []) h (by simp)
   simp at this
   omega
theorem prN_mem {n i j : Nat} : (i, j) ∈ prN n ↔ i < n ∧ j < n ∧ i ≠ j := by
 unfold prN
 rw [List.mem_flatMap]
 constructor
 · rintro ⟨a, ha, h⟩
   obtain ⟨c, hc, e⟩ := List.mem_map.mp h
   obtain ⟨h1, h2⟩ := List.mem_filter.mp hc
   injection e with e1 e2
   subst e1 e2
   exact ⟨List.mem_range.mp ha, List.mem_range.mp h1, by simpa using h2⟩
 · rintro ⟨h1, h2, h3⟩
   exact ⟨i, List.mem_range.mpr h1, List.mem_map.mpr ⟨j, List.mem_filter.mpr ⟨List.mem_range.mpr h2, by simpa using h3⟩, rfl⟩⟩
theorem let_iff {s : Sof} : allLet s = true ↔ s.Pairwise fun p q => p.1.wish.lets q.1.card = true ∧ q.1.wish.lets p.1.card = true := by
 unfold allLet
 rw [List.all_eq_true, List.pairwise_iff_getElem]
 have at_ : ∀ i j (hi : i < s.length) (hj : j < s.length), letAt s (i, j) = s[i].1.wish.lets s[j].1.card := fun i j hi hj => by
   unfold letAt
   dsimp only
   rw [List.getElem?_eq_getElem hi, List.getElem?_eq_getElem hj]
 constructor
 · intro h i j hi hj hij
   have h1 := h (i, j) (prN_mem.mpr ⟨hi, hj, by omega⟩)
   have h2 := h (j, i) (prN_mem.mpr ⟨hj, hi, by omega⟩)
   rw [at_ _ _ hi hj] at h1
   rw [at_ _ _ hj hi] at h2
   exact ⟨h1, h2⟩
 · rintro h ⟨i, j⟩ hp
   obtain ⟨hi, hj, hij⟩ := prN_mem.mp hp
   rw [at_ _ _ hi hj]
   rcases Nat.lt_or_gt_of_ne hij with g | g
   · exact (h i j hi hj g).1
   · exact (h j i hj hi g).2
theorem short_iff {s : Sof} : anyShort s = true ↔ ∃ p ∈ s, shortB s p = true := by
 unfold anyShort
 rw [List.any_eq_true]
 constructor
 · rintro ⟨k, hk, h⟩
   have hk := List.mem_range.mp hk
   unfold shortAt at h
   rw [List.getElem?_eq_getElem hk] at h
   exact ⟨_, List.getElem_mem hk, h⟩
 · rintro ⟨p, hp, h⟩
   obtain ⟨k, hk, rfl⟩ := List.mem_iff_getElem.mp hp
   refine ⟨k, List.mem_range.mpr hk, ?_⟩
   unfold shortAt
   rw [List.getElem?_eq_getElem hk]
   exact h
def meets (s : Sof) : Prop := s.Pairwise prOk ∧ ∀ p ∈ s, shortB s p = false
theorem meets_iff {s : Sof} : meets s ↔ unlikeS s = false ∧ alikeS s = false ∧ allLet s = true ∧ anyShort s = false := by
 have hpw : s.Pairwise prOk ↔ unlikeS s = false ∧ alikeS s = false ∧ allLet s = true := by
   rw [unlike_iff, alike_iff, let_iff]
   constructor
   · intro h; exact ⟨h.imp fun h => h.1, h.imp fun h => h.2.1, h.imp fun h => h.2.2⟩
   · rintro ⟨h1, h2, h3⟩; exact ((h1.and h2).and h3).imp fun h => ⟨h.1.1, h.1.2, h.2⟩
 have hsh : (∀ p ∈ s, shortB s p = false) ↔ anyShort s = false := by
   rw [← Bool.not_eq_true, short_iff]
   constructor
   · rintro h ⟨p, hp, hs⟩; rw [h p hp] at hs; cases hs
   · intro h p hp
     cases e : shortB s p with
     | false => rfl
     | true => exact absurd ⟨p, hp, e⟩ h
 unfold meets
 rw [hpw, hsh]
 constructor
 · rintro ⟨⟨a, b, c⟩, d⟩; exact ⟨a, b, c, d⟩
 · rintro ⟨a, b, c, d⟩; exact ⟨⟨a, b, c⟩, d⟩
theorem part_yes {s : Sof} (h : meets s) : partS s = leastL s := by
 obtain ⟨a, b, c, d⟩ := meets_iff.mp h
 unfold partS
 rw [a, b, c, d]
 simp
theorem part_no {s : Sof} (h : ¬ meets s) : partS s = 0 := by
 rw [meets_iff] at h
 unfold partS
 revert h
 cases unlikeS s <;> cases alikeS s <;> cases allLet s <;> cases anyShort s <;> simp
theorem least_perm {s s' : Sof} (p : s'.Perm s) (hne : s ≠ []) : leastL s' = leastL s := by
 have hne' : s' ≠ [] := fun e => hne (by subst e; exact p.nil_eq.symm ▸ rfl)
 unfold leastL
 obtain ⟨a1, a2⟩ := minI_mem (l := s.map (·.2)) (by simpa using hne)
 obtain ⟨b1, b2⟩ := minI_mem (l := s'.map (·.2)) (by simpa using hne')
 have pm := p.map (·.2)
 exact Int.le_antisymm (b2 _ (pm.mem_iff.mpr a1)) (a2 _ (pm.mem_iff.mp b1))
theorem least_mul {k : Int} (hk : 0 < k) : ∀ {l : List Int}, minI (l.map (· * k)) = minI l * k
 | [] => by simp [minI]
 | [a] => by simp [minI]
 | a :: b :: r => by
   have ih := least_mul hk (l := b :: r)
   show min (a * k) (minI ((b :: r).map (· * k))) = min a (minI (b :: r)) * k
   rw [ih]
   rcases Int.le_total a (minI (b :: r)) with h | h
   · rw [Int.min_eq_left h, Int.min_eq_left (Int.mul_le_mul_of_nonneg_right h (Int.le_of_lt hk))]
   · rw [Int.min_eq_right h, Int.min_eq_right (Int.mul_le_mul_of_nonneg_right h (Int.le_of_lt hk))]
theorem part_sim {F : Ofr → Ofr} {k : Int} (hk : 0 < k) {s s' : Sof} (hp : s'.Perm (s.map fun p => (F p.1, p.2 * k))) (hne : s ≠ [])
   (h : ∀ p ∈ s, ∀ q ∈ s, (prOk (F p.1, p.2 * k) (F q.1, q.2 * k) ↔ prOk p q)) (hl : ∀ p ∈ s, (F p.1).least = p.1.least * k) : partS s' = partS s * k := by
 have e1 : s'.Pairwise prOk ↔ s.Pairwise prOk := by
   rw [hp.pairwise_iff (fun h => prOk_symm h), List.pairwise_map]
   constructor
   · intro g
     refine List.Pairwise.imp_of_mem ?_ g
     intro a b ha hb hab
     exact (h a ha b hb).mp hab
   · intro g
     refine List.Pairwise.imp_of_mem ?_ g
     intro a b ha hb hab
     exact (h a ha b hb).mpr hab
 have hne2 : s.map (fun p => (F p.1, p.2 * k)) ≠ [] := by simpa using hne
 have e2 : leastL s' = leastL s * k := by
   rw [least_perm hp hne2]
   unfold leastL
   rw [List.map_map, ← least_mul hk, List.map_map]; rfl
 have e3 : ∀ p ∈ s, shortB s' (F p.1, p.2 * k) = shortB s p := fun p hp => by
   unfold shortB
   rw [e2, hl p hp]
   dsimp only
   have c1 : (p.2 * k < p.1.least * k) ↔ p.2 < p.1.least := ⟨fun h => Int.lt_of_mul_lt_mul_right h (Int.le_of_lt hk), fun h => Int.mul_lt_mul_of_pos_right h hk⟩
   by_cases c : p.2 < p.1.least
   · rw [if_pos c, if_pos (c1.mpr c)]
     exact decide_eq_decide.mpr ⟨fun h => Int.lt_of_mul_lt_mul_right h (Int.le_of_lt hk), fun h => Int.mul_lt_mul_of_pos_right h hk⟩
   · rw [if_neg c, if_neg (fun h => c (c1.mp h))]
     exact decide_eq_decide.mpr ⟨fun h => Int.lt_of_mul_lt_mul_right h (Int.le_of_lt hk), fun h => Int.mul_lt_mul_of_pos_right h hk⟩
 have e4 : (∀ p ∈ s', shortB s' p = false) ↔ ∀ p ∈ s, shortB s p = false := by
   constructor
   · intro g p hp0
     rw [← e3 p hp0]
     exact g _ (hp.mem_iff.mpr (List.mem_map_of_mem (f := fun p => (F p.1, p.2 * k)) hp0))
   · intro g p hp0
     obtain ⟨p, hp1, rfl⟩ := List.mem_map.mp (hp.mem_iff.mp hp0)
     rw [e3 p hp1]; exact g p hp1
 by_cases c : meets s
 · rw [part_yes c, part_yes (s := s') ⟨e1.mpr c.1, e4.mpr c.2⟩, e2]
 · rw [part_no c, part_no (s := s') (fun h => c ⟨e1.mp h.1, e4.mp h.2⟩), Int.zero_mul]
theorem find_mapW {f : Wt → Wt} (hn : ∀ w, (f w).n = w.n) {F : Ofr → Ofr} {k : Int} (hf : ∀ w, (f w).o = F w.o ∧ (f w).l = w.l * k) {n : Int} : ∀ {ws : List Wt}, (((ws.map f).map onP).find? fun p => decide (p.1 = n)) = (((ws.map onP).find? fun p => decide (p.1 = n))).map fun p => (p.1, (F p.2.1, p.2.2 * k))
 | [] => rfl
 | w :: ws => by
   rw [List.map_cons, List.map_cons, List.map_cons, List.find?_cons, List.find?_cons]
   have : onP (f w) = (w.n, (F w.o, w.l * k)) := by unfold onP; rw [hn, (hf w).1, (hf w).2]
   rw [this]
   show (match decide (w.n = n) with | true => _ | false => _) = Option.map _ (match decide (w.n = n) with | true => _ | false => _)
   cases decide (w.n = n) with
   | true => rfl
   | false => exact find_mapW hn hf
theorem sof_map {ws : List Wt} {f : Wt → Wt} (hn : ∀ w, (f w).n = w.n) {F : Ofr → Ofr} {k : Int} (hf : ∀ w, (f w).o = F w.o ∧ (f w).l = w.l * k) : ∀ {s : List Int}, sofOf (ws.map f) s = (sofOf ws s).map fun p => (F p.1, p.2 * k)
 | [] => rfl
 | n :: s => by
   have ih := @sof_map ws f hn F k hf s
   unfold sofOf at ih ⊢
   rw [List.filterMap_cons, List.filterMap_cons, ih, find_mapW hn hf]
   cases (ws.map onP).find? fun p => decide (p.1 = n) with
   | none => rfl
   | some p => rfl
theorem firstR_least {rule borne : List Str} {ws : List Wt} {r : Rk} (h : firstR rule borne ws = some r) : r ∈ ranksL rule borne ws ∧ 0 < partS (sofOf ws r.2) ∧ ∀ y ∈ ranksL rule borne ws, 0 < partS (sofOf ws y.2) → leR r y = true := by
 unfold firstR at h
 refine ⟨List.mem_of_find?_eq_some h, by simpa using List.find?_some h, fun y hy hp => ?_⟩
 exact find_least (leR_sorted _) r h y hy (by simpa using hp)
theorem sim_first {g g' : Cfg} {ws : List Wt} {f : Wt → Wt} {fs : List Int → List Int} {k : Int} (hk : 0 < k)
   (hrow : rowL g'.rule (ws.map f) = rowL g.rule ws)
   (hs1 : ∀ s ∈ setsRaw g.borne ws, fs s ∈ setsRaw g'.borne (ws.map f)) (hs2 : ∀ s' ∈ setsRaw g'.borne (ws.map f), ∃ s ∈ setsRaw g.borne ws, s' = fs s)
   (hp : ∀ s ∈ setsRaw g.borne ws, partS (sofOf (ws.map f) (fs s)) = partS (sofOf ws s) * k)
   (hle : ∀ s ∈ setsRaw g.borne ws, ∀ t ∈ setsRaw g.borne ws, leR (rkOf (rowL g.rule ws) s) (rkOf (rowL g.rule ws) t) = true → leR (rkOf (rowL g.rule ws) (fs s)) (rkOf (rowL g.rule ws) (fs t)) = true) :
   first2 g' (ws.map f) = (first2 g ws).map fun p => (fs p.1, p.2 * k) := by
 unfold first2
 have pos : ∀ a : Int, 0 < a * k ↔ 0 < a := fun a => ⟨fun h => by
   by_cases ha : a ≤ 0
   · have := Int.mul_nonpos_of_nonpos_of_nonneg ha (Int.le_of_lt hk); omega
   · omega, fun h => Int.mul_pos h hk⟩
 cases e : firstR g.rule g.borne ws with
 | none =>
   have hn : ∀ s ∈ setsRaw g.borne ws, ¬ 0 < partS (sofOf ws s) := fun s hs h => by
     have := List.find?_eq_none.mp e (rkOf (rowL g.rule ws) s) (ranks_mem.mpr ⟨s, setsL_mem.mpr hs, rfl⟩)
     exact this (decide_eq_true h)
   have : firstR g'.rule g'.borne (ws.map f) = none := first_none fun y hy h => by
     obtain ⟨s', hs', rfl⟩ := ranks_mem.mp hy
     obtain ⟨s, hs, rfl⟩ := hs2 s' (setsL_mem.mp hs')
     have h : 0 < partS (sofOf (ws.map f) (fs s)) := h
     rw [hp s hs, pos] at h
     exact hn s hs h
   rw [this]; rfl
 | some r =>
   obtain ⟨h1, h2, h3⟩ := firstR_least e
   obtain ⟨s, hs, rfl⟩ := ranks_mem.mp h1
   have hs := setsL_mem.mp hs
   have : firstR g'.rule g'.borne (ws.map f) = some (rkOf (rowL g'.rule (ws.map f)) (fs s)) := by
     refine first_is (ranks_mem.mpr ⟨fs s, setsL_mem.mpr (hs1 s hs), rfl⟩) ?_ fun y hy h => ?_
     · show 0 < partS (sofOf (ws.map f) (fs s))
       rw [hp s hs, pos]; exact h2
     · obtain ⟨t', ht', rfl⟩ := ranks_mem.mp hy
       obtain ⟨t, ht, rfl⟩ := hs2 t' (setsL_mem.mp ht')
       have h : 0 < partS (sofOf (ws.map f) (fs t)) := h
       rw [hp t ht, pos] at h
       rw [hrow]
       exact hle s hs t ht (h3 _ (ranks_mem.mpr ⟨t, setsL_mem.mpr ht, rfl⟩) h)
   rw [this]
   show some (fs s, partS (sofOf (ws.map f) (fs s))) = some (fs s, partS (sofOf ws s) * k)
   rw [hp s hs]
def swS (x : Str) : Str := if x = "give" then "take" else if x = "take" then "give" else x
structure Mor.Loc (M : Mor) (g g' : Cfg) (P : Ofr → Prop) (N : Str → Prop) : Prop where
 k : 0 < M.fk
 till : ∀ o, P o → (M.fo o).till = o.till + M.dt
 many : ∀ o, P o → (M.fo o).many = o.many * M.fk
 least : ∀ o, P o → (M.fo o).least = o.least * M.fk
 tillU : ∀ o u, P o → M.fo { o with till := u } = { M.fo o with till := u + M.dt } ∧ P { o with till := u }
 name : ∀ o, P o → (M.fo o).card.name = M.fx o.card.name
 nm : ∀ o, P o → N o.card.name
 inj : ∀ x y, N x → N y → M.fx x = M.fx y → x = y
 quiet : g'.quiet = g.quiet.map fun p => (p.1 + M.dt, p.2 + M.dt)
 kind : ∀ o p, P o → P p → ((M.fo o).card.kind = (M.fo p).card.kind ↔ o.card.kind = p.card.kind)
 borne : ∀ o, P o → ((M.fo o).card.kind ∈ g'.borne ↔ o.card.kind ∈ g.borne)
 lets : ∀ o p, P o → P p → (M.fo o).wish.lets (M.fo p).card = o.wish.lets p.card
 side : ∀ o, P o → (M.fo o).side = if M.sw = true then swS o.side else o.side
 rule : g'.rule = g.rule
 heavy : ∀ o, P o → (M.fo o).weight = o.weight
section
variable {M : Mor} {g g' : Cfg} {P : Ofr → Prop} {N : Str → Prop}
theorem Mor.Loc.row (h : M.Loc g g' P N) {ws : List Wt} (hw : ∀ w ∈ ws, P w.o) : rowL g'.rule (ws.map M.w) = rowL g.rule ws := by
 rw [h.rule]
 refine row_like (fun _ => rfl) fun v hv w hw2 x _ => ?_
 have e1 := h.till _ (hw v hv)
 have e2 := h.till _ (hw w hw2)
 have f1 := h.heavy _ (hw v hv)
 have f2 := h.heavy _ (hw w hw2)
 have k := h.k
 have m1 : v.l * M.fk < w.l * M.fk ↔ v.l < w.l := ⟨fun h => Int.lt_of_mul_lt_mul_right h (Int.le_of_lt k), fun h => Int.mul_lt_mul_of_pos_right h k⟩
 have m2 : w.l * M.fk < v.l * M.fk ↔ w.l < v.l := ⟨fun h => Int.lt_of_mul_lt_mul_right h (Int.le_of_lt k), fun h => Int.mul_lt_mul_of_pos_right h k⟩
 have m3 : v.l * M.fk = w.l * M.fk ↔ v.l = w.l := by
   constructor
   · intro h
     rcases Int.lt_trichotomy v.l w.l with c | c | c
     · have := m1.mpr c; omega
     · exact c
     · have := m2.mpr c; omega
   · intro h; rw [h]
 unfold rkW Mor.w
 dsimp only
 rw [e1, e2, f1, f2]
 split
 · constructor <;> rfl
 · split
   · constructor
     · constructor
       · intro h; have := m2.mp (by omega); omega
       · intro h; have := m2.mpr (by omega); omega
     · constructor
       · intro h; have := m3.mp (by omega); omega
       · intro h; have := m3.mpr (by omega); omega
   · split
     · exact ⟨m1, m3⟩
     · constructor <;> constructor <;> (intro; omega)
theorem side_map (h : M.Loc g g' P N) {ws : List Wt} (hw : ∀ w ∈ ws, P w.o) {v : Wt} (hv : v ∈ ws) {sd : Str} {n : Int} : n ∈ sideL (ws.map M.w) (if M.sw = true then swS sd else sd) (M.fo v.o).card.kind ↔ n ∈ sideL ws sd v.o.card.kind := by
 have sw2 : ∀ x y : Str, swS x = swS y ↔ x = y := fun x y => by
   constructor
   · intro e
     unfold swS at e
     split at e <;> rename_i h1
     · split at e <;> rename_i h2
       · rw [h1, h2]
       · split at e <;> rename_i h3
         · exact absurd e (by decide)
         · exact absurd e.symm h3
     · split at e <;> rename_i h3
       · split at e <;> rename_i h2
         · exact absurd e (by decide)
         · split at e <;> rename_i h4
           · rw [h3, h4]
           · exact absurd e.symm h2
       · split at e <;> rename_i h2
         · exact absurd e h3
         · split at e <;> rename_i h4
           · exact absurd e h1
           · exact e
   · rintro rfl; rfl
 rw [sideL_mem, sideL_mem]
 constructor
 · rintro ⟨u', hu', e1, e2, e3⟩
   obtain ⟨u, hu, rfl⟩ := List.mem_map.mp hu'
   refine ⟨u, hu, e1, ?_, (h.kind _ _ (hw u hu) (hw v hv)).mp e3⟩
   have := h.side _ (hw u hu)
   have e2 : (M.fo u.o).side = _ := e2
   rw [this] at e2
   cases hs : M.sw with
   | true => rw [hs] at e2; exact (sw2 _ _).mp e2
   | false => rw [hs] at e2; exact e2
 · rintro ⟨u, hu, e1, e2, e3⟩
   refine ⟨M.w u, List.mem_map_of_mem hu, e1, ?_, (h.kind _ _ (hw u hu) (hw v hv)).mpr e3⟩
   show (M.fo u.o).side = _
   rw [h.side _ (hw u hu), e2]
theorem sw_sides (M : Mor) : (if M.sw = true then swS "give" else "give") = (if M.sw = true then "take" else "give" : Str) ∧ (if M.sw = true then swS "take" else "take") = (if M.sw = true then "give" else "take" : Str) ∧ (if M.sw = true then swS "bear" else "bear") = ("bear" : Str) := by
 cases M.sw <;> exact ⟨rfl, rfl, rfl⟩
theorem sets_map (h : M.Loc g g' P N) {ws : List Wt} (hw : ∀ w ∈ ws, P w.o) : (∀ s ∈ setsRaw g.borne ws, M.s s ∈ setsRaw g'.borne (ws.map M.w)) ∧ ∀ s' ∈ setsRaw g'.borne (ws.map M.w), ∃ s ∈ setsRaw g.borne ws, s' = M.s s := by
 obtain ⟨w1, w2, w3⟩ := sw_sides M
 constructor
 · intro s hs
   obtain ⟨k, gi, ti, hg, ht, hs⟩ := setsRaw_mem.mp hs
   obtain ⟨v, hv, ev, sv, kv⟩ := sideL_mem.mp hg
   subst kv
   have hg2 := (side_map h hw hv (sd := "give")).mpr hg
   have ht2 := (side_map h hw hv (sd := "take")).mpr ht
   rw [w1] at hg2
   rw [w2] at ht2
   have hb := h.borne _ (hw v hv)
   rw [setsRaw_mem]
   unfold Mor.s
   cases hsw : M.sw with
   | false =>
     rw [hsw] at hg2 ht2
     rw [if_neg Bool.false_ne_true]
     refine ⟨_, gi, ti, hg2, ht2, ?_⟩
     rcases hs with ⟨hk, b, hbr, rfl⟩ | ⟨hk, rfl⟩
     · have hb2 := (side_map h hw hv (sd := "bear")).mpr hbr
       rw [w3] at hb2
       exact .inl ⟨hb.mpr hk, b, hb2, rfl⟩
     · exact .inr ⟨fun k => hk (hb.mp k), rfl⟩
   | true =>
     rw [hsw] at hg2 ht2
     rw [if_pos rfl]
     refine ⟨_, ti, gi, ht2, hg2, ?_⟩
     rcases hs with ⟨hk, b, hbr, rfl⟩ | ⟨hk, rfl⟩
     · have hb2 := (side_map h hw hv (sd := "bear")).mpr hbr
       rw [w3] at hb2
       exact .inl ⟨hb.mpr hk, b, hb2, rfl⟩
     · exact .inr ⟨fun k => hk (hb.mp k), rfl⟩
 · intro s' hs'
   obtain ⟨k', gi, ti, hg, ht, hs⟩ := setsRaw_mem.mp hs'
   obtain ⟨v', hv', ev, sv, kv⟩ := sideL_mem.mp hg
   obtain ⟨v, hv, rfl⟩ := List.mem_map.mp hv'
   subst kv
   have hb := h.borne _ (hw v hv)
   unfold Mor.s
   have gB : ∀ b, b ∈ sideL (ws.map M.w) "bear" (M.w v).o.card.kind → b ∈ sideL ws "bear" v.o.card.kind := fun b hb => by
     refine (side_map h hw hv (sd := "bear")).mp ?_
     rw [w3]; exact hb
   cases hsw : M.sw with
   | false =>
     have hg2 : gi ∈ sideL ws "give" v.o.card.kind := (side_map h hw hv (sd := "give")).mp (by rw [w1, hsw]; exact hg)
     have ht2 : ti ∈ sideL ws "take" v.o.card.kind := (side_map h hw hv (sd := "take")).mp (by rw [w2, hsw]; exact ht)
     rcases hs with ⟨hk, b, hbr, rfl⟩ | ⟨hk, rfl⟩
     · exact ⟨[gi, ti, b], setsRaw_mem.mpr ⟨_, gi, ti, hg2, ht2, .inl ⟨hb.mp hk, b, gB b hbr, rfl⟩⟩, by rw [if_neg Bool.false_ne_true]⟩
     · exact ⟨[gi, ti], setsRaw_mem.mpr ⟨_, gi, ti, hg2, ht2, .inr ⟨fun k => hk (hb.mpr k), rfl⟩⟩, by rw [if_neg Bool.false_ne_true]⟩
   | true =>
     have hg2 : gi ∈ sideL ws "take" v.o.card.kind := (side_map h hw hv (sd := "take")).mp (by rw [w2, hsw]; exact hg)
     have ht2 : ti ∈ sideL ws "give" v.o.card.kind := (side_map h hw hv (sd := "give")).mp (by rw [w1, hsw]; exact ht)
     rcases hs with ⟨hk, b, hbr, rfl⟩ | ⟨hk, rfl⟩
     · exact ⟨[ti, gi, b], setsRaw_mem.mpr ⟨_, ti, gi, ht2, hg2, .inl ⟨hb.mp hk, b, gB b hbr, rfl⟩⟩, by rw [if_pos rfl]; rfl⟩
     · exact ⟨[ti, gi], setsRaw_mem.mpr ⟨_, ti, gi, ht2, hg2, .inr ⟨fun k => hk (hb.mpr k), rfl⟩⟩, by rw [if_pos rfl]; rfl⟩
theorem sofOf_perm {ws : List Wt} {s t : List Int} (p : s.Perm t) : (sofOf ws s).Perm (sofOf ws t) := by
 unfold sofOf
 exact p.filterMap _
theorem part_map (h : M.Loc g g' P N) {ws : List Wt} (hw : ∀ w ∈ ws, P w.o) {s : List Int} (hs : s ∈ setsRaw g.borne ws) : partS (sofOf (ws.map M.w) (M.s s)) = partS (sofOf ws s) * M.fk := by
 obtain ⟨l1, l2⟩ := sets_num hs
 obtain ⟨s1, s2⟩ := sof_len l2
 have hp : ∀ p ∈ sofOf ws s, P p.1 := fun p hp => by
   obtain ⟨w, hw2, rfl⟩ := s2 p hp
   exact hw w hw2
 refine part_sim (F := M.fo) h.k ?_ ?_ (fun p hp1 q hq => ?_) fun p hp1 => h.least _ (hp p hp1)
 · have := sofOf_perm (ws := ws.map M.w) (M.s_perm s)
   rw [sof_map (f := M.w) (F := M.fo) (k := M.fk) (s := s) (fun _ => rfl) fun _ => ⟨rfl, rfl⟩] at this
   exact this
 · intro e
   have : (sofOf ws s).length = 0 := by rw [e]; rfl
   omega
 · unfold prOk
   dsimp only
   have n1 := h.name _ (hp p hp1)
   have n2 := h.name _ (hp q hq)
   have ni : M.fx p.1.card.name = M.fx q.1.card.name ↔ p.1.card.name = q.1.card.name := ⟨h.inj _ _ (h.nm _ (hp p hp1)) (h.nm _ (hp q hq)), fun e => by rw [e]⟩
   rw [h.lets _ _ (hp p hp1) (hp q hq), h.lets _ _ (hp q hq) (hp p hp1), n1, n2, h.kind _ _ (hp p hp1) (hp q hq), ne_eq, ni]
theorem places_perm {row s t : List Int} (hs : ∀ n ∈ s, n ∈ row) (ht : ∀ n ∈ t, n ∈ row) (e : (rkOf row s).1 = (rkOf row t).1) : s.Perm t := by
 have e : sortI (s.map fun n => (placeOf row n : Int)) = sortI (t.map fun n => (placeOf row n : Int)) := e
 have p : (s.map fun n => (placeOf row n : Int)).Perm (t.map fun n => (placeOf row n : Int)) := (sortI_perm _).symm.trans (e ▸ sortI_perm _)
 have back : ∀ l : List Int, (∀ n ∈ l, n ∈ row) → (l.map fun n => (placeOf row n : Int)).map (fun i => row.getD i.toNat 0) = l := fun l hl => by
   rw [List.map_map]
   conv => rhs; rw [← List.map_id l]
   refine List.map_congr_left fun n hn => ?_
   show row.getD ((placeOf row n : Int)).toNat 0 = n
   rw [place_idx (hl n hn), Int.toNat_natCast, List.getD_eq_getElem?_getD, List.getElem?_eq_getElem (List.idxOf_lt_length_of_mem (hl n hn)), List.getElem_idxOf]
   rfl
 have := p.map fun i => row.getD i.toNat 0
 rw [back s hs, back t ht] at this
 exact this
theorem sets_uniq {borne : List Str} {ws : List Wt} (nd : (ws.map (·.n)).Nodup) {s t : List Int} (hs : s ∈ setsRaw borne ws) (ht : t ∈ setsRaw borne ws) (p : s.Perm t) : s = t := by
 have side : ∀ {sd sd' k k' : Str} {n : Int}, n ∈ sideL ws sd k → n ∈ sideL ws sd' k' → sd = sd' := fun h1 h2 => by
   obtain ⟨v, hv, e1, s1, _⟩ := sideL_mem.mp h1
   obtain ⟨w, hw, e2, s2, _⟩ := sideL_mem.mp h2
   have := wt_uniq nd hv hw (by rw [e1, e2])
   subst this
   exact s1.symm.trans s2
 obtain ⟨k, g, t1, hg, ht1, h1⟩ := setsRaw_mem.mp hs
 obtain ⟨k', g', t1', hg', ht1', h2⟩ := setsRaw_mem.mp ht
 have gt : ("give" : Str) ≠ "take" := by decide
 have gb : ("give" : Str) ≠ "bear" := by decide
 have tb : ("take" : Str) ≠ "bear" := by decide
 have hl := p.length_eq
 rcases h1 with ⟨_, b, hb, rfl⟩ | ⟨_, rfl⟩ <;> rcases h2 with ⟨_, b', hb', rfl⟩ | ⟨_, rfl⟩
 · have mg := (p.mem_iff (a := g)).mp (by simp)
   have mt := (p.mem_iff (a := t1)).mp (by simp)
   have mb := (p.mem_iff (a := b)).mp (by simp)
   simp only [List.mem_cons, List.not_mem_nil, or_false] at mg mt mb
   have eg : g = g' := by
     rcases mg with e | e | e
     · exact e
     · subst e; exact absurd (side hg ht1') gt
     · subst e; exact absurd (side hg hb') gb
   have et : t1 = t1' := by
     rcases mt with e | e | e
     · subst e; exact absurd (side hg' ht1) gt
     · exact e
     · subst e; exact absurd (side ht1 hb') tb
   have eb : b = b' := by
     rcases mb with e | e | e
     · subst e; exact absurd (side hg' hb) gb
     · subst e; exact absurd (side ht1' hb) tb
     · exact e
   rw [eg, et, eb]
 · simp at hl
 · simp at hl
 · have mg := (p.mem_iff (a := g)).mp (by simp)
   have mt := (p.mem_iff (a := t1)).mp (by simp)
   simp only [List.mem_cons, List.not_mem_nil, or_false] at mg mt
   have eg : g = g' := by
     rcases mg with e | e
     · exact e
     · subst e; exact absurd (side hg ht1') gt
   have et : t1 = t1' := by
     rcases mt with e | e
     · subst e; exact absurd (side hg' ht1) gt
     · exact e
   rw [eg, et]
theorem rk_s (M : Mor) (row s : List Int) : (rkOf row (M.s s)).1 = (rkOf row s).1 := by
 have p := (M.s_perm s).map fun n => (placeOf row n : Int)
 show sortI _ = sortI _
 refine List.Perm.eq_of_pairwise (le := fun a b : Int => a ≤ b) (fun a b _ _ h1 h2 => by omega) (sortI_pw _) (sortI_pw _) ?_
 exact (sortI_perm _).trans (p.trans (sortI_perm _).symm)
theorem le_map {ws : List Wt} (nd : (ws.map (·.n)).Nodup) {s t : List Int} (hs : s ∈ setsRaw g.borne ws) (ht : t ∈ setsRaw g.borne ws) (h : leR (rkOf (rowL g.rule ws) s) (rkOf (rowL g.rule ws) t) = true) : leR (rkOf (rowL g.rule ws) (M.s s)) (rkOf (rowL g.rule ws) (M.s t)) = true := by
 by_cases e : (rkOf (rowL g.rule ws) s).1 = (rkOf (rowL g.rule ws) t).1
 · have p := places_perm (fun n hn => rowL_mem.mpr ((sets_num hs).2 n hn)) (fun n hn => rowL_mem.mpr ((sets_num ht).2 n hn)) e
   rw [sets_uniq nd hs ht p]
   exact leR_refl _
 · rw [leR_iff] at *
   unfold ltR at *
   rw [rk_s, rk_s]
   rw [decide_eq_false (fun k => e k.symm), Bool.false_and, Bool.or_false] at *
   exact h
theorem Mor.Loc.ok (h : M.Loc g g' P N) : M.Ok g g' P N :=
 ⟨h.k, h.till, h.many, h.tillU, h.name, h.nm, h.inj, h.quiet, fun ws ok hw => by
   have hw2 : ∀ w ∈ ws, P w.o := fun w hw3 => (hw w hw3).1
   obtain ⟨h1, h2⟩ := sets_map h hw2
   exact sim_first h.k (h.row hw2) h1 h2 (fun s hs => part_map h hw2 hs) fun s hs t ht hl => le_map ok.nd hs ht hl⟩
end
end
end L2.MP
end
section
namespace L2.K41
open PySem PySem.Spec PyProof.Rows L2.MP
local macro_rules
 | `(tactic| trivial) => `(tactic| first
   | refine w_seq ?_ | refine w_set ?_ | refine w_setOwn ?_ | refine w_setHp ?_ | refine w_retS ?_ | refine w_retHp ?_ | refine w_ite ?_ | refine w_expr ?_ | refine w_asg ?_ | refine w_setIx ?_ | refine w_mut ?_ | refine w_hp ?_
   | refine w_lm1 ?_ | refine w_bl ?_ | refine w_op2 ?_ | refine w_op1 ?_ | refine w_opF1 ?_ | refine w_opF2 ?_ | refine w_chainP ?_ | refine w_and ?_ | refine w_or ?_ | refine w_not ?_ | refine w_notT ?_ | refine w_andT ?_
   | refine w_orT ?_ | refine w_tru ?_ | refine w_fz ?_ | refine w_lst ?_ | refine w_tup ?_ | refine w_cons ?_ | refine w_nil ?_ | refine w_sl ?_ | refine w_slF ?_ | refine w_part ?_ | refine w_part0 ?_ | refine w_sm0 ?_
   | refine w_sm1 ?_ | refine w_disp ?_ | refine w_pr ?_ | refine w_pr0 ?_ | refine w_for ?_ | refine w_walk ?_ | refine w_rng1 ?_ | refine w_rng2 ?_ | refine w_enum ?_ | refine w_zip ?_ | refine w_fn ?_ | refine w_comp ?_
   | refine w_count ?_ | refine w_raise0 ?_ | refine w_raise1 ?_ | refine w_augIx ?_ | refine w_var rfl ?_ | refine w_peek rfl ?_ | refine w_peekO rfl ?_ | refine w_varO rfl rfl ?_ | refine w_ret ?_)
local macro_rules
 | `(tactic| trivial) => `(tactic| first
   | refine Rl.go ?_ | ((with_reducible apply w_var); exact rfl) | ((with_reducible apply w_peek); exact rfl) | ((with_reducible apply w_peekO); exact rfl) | ((with_reducible apply w_varO); exact rfl; exact rfl)
   | with_reducible (first | refine w_hp ?_ | refine w_lm1 ?_ | refine w_enum ?_ | refine w_count ?_ | refine w_raise0 ?_ | refine w_raise1 ?_ | refine w_augIx ?_)
   | refine ⟨_, ix0, ?_⟩ | refine ⟨_, ix1, ?_⟩ | refine ⟨_, ix2, ?_⟩ | refine ⟨_, ix3, ?_⟩ | refine rg_and ?_ | refine ⟨_, rfl, ?_⟩ | refine ⟨rfl, ?_⟩ | refine ⟨Nat.le_of_ble_eq_true rfl, ?_⟩ | refine ⟨fun _ => ?_, fun h => Bool.noConfusion (show true = false from h)⟩ | refine ⟨fun h => Bool.noConfusion (show false = true from h), fun _ => ?_⟩)
section
variable {n : Nat} {S : Sto} {Q : D → Sto → Prop} {E : Exn → Sto → Prop}
theorem dn {n k : Nat} (h : k + 1 ≤ n) : ∃ m, n = m + 1 ∧ k ≤ m := ⟨n - 1, by omega, by omega⟩
theorem cellAt (h : 1 ≤ n) {ns : List Int} (q : Q (.int (ns.getD 0 0)) S) : Wc (psi YY n 5 [.rl (ns.map D.int), .int 0] S) Q E := by
 obtain ⟨n, rfl, h⟩ := dn h
 rw [p5]
 exact lcell_ok (i := 0) rfl rfl q
theorem tape (h : 1 ≤ n) {x : Int} (q : ∀ S', (∃ y, S' = S ++ [y]) → Well S.length S' S' → Q (.ref S.length) S') : Wc (psi YY n 6 [.int x] S) Q E := by
 obtain ⟨n, rfl, h⟩ := dn h
 rw [p6]; exact tape_ok rfl rfl q
theorem draw (h : 1 ≤ n) : PkW (psi YY n 7) := by
 obtain ⟨n, rfl, h⟩ := dn h
 rw [p7]; exact drawT_ok (φ := psi YY n) rfl rfl
theorem pickL (h : 2 ≤ n) : PkL (psi YY n 8) := by
 obtain ⟨n, rfl, h⟩ := dn h
 rw [p8]; exact pickT_ok rfl rfl (draw (by omega))
theorem ruleP (h : 2 ≤ n) : DrX (psi YY n 9) strsT RuleOk := by
 obtain ⟨n, rfl, h⟩ := dn h
 rw [p9]; exact ruleT_ok (φ := psi YY n) rfl rfl (draw (by omega))
theorem letters (h : 1 ≤ n) : PF (psi YY n 0) Flat (fun d => .bl (isLD d)) := by
 obtain ⟨n, rfl, h⟩ := dn h
 rw [p0]; exact letters_ok (φ := psi YY n) rfl rfl
theorem word (h : 2 ≤ n) : PF (psi YY n 1) Flat (fun d => .bl (isWD d)) := by
 obtain ⟨n, rfl, h⟩ := dn h
 rw [p1]; exact word_ok rfl rfl (letters (by omega))
theorem unlikeWords (h : 1 ≤ n) : UwOk (psi YY n 2) := by
 obtain ⟨n, rfl, h⟩ := dn h
 rw [p2]; exact unlikeW_ok (φ := psi YY n) rfl rfl
theorem isRule (h : 2 ≤ n) : PF (psi YY n 3) PlX (fun d => .bl (ruleD d)) := by
 obtain ⟨n, rfl, h⟩ := dn h
 rw [p3]; exact isRule_ok rfl rfl (unlikeWords (by omega))
theorem areBorne (h : 3 ≤ n) : PF (psi YY n 4) PlX (fun d => .bl (borneD d)) := by
 obtain ⟨n, rfl, h⟩ := dn h
 rw [p4]; exact areBorne_ok rfl rfl (unlikeWords (by omega)) (word (by omega))
def WdX (F : Fn) : Prop := ∀ (i : Nat) (S0 S : Sto) (Q : D → Sto → Prop) (E : Exn → Sto → Prop), Well i S0 S → (∀ (x : Str) S', isW x = true → Well i S0 S' → Q (.str x) S') → Wc (F [.ref i] S) Q E
theorem inD_strs {x : Str} {ys : List Str} {neg : Bool} : inF neg (.str x) (.lst (ys.map D.str)) = some (.bl (neg != decide (x ∈ ys))) := by
 have : (flatD (D.str x) && (ys.map D.str).all flatD) = true := by
   show (ys.map D.str).all flatD = true
   rw [List.all_map]
   exact List.all_eq_true.mpr fun _ _ => rfl
 show Option.map _ (if (flatD (D.str x) && (ys.map D.str).all flatD) = true then some (memD (.str x) (ys.map D.str)) else _) = _
 rw [if_pos this, mem_strs]; rfl
theorem str_nil (w : Str) : w ++ "" = w := by
 obtain ⟨a⟩ := w
 show Str.mk (a ++ #[]) = _
 simp
theorem nf (b : Bool) : (false != b) = b := by cases b <;> rfl
theorem inD_strT {x : Str} {ys : List Str} {neg : Bool} : inF neg (.str x) (.tup (ys.map D.str)) = some (.bl (neg != decide (x ∈ ys))) := by
 have : (flatD (D.str x) && (ys.map D.str).all flatD) = true := by
   show (ys.map D.str).all flatD = true
   rw [List.all_map]
   exact List.all_eq_true.mpr fun _ _ => rfl
 show Option.map _ (if (flatD (D.str x) && (ys.map D.str).all flatD) = true then some (memD (.str x) (ys.map D.str)) else _) = _
 rw [if_pos this, mem_strs]; rfl
theorem anyWord (h : 2 ≤ n) : WdX (psi YY n 10) := fun i S0 S Q E hw q => by
 obtain ⟨n, rfl, h⟩ := dn h
 have hd := draw (n := n) (by omega)
 have z := L2.MP.s10
 rw [p10]
 refine w_def rfl [.val (.ref i), .no, .no] rfl ?_
 unfold b10
 generalize psi YY n = φ at *
 repeat trivial
 refine hd i _ S0 _ _ _ hw (by decide) (by decide) fun r S1 r0 r1 hw => ?_
 haveI : RgB (1 + r) := ⟨by simp [rgB]; omega⟩
 repeat trivial
 refine w_compI (l := upto 0 (1 + r)) Let1 (fun s => Well i S0 s) hw (by rw [upto_len]; omega) (fun d _ s hw => ?_) (fun acc S' hP hl hw => ?_)
 · refine ⟨_, rfl, ?_⟩
   repeat trivial
   refine hd i _ S0 _ _ _ hw (by decide) (by decide) fun r2 S2 h0 h1 hw => ?_
   have l26 : ("abcdefghijklmnopqrstuvwxyz" : Str).length = 26 := by decide +kernel
   obtain ⟨c0, e, hc⟩ := sign_let (z := "abcdefghijklmnopqrstuvwxyz") (by omega) h0 (by rw [l26]; exact h1)
   exact ⟨_, e, ⟨c0, rfl, hc⟩, rfl, hw⟩
 · obtain ⟨cs, g1, g2, g3⟩ := let_strs hP
   have hlen : 1 ≤ cs.length ∧ cs.length ≤ 8 := by rw [g2, hl, upto_len]; simp; omega
   have e0 : ("" : Str).length = 0 := by decide +kernel
   have hsum : ((cs.map fun c => (⟨#[c]⟩ : Str)).map (·.length)).sum ≤ 1 * (cs.map fun c => (⟨#[c]⟩ : Str)).length := sum_le fun y hy => by
     obtain ⟨c, _, rfl⟩ := List.mem_map.mp hy
     exact Nat.le_refl _
   rw [List.length_map] at hsum
   repeat trivial
   refine ⟨.str (Txt.join "" (cs.map fun c => ⟨#[c]⟩)), by show (getStrs acc).bind _ = _; rw [g1]; exact if_pos (by rw [e0, List.length_map]; omega), ?_⟩
   have hj := join_lets cs
   generalize Txt.join "" (cs.map fun c => (⟨#[c]⟩ : Str)) = w at hj
   have hlw : w.length = cs.length := by rw [← MP.len_list, hj]
   have in6 : inF false (.str w) (.tup [.str "any", .str "is", .str "by", .str "not", .str "and", .str "or"]) = some (.bl (memD (.str w) six)) := by
     have := inD_strT (x := w) (ys := ["any", "is", "by", "not", "and", "or"]) (neg := false)
     rw [← mem_strs, nf] at this
     exact this
   repeat trivial
   have l1 : ("s" : Str).length = 1 := by decide +kernel
   cases h6 : memD (.str w) six with
   | true => exact ⟨.str "s", by show mulD (.str "s") (.int (if (false != memD (.str w) six) = true then 1 else 0)) = _; rw [h6]; rfl, _, add_ss (by omega), q _ _ (six_s h6) hw⟩
   | false =>
     refine ⟨.str "", by show mulD (.str "s") (.int (if (false != memD (.str w) six) = true then 1 else 0)) = _; rw [h6]; rfl, _, add_ss (by rw [e0]; omega), ?_⟩
     rw [show w ++ "" = w from str_nil w]
     exact q w _ (isW_of (by omega) (by omega) h6 (by rw [hj]; exact g3)) hw
def pool : List Str := ["rye", "oat", "o", "anya", "zzzzzzzz", "island", "heavy", "soon", "notes", "ry"]
structure KindsOk (ws : List Str) : Prop where
 len : ws.length ≤ 4
 nd : ws.Nodup
 w : ∀ x ∈ ws, isW x = true
 from_ : ∃ y, ∀ x ∈ ws, x ∈ pool ∨ x = y
theorem kindsP (h : 3 ≤ n) : DrX (psi YY n 11) strsT KindsOk := fun i S0 S Q E hw q => by
 obtain ⟨n, rfl, h⟩ := dn h
 have hd := draw (n := n) (by omega)
 have ha := anyWord (n := n) (by omega)
 have z := L2.MP.s10
 rw [p11]
 refine w_def rfl [.val (.ref i), .no, .no, .no, .no] rfl ?_
 unfold b11
 generalize psi YY n = φ at *
 repeat trivial
 refine ha i S0 _ _ _ hw fun w S1 ww hw => ?_
 have e1 := inD_strs (x := w) (ys := pool) (neg := true)
 repeat trivial
 obtain ⟨L, hL, hnd, hwL, hfr, hlen⟩ : ∃ L : List Str, mulD (.lst [.str w]) (.int (if (true != memD (.str w) (pool.map D.str)) = true then 1 else 0)) = some (.lst (L.map D.str)) ∧ (pool ++ L).Nodup ∧ (∀ x ∈ pool ++ L, isW x = true) ∧ (∀ x ∈ pool ++ L, x ∈ pool ∨ x = w) ∧ L.length ≤ 1 := by
   have hp : ∀ x ∈ pool, isW x = true := isW_all (by decide +kernel)
   have hq : pool.Nodup := by decide +kernel
   cases e : memD (.str w) (pool.map D.str) with
   | true => exact ⟨[], rfl, by rw [List.append_nil]; exact hq, by rw [List.append_nil]; exact hp, by rw [List.append_nil]; exact fun x hx => .inl hx, by decide⟩
   | false =>
     rw [mem_strs] at e
     have e := of_decide_eq_false e
     refine ⟨[w], rfl, List.nodup_append.mpr ⟨hq, by simp, fun a ha b hb => ?_⟩, fun x hx => ?_, fun x hx => ?_, by simp⟩
     · rw [List.mem_singleton] at hb; subst hb; exact fun z => e (z ▸ ha)
     · rcases List.mem_append.mp hx with hx | hx
       · exact hp x hx
       · rw [List.mem_singleton] at hx; subst hx; exact ww
     · rcases List.mem_append.mp hx with hx | hx
       · exact .inl hx
       · rw [List.mem_singleton] at hx; exact .inr hx
 refine ⟨_, hL, ?_⟩
 have hc : catF (.lst (pool.map D.str)) (.lst (L.map D.str)) = some (.lst ((pool ++ L).map D.str)) := by
   rw [List.map_append]
   exact if_pos (by rw [List.length_map, List.length_map]; show 10 + L.length ≤ _; omega)
 refine ⟨_, hc, ?_⟩
 repeat trivial
 refine hd i _ S0 _ _ _ hw (by decide) (by decide) fun r S2 r0 r1 hw => ?_
 obtain ⟨m, rfl⟩ := Int.eq_ofNat_of_zero_le r0
 haveI : RgB (m : Nat) := ⟨by simp [rgB]; omega⟩
 repeat trivial
 refine w_loopA (mk := fun p : List Str × List Str => [.val (.ref i), .own (.lst (p.1.map D.str)), .val (.str w), .own (.lst (p.2.map D.str)), .no]) [4] (fun l p s => Well i S0 s ∧ (p.2 ++ p.1).Perm (pool ++ L) ∧ p.2.length + l.length ≤ 4) (pool ++ L, []) rfl ⟨hw, by simp, by rw [upto_len]; simp; omega⟩ ⟨_, rfl⟩ (fun d l p s e ⟨hw, hp, hl⟩ ⟨s4, he⟩ => ?_) (fun p s e ⟨hw, hp, hl⟩ ⟨s4, he⟩ => ?_)
 · obtain ⟨M, F⟩ := p
   subst he
   have hl2 : F.length + M.length = 10 + L.length := by have := hp.length_eq; rw [List.length_append, List.length_append] at this; exact this
   rw [List.length_cons] at hl
   dsimp only at hl
   refine ⟨_, rfl, ?_⟩
   repeat trivial
   refine ⟨⟨_, rfl⟩, ?_⟩
   repeat trivial
   refine ⟨⟨_, rfl⟩, ?_⟩
   repeat trivial
   dsimp only
   rw [List.length_map]
   refine hd i _ S0 s _ _ hw (by omega) (by omega) fun x S2 x0 x1 hw => ?_
   obtain ⟨x, rfl⟩ := Int.eq_ofNat_of_zero_le x0
   have hx : x < M.length := by omega
   repeat trivial
   refine ⟨_, _, _, _, rfl, popAt_x (enc := D.str) hx (by omega), rfl, ?_⟩
   refine w_nil ?_
   refine ⟨_, _, _, _, rfl, app_one (enc := D.str) (by omega), rfl, ?_⟩
   exact ⟨(M.eraseIdx x, F ++ [M[x]]), ⟨_, rfl⟩, hw, (L2.MP.erase_perm hx).trans hp, by rw [List.length_append]; simp; omega⟩
 · obtain ⟨M, F⟩ := p
   subst he
   repeat trivial
   have nd : (F ++ M).Nodup := hp.nodup_iff.mpr hnd
   exact q F s ⟨by simpa using hl, (List.nodup_append.mp nd).1, fun x hx => hwL x (hp.mem_iff.mp (List.mem_append_left _ hx)), w, fun x hx => hfr x (hp.mem_iff.mp (List.mem_append_left _ hx))⟩ hw
def OddD (d : D) : Prop := PlX d ∧ isWD d = false ∧ memD d ruleDs = false
def odds : List D := [.str "", .str "Heavy", .str "heavy ", .non, .int 1, .bl true, .lst [.str "great"], .tup [.str "soon"], .str "any", .str "not", .str "by", .str "or", .str "soonsoons"]
theorem odds_odd : ∀ d ∈ odds, OddD d := fun d hd => by
 simp only [odds, List.mem_cons, List.not_mem_nil, or_false] at hd
 rcases hd with rfl | rfl | rfl | rfl | rfl | rfl | rfl | rfl | rfl | rfl | rfl | rfl | rfl <;> first
   | exact ⟨px_ok (by decide +kernel), by decide +kernel, by decide +kernel⟩
   | exact ⟨⟨2, by decide +kernel⟩, by decide +kernel, by decide +kernel⟩
def Nei (d : D) : Prop := PlX d ∧ ruleD d = false ∧ borneD d = false
theorem nei_odd {l : List D} {d : D} (h : d ∈ l) (ho : OddD d) (hp : ∀ x ∈ l, PlX x) : Nei (.tup l) := by
 refine ⟨px_tup hp, ?_, ?_⟩
 · unfold ruleD
   rw [Bool.and_eq_false_iff]
   exact .inr (List.all_eq_false.mpr ⟨d, h, by rw [ho.2.2]; exact Bool.false_ne_true⟩)
 · unfold borneD
   rw [Bool.and_eq_false_iff]
   exact .inr (List.all_eq_false.mpr ⟨d, h, by rw [ho.2.1]; exact Bool.false_ne_true⟩)
theorem nei_nt {d : D} (hp : PlX d) (h : ∀ m, unlikeD m d = false) : Nei d := ⟨hp, by unfold ruleD; rw [h]; rfl, by unfold borneD; rw [h]; rfl⟩
theorem nei_twice {x : Str} {r : List Str} (hw : ∀ y ∈ x :: r, isW y = true) : Nei (.tup ((x :: r).map D.str ++ [.str x])) := by
 refine nei_nt (px_tup fun y hy => ?_) fun m => ?_
 · rcases List.mem_append.mp hy with hy | hy
   · exact strs_px hw y hy
   · rw [List.mem_singleton] at hy; subst hy; exact isW_px (hw x List.mem_cons_self)
 · have e : ((x :: r).map D.str ++ [D.str x]) = (x :: r ++ [x]).map D.str := by simp
   rw [e]
   unfold unlikeD
   rw [Bool.and_eq_false_iff, Bool.and_eq_false_iff]
   refine .inr (.inr (decide_eq_false fun hl => ?_))
   rw [strsOf_map, List.length_map] at hl
   have := onto_nd_len (L := []) (by rw [hl]; rfl)
   rw [List.nodup_append] at this
   exact this.2.2 x List.mem_cons_self x (by simp) rfl
def othB : List Str → List D := fun good => [.lst (good.map .str), .non, .str "heavy", .str "", .int 7, .bl true, .dk [] []]
theorem othB_nei {good : List Str} (hw : ∀ y ∈ good, isW y = true) : ∀ d ∈ othB good, Nei d := fun d hd => by
 simp only [othB, List.mem_cons, List.not_mem_nil, or_false] at hd
 rcases hd with rfl | rfl | rfl | rfl | rfl | rfl | rfl
 · obtain ⟨n, h⟩ := px_all (strs_px hw)
   exact nei_nt ⟨n + 1, h⟩ fun m => rfl
 · exact nei_nt ⟨0, rfl⟩ fun m => rfl
 · exact nei_nt (px_ok (by decide +kernel)) fun m => rfl
 · exact nei_nt (px_ok (by decide +kernel)) fun m => rfl
 · exact nei_nt ⟨0, rfl⟩ fun m => rfl
 · exact nei_nt ⟨0, rfl⟩ fun m => rfl
 · exact nei_nt ⟨0, rfl⟩ fun m => rfl
def NeiOk (good : List Str) (m : Int) (p : D → Bool) (F : Fn) : Prop := ∀ (i : Nat) (S0 S : Sto) (Q : D → Sto → Prop) (E : Exn → Sto → Prop), Well i S0 S → (∀ d S', PlX d → p d = false → Well i S0 S' → Q d S') → Wc (F [.ref i, strsT good, .int m] S) Q E
theorem othersP (h : 3 ≤ n) {good : List Str} (hl : good.length ≤ 4) (hw : ∀ y ∈ good, isW y = true) {m : Int} {p : D → Bool} (hp : ∀ d, Nei d → p d = false) (h5 : p (.tup (MP.cutD [D.str "heavy", .str "great", .str "small", .str "soon", .str "rye"] none (some (m + 1)))) = false) : NeiOk good m p (psi YY n 12) := fun i S0 S Q E hw' q => by
 obtain ⟨n, rfl, h⟩ := dn h
 have hd := draw (n := n) (by omega)
 have hpk := pickL (n := n) (by omega)
 have z := L2.MP.s10
 rw [p12]
 refine w_def rfl [.val (.ref i), .val (strsT good), .val (.int m), .no, .no, .no] rfl ?_
 unfold b12
 generalize psi YY n = φ at *
 have hv : ∀ (e : Envr) (S : Sto), view e S (strsT good) = strsT good := fun _ _ => rfl
 repeat trivial
 refine hd i _ S0 _ _ _ hw' (by omega) (by rw [List.length_map]; omega) fun r S1 r0 r1 hw1 => ?_
 rw [List.length_map] at r1
 obtain ⟨a, rfl⟩ := Int.eq_ofNat_of_zero_le r0
 repeat trivial
 refine hpk odds i S0 _ _ _ (by decide) (by decide) hw1 fun odd S2 hodd hw2 => ?_
 have ho := odds_odd odd hodd
 have fv : ∀ (e : Envr) (S : Sto), view e S odd = odd := fun e S => ho.1.flat.view e S
 repeat trivial
 have hG : (good.map D.str).length ≤ 4 := by rw [List.length_map]; exact hl
 have c1 : ∀ lo hi, (MP.cutD (good.map D.str) lo hi).length ≤ 4 := fun lo hi => Nat.le_trans cut_len' hG
 have big : ∀ {A B : List D}, A.length ≤ 100 → B.length ≤ 100 → A.length + B.length ≤ sizeLine := fun h1 h2 => by omega
 refine ⟨_, add_tt (big (by have := c1 none (some (a : Int)); omega) (by simp)), ?_⟩
 repeat trivial
 refine ⟨_, add_tt (big (by rw [List.length_append]; have := c1 none (some (a : Int)); simp; omega) (by have := c1 (some (a : Int)) none; omega)), ?_⟩
 repeat trivial
 have px5 : PlX (.tup (MP.cutD [D.str "heavy", .str "great", .str "small", .str "soon", .str "rye"] none (some (m + 1)))) := px_tup fun x hx => strs_px (xs := ["heavy", "great", "small", "soon", "rye"]) (isW_all (by decide +kernel)) x (cut_mem' hx)
 have pg := strs_px hw
 have nIns : Nei (.tup (MP.cutD (good.map D.str) none (some (a : Int)) ++ [odd] ++ MP.cutD (good.map D.str) (some (a : Int)) none)) := nei_odd (d := odd) (by simp) ho fun x hx => by
   rcases List.mem_append.mp hx with hx | hx
   · rcases List.mem_append.mp hx with hx | hx
     · exact pg x (cut_mem' hx)
     · rw [List.mem_singleton] at hx; subst hx; exact ho.1
   · exact pg x (cut_mem' hx)
 have nTup : Nei (.tup [strsT good]) := nei_nt (px_tup fun x hx => by rw [List.mem_singleton] at hx; subst hx; exact px_tup pg) fun m => by
   unfold unlikeD
   rw [Bool.and_eq_false_iff, Bool.and_eq_false_iff]
   exact .inr (.inl rfl)
 have base : ∀ d ∈ othB good ++ [.tup (MP.cutD (good.map D.str) none (some (a : Int)) ++ [odd] ++ MP.cutD (good.map D.str) (some (a : Int)) none), .tup [strsT good]], Nei d := fun d hd => by
   rcases List.mem_append.mp hd with hd | hd
   · exact othB_nei hw d hd
   · simp only [List.mem_cons, List.not_mem_nil, or_false] at hd
     rcases hd with rfl | rfl
     · exact nIns
     · exact nTup
 have fin : ∀ (L : List D) (d : D) (S3 : Sto), (∀ d ∈ L, Nei d) → d ∈ L ++ [.tup (MP.cutD [D.str "heavy", .str "great", .str "small", .str "soon", .str "rye"] none (some (m + 1)))] → Well i S0 S3 → Q d S3 := fun L d S3 hL hd hw3 => by
   rcases List.mem_append.mp hd with hd | hd
   · exact q d S3 (hL d hd).1 (hp d (hL d hd)) hw3
   · rw [List.mem_singleton] at hd; subst hd
     exact q _ S3 px5 h5 hw3
 refine ⟨fun hne => ?_, fun hne => ?_⟩
 · obtain ⟨x, r, rfl⟩ : ∃ x r, good = x :: r := by
     cases good with
     | nil => cases hne
     | cons x r => exact ⟨x, r, rfl⟩
   repeat trivial
   have cut1 : MP.cutD ((x :: r).map D.str) none (some 1) = [.str x] := by rw [show (1 : Int) = ((1 : Nat) : Int) from rfl, cut_to]; rfl
   rw [cut1]
   have nPut : Nei (.tup (MP.cutD ((x :: r).map D.str) none (some (a : Int)) ++ [odd] ++ MP.cutD ((x :: r).map D.str) (some ((a : Int) + 1)) none)) := nei_odd (d := odd) (by simp) ho fun x hx => by
     rcases List.mem_append.mp hx with hx | hx
     · rcases List.mem_append.mp hx with hx | hx
       · exact pg x (cut_mem' hx)
       · rw [List.mem_singleton] at hx; subst hx; exact ho.1
     · exact pg x (cut_mem' hx)
   have nX : Nei (.str x) := nei_nt (isW_px (hw x List.mem_cons_self)) fun m => rfl
   have base2 : ∀ d ∈ (othB (x :: r) ++ [.tup (MP.cutD ((x :: r).map D.str) none (some (a : Int)) ++ [odd] ++ MP.cutD ((x :: r).map D.str) (some (a : Int)) none), .tup [strsT (x :: r)]]) ++ [.tup ((x :: r).map D.str ++ [.str x]), .tup (MP.cutD ((x :: r).map D.str) none (some (a : Int)) ++ [odd] ++ MP.cutD ((x :: r).map D.str) (some ((a : Int) + 1)) none), .str x], Nei d := fun d hd => by
     rcases List.mem_append.mp hd with hd | hd
     · exact base d hd
     · simp only [List.mem_cons, List.not_mem_nil, or_false] at hd
       rcases hd with rfl | rfl | rfl
       · exact nei_twice hw
       · exact nPut
       · exact nX
   refine ⟨_, add_tt (a := (x :: r).map D.str) (big (by omega) (by simp)), ?_⟩
   repeat trivial
   refine ⟨_, add_tt (big (by show (MP.cutD ((x :: r).map D.str) _ _).length ≤ 100; have := c1 none (some (a : Int)); omega) (by simp)), ?_⟩
   repeat trivial
   refine ⟨_, add_tt (big (by rw [List.length_append]; have := c1 none (some (a : Int)); show (MP.cutD ((x :: r).map D.str) _ _).length + 1 ≤ 100; omega) (by show (MP.cutD ((x :: r).map D.str) _ _).length ≤ 100; have := c1 (some ((a : Int) + 1)) none; omega)), ?_⟩
   repeat trivial
   refine hpk _ i S0 _ _ _ (by simp) (by simp) hw2 fun d S3 hd3 hw3 => ?_
   exact fin _ d S3 base2 hd3 hw3
 · repeat trivial
   refine hpk _ i S0 _ _ _ (by simp) (by simp) hw2 fun d S3 hd3 hw3 => ?_
   exact fin _ d S3 base hd3 hw3
theorem lawIs {j : Nat} {p : D → Bool} {d : D} (hj : (isHF GG j && okW GG c13 j) = true) (har : GG.ar.getD j 0 = 1) (hf : PF (psi YY n j) PlX (fun d => .bl (p d))) (hd : PlX d) {b : Bool} (hb : p d = b) (q : Q (.bl true) S) : Wc (psi YY (n + 1) 13 [.fn j, d, .bl b] S) Q E := by
 subst hb
 rw [p13]
 refine w_def rfl [.val (.fn j), .val d, .val (.bl (p d)), .no, .no] rfl ?_
 unfold b13
 have hk : (fun i => isHF GG i && okW GG c13 i) j = true := hj
 clear hj
 generalize (fun i => isHF GG i && okW GG c13 i) = ok at *
 generalize GG.ar = ar at *
 generalize psi YY n = φ at *
 repeat trivial
 refine w_loopA (mk := fun _ : Unit => [.val (.fn j), .val d, .val (.bl (p d)), .no, .no]) [3, 4] (fun l _ s => s = S) () rfl rfl ⟨_, _, rfl⟩ (fun x l _ s e hs ⟨s3, s4, he⟩ => ?_) (fun _ s e hs ⟨s3, s4, he⟩ => ?_)
 · subst he
   subst hs
   refine ⟨_, rfl, ?_⟩
   repeat trivial
   refine w_callL rfl hk ?_
   repeat trivial
   refine ⟨har.symm, pf_at hf hd rfl ?_⟩
   repeat trivial
   have ee : (true != eqD (.bl (p d)) (.bl (p d))) = false := by cases p d <;> rfl
   refine ⟨fun h => absurd (ee.symm.trans h) (by decide), fun _ => ?_⟩
   repeat trivial
   exact ⟨(), ⟨_, _, rfl⟩, rfl⟩
 · subst he
   subst hs
   repeat trivial
theorem rule_isW : ∀ x ∈ ruleWs, isW x = true := isW_all (by decide +kernel)
theorem unlike_of {ws : List Str} (nd : ws.Nodup) {m : Int} (h : (ws.length : Int) ≤ m) : unlikeD m (strsT ws) = true := by
 show (!(decide (m < ((ws.map D.str).length : Nat))) && ((ws.map D.str).all isStrD && decide ((onto (strsOf (ws.map D.str)) []).length = (ws.map D.str).length))) = true
 rw [List.length_map, decide_eq_false (by omega), Bool.not_false, Bool.true_and, strsOf_map, onto_nodup (L := []) nd (by simp)]
 rw [List.all_map]
 have : (ws.all (isStrD ∘ D.str)) = true := List.all_eq_true.mpr fun _ _ => rfl
 rw [this]
 simp
theorem ruleD_eq {ws : List Str} (nd : ws.Nodup) (h3 : ws.length ≤ 3) : ruleD (strsT ws) = ws.all fun x => decide (x ∈ ruleWs) := by
 unfold ruleD
 rw [unlike_of nd (by omega), Bool.true_and]
 show (ws.map D.str).all _ = _
 rw [List.all_map]
 congr 1
 funext x
 exact mem_strs x ruleWs
theorem borneD_eq {ws : List Str} (nd : ws.Nodup) (h4 : ws.length ≤ 4) (hw : ∀ x ∈ ws, isW x = true) : borneD (strsT ws) = true := by
 unfold borneD
 rw [unlike_of nd (by omega), Bool.true_and]
 show (ws.map D.str).all _ = _
 rw [List.all_map]
 exact List.all_eq_true.mpr hw
theorem nsl : ∀ {ws l : List Str}, ws.Nodup → (∀ x ∈ ws, x ∈ l) → ws.length ≤ l.length
 | [], _, _, _ => Nat.zero_le _
 | x :: r, l, nd, h => by
   obtain ⟨n1, n2⟩ := List.nodup_cons.mp nd
   have hx := h x List.mem_cons_self
   have := nsl (ws := r) (l := l.erase x) n2 fun y hy => (List.mem_erase_of_ne (fun z => n1 (by rw [← z]; exact hy))).mpr (h y (List.mem_cons_of_mem _ hy))
   rw [List.length_erase_of_mem hx] at this
   have : 0 < l.length := List.length_pos_of_mem hx
   rw [List.length_cons]; omega
theorem kinds_rule {ws : List Str} (k : KindsOk ws) : ruleD (strsT ws) = ws.all fun x => decide (x ∈ ruleWs) := by
 by_cases h3 : ws.length ≤ 3
 · exact ruleD_eq k.nd h3
 · have h4 : ws.length = 4 := by have := k.len; omega
   have e1 : ruleD (strsT ws) = false := by
     have : unlikeD 3 (strsT ws) = false := by
       show (!(decide ((3 : Int) < ((ws.map D.str).length : Nat))) && ((ws.map D.str).all isStrD && decide ((onto (strsOf (ws.map D.str)) []).length = (ws.map D.str).length))) = false
       rw [List.length_map, h4]; rfl
     unfold ruleD
     rw [this]; rfl
   rw [e1]
   symm
   rw [Bool.eq_false_iff]
   intro ha
   have ha : ∀ x ∈ ws, x ∈ ruleWs := fun x hx => of_decide_eq_true (List.all_eq_true.mp ha x hx)
   obtain ⟨y, hy⟩ := k.from_
   have hs : ∀ x ∈ ws, x ∈ ([("heavy" : Str), "soon", y] : List Str) := fun x hx => by
     have h1 := ha x hx
     rcases hy x hx with h2 | rfl
     · simp only [ruleWs, List.mem_cons, List.not_mem_nil, or_false] at h1
       rcases h1 with rfl | rfl | rfl | rfl
       · simp
       · exact absurd h2 (by decide +kernel)
       · exact absurd h2 (by decide +kernel)
       · simp
     · simp
   have := nsl k.nd hs
   simp at this
   omega
theorem script_ok (ns : List Int) {hi : Int} : ([D.int (ns.getD 0 0)] ++ cutD (ns.map D.int) (some 1) (some hi)).length ≤ 1 + ns.length ∧ ∀ d ∈ [D.int (ns.getD 0 0)] ++ cutD (ns.map D.int) (some 1) (some hi), ∃ i, d = .int i := by
 refine ⟨?_, fun d hd => ?_⟩
 · have := cut_len' (l := ns.map D.int) (lo := some 1) (hi := some hi)
   rw [List.length_map] at this
   rw [List.length_append]; simp; omega
 · rcases List.mem_append.mp hd with hd | hd
   · simp at hd; exact ⟨_, hd⟩
   · obtain ⟨i, _, rfl⟩ := List.mem_map.mp (cut_mem' hd)
     exact ⟨i, rfl⟩
theorem law_main (ns : List Int) (hN : 1 + ns.length ≤ sizeLine) : Wc (psi YY (n + 30) 14 [.rl (ns.map D.int)] S) (fun d s => d = .bl true) nX := by
 have z := L2.MP.s10
 have i1 := @cellAt (n + 29) S
 have i2 := @tape (n + 29)
 have i3 := ruleP (n := n + 29) (by omega)
 have i4 := kindsP (n := n + 29) (by omega)
 have i5 : ∀ {d : D} {b : Bool} {S Q E}, PlX d → ruleD d = b → Q (.bl true) S → Wc (psi YY (n + 29) 13 [.fn 3, d, .bl b] S) Q E := fun hd hb q => lawIs (n := n + 28) (by decide +kernel) (by decide +kernel) (isRule (by omega)) hd hb q
 have i6 : ∀ {d : D} {b : Bool} {S Q E}, PlX d → borneD d = b → Q (.bl true) S → Wc (psi YY (n + 29) 13 [.fn 4, d, .bl b] S) Q E := fun hd hb q => lawIs (n := n + 28) (by decide +kernel) (by decide +kernel) (areBorne (by omega)) hd hb q
 have i7 := fun (good : List Str) (hl : good.length ≤ 4) (hw : ∀ y ∈ good, isW y = true) => othersP (n := n + 29) (by omega) hl hw (m := 3) (p := ruleD) (fun d h => h.2.1) (by decide +kernel)
 have i8 := fun (good : List Str) (hl : good.length ≤ 4) (hw : ∀ y ∈ good, isW y = true) => othersP (n := n + 29) (by omega) hl hw (m := 4) (p := borneD) (fun d h => h.2.2) (by decide +kernel)
 rw [p14]
 refine w_def rfl [.val (.rl (ns.map D.int)), .no, .no, .no, .no, .no, .no] rfl ?_
 unfold b14
 generalize psi YY (n + 29) = φ at *
 have z9 : (1000 : Nat) ≤ sizeLine := by decide
 repeat trivial
 refine i1 (by omega) ?_
 repeat trivial
 obtain ⟨hl, hall⟩ := script_ok ns (hi := 12)
 refine ⟨_, add_ll (Nat.le_trans (by rw [← List.length_append]; exact hl) hN), ?_⟩
 repeat trivial
 refine w_loopF [.val (.rl (ns.map D.int)), .no, .no, .no, .no, .no, .no] [1, 2, 3, 4, 5, 6] (fun l s => ∀ d ∈ l, ∃ i, d = .int i) rfl hall ⟨_, _, _, _, _, _, rfl⟩ (fun d r s e hd ⟨s1, s2, s3, s4, s5, s6, he⟩ => ?_) (fun s e _ ⟨s1, s2, s3, s4, s5, s6, he⟩ => ?_)
 · obtain ⟨i, rfl⟩ := hd d List.mem_cons_self
   have hr := fun d hh => hd d (List.mem_cons_of_mem _ hh)
   dsimp only [List.set_cons_succ, List.set_cons_zero] at he
   subst he
   refine ⟨_, rfl, ?_⟩
   repeat trivial
   refine i2 (by omega) fun S1 _ hw => ?_
   repeat trivial
   refine i3 _ _ _ _ _ hw fun rule S2 hrule hw => ?_
   repeat trivial
   refine i4 _ _ _ _ _ hw fun ws S3 hk hw => ?_
   have wr : ∀ x ∈ rule, isW x = true := fun x hx => rule_isW x (hrule.mem x hx)
   have pr : PlX (strsT rule) := px_tup (strs_px wr)
   have pk : PlX (strsT ws) := px_tup (strs_px hk.w)
   have r1 : ruleD (strsT rule) = true := by
     rw [ruleD_eq hrule.nd hrule.len]
     exact List.all_eq_true.mpr fun x hx => decide_eq_true (hrule.mem x hx)
   have r2 := borneD_eq hk.nd hk.len hk.w
   have r3 := borneD_eq hrule.nd (by have := hrule.len; omega) wr
   repeat trivial
   refine i5 pr r1 ?_
   repeat trivial
   refine i6 pk r2 ?_
   repeat trivial
   refine i6 pr r3 ?_
   unfold strsT
   repeat trivial
   refine w_compT (xs := ws) (fun x => !decide (x ∈ ruleWs)) D.str (by have := hk.len; omega) (fun x _ => ?_) ?_
   · refine ⟨_, rfl, ?_⟩
     repeat trivial
     have e0 : memD (.str x) [.str "heavy", .str "great", .str "small", .str "soon"] = decide (x ∈ ruleWs) := mem_strs x ruleWs
     refine ⟨by rw [e0]; cases decide (x ∈ ruleWs) <;> rfl, rfl, fun _ => ?_, fun _ => rfl⟩
     repeat trivial
   repeat trivial
   have rk : ruleD (strsT ws) = (false != ((ws.filter fun x => !decide (x ∈ ruleWs)).map D.str).isEmpty) := by
     rw [kinds_rule hk]
     have : ∀ l : List Str, (l.all fun x => decide (x ∈ ruleWs)) = ((l.filter fun x => !decide (x ∈ ruleWs)).map D.str).isEmpty := fun l => by
       induction l with
       | nil => rfl
       | cons x r ih =>
         rw [List.all_cons, List.filter_cons]
         cases h : decide (x ∈ ruleWs) with
         | true => rw [Bool.true_and, ih]; rfl
         | false => rfl
     rw [this]
     cases ((ws.filter fun x => !decide (x ∈ ruleWs)).map D.str).isEmpty <;> rfl
   refine i5 pk rk ?_
   repeat trivial
   refine i7 rule (by have := hrule.len; omega) wr _ _ _ _ _ hw fun d S4 pd bd hw => ?_
   repeat trivial
   refine i5 pd bd ?_
   repeat trivial
   refine i8 ws hk.len hk.w _ _ _ _ _ hw fun d S5 pd bd hw => ?_
   repeat trivial
   refine i6 pd bd ?_
   repeat trivial
   exact ⟨⟨_, _, _, _, _, _, rfl⟩, hr⟩
 · dsimp only [List.set_cons_succ, List.set_cons_zero] at he
   subst he
   repeat trivial
   refine i5 ⟨1, rfl⟩ (by decide +kernel) ?_
   repeat trivial
   refine i6 ⟨1, rfl⟩ (by decide +kernel) ?_
   repeat trivial
end
end L2.K41
end
section
namespace L2.K41
open PySem L2.MP
section
theorem good : ∀ ns : List Int, ns.length ≤ 63 → ∃ S, psi YY 40 14 [.rl (ns.map D.int)] [] = .ok (.bl true) S := fun ns h => by
 obtain ⟨d, s, e, q⟩ := (law_main (n := 10) (S := []) ns (Nat.le_trans (by omega : 1 + ns.length ≤ 64) (by decide))).ok
 subst q
 exact ⟨s, e⟩
end
end L2.K41
end
theorem PySem.Challenge.cw_matepoint_k41_rules_and_kinds_borne_holds : PySem.Challenge.rw_matepoint_k41_rules_and_kinds_borne.Holds := by
 exact L2.K41.holds L2.K41.good
