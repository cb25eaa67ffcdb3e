import PyProof.Rows.All
import KE.SortData
import Wide.All
import OpenK.AllK
import Wide.FinOn
import HandS.ForMost
import HandS.Exc
import HandS.TryOnly
import HandS.ExcOwn
import HandS.WordsExc
import HandS.Style
import HandS.TupAny
import HandS.Wide
import HandS.IsInst
import HandS.Deep
import KE.DataCmp
import PyProof.Rows.InDataRows
import HandS.CallSlots
import HandS.Conv
import HandS.Text
import HandS.Zip
import KE.GoesMore
import KE.GoesEnum
import KE.GoesZip
import HandS.Comp
import HandS.Lambda
import HandS.Iter
import HandS.Ends
import PyProof.ReprRoads
import PyProof.ReprBulk
import PySem.Challenge.RW_beatpatches_k08_whole_banks_of_cells
set_option Elab.async false
set_option linter.all false
set_option maxRecDepth 100000
set_option maxHeartbeats 1000000
namespace BD
open PySem
noncomputable section

abbrev D := PyData
/-! ### the state of a def, told by data -/
inductive Loc where
  | non
  | dat (d : D)
  | own (xs : List D)
  | lent (xs : List D)
  | pot
def Loc.ls : Loc → Option (List D)
  | .own xs => some xs
  | .lent xs => some xs
  | _ => none
structure Sx where
  L : List Loc
  G : List Int
/-- an outcome -/
inductive Rz (α : Type) where
  | ok (a : α) (s : Sx)
  | err (c : Str) (d : D) (s : Sx)
  | stuck
def Rz.bind {α β : Type} (r : Rz α) (g : α → Sx → Rz β) : Rz β := match r with
  | .ok a s => g a s
  | .err c d s => .err c d s
  | .stuck => .stuck
@[simp] theorem bind_ok {α β : Type} (a : α) (s : Sx) (g : α → Sx → Rz β) : (Rz.ok a s).bind g = g a s := (rfl)
@[simp] theorem bind_err {α β : Type} (c : Str) (d : D) (s : Sx) (g : α → Sx → Rz β) : (Rz.err c d s : Rz α).bind g = .err c d s := (rfl)
@[simp] theorem bind_stuck {α β : Type} (g : α → Sx → Rz β) : (Rz.stuck : Rz α).bind g = .stuck := (rfl)
/-- what may be missing -/
def Rz.of {α : Type} (o : Option α) (s : Sx) : Rz α := match o with
  | some a => .ok a s
  | none => .stuck
@[simp] theorem of_some {α : Type} (a : α) (s : Sx) : Rz.of (some a) s = .ok a s := (rfl)
@[simp] theorem of_none {α : Type} (s : Sx) : (Rz.of none s : Rz α) = .stuck := (rfl)
/-- a def that leaves what stands; one that draws from the pot -/
inductive Rp where
  | ok (d : D)
  | err (c : Str) (d : D)
  | stuck
inductive Rq where
  | ok (d : D) (G : List Int)
  | err (c : Str) (d : D) (G : List Int)
  | stuck
abbrev PFn := List D → Rp
abbrev QFn := List Int → List D → Rq
def Rp.to (r : Rp) (s : Sx) : Rz D := match r with
  | .ok d => .ok d s
  | .err c d => .err c d s
  | .stuck => .stuck
def Rq.to (r : Rq) (s : Sx) : Rz D := match r with
  | .ok d G => .ok d { s with G := G }
  | .err c d G => .err c d { s with G := G }
  | .stuck => .stuck
@[simp] theorem rp_ok (d : D) (s : Sx) : (Rp.ok d).to s = .ok d s := (rfl)
@[simp] theorem rq_ok (d : D) (G : List Int) (s : Sx) : (Rq.ok d G).to s = .ok d { s with G := G } := (rfl)

/-! ### operations on data -/
def lg (i : Int) : Nat := i.natAbs.log2
def mulOk (i j : Int) : Prop := lg i + lg j < 1000000
def divOk (j : Int) : Prop := j ≠ 0 ∧ lg j < 9000
def powOk (i j : Int) : Prop := 0 ≤ j ∧ ((lg i : Int) + 1) * j ≤ 2 ^ 27
noncomputable instance (i j : Int) : Decidable (mulOk i j) := Classical.propDecidable _
noncomputable instance (j : Int) : Decidable (divOk j) := Classical.propDecidable _
noncomputable instance (i j : Int) : Decidable (powOk i j) := Classical.propDecidable _
/-- the longest sequence that is let -/
def szl : Nat := 1000000
abbrev Op2 := D → D → Option D
def addD : Op2
  | .int i, .int j => some (.int (i + j))
  | .str x, .str y => if x.length + y.length ≤ szl then some (.str (x ++ y)) else none
  | .tuple xs, .tuple ys => if xs.length + ys.length ≤ szl then some (.tuple (xs ++ ys)) else none
  | .list xs, .list ys => if xs.length + ys.length ≤ szl then some (.list (xs ++ ys)) else none
  | _, _ => none
def subD : Op2
  | .int i, .int j => some (.int (i - j))
  | _, _ => none
def mulD : Op2
  | .int i, .int j => if mulOk i j then some (.int (i * j)) else none
  | .list xs, .int k => if 0 ≤ k ∧ k ≤ 1000 ∧ xs.length ≤ 1000 then some (.list (List.replicate k.toNat xs).flatten) else none
  | _, _ => none
def fdivD : Op2
  | .int i, .int j => if divOk j then some (.int (i.fdiv j)) else none
  | _, _ => none
def modD : Op2
  | .int i, .int j => if j ≠ 0 then some (.int (i.fmod j)) else none
  | _, _ => none
def pw (i : Int) (n : Nat) : Int := i ^ n
def powD : Op2
  | .int i, .int j => if powOk i j then some (.int (pw i j.toNat)) else none
  | _, _ => none
@[simp] theorem addD_int (i j : Int) : addD (.int i) (.int j) = some (.int (i + j)) := (rfl)
@[simp] theorem subD_int (i j : Int) : subD (.int i) (.int j) = some (.int (i - j)) := (rfl)
theorem mulD_int {i j : Int} (h : mulOk i j) : mulD (.int i) (.int j) = some (.int (i * j)) := if_pos h
theorem fdivD_int {i j : Int} (h : divOk j) : fdivD (.int i) (.int j) = some (.int (i.fdiv j)) := if_pos h
theorem modD_int {i j : Int} (h : j ≠ 0) : modD (.int i) (.int j) = some (.int (i.fmod j)) := if_pos h
theorem powD_int {i j : Int} (h : powOk i j) : powD (.int i) (.int j) = some (.int (pw i j.toNat)) := if_pos h
theorem powD_nat {i : Int} {n : Nat} (h : powOk i n) : powD (.int i) (.int n) = some (.int (pw i n)) := if_pos h
abbrev Cm2 := D → D → Option Bool
def strP : D → D → Option (Str × Str)
  | .str x, .str y => some (x, y)
  | _, _ => none
def eqD : Cm2 := fun x y => match strP x y with
  | some p => some (p.1 == p.2)
  | none => if SeqAt.shaped x && SeqAt.shaped y then some (PyData.eqv x y) else none
def neD : Cm2 := fun x y => match strP x y with
  | some p => some (!(p.1 == p.2))
  | none => if SeqAt.shaped x && SeqAt.shaped y then some (!PyData.eqv x y) else none
def ltD : Cm2
  | .int i, .int j => some (decide (i < j))
  | .tuple xs, .tuple ys => if (SeqAt.shaped (.tuple xs) && SeqAt.shaped (.tuple ys)) && W.alike (.tuple xs) (.tuple ys) then some (W.dataLt (.tuple xs) (.tuple ys)) else none
  | _, _ => none
def leD : Cm2
  | .int i, .int j => some (decide (i ≤ j))
  | _, _ => none
def gtD : Cm2
  | .int i, .int j => some (decide (j < i))
  | .tuple xs, .tuple ys => if (SeqAt.shaped (.tuple xs) && SeqAt.shaped (.tuple ys)) && W.alike (.tuple xs) (.tuple ys) then some (W.dataLt (.tuple ys) (.tuple xs)) else none
  | _, _ => none
def geD : Cm2
  | .int i, .int j => some (decide (j ≤ i))
  | _, _ => none
@[simp] theorem ltD_int (i j : Int) : ltD (.int i) (.int j) = some (decide (i < j)) := (rfl)
@[simp] theorem leD_int (i j : Int) : leD (.int i) (.int j) = some (decide (i ≤ j)) := (rfl)
@[simp] theorem gtD_int (i j : Int) : gtD (.int i) (.int j) = some (decide (j < i)) := (rfl)
@[simp] theorem geD_int (i j : Int) : geD (.int i) (.int j) = some (decide (j ≤ i)) := (rfl)
/-- x is None, x is True -/
def isNo : D → Bool
  | .none => true
  | _ => false
def isNonD : D → D → Option Bool
  | x, .none => some (isNo x)
  | .bool a, .bool b => some (decide (a = b))
  | _, _ => none
def isNotD : Cm2 := fun x y => (isNonD x y).map (!·)
def inD : Cm2
  | x, .list ys => if SeqAt.shaped x && SeqAt.shaped (.list ys) then some (ys.any fun y => PyData.eqv y x) else none
  | x, .tuple ys => if SeqAt.shaped x && SeqAt.shaped (.tuple ys) then some (ys.any fun y => PyData.eqv y x) else none
  | _, _ => none
def notInD : Cm2 := fun x y => (inD x y).map (!·)
/-- xs[i] -/
def ixN (n : Nat) (i : Int) : Option Nat := if 0 ≤ i then (if i < n then some i.toNat else none) else if -(n : Int) ≤ i then some (i + n).toNat else none
def atD {α : Type} (xs : List α) (i : Int) : Option α := (ixN xs.length i).bind fun j => xs[j]?
def idxD : Op2
  | .list xs, .int i => atD xs i
  | .tuple xs, .int i => atD xs i
  | .dict [(.none, .tuple xs)], .int i => atD xs i
  | .str z, .int i => if z.length ≤ szl then (atD z.cps.toList i).map fun c => .str ⟨#[c]⟩ else none
  | _, _ => none
/-- bounds of a slice -/
def sIx (n d : Nat) : Option Int → Nat
  | none => d
  | some v => if v < 0 then (v + (n : Int)).toNat else min v.toNat n
def cutD {α : Type} (xs : List α) (lo hi : Option Int) : List α := (xs.drop (sIx xs.length 0 lo)).take (sIx xs.length xs.length hi - sIx xs.length 0 lo)
def sliceD : D → Option Int → Option Int → Option D
  | .list xs, lo, hi => some (.list (cutD xs lo hi))
  | .tuple xs, lo, hi => some (.tuple (cutD xs lo hi))
  | .str z, lo, hi => if z.length ≤ szl then some (.str ⟨((z.cps.toList.drop (sIx z.length 0 lo)).take (sIx z.length z.length hi - sIx z.length 0 lo)).toArray⟩) else none
  | _, _, _ => none
def cutL : D → Option Int → Option Int → Option (List D)
  | .list xs, lo, hi => some (cutD xs lo hi)
  | _, _, _ => none
def revL : D → Option (List D)
  | .list xs => some xs.reverse
  | _ => none
/-! built-in functions -/
def intsD : List D → Option (List Int)
  | [] => some []
  | .int i :: r => (intsD r).map (i :: ·)
  | _ :: _ => none
def boolsD : List D → Option (List Bool)
  | [] => some []
  | .bool i :: r => (boolsD r).map (i :: ·)
  | _ :: _ => none
@[simp] theorem intsD_map (ns : List Int) : intsD (ns.map PyData.int) = some ns := by
  induction ns with
  | nil => rfl
  | cons n r ih => simp [intsD, ih]
@[simp] theorem boolsD_map (ns : List Bool) : boolsD (ns.map PyData.bool) = some ns := by
  induction ns with
  | nil => rfl
  | cons n r ih => simp [boolsD, ih]
def leastI : List Int → Int
  | [] => 0
  | x :: r => r.foldl min x
def mostI : List Int → Int
  | [] => 0
  | x :: r => r.foldl max x
abbrev Bf := List D → Option D
def lenB : Bf
  | [.list xs] => some (.int xs.length)
  | [.tuple xs] => some (.int xs.length)
  | [.str x] => if x.length ≤ szl then some (.int x.length) else none
  | [.dict [(.none, .tuple xs)]] => some (.int xs.length)
  | _ => none
def absB : Bf
  | [.int i] => some (.int (if i < 0 then -i else i))
  | _ => none
def intB : Bf
  | [.int i] => some (.int i)
  | [.bool k] => some (.int (if k then 1 else 0))
  | _ => none
def allB : Bf
  | [.list xs] => (boolsD xs).map fun bs => .bool (bs.all id)
  | _ => none
def anyB : Bf
  | [.list xs] => (boolsD xs).map fun bs => .bool (bs.any id)
  | _ => none
def sumB : Bf
  | [.list xs] => (intsD xs).map fun ns => .int ns.sum
  | _ => none
def minB : Bf
  | [.int i, .int j] => some (.int (if j < i then j else i))
  | [.list xs] => (intsD xs).bind fun ns => if ns = [] then none else some (.int (leastI ns))
  | _ => none
def maxB : Bf
  | [.int i, .int j] => some (.int (if j > i then j else i))
  | [.list xs] => (intsD xs).bind fun ns => if ns = [] then none else some (.int (mostI ns))
  | _ => none
def tupleB : Bf
  | [.list xs] => some (.tuple xs)
  | [.tuple xs] => some (.tuple xs)
  | _ => none
abbrev Lf := List D → Option (List D)
def listL : Lf
  | [.list xs] => some xs
  | [.tuple xs] => some xs
  | _ => none
/-- sorted: data of one kind -/
def dle (x y : D) : Bool := !W.dataLt y x
def atom : D → Bool
  | .int _ => true
  | .str _ => true
  | _ => false
def tupl : D → Bool
  | .tuple (_ :: _) => true
  | _ => false
def sortable (xs : List D) : Bool := xs.all (fun x => xs.all fun y => W.alike x y) && (xs.all tupl || xs.all atom) && xs.all SeqAt.shaped
def sortL : Lf
  | [.list xs] => if sortable xs ∧ xs.length ≤ szl then some (xs.mergeSort dle) else none
  | _ => none
/-- isinstance(x, T) -/
inductive Ty where
  | int | bool | str | tuple | list | dict
def isTb : Ty → D → Bool
  | .int, .int _ => true
  | .int, .bool _ => true
  | .bool, .bool _ => true
  | .str, .str _ => true
  | .tuple, .tuple _ => true
  | .list, .list _ => true
  | .dict, .dict _ => true
  | _, _ => false
/-- a mark of the layer's own -/
def mark : D → Bool
  | .dict ((.none, _) :: _) => true
  | _ => false
def isT (T : Ty) (d : D) : Option Bool := if mark d then none else some (isTb T d)

/-! ### expressions -/
abbrev ES := Sx → Rz D
inductive PV where
  | d (d : D)
  | o (i : Nat)
abbrev KS := Sx → Rz PV
abbrev AS := Sx → Rz (List D)
abbrev BS := Sx → Rz Bool
def res (s : Sx) : PV → Option D
  | .d d => some d
  | .o i => match s.L[i]? with
    | some (.own xs) => some (.list xs)
    | some (.lent xs) => some (.list xs)
    | some (.dat d) => some d
    | _ => none
/-- a name, its value handed on (a list of the def's own is not changed from then on) -/
def eV (i : Nat) : ES := fun s => match s.L[i]? with
  | some (.dat d) => .ok d s
  | some (.own xs) => .ok (.list xs) { s with L := s.L.set i (.dat (.list xs)) }
  | _ => .stuck
/-- .. looked at -/
def kV (i : Nat) : KS := fun s => match s.L[i]? with
  | some (.dat d) => .ok (.d d) s
  | some (.own _) => .ok (.o i) s
  | some (.lent _) => .ok (.o i) s
  | _ => .stuck
def kE (e : ES) : KS := fun s => (e s).bind fun d s1 => .ok (.d d) s1
def eC (d : D) : ES := fun s => .ok d s
def eOp (f : Op2) (a b : KS) : ES := fun s => (a s).bind fun x s1 => (b s1).bind fun y s2 => Rz.of ((res s2 x).bind fun u => (res s2 y).bind fun v => f u v) s2
def bCm (f : Cm2) (a b : KS) : BS := fun s => (a s).bind fun x s1 => (b s1).bind fun y s2 => Rz.of ((res s2 x).bind fun u => (res s2 y).bind fun v => f u v) s2
/-- a op b op' c -/
def bCh (f g : Cm2) (a b c : KS) : BS := fun s => (a s).bind fun x s1 => (b s1).bind fun y s2 => (Rz.of ((res s2 x).bind fun u => (res s2 y).bind fun v => f u v) s2).bind fun k s3 =>
  if k = true then (c s3).bind fun z s4 => Rz.of ((res s4 y).bind fun u => (res s4 z).bind fun v => g u v) s4 else .ok false s3
def eB (b : BS) : ES := fun s => (b s).bind fun k s1 => .ok (.bool k) s1
/-- a value that is a bool, as a test -/
def asB : D → Option Bool
  | .bool k => some k
  | _ => none
def asI : D → Option Int
  | .int k => some k
  | _ => none
@[simp] theorem asB_bool (k : Bool) : asB (.bool k) = some k := (rfl)
@[simp] theorem asI_int (k : Int) : asI (.int k) = some k := (rfl)
def bE (e : ES) : BS := fun s => (e s).bind fun d s1 => Rz.of (asB d) s1
def bAnd (a b : BS) : BS := fun s => (a s).bind fun k s1 => if k = true then b s1 else .ok false s1
def bOr (a b : BS) : BS := fun s => (a s).bind fun k s1 => if k = true then .ok true s1 else b s1
def bNot (a : BS) : BS := fun s => (a s).bind fun k s1 => .ok (!k) s1
def eNeg (a : ES) : ES := fun s => (a s).bind fun d s1 => Rz.of ((asI d).map fun i => .int (-i)) s1
def eIf (t : BS) (a b : ES) : ES := fun s => (t s).bind fun k s1 => if k = true then a s1 else b s1
def aNil : AS := fun s => .ok [] s
def aCons (e : ES) (r : AS) : AS := fun s => (e s).bind fun d s1 => (r s1).bind fun ds s2 => .ok (d :: ds) s2
/-- arguments that are looked at -/
abbrev PS' := Sx → Rz (List PV)
def pNil : PS' := fun s => .ok [] s
def pCons (e : KS) (r : PS') : PS' := fun s => (e s).bind fun d s1 => (r s1).bind fun ds s2 => .ok (d :: ds) s2
def resAll (s : Sx) : List PV → Option (List D)
  | [] => some []
  | p :: r => (res s p).bind fun d => (resAll s r).map (d :: ·)
def eTup (a : AS) : ES := fun s => (a s).bind fun ds s1 => if ds.length ≤ 1000 then .ok (.tuple ds) s1 else .stuck
def lLst (a : AS) : Sx → Rz (List D) := fun s => (a s).bind fun ds s1 => if ds.length ≤ 1000 then .ok ds s1 else .stuck
def eL (a : Sx → Rz (List D)) : ES := fun s => (a s).bind fun ds s1 => .ok (.list ds) s1
/-- a call of a def: n arguments -/
def eApp (n : Nat) (f : PFn) (a : AS) : ES := fun s => (a s).bind fun ds s1 => if ds.length = n then (f ds).to s1 else .stuck
def isPot (l : Option Loc) : Bool := match l with
  | some .pot => true
  | _ => false
/-- .. with the pot, which stands at i -/
def eApq (i n : Nat) (f : QFn) (a : AS) : ES := fun s => if isPot s.L[i]? then (a s).bind fun ds s1 => if ds.length = n then (f s1.G ds).to s1 else .stuck else .stuck
/-- .. with a list of the def's own as the pot -/
def Rq.own (i : Nat) (r : Rq) (s : Sx) : Rz D := match r with
  | .ok d G => .ok d { s with L := s.L.set i (.own (G.map PyData.int)) }
  | .err c d G => .err c d { s with L := s.L.set i (.own (G.map PyData.int)) }
  | .stuck => .stuck
def isOwn (l : Option Loc) : Bool := match l with
  | some (.own _) => true
  | _ => false
def ownI (l : Option Loc) : Option (List Int) := match l with
  | some (.own xs) => intsD xs
  | _ => none
def eApo (i n : Nat) (f : QFn) (a : AS) : ES := fun s => if isOwn s.L[i]? then (a s).bind fun ds s1 => if ds.length = n then (match ownI s1.L[i]? with
  | some G => (f G ds).own i s1
  | none => .stuck) else .stuck else .stuck
/-- .. with a new list as the pot -/
def Rq.gone (r : Rq) (s : Sx) : Rz D := match r with
  | .ok d _ => .ok d s
  | .err c d _ => .err c d s
  | .stuck => .stuck
def eApn (n : Nat) (f : QFn) (g : Sx → Rz (List D)) (a : AS) : ES := fun s => (g s).bind fun xs s1 => match intsD xs with
  | some G => (a s1).bind fun ds s2 => if ds.length = n then (f G ds).gone s2 else .stuck
  | none => .stuck
/-! what is handed back holds no list -/
mutual
def flat : D → Bool
  | .none | .bool _ | .int _ | .str _ => true
  | .tuple xs => flatAll xs
  | .list _ => false
  | .dict _ => false
def flatAll : List D → Bool
  | [] => true
  | d :: r => flat d && flatAll r
end
def Rp.flat (r : Rp) (s : Sx) : Rz D := match r with
  | .ok d => if BD.flat d = true then .ok d s else .stuck
  | .err c d => if BD.flat d = true then .err c d s else .stuck
  | .stuck => .stuck
def Rq.flat (r : Rq) (s : Sx) : Rz D := match r with
  | .ok d G => if BD.flat d = true then .ok d { s with G := G } else .stuck
  | .err c d G => if BD.flat d = true then .err c d { s with G := G } else .stuck
  | .stuck => .stuck
/-- the arguments are looked at -/
def eAppB (n : Nat) (f : PFn) (a : PS') : ES := fun s => (a s).bind fun ps s1 => match resAll s1 ps with
  | some ds => if ds.length = n then (f ds).flat s1 else .stuck
  | none => .stuck
def eApqB (i n : Nat) (f : QFn) (a : PS') : ES := fun s => if isPot s.L[i]? then (a s).bind fun ps s1 => match resAll s1 ps with
  | some ds => if ds.length = n then (f s1.G ds).flat s1 else .stuck
  | none => .stuck else .stuck
/-- a def that hands a new list on -/
abbrev LFn := List D → Option (List D)
def lApl (n : Nat) (f : LFn) (a : AS) : Sx → Rz (List D) := fun s => (a s).bind fun ds s1 => if ds.length = n then Rz.of (f ds) s1 else .stuck
def eBf (f : Bf) (a : PS') : ES := fun s => (a s).bind fun ps s1 => Rz.of ((resAll s1 ps).bind f) s1
def lLf (f : Lf) (a : PS') : Sx → Rz (List D) := fun s => (a s).bind fun ps s1 => Rz.of ((resAll s1 ps).bind f) s1
def bIs (T : Ty) (a : KS) : BS := fun s => (a s).bind fun p s1 => Rz.of ((res s1 p).bind (isT T)) s1
/-- a slice's part -/
abbrev OS := Sx → Rz (Option Int)
def oNo : OS := fun s => .ok none s
def oE (e : ES) : OS := fun s => (e s).bind fun d s1 => Rz.of ((asI d).map some) s1
def eSl (a : KS) (lo hi : OS) : ES := fun s => (a s).bind fun p s1 => (lo s1).bind fun l s2 => (hi s2).bind fun u s3 => Rz.of ((res s3 p).bind fun x => sliceD x l u) s3
def lSl (a : KS) (lo hi : OS) : Sx → Rz (List D) := fun s => (a s).bind fun p s1 => (lo s1).bind fun l s2 => (hi s2).bind fun u s3 => Rz.of ((res s3 p).bind fun x => cutL x l u) s3
def lRev (a : KS) : Sx → Rz (List D) := fun s => (a s).bind fun p s1 => Rz.of ((res s1 p).bind revL) s1
def lCat (a b : KS) : Sx → Rz (List D) := fun s => (a s).bind fun x s1 => (b s1).bind fun y s2 => Rz.of ((res s2 x).bind fun u => (res s2 y).bind fun v => match u, v with
  | .list xs, .list ys => if xs.length + ys.length ≤ szl then some (xs ++ ys) else none
  | _, _ => none) s2
/-! what is walked: its items, and the lists that are lent meanwhile -/
abbrev IS := Sx → Rz (List D × List Nat)
def signs (z : Str) : List D := z.cps.toList.map fun c => .str ⟨#[c]⟩
def seqD : D → Option (List D)
  | .list xs => some xs
  | .tuple xs => some xs
  | .str z => some (signs z)
  | _ => none
def lend (s : Sx) : PV → Option (List D × List Nat × Sx)
  | .d d => (seqD d).map fun xs => (xs, [], s)
  | .o i => match s.L[i]? with
    | some (.own xs) => some (xs, [i], { s with L := s.L.set i (.lent xs) })
    | some (.lent xs) => some (xs, [], s)
    | some (.dat d) => (seqD d).map fun xs => (xs, [], s)
    | _ => none
def give (L : List Loc) : List Nat → List Loc
  | [] => L
  | i :: r => give (match L[i]? with | some (.lent xs) => L.set i (.own xs) | _ => L) r
def lentTo (f : List D → Option (List D)) (p : PV) (s : Sx) : Rz (List D × List Nat) := match lend s p with
  | some (xs, ls, s') => Rz.of ((f xs).map fun ys => (ys, ls)) s'
  | none => .stuck
def iSeq (e : KS) : IS := fun s => (e s).bind fun p s1 => lentTo some p s1
def upto (lo : Int) (n : Nat) : List D := (List.range n).map fun (i : Nat) => .int (lo + (i : Int))
def downto (hi : Int) (n : Nat) : List D := (List.range n).map fun (i : Nat) => .int (hi - (i : Int))
def rngOk (i : Int) : Prop := -(2 ^ 62) ≤ i ∧ i < 2 ^ 62
noncomputable instance (i : Int) : Decidable (rngOk i) := Classical.propDecidable _
def rg2 (x y : D) : Option (List D) := (asI x).bind fun i => (asI y).bind fun j => if rngOk i ∧ rngOk j then some (upto i (j - i).toNat) else none
def rgDown (x y : D) : Option (List D) := (asI x).bind fun i => (asI y).bind fun j => if rngOk i ∧ rngOk j then some (downto i (i - j).toNat) else none
theorem rg2_int {i j : Int} (h : rngOk i) (h2 : rngOk j) : rg2 (.int i) (.int j) = some (upto i (j - i).toNat) := if_pos ⟨h, h2⟩
theorem rgDown_int {i j : Int} (h : rngOk i) (h2 : rngOk j) : rgDown (.int i) (.int j) = some (downto i (i - j).toNat) := if_pos ⟨h, h2⟩
def iRg1 (e : ES) : IS := fun s => (e s).bind fun d s1 => Rz.of ((rg2 (.int 0) d).map fun xs => (xs, [])) s1
def iRg2 (a b : ES) : IS := fun s => (a s).bind fun x s1 => (b s1).bind fun y s2 => Rz.of ((rg2 x y).map fun xs => (xs, [])) s2
/-- range(a, b, -1) -/
def iRgD (a b : ES) : IS := fun s => (a s).bind fun x s1 => (b s1).bind fun y s2 => Rz.of ((rgDown x y).map fun xs => (xs, [])) s2
def enumD (k : Int) (xs : List D) : List D := xs.zipIdx.map fun p => .tuple [.int (k + (p.2 : Int)), p.1]
def iEnum (k : Int) (e : KS) : IS := fun s => (e s).bind fun p s1 => lentTo (fun xs => some (enumD k xs)) p s1
def zipD (xs ys : List D) : List D := (xs.zip ys).map fun p => .tuple [p.1, p.2]
def iZip (a b : KS) : IS := fun s => (a s).bind fun p s1 => (b s1).bind fun q s2 => match lend s2 p with
  | some (xs, ls, s3) => (match lend s3 q with
    | some (ys, ls', s4) => .ok (zipD xs ys, ls ++ ls') s4
    | none => .stuck)
  | none => .stuck
def lRg1 (e : ES) : Sx → Rz (List D) := fun s => (e s).bind fun d s1 => Rz.of ((rg2 (.int 0) d).bind fun xs => if xs.length ≤ szl then some xs else none) s1
def lRg2 (a b : ES) : Sx → Rz (List D) := fun s => (a s).bind fun x s1 => (b s1).bind fun y s2 => Rz.of ((rg2 x y).bind fun xs => if xs.length ≤ szl then some xs else none) s2
/-! ### targets -/
abbrev GS := D → Sx → Option Sx
def Rz.st (o : Option Sx) : Rz Unit := match o with
  | some s => .ok () s
  | none => .stuck
@[simp] theorem st_some (s : Sx) : Rz.st (some s) = .ok () s := (rfl)
@[simp] theorem st_none : Rz.st none = .stuck := (rfl)
def free (l : Option Loc) : Bool := match l with
  | some (.lent _) => false
  | some .pot => false
  | _ => true
def gV (i : Nat) : GS := fun d s => if free s.L[i]? then some { s with L := s.L.set i (.dat d) } else none
def gEach : List GS → List D → Sx → Option Sx
  | [], [], s => some s
  | g :: gs, d :: ds, s => (g d s).bind fun s1 => gEach gs ds s1
  | _, _, _ => none
def gTup (gs : List GS) : GS := fun d s => match d with
  | .tuple ds => gEach gs ds s
  | _ => none
/-! ### comprehensions -/
def unset (L : List Loc) : List Nat → List Loc
  | [] => L
  | i :: r => (unset L r).set i .non
def back (L0 L : List Loc) : List Nat → List Loc
  | [] => L
  | i :: r => (back L0 L r).set i (L0.getD i .non)
def isDat : Option Loc → Bool
  | some .non => true
  | some (.dat _) => true
  | _ => false
/-- nothing is raised within -/
def Rz.calm {α : Type} (r : Rz α) : Rz α := match r with
  | .err _ _ _ => .stuck
  | r => r
@[simp] theorem calm_ok {α : Type} (a : α) (s : Sx) : (Rz.ok a s).calm = .ok a s := (rfl)
def compL (g : GS) (c : BS) (e : ES) (own : List Nat) : List D → List D → Sx → Rz (List D)
  | [], acc, s => .ok acc s
  | x :: xs, acc, s => (Rz.st (g x s)).bind fun _ s1 => (c s1).calm.bind fun k s2 =>
    if k = true then (e s2).calm.bind fun y s3 => if acc.length < szl then compL g c e own xs (acc ++ [y]) { s3 with L := unset s3.L own } else .stuck
    else compL g c e own xs acc { s2 with L := unset s2.L own }
def lComp (it : IS) (g : GS) (c : BS) (e : ES) (own : List Nat) : Sx → Rz (List D) := fun s => (it s).bind fun p s1 =>
  if own.all (fun i => isDat s1.L[i]?) then (compL g c e own p.1 [] { s1 with L := unset s1.L own }).bind fun ys s2 => .ok ys { s2 with L := give (back s1.L s2.L own) p.2 } else .stuck
def bYes : BS := fun s => .ok true s
/-! ### statements -/
inductive Fl where
  | nx
  | rt (d : D)
  | bk
  | ct
abbrev SS := Sx → Rz Fl
def sSkip : SS := fun s => .ok .nx s
def sSeq (a b : SS) : SS := fun s => (a s).bind fun f s1 => match f with
  | .nx => b s1
  | f => .ok f s1
def sRet (e : ES) : SS := fun s => (e s).bind fun d s1 => .ok (.rt d) s1
def sExp (e : ES) : SS := fun s => (e s).bind fun _ s1 => .ok .nx s1
def sIf (t : BS) (a b : SS) : SS := fun s => (t s).bind fun k s1 => if k = true then a s1 else b s1
def sSet (g : GS) (e : ES) : SS := fun s => (e s).bind fun d s1 => (Rz.st (g d s1)).bind fun _ s2 => .ok .nx s2
/-- x = a list that is new: the def's own -/
def setOwn (i : Nat) (xs : List D) (s : Sx) : Option Sx := if free s.L[i]? then some { s with L := s.L.set i (.own xs) } else none
def sOwn (i : Nat) (e : Sx → Rz (List D)) : SS := fun s => (e s).bind fun xs s1 => (Rz.st (setOwn i xs s1)).bind fun _ s2 => .ok .nx s2
def sPar (gs : List GS) (a : AS) : SS := fun s => (a s).bind fun ds s1 => (Rz.st (gEach gs ds s1)).bind fun _ s2 => .ok .nx s2
def eApd (i : Nat) (e : ES) : ES := fun s => if isOwn s.L[i]? then (e s).bind fun d s1 => (match s1.L[i]? with
  | some (.own xs) => if xs.length < szl then .ok .none { s1 with L := s1.L.set i (.own (xs ++ [d])) } else .stuck
  | _ => .stuck) else .stuck
def lstD : D → Option (List D)
  | .list xs => some xs
  | _ => none
def eExt (i : Nat) (e : KS) : ES := fun s => if isOwn s.L[i]? then (e s).bind fun p s1 => (match (res s1 p).bind lstD, s1.L[i]? with
  | some ys, some (.own xs) => if xs.length + ys.length ≤ szl then .ok .none { s1 with L := s1.L.set i (.own (xs ++ ys)) } else .stuck
  | _, _ => .stuck) else .stuck
def ePop (i : Nat) : ES := fun s => match s.L[i]? with
  | some (.own xs) => Rz.of (xs[xs.length - 1]?) { s with L := s.L.set i (.own xs.dropLast) }
  | _ => .stuck
def ePopAt (i : Nat) (e : ES) : ES := fun s => if isOwn s.L[i]? then (e s).bind fun d s1 => (match asI d, s1.L[i]? with
  | some k, some (.own xs) => if 0 ≤ k ∧ k < 2 ^ 62 then Rz.of (xs[k.toNat]?) { s1 with L := s1.L.set i (.own (xs.eraseIdx k.toNat)) } else .stuck
  | _, _ => .stuck) else .stuck
/-- what is not reached -/
def sStuck : SS := fun _ => .stuck
def eStuck : ES := fun _ => .stuck
/-- loops -/
def forL (g : GS) (b : SS) : List D → SS
  | [], s => .ok .nx s
  | x :: xs, s => (Rz.st (g x s)).bind fun _ s1 => (b s1).bind fun f s2 => match f with
    | .nx => forL g b xs s2
    | .ct => forL g b xs s2
    | .bk => .ok .nx s2
    | .rt d => .ok (.rt d) s2
def sFor (it : IS) (g : GS) (b : SS) : SS := fun s => (it s).bind fun p s1 => (forL g b p.1 s1).bind fun f s2 => .ok f { s2 with L := give s2.L p.2 }
/-- a while: n turns at most -/
def whN (c : BS) (b : SS) : Nat → SS
  | 0, _ => .stuck
  | n + 1, s => (c s).bind fun k s1 => if k = true then (b s1).bind fun f s2 => (match f with
    | .nx => whN c b n s2
    | .ct => whN c b n s2
    | .bk => .ok .nx s2
    | .rt d => .ok (.rt d) s2) else .ok .nx s1
noncomputable def sWhile (c : BS) (b : SS) : SS := fun s => open Classical in if h : ∃ n, whN c b n s ≠ .stuck then whN c b (Classical.choose h) s else .stuck
/-! ### defs -/
def start (n : Nat) (ds : List D) : List Loc := ds.map .dat ++ List.replicate (n - ds.length) .non
def finP : Rz Fl → Rp
  | .ok (.rt d) _ => .ok d
  | .ok .nx _ => .ok .none
  | .err c d _ => .err c d
  | _ => .stuck
def finQ : Rz Fl → Rq
  | .ok (.rt d) s => .ok d s.G
  | .ok .nx s => .ok .none s.G
  | .err c d s => .err c d s.G
  | _ => .stuck
/-- p parameters, n names -/
def runP (p n : Nat) (b : SS) : PFn := fun ds => if ds.length = p then finP (b ⟨start n ds, []⟩) else .stuck
/-- .. the pot ahead of them -/
def runQ (p n : Nat) (b : SS) : QFn := fun G ds => if ds.length = p then finQ (b ⟨.pot :: start n ds, G⟩) else .stuck
/-- .. a new list is handed on -/
def runL (p n : Nat) (b : SS) (e : Sx → Rz (List D)) : LFn := fun ds => if ds.length = p then (match b ⟨start n ds, []⟩ with
  | .ok .nx s => (match e s with
    | .ok xs _ => some xs
    | _ => none)
  | _ => none) else none
/-! what the pot holds is read and set -/
def ePotIx (i : Nat) (e : ES) : ES := fun s => if isPot s.L[i]? then (e s).bind fun d s1 => Rz.of ((asI d).bind fun k => (atD s1.G k).map PyData.int) s1 else .stuck
def sPotSet (i : Nat) (k : Int) (e : ES) : SS := fun s => if isPot s.L[i]? then (e s).bind fun d s1 => (match asI d with
  | some j => if 0 ≤ k ∧ k.toNat < s1.G.length then .ok .nx { s1 with G := s1.G.set k.toNat j } else .stuck
  | none => .stuck) else .stuck
end
end BD

set_option Elab.async false
set_option linter.all false
set_option maxRecDepth 100000
set_option maxHeartbeats 1000000
namespace BD
open PySem PySem.Spec PyProof.Rows L2

abbrev MS := Addr → Prop
def keyD : Key → D
  | .inl i => .int i
  | .inr x => .str x
def mutO : HO → Bool
  | .lst _ => true
  | .dK _ => true
  | .dT _ => true
  | _ => false

/-- a list that stands unchanged: the script -/
def SqF (K : PySem.W.Frag) (H : Hp) (a : Addr) (vs : List V) : Prop := (∃ o, H a = some (.frz o (.lst vs))) ∨
  ∃ (o : Obj) (its : Array Value) (n : Nat), K.lookup a = some o ∧ o.cls = .type "list" ∧ o.dict = none ∧ o.data = .seq its n ∧ its.size ≤ sizeLine ∧ Vals vs its.toList
theorem SqF.sq {K : PySem.W.Frag} {H : Hp} {a : Addr} {vs : List V} (h : SqF K H a vs) : SqL K H a vs := h.imp .inr id
mutual
inductive Rep (K : PySem.W.Frag) (M : MS) (H : Hp) : D → V → Prop
  | non : Rep K M H .none .non
  | bl (b : Bool) : Rep K M H (.bool b) (.bl b)
  | int (i : Int) : Rep K M H (.int i) (.int i)
  | str (x : Str) : Rep K M H (.str x) (.str x)
  | lst {a : Addr} {vs : List V} {ds : List D} : ¬ M a → H a = some (.lst vs) → Reps K M H ds vs → Rep K M H (.list ds) (.ref a)
  | tup {a : Addr} {vs : List V} {ds : List D} : SqT K H a vs → Reps K M H ds vs → Rep K M H (.tuple ds) (.ref a)
  | dic {a : Addr} {kvs : List (Key × V)} {ds : List (D × D)} : ¬ M a → H a = some (.dK kvs) → RepKs K M H ds kvs → Rep K M H (.dict ds) (.ref a)
  | frz {a : Addr} {vs : List V} {ds : List D} : SqF K H a vs → Reps K M H ds vs → Rep K M H (.dict [(.none, .tuple ds)]) (.ref a)
inductive Reps (K : PySem.W.Frag) (M : MS) (H : Hp) : List D → List V → Prop
  | nil : Reps K M H [] []
  | cons {d : D} {v : V} {ds : List D} {vs : List V} : Rep K M H d v → Reps K M H ds vs → Reps K M H (d :: ds) (v :: vs)
inductive RepKs (K : PySem.W.Frag) (M : MS) (H : Hp) : List (D × D) → List (Key × V) → Prop
  | nil : RepKs K M H [] []
  | cons {k : Key} {d : D} {v : V} {ds : List (D × D)} {vs : List (Key × V)} : Rep K M H d v → RepKs K M H ds vs → RepKs K M H ((keyD k, d) :: ds) ((k, v) :: vs)
end

/-- a step: what is kept; what may be changed from then on -/
structure Fr (M M' : MS) (H H' : Hp) : Prop where
  keep : ∀ a o, H a = some o → (M a → mutO o = false) → H' a = some o
  grow : ∀ a, M' a → M a ∨ H a = none
  there : ∀ a, H' a = none → H a = none
theorem Fr.refl (M : MS) (H : Hp) : Fr M M H H := ⟨fun _ _ h _ => h, fun _ h => .inl h, fun _ h => h⟩
theorem Fr.trans {M M1 M2 : MS} {H H1 H2 : Hp} (a : Fr M M1 H H1) (b : Fr M1 M2 H1 H2) : Fr M M2 H H2 := by
  refine ⟨fun x o h hm => ?_, fun x h => ?_, fun x h => a.there x (b.there x h)⟩
  · refine b.keep x o (a.keep x o h hm) fun h1 => ?_
    rcases a.grow x h1 with z | z
    · exact hm z
    · rw [z] at h; cases h
  · rcases b.grow x h with z | z
    · exact a.grow x z
    · cases q : H x with
      | none => exact .inr rfl
      | some o =>
        refine Classical.byCases (p := M x) .inl fun hm => ?_
        rw [a.keep x o q (fun z => absurd z hm)] at z
        cases z
theorem Fr.of_same {M : MS} {H H' : Hp} (h : Same H H') : Fr M M H H' := ⟨fun a o e _ => h a o e, fun _ z => .inl z, fun _ z => h.free z⟩
theorem Fr.sub {M M' : MS} {H : Hp} (h : ∀ a, M' a → M a) : Fr M M' H H := ⟨fun _ _ e _ => e, fun a z => .inl (h a z), fun _ z => z⟩
theorem Fr.new {M : MS} {H : Hp} {p : Addr} (h : H p = none) : Fr M (fun a => M a ∨ a = p) H H := ⟨fun _ _ e _ => e, fun a z => z.elim .inl fun e => .inr (e ▸ h), fun _ z => z⟩
theorem SqT.fr {K : PySem.W.Frag} {M M' : MS} {H H' : Hp} {a : Addr} {vs : List V} (f : Fr M M' H H') (h : SqT K H a vs) : SqT K H' a vs := by
  rcases h with (h | ⟨o, h⟩) | h
  · exact .inl (.inl (f.keep _ _ h fun _ => rfl))
  · exact .inl (.inr ⟨o, f.keep _ _ h fun _ => rfl⟩)
  · exact .inr h

mutual
theorem Rep.mono {K : PySem.W.Frag} {M M' : MS} {H H' : Hp} (f : Fr M M' H H') : ∀ {d : D} {v : V}, Rep K M H d v → Rep K M' H' d v
  | _, _, .non => .non
  | _, _, .bl b => .bl b
  | _, _, .int i => .int i
  | _, _, .str x => .str x
  | _, _, .lst hm h r => .lst (fun z => (f.grow _ z).elim hm fun q => by rw [q] at h; cases h) (f.keep _ _ h fun z => absurd z hm) (Reps.mono f r)
  | _, _, .tup h r => .tup (SqT.fr f h) (Reps.mono f r)
  | _, _, .dic hm h r => .dic (fun z => (f.grow _ z).elim hm fun q => by rw [q] at h; cases h) (f.keep _ _ h fun z => absurd z hm) (RepKs.mono f r)
  | _, _, .frz h r => .frz (h.imp (fun ⟨o, h⟩ => ⟨o, f.keep _ _ h fun _ => rfl⟩) id) (Reps.mono f r)
theorem Reps.mono {K : PySem.W.Frag} {M M' : MS} {H H' : Hp} (f : Fr M M' H H') : ∀ {d : List D} {v : List V}, Reps K M H d v → Reps K M' H' d v
  | _, _, .nil => .nil
  | _, _, .cons h r => .cons (Rep.mono f h) (Reps.mono f r)
theorem RepKs.mono {K : PySem.W.Frag} {M M' : MS} {H H' : Hp} (f : Fr M M' H H') : ∀ {d : List (D × D)} {v : List (Key × V)}, RepKs K M H d v → RepKs K M' H' d v
  | _, _, .nil => .nil
  | _, _, .cons h r => .cons (Rep.mono f h) (RepKs.mono f r)
end
section
variable {K : PySem.W.Frag} {M M' : MS} {H H' : Hp}
theorem Reps.length : ∀ {ds : List D} {vs : List V}, Reps K M H ds vs → ds.length = vs.length
  | _, _, .nil => rfl
  | _, _, .cons _ r => congrArg (· + 1) (Reps.length r)
theorem Reps.get : ∀ {ds : List D} {vs : List V} {i : Nat} {d : D}, Reps K M H ds vs → ds[i]? = some d → ∃ v, vs[i]? = some v ∧ Rep K M H d v
  | _, _, _, _, .nil, e => by simp at e
  | _, _, 0, _, .cons h _, e => by simp at e; subst e; exact ⟨_, rfl, h⟩
  | _, _, i + 1, d, .cons _ r, e => by
    obtain ⟨v, h1, h2⟩ := Reps.get (i := i) (d := d) r (by simpa using e)
    exact ⟨v, by simpa using h1, h2⟩
theorem Reps.getV : ∀ {ds : List D} {vs : List V} {i : Nat} {v : V}, Reps K M H ds vs → vs[i]? = some v → ∃ d, ds[i]? = some d ∧ Rep K M H d v
  | _, _, _, _, .nil, e => by simp at e
  | _, _, 0, _, .cons h _, e => by simp at e; subst e; exact ⟨_, rfl, h⟩
  | _, _, i + 1, d, .cons _ r, e => by
    obtain ⟨v, h1, h2⟩ := Reps.getV (i := i) (v := d) r (by simpa using e)
    exact ⟨v, by simpa using h1, h2⟩
theorem Reps.append : ∀ {ds es : List D} {vs us : List V}, Reps K M H ds vs → Reps K M H es us → Reps K M H (ds ++ es) (vs ++ us)
  | _, _, _, _, .nil, s => s
  | _, _, _, _, .cons h r, s => .cons h (Reps.append r s)
theorem Reps.take : ∀ {ds : List D} {vs : List V} (n : Nat), Reps K M H ds vs → Reps K M H (ds.take n) (vs.take n)
  | _, _, 0, _ => .nil
  | _, _, _ + 1, .nil => .nil
  | _, _, n + 1, .cons h r => .cons h (Reps.take n r)
theorem Reps.drop : ∀ {ds : List D} {vs : List V} (n : Nat), Reps K M H ds vs → Reps K M H (ds.drop n) (vs.drop n)
  | _, _, 0, r => r
  | _, _, _ + 1, .nil => .nil
  | _, _, n + 1, .cons _ r => Reps.drop n r
theorem Reps.erase : ∀ {ds : List D} {vs : List V} (n : Nat), Reps K M H ds vs → Reps K M H (ds.eraseIdx n) (vs.eraseIdx n)
  | _, _, _, .nil => .nil
  | _, _, 0, .cons _ r => r
  | _, _, n + 1, .cons h r => .cons h (Reps.erase n r)
theorem Reps.setAt {d : D} {v : V} (q : Rep K M H d v) : ∀ {ds : List D} {vs : List V} (n : Nat), Reps K M H ds vs → Reps K M H (ds.set n d) (vs.set n v)
  | _, _, _, .nil => .nil
  | _, _, 0, .cons _ r => .cons q r
  | _, _, n + 1, .cons h r => .cons h (Reps.setAt q n r)
theorem Reps.rev : ∀ {ds : List D} {vs : List V}, Reps K M H ds vs → Reps K M H ds.reverse vs.reverse
  | _, _, .nil => .nil
  | _, _, .cons h r => by rw [List.reverse_cons, List.reverse_cons]; exact (Reps.rev r).append (.cons h .nil)
end

/-! ### the state of a def, told by data -/
structure Fm where
  Mo : MS
  pa : Option Addr
def Md (F : Fm) (st : Sx) (σ : L2.St) : MS := fun a => F.Mo a ∨ ∃ (i : Nat) (l : Loc) (xs : List D), st.L[i]? = some l ∧ l.ls = some xs ∧ σ[i]? = some (some (.ref a))
def SlotOk (K : PySem.W.Frag) (F : Fm) (st : Sx) (σ : L2.St) (H : Hp) (i : Nat) : Loc → Prop
  | .non => True
  | .dat d => ∃ v : V, σ[i]? = some (some v) ∧ Rep K (Md F st σ) H d v
  | .own xs => ∃ (a : Addr) (vs : List V), σ[i]? = some (some (.ref a)) ∧ H a = some (.lst vs) ∧ ¬ F.Mo a ∧ Reps K (Md F st σ) H xs vs
  | .lent xs => ∃ (a : Addr) (vs : List V), σ[i]? = some (some (.ref a)) ∧ H a = some (.lst vs) ∧ ¬ F.Mo a ∧ Reps K (Md F st σ) H xs vs
  | .pot => ∃ a : Addr, F.pa = some a ∧ σ[i]? = some (some (.ref a))
structure Lk (K : PySem.W.Frag) (F : Fm) (st : Sx) (σ : L2.St) (H : Hp) : Prop where
  len : σ.length = st.L.length
  slot : ∀ (i : Nat) (l : Loc), st.L[i]? = some l → SlotOk K F st σ H i l
  inj : ∀ (i j : Nat) (l m : Loc) (xs ys : List D) (a : Addr), st.L[i]? = some l → l.ls = some xs → st.L[j]? = some m → m.ls = some ys → σ[i]? = some (some (.ref a)) → σ[j]? = some (some (.ref a)) → i = j
  pot : ∀ a, F.pa = some a → F.Mo a ∧ H a = some (.lst (st.G.map V.int))
  mo : ∀ a, F.Mo a → ∃ o, H a = some o
section
variable {K : PySem.W.Frag} {F : Fm} {st : Sx} {σ : L2.St} {H H' : Hp}
theorem Lk.list (l : Lk K F st σ H) {i : Nat} {m : Loc} {xs : List D} (h : st.L[i]? = some m) (e : m.ls = some xs) : ∃ (a : Addr) (vs : List V), σ[i]? = some (some (.ref a)) ∧ H a = some (.lst vs) ∧ ¬ F.Mo a ∧ Reps K (Md F st σ) H xs vs := by
  have s := l.slot i m h
  cases m with
  | own ys => cases e; exact s
  | lent ys => cases e; exact s
  | _ => cases e
theorem Lk.there (l : Lk K F st σ H) {a : Addr} (h : Md F st σ a) : ∃ o, H a = some o := by
  rcases h with h | ⟨i, m, xs, h1, h2, h3⟩
  · exact l.mo a h
  · obtain ⟨b, vs, e, e2, _⟩ := l.list h1 h2
    rw [h3] at e
    cases e
    exact ⟨_, e2⟩
theorem Lk.fresh (l : Lk K F st σ H) {p : Addr} (h : H p = none) : ¬ Md F st σ p := fun z => by
  obtain ⟨o, e⟩ := l.there z
  rw [h] at e
  cases e
theorem SlotOk.same {i : Nat} {x : Loc} (h : Same H H') (s : SlotOk K F st σ H i x) : SlotOk K F st σ H' i x := by
  cases x with
  | non => trivial
  | dat d => obtain ⟨v, e, r⟩ := s; exact ⟨v, e, r.mono (Fr.of_same h)⟩
  | own xs => obtain ⟨a, vs, e, e2, n, r⟩ := s; exact ⟨a, vs, e, h _ _ e2, n, r.mono (Fr.of_same h)⟩
  | lent xs => obtain ⟨a, vs, e, e2, n, r⟩ := s; exact ⟨a, vs, e, h _ _ e2, n, r.mono (Fr.of_same h)⟩
  | pot => exact s
theorem Lk.same (l : Lk K F st σ H) (h : Same H H') : Lk K F st σ H' :=
  ⟨l.len, fun i x e => (l.slot i x e).same h, l.inj, fun a e => let ⟨m, e2⟩ := l.pot a e; ⟨m, h _ _ e2⟩, fun a m => let ⟨o, e⟩ := l.mo a m; ⟨o, h _ _ e⟩⟩
def Fm.add (F : Fm) (p : Addr) : Fm := ⟨fun b => F.Mo b ∨ b = p, F.pa⟩
theorem Md.add {p : Addr} {b : Addr} : Md (F.add p) st σ b ↔ Md F st σ b ∨ b = p := by
  constructor
  · rintro ((h | h) | h)
    · exact .inl (.inl h)
    · exact .inr h
    · exact .inl (.inr h)
  · rintro ((h | h) | h)
    · exact .inl (.inl h)
    · exact .inr h
    · exact .inl (.inr h)
theorem same_upd {H : Hp} {p : Addr} {o : HO} (h : H p = none) : Same H (upd H p o) := fun b x e => by
  rw [upd_ne (ne_of_none e h)]
  exact e
theorem fr_add (l : Lk K F st σ H) {p : Addr} (h : H p = none) : Fr (Md F st σ) (Md (F.add p) st σ) H H := ⟨fun _ _ e _ => e, fun a z => (Md.add.mp z).elim .inl fun e => .inr (e ▸ h), fun _ z => z⟩
theorem Lk.mono {F' : Fm} (l : Lk K F st σ H) (f : Fr (Md F st σ) (Md F' st σ) H H') (hm : ∀ a, F'.Mo a → (∃ o, H' a = some o)) (hp : F'.pa = F.pa) (hmo : ∀ a, F.Mo a → F'.Mo a)
    (ho : ∀ (i : Nat) (m : Loc) (xs : List D) (a : Addr) (vs : List V), st.L[i]? = some m → m.ls = some xs → σ[i]? = some (some (.ref a)) → H a = some (.lst vs) → H' a = some (.lst vs) ∧ ¬ F'.Mo a) (hpot : ∀ a, F.pa = some a → H' a = H a) : Lk K F' st σ H' := by
  refine ⟨l.len, fun i x e => ?_, l.inj, fun a e => ?_, hm⟩
  · have s := l.slot i x e
    cases x with
    | non => trivial
    | dat d => obtain ⟨v, e1, r⟩ := s; exact ⟨v, e1, r.mono f⟩
    | own xs => obtain ⟨a, vs, e1, e2, n, r⟩ := s; exact ⟨a, vs, e1, (ho i _ xs a vs e rfl e1 e2).1, (ho i _ xs a vs e rfl e1 e2).2, r.mono f⟩
    | lent xs => obtain ⟨a, vs, e1, e2, n, r⟩ := s; exact ⟨a, vs, e1, (ho i _ xs a vs e rfl e1 e2).1, (ho i _ xs a vs e rfl e1 e2).2, r.mono f⟩
    | pot => obtain ⟨a, e1, e2⟩ := s; exact ⟨a, hp.trans e1, e2⟩
  · rw [hp] at e
    obtain ⟨m, e2⟩ := l.pot a e
    exact ⟨hmo a m, (hpot a e).trans e2⟩
theorem Lk.addNew (l : Lk K F st σ H) {p : Addr} (h : H p = none) (o : HO) : Lk K (F.add p) st σ (upd H p o) := by
  refine l.mono ((fr_add l h).trans (Fr.of_same (same_upd h))) (fun a z => ?_) rfl (fun a z => .inl z) (fun i m xs a vs e1 em e2 e3 => ⟨same_upd h _ _ e3, fun z => ?_⟩) fun a e => ?_
  · rcases z with z | z
    · obtain ⟨o, e⟩ := l.mo a z
      exact ⟨o, same_upd h _ _ e⟩
    · subst z
      exact ⟨o, upd_same⟩
  · rcases z with z | z
    · obtain ⟨b, us, q1, q2, q3, _⟩ := l.list e1 em
      rw [e2] at q1
      cases q1
      exact q3 z
    · subst z
      rw [h] at e3
      cases e3
  · exact upd_ne (ne_of_none (l.pot a e).2 h)
/-- a step of the def's: besides, what is held aside for others is as it was -/
structure Fs (F : Fm) (st : Sx) (σ : L2.St) (st' : Sx) (σ' : L2.St) (H H' : Hp) : Prop where
  fr : Fr (Md F st σ) (Md F st' σ') H H'
  out : ∀ a, F.Mo a → F.pa ≠ some a → H' a = H a
  lnt : ∀ (i : Nat) (xs : List D), st.L[i]? = some (.lent xs) → st'.L[i]? = some (.lent xs) ∧ σ'[i]? = σ[i]?
theorem Fs.refl {F : Fm} {st : Sx} {σ : L2.St} {H : Hp} : Fs F st σ st σ H H := ⟨Fr.refl _ _, fun _ _ _ => rfl, fun _ _ e => ⟨e, rfl⟩⟩
theorem Fs.trans {F : Fm} {st st1 st2 : Sx} {σ σ1 σ2 : L2.St} {H H1 H2 : Hp} (a : Fs F st σ st1 σ1 H H1) (b : Fs F st1 σ1 st2 σ2 H1 H2) : Fs F st σ st2 σ2 H H2 :=
  ⟨a.fr.trans b.fr, fun x m n => (b.out x m n).trans (a.out x m n), fun i xs e => ⟨(b.lnt i xs (a.lnt i xs e).1).1, (b.lnt i xs (a.lnt i xs e).1).2.trans (a.lnt i xs e).2⟩⟩
theorem Fs.of_same (l : Lk K F st σ H) (h : Same H H') : Fs F st σ st σ H H' := ⟨Fr.of_same h, fun a m _ => by
  obtain ⟨o, e⟩ := l.mo a m
  rw [e, h _ _ e], fun _ _ e => ⟨e, rfl⟩⟩
theorem Fs.new (l : Lk K F st σ H) {p : Addr} (h : H p = none) {o : HO} : Fs F st σ st σ H (upd H p o) := Fs.of_same l (same_upd h)
/-- a list that the frame held aside is let go -/
theorem Lk.drop {p : Addr} (l : Lk K (F.add p) st σ H) (hp : F.pa ≠ some p) : Lk K F st σ H := by
  have f : Fr (Md (F.add p) st σ) (Md F st σ) H H := Fr.sub fun a z => Md.add.mpr (.inl z)
  refine ⟨l.len, fun i x e => ?_, l.inj, fun a e => ?_, fun a z => l.mo a (.inl z)⟩
  · have s := l.slot i x e
    cases x with
    | non => trivial
    | dat d => obtain ⟨v, e1, r⟩ := s; exact ⟨v, e1, r.mono f⟩
    | own xs => obtain ⟨a, vs, e1, e2, n, r⟩ := s; exact ⟨a, vs, e1, e2, fun z => n (.inl z), r.mono f⟩
    | lent xs => obtain ⟨a, vs, e1, e2, n, r⟩ := s; exact ⟨a, vs, e1, e2, fun z => n (.inl z), r.mono f⟩
    | pot => exact s
  · obtain ⟨m, e2⟩ := l.pot a e
    refine ⟨?_, e2⟩
    rcases m with m | m
    · exact m
    · subst m
      exact absurd e hp
end
end BD

set_option Elab.async false
set_option linter.all false
set_option maxRecDepth 100000
set_option maxHeartbeats 1000000
namespace BD
open PySem PySem.Spec PyProof.Rows L2

/-! ### outcomes over the abstract heap -/
def Post {α β : Type} (X : Cx) (W : WX) (F : Fm) (R : Sx → Hp → α → β → Prop) (st : Sx) (σ : L2.St) (H : Hp) (r : Rz α) (Q : β → Hp → Prop) : Prop := match r with
  | .ok a st' => ∀ b H', Lk X.K F st' σ H' → R st' H' a b → Fs F st σ st' σ H H' → Q b H'
  | .err c d st' => ∀ C dx v H', X.mg c = some (.ref C) → Lk X.K F st' σ H' → H' dx = some (.xd [(Str.ofString "value", v)]) → Rep X.K (Md F st' σ) H' d v → Fs F st σ st' σ H H' → W (.ref C) (some dx) σ H'
  | .stuck => False
section
variable {X : Cx} {W : WX} {F : Fm} {st : Sx} {σ : L2.St} {H : Hp}
theorem Post.bind {α β γ δ : Type} {R : Sx → Hp → α → β → Prop} {R' : Sx → Hp → γ → δ → Prop} {r : Rz α} {g : α → Sx → Rz γ} {Q' : δ → Hp → Prop} {Q : β → Hp → Prop} (h : Post X W F R' st σ H (r.bind g) Q')
    (k : ∀ a st1 b H1, Lk X.K F st1 σ H1 → R st1 H1 a b → Fs F st σ st1 σ H H1 → Post X W F R' st1 σ H1 (g a st1) Q' → Q b H1) : Post X W F R st σ H r Q := by
  cases r with
  | ok a st1 =>
    intro b H1 l r f
    refine k a st1 b H1 l r f ?_
    have h : Post X W F R' st σ H (g a st1) Q' := h
    revert h
    cases g a st1 with
    | ok c st2 => exact fun h d H2 l2 r2 f2 => h d H2 l2 r2 (f.trans f2)
    | err c d st2 => exact fun h C dx v H2 e l2 x r2 f2 => h C dx v H2 e l2 x r2 (f.trans f2)
    | stuck => exact fun h => h
  | err c d st1 => exact h
  | stuck => exact h
theorem Post.of {β γ : Type} {R' : Sx → Hp → γ → β → Prop} {o : Option γ} {Q' : β → Hp → Prop} (h : Post X W F R' st σ H (Rz.of o st) Q') : ∃ c, o = some c ∧ ∀ b H', Lk X.K F st σ H' → R' st H' c b → Fs F st σ st σ H H' → Q' b H' := by
  cases o with
  | none => exact h.elim
  | some c => exact ⟨c, rfl, h⟩
end
/-- data; data that are looked at -/
abbrev RE (X : Cx) (F : Fm) (σ : L2.St) : Sx → Hp → D → V → Prop := fun st H d v => Rep X.K (Md F st σ) H d v
abbrev RA (X : Cx) (F : Fm) (σ : L2.St) : Sx → Hp → List D → List V → Prop := fun st H d v => Reps X.K (Md F st σ) H d v
def RK1 (X : Cx) (F : Fm) (σ : L2.St) : Sx → Hp → PV → V → Prop := fun st H p v => match p with
  | .d d => Rep X.K (Md F st σ) H d v
  | .o i => σ[i]? = some (some v)
abbrev RB : Sx → Hp → Bool → Bool → Prop := fun _ _ a b => a = b
def rdE (X : Cx) (W : WX) (f : ES) : TE := fun σ H Q => ∃ F st, Lk X.K F st σ H ∧ Post X W F (RE X F σ) st σ H (f st) Q
def rdK (X : Cx) (W : WX) (f : KS) : TE := fun σ H Q => ∃ F st, Lk X.K F st σ H ∧ Post X W F (RK1 X F σ) st σ H (f st) Q
def rdA (X : Cx) (W : WX) (f : AS) : TA := fun σ H Q => ∃ F st, Lk X.K F st σ H ∧ Post X W F (RA X F σ) st σ H (f st) Q
def RKs (X : Cx) (F : Fm) (σ : L2.St) : Sx → Hp → List PV → List V → Prop := fun st H ps vs => Paired (RK1 X F σ st H) ps vs
def rdP (X : Cx) (W : WX) (f : PS') : TA := fun σ H Q => ∃ F st, Lk X.K F st σ H ∧ Post X W F (RKs X F σ) st σ H (f st) Q
def rdB (X : Cx) (W : WX) (f : BS) : TT := fun σ H Q => ∃ F st, Lk X.K F st σ H ∧ Post X W F RB st σ H (f st) Q
def rdV (X : Cx) (W : WX) (f : BS) : TE := fun σ H Q => ∃ F st, Lk X.K F st σ H ∧ Post X W F (fun _ _ (a : Bool) (v : V) => v = .bl a) st σ H (f st) Q
def DE (X : Cx) (W : WX) (e : Expr) (f : ES) : Prop := PE X e (rdE X W f)
def DK (X : Cx) (W : WX) (e : Expr) (f : KS) : Prop := PE X e (rdK X W f)
def DA (X : Cx) (W : WX) (e : List Expr) (f : AS) : Prop := PA X e (rdA X W f)
def DP (X : Cx) (W : WX) (e : List Expr) (f : PS') : Prop := PA X e (rdP X W f)
def DB (X : Cx) (W : WX) (e : Expr) (f : BS) : Prop := PT X e (rdB X W f)
def DW (X : Cx) (W : WX) (e : Expr) (f : BS) : Prop := PW X e (rdB X W f)
def DV (X : Cx) (W : WX) (e : Expr) (f : BS) : Prop := PE X e (rdV X W f)
theorem PE.weak {X : Cx} {e : Expr} {t t' : TE} (h : PE X e t) (i : ∀ σ H Q, t' σ H Q → t σ H Q) : PE X e t' := ⟨fun pins s σ H Q I w => h.run pins s σ H Q I (i σ H Q w)⟩
theorem PA.weak {X : Cx} {e : List Expr} {t t' : TA} (h : PA X e t) (i : ∀ σ H Q, t' σ H Q → t σ H Q) : PA X e t' := ⟨fun pos pins s σ H Q I w => h.run pos pins s σ H Q I (i σ H Q w)⟩
theorem PT.weak {X : Cx} {e : Expr} {t t' : TT} (h : PT X e t) (i : ∀ σ H Q, t' σ H Q → t σ H Q) : PT X e t' := ⟨fun pins s σ H Q I w => h.run pins s σ H Q I (i σ H Q w)⟩
theorem PW.weak {X : Cx} {e : Expr} {t t' : TT} (h : PW X e t) (i : ∀ σ H Q, t' σ H Q → t σ H Q) : PW X e t' := ⟨fun wh pins s σ H Q I w => h.run wh pins s σ H Q I (i σ H Q w)⟩

/-! ### data that are looked at, when they are used -/
/-- what stands at a value: data, or a list of the def's own with its items -/
inductive WRep (K : PySem.W.Frag) (M : MS) (H : Hp) : D → V → Prop
  | rep {d : D} {v : V} : Rep K M H d v → WRep K M H d v
  | own {a : Addr} {vs : List V} {xs : List D} : H a = some (.lst vs) → Reps K M H xs vs → WRep K M H (.list xs) (.ref a)
section
variable {X : Cx} {W : WX} {F : Fm} {st st1 : Sx} {σ : L2.St} {H H1 : Hp} {K : PySem.W.Frag} {M : MS}
theorem RK1.mono {p : PV} {v : V} (r : RK1 X F σ st H p v) (f : Fr (Md F st σ) (Md F st1 σ) H H1) : RK1 X F σ st1 H1 p v := by
  cases p with
  | d d => exact Rep.mono f r
  | o i => exact r
theorem RKs.mono {p : List PV} {v : List V} (r : RKs X F σ st H p v) (f : Fr (Md F st σ) (Md F st1 σ) H H1) : RKs X F σ st1 H1 p v := Paired.mapP r fun _ _ z => RK1.mono z f
theorem res_ok {p : PV} {v : V} {d : D} (l : Lk X.K F st σ H) (r : RK1 X F σ st H p v) (e : res st p = some d) : WRep X.K (Md F st σ) H d v := by
  cases p with
  | d d' => cases e; exact .rep r
  | o i =>
    dsimp only [res] at e
    cases q : st.L[i]? with
    | none => rw [q] at e; cases e
    | some x =>
      rw [q] at e
      have s := l.slot i x q
      cases x with
      | non => cases e
      | pot => cases e
      | dat d' =>
        cases e
        obtain ⟨u, e1, e2⟩ := s
        have r : σ[i]? = some (some v) := r
        rw [r] at e1
        cases e1
        exact .rep e2
      | own xs =>
        cases e
        obtain ⟨a, vs, e1, e2, _, e3⟩ := s
        have r : σ[i]? = some (some v) := r
        rw [r] at e1
        cases e1
        exact .own e2 e3
      | lent xs =>
        cases e
        obtain ⟨a, vs, e1, e2, _, e3⟩ := s
        have r : σ[i]? = some (some v) := r
        rw [r] at e1
        cases e1
        exact .own e2 e3
theorem res_all {ps : List PV} {vs : List V} {ds : List D} (l : Lk X.K F st σ H) (r : RKs X F σ st H ps vs) (e : resAll st ps = some ds) : Paired (WRep X.K (Md F st σ) H) ds vs := by
  induction r generalizing ds with
  | nil => cases e; exact .nil
  | cons h t ih =>
    rename_i p v ps vs
    unfold resAll at e
    cases q : res st p with
    | none => rw [q] at e; cases e
    | some d =>
      rw [q] at e
      cases q2 : resAll st ps with
      | none => rw [q2] at e; cases e
      | some ds' =>
        rw [q2] at e
        cases e
        exact .cons (res_ok l h q) (ih q2)
theorem WRep.lst {xs : List D} {v : V} (h : WRep K M H (.list xs) v) : ∃ a vs, v = .ref a ∧ H a = some (.lst vs) ∧ Reps K M H xs vs := by
  cases h with
  | rep h => cases h with
    | lst _ h r => exact ⟨_, _, rfl, h, r⟩
  | own h r => exact ⟨_, _, rfl, h, r⟩
theorem WRep.tup {xs : List D} {v : V} (h : WRep K M H (.tuple xs) v) : ∃ a vs, v = .ref a ∧ SqT K H a vs ∧ Reps K M H xs vs := by
  cases h with
  | rep h => cases h with
    | tup h r => exact ⟨_, _, rfl, h, r⟩
theorem WRep.int {i : Int} {v : V} (h : WRep K M H (.int i) v) : v = .int i := by
  cases h with
  | rep h => cases h; rfl
theorem WRep.str {i : Str} {v : V} (h : WRep K M H (.str i) v) : v = .str i := by
  cases h with
  | rep h => cases h; rfl
theorem WRep.bl {i : Bool} {v : V} (h : WRep K M H (.bool i) v) : v = .bl i := by
  cases h with
  | rep h => cases h; rfl
theorem WRep.non {v : V} (h : WRep K M H .none v) : v = .non := by
  cases h with
  | rep h => cases h; rfl
theorem RepKs.key : ∀ {ds : List (D × D)} {kvs : List (Key × V)}, RepKs K M H ds kvs → ∀ p ∈ ds, ∃ k, p.1 = keyD k
  | _, _, .nil, _, h => by cases h
  | _, _, .cons (k := k) _ r, p, h => by
    rcases List.mem_cons.mp h with e | h
    · exact ⟨k, by rw [e]⟩
    · exact RepKs.key r p h
theorem Rep.dict_inv {z : D} {v : V} (h : Rep K M H z v) : ∀ ds, z = .dict ds → (∃ a kvs, v = .ref a ∧ ¬ M a ∧ H a = some (.dK kvs) ∧ RepKs K M H ds kvs) ∨
    ∃ a vs xs, ds = [(.none, .tuple xs)] ∧ v = .ref a ∧ SqF K H a vs ∧ Reps K M H xs vs := by
  cases h with
  | dic hm h r => intro ds e; cases e; exact .inl ⟨_, _, rfl, hm, h, r⟩
  | frz h r => intro ds e; cases e; exact .inr ⟨_, _, _, rfl, rfl, h, r⟩
  | _ => intro ds e; cases e
theorem WRep.frz {xs : List D} {v : V} (h : WRep K M H (.dict [(.none, .tuple xs)]) v) : ∃ a vs, v = .ref a ∧ SqF K H a vs ∧ Reps K M H xs vs := by
  generalize hz : PyData.dict [(.none, .tuple xs)] = z at h
  cases h with
  | rep h =>
    rcases h.dict_inv _ hz.symm with ⟨a, kvs, _, _, _, r⟩ | ⟨a, vs, ys, e, e2, e3, r⟩
    · obtain ⟨k, e⟩ := RepKs.key r _ (List.mem_cons_self ..)
      cases k <;> cases e
    · cases e
      exact ⟨a, vs, e2, e3, r⟩
  | own => cases hz
end
/-! a new object is laid -/
section
variable {K : PySem.W.Frag} {F : Fm} {st : Sx} {σ : L2.St} {H : Hp} {p : Addr}
theorem Lk.new (l : Lk K F st σ H) (h : H p = none) (o : HO) : Lk K F st σ (upd H p o) := l.same (same_upd h)
theorem fr_new {M : MS} (h : H p = none) (o : HO) : Fr M M H (upd H p o) := Fr.of_same (same_upd h)
theorem rep_newL {ds : List D} {vs : List V} (l : Lk K F st σ H) (h : H p = none) (r : Reps K (Md F st σ) H ds vs) : Rep K (Md F st σ) (upd H p (.lst vs)) (.list ds) (.ref p) :=
  .lst (l.fresh h) upd_same (r.mono (fr_new h _))
theorem rep_newT {ds : List D} {vs : List V} (h : H p = none) (r : Reps K (Md F st σ) H ds vs) : Rep K (Md F st σ) (upd H p (.tup vs)) (.tuple ds) (.ref p) :=
  .tup (.inl (.inl upd_same)) (r.mono (fr_new h _))
theorem szl_ok {n : Nat} (h : n ≤ szl) : n ≤ sizeLine := Nat.le_trans h (by decide)
theorem szl_lt {n : Nat} (h : n < szl) : n < sizeLine := Nat.lt_of_lt_of_le h (by decide)
end

/-! ### rules: names, constants -/
section
variable {X : Cx} {W : WX}
theorem de_v (i : Nat) {x : Str} {pos : Pos} (hN : X.N[i]? = some x := by rfl) (hv : Vis X.env.scope x := by first | exact Or.inl rfl | exact Or.inr (Or.inl rfl) | exact Or.inr (Or.inr rfl)) (hd : (x == ("__debug__" : Str)) = false := by decide)
    (hcd : (x == ("__classdict__" : Str)) = false := by decide) : DE X W (.Name x pos) (eV i) := by
  refine PE.weak (pe_var hN hv hd hcd) fun σ H Q ⟨F, st, l, h⟩ => ?_
  unfold eV at h
  cases q : st.L[i]? with
  | none => rw [q] at h; exact h.elim
  | some z =>
    rw [q] at h
    have s := l.slot i z q
    cases z with
    | non => exact h.elim
    | pot => exact h.elim
    | lent _ => exact h.elim
    | dat d =>
      obtain ⟨v, e, r⟩ := s
      exact ⟨v, e, h v H l r Fs.refl⟩
    | own xs =>
      obtain ⟨a, vs, e, e2, nm, r⟩ := s
      refine ⟨.ref a, e, ?_⟩
      -- the list is not the def's own any more
      have hil : i < st.L.length := (List.getElem?_eq_some_iff.mp q).1
      have getS : ∀ j (z : Loc), (st.L.set i (.dat (.list xs)))[j]? = some z → (j = i ∧ z = .dat (.list xs)) ∨ (j ≠ i ∧ st.L[j]? = some z) := fun j z hz => by
        by_cases hj : j = i
        · subst hj
          rw [List.getElem?_set_self hil] at hz
          cases hz
          exact .inl ⟨rfl, rfl⟩
        · rw [List.getElem?_set_ne (Ne.symm hj)] at hz
          exact .inr ⟨hj, hz⟩
      have sub : ∀ b, Md F { st with L := st.L.set i (.dat (.list xs)) } σ b → Md F st σ b := fun b hb => by
        rcases hb with hb | ⟨j, m, ys, h1, hm, h2⟩
        · exact .inl hb
        · rcases getS j _ h1 with ⟨_, z⟩ | ⟨_, z⟩
          · subst z; cases hm
          · exact .inr ⟨j, m, ys, z, hm, h2⟩
      have fs : Fr (Md F st σ) (Md F { st with L := st.L.set i (.dat (.list xs)) } σ) H H := Fr.sub sub
      have na : ¬ Md F { st with L := st.L.set i (.dat (.list xs)) } σ a := fun hb => by
        rcases hb with hb | ⟨j, m, ys, h1, hm, h2⟩
        · exact nm hb
        · rcases getS j _ h1 with ⟨_, z⟩ | ⟨hj, z⟩
          · subst z; cases hm
          · exact hj (l.inj j i _ _ ys xs a z hm q rfl h2 e)
      have ra : Rep X.K (Md F { st with L := st.L.set i (.dat (.list xs)) } σ) H (.list xs) (.ref a) := .lst na e2 (r.mono fs)
      refine h _ H ⟨by rw [l.len]; simp, fun j z hz => ?_, fun j k m1 m2 ys zs b h1 hm1 h2 hm2 h3 h4 => ?_, fun b hb => ?_, l.mo⟩ ra ⟨fs, fun _ _ _ => rfl, fun j ys ej => ⟨?_, rfl⟩⟩
      · rcases getS j z hz with ⟨rfl, rfl⟩ | ⟨hj, hz⟩
        · exact ⟨_, e, ra⟩
        · have s := l.slot j z hz
          cases z with
          | non => trivial
          | dat d => obtain ⟨v, e, r⟩ := s; exact ⟨v, e, r.mono fs⟩
          | own ys => obtain ⟨a, vs, e, e2, n, r⟩ := s; exact ⟨a, vs, e, e2, n, r.mono fs⟩
          | lent ys => obtain ⟨a, vs, e, e2, n, r⟩ := s; exact ⟨a, vs, e, e2, n, r.mono fs⟩
          | pot => exact s
      · rcases getS j _ h1 with ⟨_, z⟩ | ⟨_, z1⟩
        · subst z; cases hm1
        · rcases getS k _ h2 with ⟨_, z⟩ | ⟨_, z2⟩
          · subst z; cases hm2
          · exact l.inj j k _ _ ys zs b z1 hm1 z2 hm2 h3 h4
      · exact l.pot b hb
      · rw [List.getElem?_set_ne (fun z => by subst z; rw [q] at ej; cases ej)]
        exact ej
theorem dk_v (i : Nat) {x : Str} {pos : Pos} (hN : X.N[i]? = some x := by rfl) (hv : Vis X.env.scope x := by first | exact Or.inl rfl | exact Or.inr (Or.inl rfl) | exact Or.inr (Or.inr rfl)) (hd : (x == ("__debug__" : Str)) = false := by decide)
    (hcd : (x == ("__classdict__" : Str)) = false := by decide) : DK X W (.Name x pos) (kV i) := by
  refine PE.weak (pe_var hN hv hd hcd) fun σ H Q ⟨F, st, l, h⟩ => ?_
  unfold kV at h
  cases q : st.L[i]? with
  | none => rw [q] at h; exact h.elim
  | some z =>
    rw [q] at h
    have s := l.slot i z q
    cases z with
    | non => exact h.elim
    | pot => exact h.elim
    | dat d =>
      obtain ⟨v, e, r⟩ := s
      exact ⟨v, e, h v H l r Fs.refl⟩
    | own xs =>
      obtain ⟨a, vs, e, _⟩ := s
      exact ⟨_, e, h _ H l e Fs.refl⟩
    | lent xs =>
      obtain ⟨a, vs, e, _⟩ := s
      exact ⟨_, e, h _ H l e Fs.refl⟩
theorem dk_e {e : Expr} {f : ES} (h : DE X W e f) : DK X W e (kE f) := by
  refine PE.weak h fun σ H Q ⟨F, st, l, w⟩ => ⟨F, st, l, ?_⟩
  exact Post.bind w fun d st1 v H1 l1 r1 f1 w1 => w1 v H1 l1 r1 Fs.refl
theorem de_const {e : Expr} {v : V} {d : D} (h : PE X e (tC v)) (r : ∀ F st σ H, Lk X.K F st σ H → Rep X.K (Md F st σ) H d v) : DE X W e (eC d) := by
  refine PE.weak h fun σ H Q ⟨F, st, l, w⟩ => ?_
  exact w v H l (r F st σ H l) Fs.refl
theorem de_int {i : Int} {j : Nat} {pos : Pos} : DE X W (.Constant (.int i) j pos) (eC (.int i)) := de_const pe_int fun _ _ _ _ _ => .int i
theorem de_bl {i : Bool} {j : Nat} {pos : Pos} : DE X W (.Constant (.bool i) j pos) (eC (.bool i)) := de_const pe_bl fun _ _ _ _ _ => .bl i
theorem de_non {j : Nat} {pos : Pos} : DE X W (.Constant .none j pos) (eC .none) := de_const pe_non fun _ _ _ _ _ => .non
theorem de_str {i : Str} {j : Nat} {pos : Pos} : DE X W (.Constant (.str i) j pos) (eC (.str i)) := de_const pe_str fun _ _ _ _ _ => .str i
/-- a constant of the module: data of the written part -/
inductive KRep (K : PySem.W.Frag) : D → V → Prop
  | int (i : Int) : KRep K (.int i) (.int i)
  | str (x : Str) : KRep K (.str x) (.str x)
theorem KRep.rep {K : PySem.W.Frag} {M : MS} {H : Hp} {d : D} {v : V} (h : KRep K d v) : Rep K M H d v := by
  cases h with
  | int i => exact .int i
  | str i => exact .str i
theorem de_g {x : Str} {v : V} {u : Value} {d : D} {pos : Pos} (hg : Gl X x) (hm : X.mg x = some u) (r : RelV v u) (k : ∀ M H, Rep X.K M H d v) (hd : (x == ("__debug__" : Str)) = false := by decide) : DE X W (.Name x pos) (eC d) :=
  de_const (pe_glob hg hm r hd) fun _ _ _ _ _ => k _ _
theorem de_gi {x : Str} {i : Int} {t : Tok} {pos : Pos} (hm : X.mg x = some (.int i t)) (hg : Gl X x) (hd : (x == ("__debug__" : Str)) = false := by decide) : DE X W (.Name x pos) (eC (.int i)) := de_g (v := V.int i) hg hm ⟨t, rfl⟩ (fun _ _ => .int i) hd
theorem de_gs {x : Str} {i : Str} {t : Tok} {pos : Pos} (hm : X.mg x = some (.str i t)) (hg : Gl X x) (hd : (x == ("__debug__" : Str)) = false := by decide) : DE X W (.Name x pos) (eC (.str i)) := de_g (v := V.str i) hg hm ⟨t, rfl⟩ (fun _ _ => .str i) hd
end
end BD

set_option Elab.async false
set_option linter.all false
set_option maxRecDepth 100000
set_option maxHeartbeats 1000000
namespace BD
open PySem PySem.Spec PyProof.Rows L2

/-! ### data of the layer as the library's -/
mutual
theorem Rep.dp {K : PySem.W.Frag} {M : MS} {H : Hp} : ∀ {d : D} {v : V}, Rep K M H d v → d.canLay0 = true → Dp K H v d
  | _, _, .non, _ => .non
  | _, _, .bl b, _ => .bl b
  | _, _, .int i, _ => .int i
  | _, _, .str x, _ => .str x
  | _, _, .lst _ h r, c => .lst (.inl (.inl h)) (Reps.dp r (by simpa only [PyData.canLay0] using c))
  | _, _, .tup h r, c => .tup h (Reps.dp r (by simpa only [PyData.canLay0] using c))
  | _, _, .dic _ _ _, c => by simp [PyData.canLay0] at c
  | _, _, .frz _ _, c => by simp [PyData.canLay0] at c
theorem Reps.dp {K : PySem.W.Frag} {M : MS} {H : Hp} : ∀ {d : List D} {v : List V}, Reps K M H d v → PyData.canLayAll0 d = true → DpAll K H v d
  | _, _, .nil, _ => .nil
  | _, _, .cons h r, c => by
    rw [PyData.canLayAll0, Bool.and_eq_true] at c
    exact .cons (Rep.dp h c.1) (Reps.dp r c.2)
end
theorem WRep.dp {K : PySem.W.Frag} {M : MS} {H : Hp} {d : D} {v : V} (h : WRep K M H d v) (c : SeqAt.shaped d = true) : Dp K H v d := by
  have c' := SeqAt.canLay_of_shaped c
  cases h with
  | rep h => exact h.dp c'
  | own h r => exact .lst (.inl (.inl h)) (r.dp (by simpa only [PyData.canLay0] using c'))

/-! ### operators by data -/
def OpD (X : Cx) (op : Operator) (f : Op2) : Prop := OpR X (binaryOp op) fun x y H Q => ∃ F st σ d e z, Lk X.K F st σ H ∧ WRep X.K (Md F st σ) H d x ∧ WRep X.K (Md F st σ) H e y ∧ f d e = some z ∧
  ∀ w H', Rep X.K (Md F st σ) H' z w → Same H H' → Q w H'
def CmD (X : Cx) (op : CmpOp) (f : Cm2) : Prop := OpR X (compareOp op) fun x y H Q => ∃ F st σ d e z, Lk X.K F st σ H ∧ WRep X.K (Md F st σ) H d x ∧ WRep X.K (Md F st σ) H e y ∧ f d e = some z ∧ Q (.bl z) H
section
variable {X : Cx} {W : WX}
theorem de_op {op : Operator} {f : Op2} {a b : Expr} {fa fb : KS} {pos : Pos} (ho : OpD X op f) (ha : DK X W a fa) (hb : DK X W b fb) : DE X W (.BinOp a op b pos) (eOp f fa fb) := by
  refine PE.weak (pe_op ho ha hb) fun σ H Q ⟨F, st, l, h⟩ => ⟨F, st, l, Post.bind h fun p st1 x H1 l1 r1 f1 h1 => ⟨F, st1, l1, Post.bind h1 fun q st2 y H2 l2 r2 f2 h2 => ?_⟩⟩
  obtain ⟨z, ez, hz⟩ := Post.of h2
  cases e1 : res st2 p with
  | none => rw [e1] at ez; cases ez
  | some d =>
    rw [e1] at ez
    cases e2 : res st2 q with
    | none => rw [e2] at ez; cases ez
    | some e =>
      rw [e2] at ez
      exact ⟨F, st2, σ, d, e, z, l2, res_ok l2 (r1.mono f2.fr) e1, res_ok l2 r2 e2, ez, fun w H' r s => hz w H' (l2.same s) r (Fs.of_same l2 s)⟩
theorem cm_core {f : Cm2} {p q : PV} {x y : V} {F : Fm} {st : Sx} {σ : L2.St} {H : Hp} {α β : Type} {R' : Sx → Hp → α → β → Prop} {g : Bool → Sx → Rz α} {Q' : β → Hp → Prop} (l2 : Lk X.K F st σ H) (r1 : RK1 X F σ st H p x) (r2 : RK1 X F σ st H q y)
    (h : Post X W F R' st σ H ((Rz.of ((res st p).bind fun u => (res st q).bind fun v => f u v) st).bind g) Q') : ∃ d e z, WRep X.K (Md F st σ) H d x ∧ WRep X.K (Md F st σ) H e y ∧ f d e = some z ∧ Post X W F R' st σ H (g z st) Q' := by
  cases e1 : res st p with
  | none => rw [e1] at h; exact h.elim
  | some d =>
    cases e2 : res st q with
    | none => rw [e1, e2] at h; exact h.elim
    | some e =>
      rw [e1, e2] at h
      cases e3 : f d e with
      | none =>
        have h : Post X W F R' st σ H ((Rz.of (f d e) st).bind g) Q' := h
        rw [e3] at h; exact h.elim
      | some z =>
        have h : Post X W F R' st σ H ((Rz.of (f d e) st).bind g) Q' := h
        rw [e3] at h
        exact ⟨d, e, z, res_ok l2 r1 e1, res_ok l2 r2 e2, e3, h⟩
theorem cm_core0 {f : Cm2} {p q : PV} {x y : V} {F : Fm} {st : Sx} {σ : L2.St} {H : Hp} {β : Type} {R' : Sx → Hp → Bool → β → Prop} {Q' : β → Hp → Prop} (l2 : Lk X.K F st σ H) (r1 : RK1 X F σ st H p x) (r2 : RK1 X F σ st H q y)
    (h : Post X W F R' st σ H (Rz.of ((res st p).bind fun u => (res st q).bind fun v => f u v) st) Q') : ∃ d e z, WRep X.K (Md F st σ) H d x ∧ WRep X.K (Md F st σ) H e y ∧ f d e = some z ∧ Post X W F R' st σ H (.ok z st) Q' := by
  obtain ⟨z, ez, hz⟩ := Post.of h
  cases e1 : res st p with
  | none => rw [e1] at ez; cases ez
  | some d =>
    cases e2 : res st q with
    | none => rw [e1, e2] at ez; cases ez
    | some e =>
      rw [e1, e2] at ez
      exact ⟨d, e, z, res_ok l2 r1 e1, res_ok l2 r2 e2, ez, hz⟩
theorem db_cm {op : CmpOp} {f : Cm2} {a b : Expr} {fa fb : KS} {pos : Pos} (ho : CmD X op f) (ha : DK X W a fa) (hb : DK X W b fb) (hm : behindInMarks op b = false := by first | exact nomark _ | rfl) : DB X W (.Compare a [op] [b] pos) (bCm f fa fb) := by
  refine PT.weak (pt_cmpR ho ha hb hm) fun σ H Q ⟨F, st, l, h⟩ => ⟨F, st, l, Post.bind h fun p st1 x H1 l1 r1 f1 h1 => ⟨F, st1, l1, Post.bind h1 fun q st2 y H2 l2 r2 f2 h2 => ?_⟩⟩
  obtain ⟨d, e, z, w1, w2, ez, hz⟩ := cm_core0 l2 (r1.mono f2.fr) r2 h2
  exact ⟨F, st2, σ, d, e, z, l2, w1, w2, ez, z, rfl, hz z H2 l2 rfl Fs.refl⟩
theorem dv_cm {op : CmpOp} {f : Cm2} {a b : Expr} {fa fb : KS} {pos : Pos} (ho : CmD X op f) (ha : DK X W a fa) (hb : DK X W b fb) (hm : behindInMarks op b = false := by first | exact nomark _ | rfl) : DV X W (.Compare a [op] [b] pos) (bCm f fa fb) := by
  refine PE.weak (pe_cmpR ho ha hb hm) fun σ H Q ⟨F, st, l, h⟩ => ⟨F, st, l, Post.bind h fun p st1 x H1 l1 r1 f1 h1 => ⟨F, st1, l1, Post.bind h1 fun q st2 y H2 l2 r2 f2 h2 => ?_⟩⟩
  obtain ⟨d, e, z, w1, w2, ez, hz⟩ := cm_core0 l2 (r1.mono f2.fr) r2 h2
  exact ⟨F, st2, σ, d, e, z, l2, w1, w2, ez, hz (.bl z) H2 l2 rfl Fs.refl⟩
theorem db_ch {op op' : CmpOp} {f g : Cm2} {a b c : Expr} {fa fb fc : KS} {pos : Pos} (ho : CmD X op f) (ho' : CmD X op' g) (ha : DK X W a fa) (hb : DK X W b fb) (hc : DK X W c fc) (hm : lastMarks [op, op'] [b, c] = false := by with_unfolding_all rfl) :
    DB X W (.Compare a [op, op'] [b, c] pos) (bCh f g fa fb fc) := by
  refine PT.weak (pt_chain ho ho' ha hb hc hm) fun σ H Q ⟨F, st, l, h⟩ => ⟨F, st, l, Post.bind h fun p st1 x H1 l1 r1 f1 h1 => ⟨F, st1, l1, Post.bind h1 fun q st2 y H2 l2 r2 f2 h2 => ?_⟩⟩
  obtain ⟨d, e, z, w1, w2, ez, hz⟩ := cm_core l2 (r1.mono f2.fr) r2 h2
  refine ⟨F, st2, σ, d, e, z, l2, w1, w2, ez, z, rfl, ?_⟩
  cases z with
  | false => exact ⟨_, rfl, hz false H2 l2 rfl Fs.refl⟩
  | true =>
    refine ⟨F, st2, l2, Post.bind hz fun q3 st3 y3 H3 l3 r3 f3 h3 => ?_⟩
    obtain ⟨d', e', z', w1', w2', ez', hz'⟩ := cm_core0 l3 (r2.mono f3.fr) r3 h3
    exact ⟨F, st3, σ, d', e', z', l3, w1', w2', ez', z', rfl, hz' z' H3 l3 rfl Fs.refl⟩
theorem dv_ch {op op' : CmpOp} {f g : Cm2} {a b c : Expr} {fa fb fc : KS} {pos : Pos} (ho : CmD X op f) (ho' : CmD X op' g) (ha : DK X W a fa) (hb : DK X W b fb) (hc : DK X W c fc) (hm : lastMarks [op, op'] [b, c] = false := by with_unfolding_all rfl) :
    DV X W (.Compare a [op, op'] [b, c] pos) (bCh f g fa fb fc) := by
  refine PE.weak (pe_chain ho ho' ha hb hc hm) fun σ H Q ⟨F, st, l, h⟩ => ⟨F, st, l, Post.bind h fun p st1 x H1 l1 r1 f1 h1 => ⟨F, st1, l1, Post.bind h1 fun q st2 y H2 l2 r2 f2 h2 => ?_⟩⟩
  obtain ⟨d, e, z, w1, w2, ez, hz⟩ := cm_core l2 (r1.mono f2.fr) r2 h2
  refine ⟨F, st2, σ, d, e, z, l2, w1, w2, ez, z, rfl, ?_⟩
  cases z with
  | false => exact hz (.bl false) H2 l2 rfl Fs.refl
  | true =>
    refine ⟨F, st2, l2, Post.bind hz fun q3 st3 y3 H3 l3 r3 f3 h3 => ?_⟩
    obtain ⟨d', e', z', w1', w2', ez', hz'⟩ := cm_core0 l3 (r2.mono f3.fr) r3 h3
    exact ⟨F, st3, σ, d', e', z', l3, w1', w2', ez', hz' (.bl z') H3 l3 rfl Fs.refl⟩
end
end BD

set_option Elab.async false
set_option linter.all false
set_option maxRecDepth 100000
set_option maxHeartbeats 1000000
namespace BD
open PySem PySem.Spec PyProof.Rows L2

section
variable {X : Cx} {k : Nat}
theorem lg_bits (x : Int) : Builtin.Int.intBits x ≤ lg x + 1 := by
  unfold Builtin.Int.intBits lg
  split <;> omega
theorem mulOk.ok {i j : Int} (h : mulOk i j) : IntMulOk i j := CMulW.ok (show i.natAbs.log2 + j.natAbs.log2 < 1000000 from h)
theorem Reps.rep {K : PySem.W.Frag} {M : MS} {H : Hp} {ds : List D} {vs : List V} (h : Reps K M H ds vs) : ∀ n : Nat, Reps K M H (List.replicate n ds).flatten (List.replicate n vs).flatten
  | 0 => .nil
  | n + 1 => by rw [List.replicate_succ, List.replicate_succ, List.flatten_cons, List.flatten_cons]; exact h.append (Reps.rep h n)
theorem od_add : OpD X .Add addD := by
  intro pins s σ H x y v u Q I rx ry ⟨F, st, σ', d, e, z, l, w1, w2, ez, hz⟩
  unfold addD at ez
  split at ez
  · cases ez
    cases w1.int; cases w2.int
    exact op_add pins s σ H _ _ v u Q I rx ry ⟨_, _, rfl, rfl, hz _ H (.int _) (Same.refl H)⟩
  · rename_i a b
    split at ez
    · cases ez
      cases w1.str; cases w2.str
      exact op_add_str pins s σ H _ _ v u Q I rx ry ⟨_, _, rfl, rfl, szl_ok (by assumption), hz _ H (.str _) (Same.refl H)⟩
    · cases ez
  · rename_i xs ys
    split at ez
    · rename_i hs
      cases ez
      obtain ⟨a, vs, rfl, h1, r1⟩ := w1.tup
      obtain ⟨b, us, rfl, h2, r2⟩ := w2.tup
      rw [r1.length, r2.length] at hs
      refine op_catA pins s σ H _ _ v u Q I rx ry ⟨a, b, vs, us, rfl, rfl, h1, h2, szl_ok hs, fun e => ?_, fun _ e => ?_, fun _ _ p hp => ?_⟩
      · subst e
        cases r1
        exact hz _ H (.tup h2 r2) (Same.refl H)
      · subst e
        cases r2
        rw [List.append_nil] at hz
        exact hz _ H (.tup h1 r1) (Same.refl H)
      · exact hz _ _ (rep_newT hp (r1.append r2)) (same_upd hp)
    · cases ez
  · rename_i xs ys
    split at ez
    · rename_i hs
      cases ez
      obtain ⟨a, vs, rfl, h1, r1⟩ := w1.lst
      obtain ⟨b, us, rfl, h2, r2⟩ := w2.lst
      rw [r1.length, r2.length] at hs
      exact op_cat pins s σ H _ _ v u Q I rx ry ⟨a, b, vs, us, rfl, rfl, h1, h2, szl_ok hs, fun p hp => hz _ _ (rep_newL l hp (r1.append r2)) (same_upd hp)⟩
    · cases ez
  · cases ez
theorem od_sub : OpD X .Sub subD := by
  intro pins s σ H x y v u Q I rx ry ⟨F, st, σ', d, e, z, l, w1, w2, ez, hz⟩
  unfold subD at ez
  split at ez
  · cases ez
    cases w1.int; cases w2.int
    exact op_sub pins s σ H _ _ v u Q I rx ry ⟨_, _, rfl, rfl, hz _ H (.int _) (Same.refl H)⟩
  · cases ez
theorem od_mul : OpD X .Mult mulD := by
  intro pins s σ H x y v u Q I rx ry ⟨F, st, σ', d, e, z, l, w1, w2, ez, hz⟩
  unfold mulD at ez
  split at ez
  · split at ez
    · rename_i hm
      cases ez
      cases w1.int; cases w2.int
      exact op_mulW pins s σ H _ _ v u Q I rx ry ⟨_, _, rfl, rfl, hm, hz _ H (.int _) (Same.refl H)⟩
    · cases ez
  · rename_i xs k
    split at ez
    · rename_i hs
      cases ez
      obtain ⟨a, vs, rfl, h1, r1⟩ := w1.lst
      cases w2.int
      obtain ⟨q1, q2, q3⟩ := hs
      rw [r1.length] at q3
      refine op_rep pins s σ H _ _ v u Q I rx ry ⟨a, k, vs, rfl, rfl, h1, by omega, by omega, ?_, fun p hp => hz _ _ (rep_newL l hp (Reps.rep r1 _)) (same_upd hp)⟩
      have e1 : vs.length * k.toNat ≤ 1000 * 1000 := Nat.mul_le_mul q3 (by omega)
      exact Nat.le_trans e1 (by decide)
    · cases ez
  · cases ez
theorem od_fdiv : OpD X .FloorDiv fdivD := by
  intro pins s σ H x y v u Q I rx ry ⟨F, st, σ', d, e, z, l, w1, w2, ez, hz⟩
  unfold fdivD at ez
  split at ez
  · split at ez
    · rename_i hm
      cases ez
      cases w1.int; cases w2.int
      obtain ⟨t, rfl⟩ := rx
      obtain ⟨t', rfl⟩ := ry
      exact floordiv_int hm.1 ⟨.int _, H, I.tok _, ⟨_, rfl⟩, hz _ H (.int _) (Same.refl H)⟩ (.inl (PyProof.noPylong_of_log2 hm.2))
    · cases ez
  · cases ez
theorem od_mod : OpD X .Mod modD := by
  intro pins s σ H x y v u Q I rx ry ⟨F, st, σ', d, e, z, l, w1, w2, ez, hz⟩
  unfold modD at ez
  split at ez
  · split at ez
    · rename_i hm
      cases ez
      cases w1.int; cases w2.int
      exact op_modN pins s σ H _ _ v u Q I rx ry ⟨_, _, rfl, rfl, hm, hz _ H (.int _) (Same.refl H)⟩
    · cases ez
  · cases ez
theorem od_pow : OpD X .Pow powD := by
  intro pins s σ H x y v u Q I rx ry ⟨F, st, σ', d, e, z, l, w1, w2, ez, hz⟩
  unfold powD at ez
  split at ez
  · rename_i i j
    split at ez
    · rename_i hm
      cases ez
      cases w1.int; cases w2.int
      obtain ⟨t, rfl⟩ := rx
      obtain ⟨t', rfl⟩ := ry
      refine pow_int hm.1 ?_ ⟨.int _, H, I.tok _, ⟨_, rfl⟩, hz _ H (.int _) (Same.refl H)⟩
      have b : (Builtin.Int.intBits i : Int) ≤ (lg i : Int) + 1 := by have := lg_bits i; omega
      exact Int.le_trans (Int.mul_le_mul_of_nonneg_right b hm.1) hm.2
    · cases ez
  · cases ez
/-! comparisons -/
theorem sh_and {a b : Bool} (h : (a && b) = true) : a = true ∧ b = true := by simpa using h
theorem strP_some {d e : D} {q : Str × Str} (h : strP d e = some q) : d = .str q.1 ∧ e = .str q.2 := by
  unfold strP at h
  split at h
  · cases h; exact ⟨rfl, rfl⟩
  · cases h
theorem dec_strV {x y : Str} : decide (V.str x = V.str y) = (x == y) := by
  rw [Bool.eq_iff_iff]
  simp
theorem cd_eq (hr : Room k X.A) : CmD X .Eq eqD := by
  intro pins s σ H x y v u Q I rx ry ⟨F, st, σ', d, e, z, l, w1, w2, ez, hz⟩
  unfold eqD at ez
  split at ez
  · rename_i q hq
    obtain ⟨rfl, rfl⟩ := strP_some hq
    cases ez
    cases w1.str; cases w2.str
    refine op_eq pins s σ H _ _ v u Q I rx ry ⟨rfl, ?_⟩
    rw [dec_strV]
    exact hz
  split at ez
  · rename_i hs
    cases ez
    exact op_eqD hr.units pins s σ H _ _ v u Q I rx ry ⟨d, e, w1.dp (sh_and hs).1, w2.dp (sh_and hs).2, (sh_and hs).1, (sh_and hs).2, hz⟩
  · cases ez
theorem cd_ne (hr : Room k X.A) : CmD X .NotEq neD := by
  intro pins s σ H x y v u Q I rx ry ⟨F, st, σ', d, e, z, l, w1, w2, ez, hz⟩
  unfold neD at ez
  split at ez
  · rename_i q hq
    obtain ⟨rfl, rfl⟩ := strP_some hq
    cases ez
    cases w1.str; cases w2.str
    refine op_ne pins s σ H _ _ v u Q I rx ry ⟨rfl, ?_⟩
    rw [dec_strV]
    exact hz
  split at ez
  · rename_i hs
    cases ez
    exact op_neD hr.units pins s σ H _ _ v u Q I rx ry ⟨d, e, w1.dp (sh_and hs).1, w2.dp (sh_and hs).2, (sh_and hs).1, (sh_and hs).2, hz⟩
  · cases ez
theorem room_sh {A : Around} {a b : D} (ha : SeqAt.shaped a = true) (hr : Room k A) : A.units + min a.depth b.depth < cLine := SeqAt.room_of_shaped (db := b) ha hr.units
theorem cd_lt (hr : Room k X.A) : CmD X .Lt ltD := by
  intro pins s σ H x y v u Q I rx ry ⟨F, st, σ', d, e, z, l, w1, w2, ez, hz⟩
  unfold ltD at ez
  split at ez
  · cases ez
    cases w1.int; cases w2.int
    exact op_lt pins s σ H _ _ v u Q I rx ry ⟨_, _, rfl, rfl, hz⟩
  · split at ez
    · rename_i hs
      cases ez
      have hs := sh_and hs
      obtain ⟨as, ra⟩ := Dp.reads I _ _ _ (w1.dp (sh_and hs.1).1) rx
      obtain ⟨bs, rb⟩ := Dp.reads I _ _ _ (w2.dp (sh_and hs.1).2) ry
      exact W.lt_data ra rb hs.2 (by intro z; cases z) (room_sh (sh_and hs.1).1 hr) ⟨.bl _, H, I, rfl, hz⟩
    · cases ez
  · cases ez
theorem cd_gt (hr : Room k X.A) : CmD X .Gt gtD := by
  intro pins s σ H x y v u Q I rx ry ⟨F, st, σ', d, e, z, l, w1, w2, ez, hz⟩
  unfold gtD at ez
  split at ez
  · cases ez
    cases w1.int; cases w2.int
    exact op_gt pins s σ H _ _ v u Q I rx ry ⟨_, _, rfl, rfl, hz⟩
  · split at ez
    · rename_i hs
      cases ez
      have hs := sh_and hs
      obtain ⟨as, ra⟩ := Dp.reads I _ _ _ (w1.dp (sh_and hs.1).1) rx
      obtain ⟨bs, rb⟩ := Dp.reads I _ _ _ (w2.dp (sh_and hs.1).2) ry
      exact W.gt_data ra rb hs.2 (by intro z; cases z) (room_sh (sh_and hs.1).1 hr) ⟨.bl _, H, I, rfl, hz⟩
    · cases ez
  · cases ez
theorem cd_le : CmD X .LtE leD := by
  intro pins s σ H x y v u Q I rx ry ⟨F, st, σ', d, e, z, l, w1, w2, ez, hz⟩
  unfold leD at ez
  split at ez
  · cases ez
    cases w1.int; cases w2.int
    exact op_le pins s σ H _ _ v u Q I rx ry ⟨_, _, rfl, rfl, hz⟩
  · cases ez
theorem cd_ge : CmD X .GtE geD := by
  intro pins s σ H x y v u Q I rx ry ⟨F, st, σ', d, e, z, l, w1, w2, ez, hz⟩
  unfold geD at ez
  split at ez
  · cases ez
    cases w1.int; cases w2.int
    exact op_ge pins s σ H _ _ v u Q I rx ry ⟨_, _, rfl, rfl, hz⟩
  · cases ez
theorem non_of {K : PySem.W.Frag} {M : MS} {H : Hp} {d : D} {v : V} (w : WRep K M H d v) : decide (v = V.non) = isNo d := by
  cases w with
  | rep h => cases h <;> rfl
  | own => rfl
theorem cd_is : CmD X .Is isNonD := by
  intro pins s σ H x y v u Q I rx ry ⟨F, st, σ', d, e, z, l, w1, w2, ez, hz⟩
  unfold isNonD at ez
  split at ez
  · cases ez
    cases w2.non
    rw [← non_of w1] at hz
    exact op_isN pins s σ H _ _ v u Q I rx ry ⟨rfl, hz⟩
  · cases ez
    cases w1.bl; cases w2.bl
    exact op_isBl pins s σ H _ _ v u Q I rx ry ⟨_, _, rfl, rfl, hz⟩
  · cases ez
theorem cd_isnot : CmD X .IsNot isNotD := by
  intro pins s σ H x y v u Q I rx ry ⟨F, st, σ', d, e, z, l, w1, w2, ez, hz⟩
  unfold isNotD isNonD at ez
  split at ez
  · cases ez
    cases w2.non
    rw [← non_of w1] at hz
    exact op_notN pins s σ H _ _ v u Q I rx ry ⟨rfl, hz⟩
  · cases ez
    cases w1.bl; cases w2.bl
    exact op_notBl pins s σ H _ _ v u Q I rx ry ⟨_, _, rfl, rfl, hz⟩
  · cases ez
theorem room65 {A : Around} (hr : Room k A) : A.units + 65 < cLine := by have := hr.un; omega
theorem cd_in (hr : Room k X.A) : CmD X .In inD := by
  intro pins s σ H x y v u Q I rx ry ⟨F, st, σ', d, e, z, l, w1, w2, ez, hz⟩
  unfold inD at ez
  split at ez
  · split at ez
    · rename_i hs
      cases ez
      obtain ⟨as, ra⟩ := Dp.reads I _ _ _ (w1.dp (sh_and hs).1) rx
      obtain ⟨bs, rb⟩ := Dp.reads I _ _ _ (w2.dp (sh_and hs).2) ry
      exact SeqAt.in_list_reads rb ra (SeqAt.canLay_of_shaped (sh_and hs).2) (SeqAt.canLay_of_shaped (sh_and hs).1) (room_in_shaped (sh_and hs).1 (room65 hr)) ⟨.bl _, H, I, rfl, hz⟩
    · cases ez
  · split at ez
    · rename_i hs
      cases ez
      obtain ⟨as, ra⟩ := Dp.reads I _ _ _ (w1.dp (sh_and hs).1) rx
      obtain ⟨bs, rb⟩ := Dp.reads I _ _ _ (w2.dp (sh_and hs).2) ry
      exact SeqAt.in_tuple_reads rb ra (SeqAt.canLay_of_shaped (sh_and hs).2) (SeqAt.canLay_of_shaped (sh_and hs).1) (room_in_shaped (sh_and hs).1 (room65 hr)) ⟨.bl _, H, I, rfl, hz⟩
    · cases ez
  · cases ez
theorem cd_notin (hr : Room k X.A) : CmD X .NotIn notInD := by
  intro pins s σ H x y v u Q I rx ry ⟨F, st, σ', d, e, z, l, w1, w2, ez, hz⟩
  unfold notInD inD at ez
  split at ez
  · split at ez
    · rename_i hs
      cases ez
      obtain ⟨as, ra⟩ := Dp.reads I _ _ _ (w1.dp (sh_and hs).1) rx
      obtain ⟨bs, rb⟩ := Dp.reads I _ _ _ (w2.dp (sh_and hs).2) ry
      exact SeqAt.notIn_list_reads rb ra (SeqAt.canLay_of_shaped (sh_and hs).2) (SeqAt.canLay_of_shaped (sh_and hs).1) (room_in_shaped (sh_and hs).1 (room65 hr)) ⟨.bl _, H, I, rfl, hz⟩
    · cases ez
  · split at ez
    · rename_i hs
      cases ez
      obtain ⟨as, ra⟩ := Dp.reads I _ _ _ (w1.dp (sh_and hs).1) rx
      obtain ⟨bs, rb⟩ := Dp.reads I _ _ _ (w2.dp (sh_and hs).2) ry
      exact SeqAt.notIn_tuple_reads rb ra (SeqAt.canLay_of_shaped (sh_and hs).2) (SeqAt.canLay_of_shaped (sh_and hs).1) (room_in_shaped (sh_and hs).1 (room65 hr)) ⟨.bl _, H, I, rfl, hz⟩
    · cases ez
  · cases ez
end
end BD

set_option Elab.async false
set_option linter.all false
set_option maxRecDepth 100000
set_option maxHeartbeats 1000000
namespace BD
open PySem PySem.Spec PyProof.Rows L2

section
variable {X : Cx} {W : WX} {k : Nat} {pos : Pos}
/-! ### tests and truth values -/
theorem de_b {e : Expr} {f : BS} (h : DV X W e f) : DE X W e (eB f) := by
  refine PE.weak h fun σ H Q ⟨F, st, l, w⟩ => ⟨F, st, l, Post.bind w fun a st1 v H1 l1 r1 f1 w1 => ?_⟩
  subst r1
  exact w1 (.bl a) H1 l1 (.bl a) Fs.refl
theorem bE_core {d : D} {F : Fm} {st : Sx} {σ : L2.St} {H : Hp} {β : Type} {R : Sx → Hp → Bool → β → Prop} {Q : β → Hp → Prop} {v : V} (r : Rep X.K (Md F st σ) H d v) (h : Post X W F R st σ H (Rz.of (asB d) st) Q) : ∃ b, v = .bl b ∧ Post X W F R st σ H (.ok b st) Q := by
  cases d with
  | bool b => cases r; exact ⟨b, rfl, h⟩
  | _ => exact h.elim
theorem db_e {e : Expr} {f : ES} (h : DE X W e f) (he : ∀ whole, isTrue e X.env whole = (do let v ← whole; standAt e.pos; holding [v] (truthy v)) := by intro _; rfl) : DB X W e (bE f) := by
  refine PT.weak (pt_val h he) fun σ H Q ⟨F, st, l, w⟩ => ⟨F, st, l, Post.bind w fun d st1 v H1 l1 r1 f1 w1 => ?_⟩
  obtain ⟨b, rfl, z⟩ := bE_core r1 w1
  exact ⟨b, rfl, z b H1 l1 rfl Fs.refl⟩
theorem dv_e {e : Expr} {f : ES} (h : DE X W e f) : DV X W e (bE f) := by
  refine PE.weak h fun σ H Q ⟨F, st, l, w⟩ => ⟨F, st, l, Post.bind w fun d st1 v H1 l1 r1 f1 w1 => ?_⟩
  obtain ⟨b, rfl, z⟩ := bE_core r1 w1
  exact z _ H1 l1 rfl Fs.refl
theorem db_v {e : Expr} {f : BS} (h : DV X W e f) (he : ∀ whole, isTrue e X.env whole = (do let v ← whole; standAt e.pos; holding [v] (truthy v)) := by intro _; rfl) : DB X W e f := by
  refine PT.weak (pt_val h he) fun σ H Q ⟨F, st, l, w⟩ => ⟨F, st, l, ?_⟩
  cases hf : f st with
  | ok a st' =>
    rw [hf] at w
    intro v H' l' r f'
    exact ⟨a, r, w a H' l' rfl f'⟩
  | err c d st' => rw [hf] at w; exact w
  | stuck => rw [hf] at w; exact w
variable {a b c : Expr} {rest : List Expr} {fa fb fc : BS}
theorem db_w {e : Expr} {f : BS} (h : DW X W e f) : DB X W e f := PW.pt h
theorem dw_and1 (h : DB X W a fa) : DW X W (.BoolOp .And [a] pos) fa := pw_and1 h
theorem dw_or1 (h : DB X W a fa) : DW X W (.BoolOp .Or [a] pos) fa := pw_or1 h
theorem dw_and (h : DB X W a fa) (h2 : DW X W (.BoolOp .And (b :: rest) pos) fb) : DW X W (.BoolOp .And (a :: b :: rest) pos) (bAnd fa fb) := by
  refine PW.weak (pw_and h h2) fun σ H Q ⟨F, st, l, w⟩ => ⟨F, st, l, Post.bind w fun k st1 v H1 l1 r1 f1 w1 => ?_⟩
  subst r1
  cases k with
  | true => exact iteT ⟨F, st1, l1, w1⟩
  | false => exact iteF (w1 false H1 l1 rfl Fs.refl)
theorem dw_or (h : DB X W a fa) (h2 : DW X W (.BoolOp .Or (b :: rest) pos) fb) : DW X W (.BoolOp .Or (a :: b :: rest) pos) (bOr fa fb) := by
  refine PW.weak (pw_or h h2) fun σ H Q ⟨F, st, l, w⟩ => ⟨F, st, l, Post.bind w fun k st1 v H1 l1 r1 f1 w1 => ?_⟩
  subst r1
  cases k with
  | true => exact iteT (w1 true H1 l1 rfl Fs.refl)
  | false => exact iteF ⟨F, st1, l1, w1⟩
theorem db_not (h : DB X W a fa) : DB X W (.UnaryOp .Not a pos) (bNot fa) := by
  refine PT.weak (pt_not h) fun σ H Q ⟨F, st, l, w⟩ => ⟨F, st, l, Post.bind w fun k st1 v H1 l1 r1 f1 w1 => ?_⟩
  subst r1
  exact w1 (!k) H1 l1 rfl Fs.refl
theorem dv_one {op} (h : DV X W a fa) : DV X W (.BoolOp op [a] pos) fa := pe_one h
theorem dv_and (h : DV X W a fa) (h2 : DV X W (.BoolOp .And (b :: rest) pos) fb) : DV X W (.BoolOp .And (a :: b :: rest) pos) (bAnd fa fb) := by
  refine PE.weak (pe_and h h2) fun σ H Q ⟨F, st, l, w⟩ => ⟨F, st, l, Post.bind w fun k st1 v H1 l1 r1 f1 w1 => ?_⟩
  subst r1
  refine ⟨k, rfl, ?_⟩
  cases k with
  | true => exact iteT ⟨F, st1, l1, w1⟩
  | false => exact iteF (w1 _ H1 l1 rfl Fs.refl)
theorem dv_or (h : DV X W a fa) (h2 : DV X W (.BoolOp .Or (b :: rest) pos) fb) : DV X W (.BoolOp .Or (a :: b :: rest) pos) (bOr fa fb) := by
  refine PE.weak (pe_or h h2) fun σ H Q ⟨F, st, l, w⟩ => ⟨F, st, l, Post.bind w fun k st1 v H1 l1 r1 f1 w1 => ?_⟩
  subst r1
  refine ⟨k, rfl, ?_⟩
  cases k with
  | true => exact iteT (w1 _ H1 l1 rfl Fs.refl)
  | false => exact iteF ⟨F, st1, l1, w1⟩
theorem dv_not (h : DV X W a fa) : DV X W (.UnaryOp .Not a pos) (bNot fa) := by
  refine PE.weak (pe_not h) fun σ H Q ⟨F, st, l, w⟩ => ⟨F, st, l, Post.bind w fun k st1 v H1 l1 r1 f1 w1 => ?_⟩
  subst r1
  exact ⟨k, rfl, w1 _ H1 l1 rfl Fs.refl⟩
theorem de_if {ea eb : ES} (h : DB X W c fc) (ha : DE X W a ea) (hb : DE X W b eb) : DE X W (.IfExp c a b pos) (eIf fc ea eb) := by
  refine PE.weak (pe_ifExp h ha hb) fun σ H Q ⟨F, st, l, w⟩ => ⟨F, st, l, Post.bind w fun k st1 v H1 l1 r1 f1 w1 => ?_⟩
  subst r1
  cases k with
  | true => exact iteT ⟨F, st1, l1, w1⟩
  | false => exact iteF ⟨F, st1, l1, w1⟩
theorem de_neg {ea : ES} (ha : DE X W a ea) : DE X W (.UnaryOp .USub a pos) (eNeg ea) := by
  refine PE.weak (pe_un un_neg ha) fun σ H Q ⟨F, st, l, w⟩ => ⟨F, st, l, Post.bind w fun d st1 v H1 l1 r1 f1 w1 => ?_⟩
  cases d with
  | int i => cases r1; exact ⟨i, rfl, w1 _ H1 l1 (.int _) Fs.refl⟩
  | _ => exact w1.elim
/-! ### argument lists, displays -/
variable {e : Expr} {es : List Expr}
theorem da_nil : DA X W [] aNil := PA.weak pa_nil fun σ H Q ⟨F, st, l, w⟩ => w [] H l .nil Fs.refl
theorem da_cons {f : ES} {g : AS} (h : DE X W e f) (h2 : DA X W es g) (hs : starEach (e :: es) X.env = (false, eval e X.env) :: starEach es X.env := by rfl) : DA X W (e :: es) (aCons f g) := by
  refine PA.weak (pa_cons h h2 hs) fun σ H Q ⟨F, st, l, w⟩ => ⟨F, st, l, Post.bind w fun d st1 v H1 l1 r1 f1 w1 => ⟨F, st1, l1, Post.bind w1 fun ds st2 vs H2 l2 r2 f2 w2 => ?_⟩⟩
  exact w2 _ H2 l2 (.cons (r1.mono f2.fr) r2) Fs.refl
theorem dp_nil : DP X W [] pNil := PA.weak pa_nil fun σ H Q ⟨F, st, l, w⟩ => w [] H l .nil Fs.refl
theorem dp_cons {f : KS} {g : PS'} (h : DK X W e f) (h2 : DP X W es g) (hs : starEach (e :: es) X.env = (false, eval e X.env) :: starEach es X.env := by rfl) : DP X W (e :: es) (pCons f g) := by
  refine PA.weak (pa_cons h h2 hs) fun σ H Q ⟨F, st, l, w⟩ => ⟨F, st, l, Post.bind w fun d st1 v H1 l1 r1 f1 w1 => ⟨F, st1, l1, Post.bind w1 fun ds st2 vs H2 l2 r2 f2 w2 => ?_⟩⟩
  exact w2 _ H2 l2 (.cons (r1.mono f2.fr) r2) Fs.refl
theorem le1000 {n : Nat} (h : n ≤ 1000) : n ≤ sizeLine := Nat.le_trans h (by decide)
theorem de_tup {g : AS} {x1} (h : DA X W es g) : DE X W (.Tuple es x1 pos) (eTup g) := by
  refine PE.weak (pe_tup h) fun σ H Q ⟨F, st, l, w⟩ => ⟨F, st, l, Post.bind w fun ds st1 vs H1 l1 r1 f1 w1 => ?_⟩
  split at w1
  · rename_i hl
    rw [r1.length] at hl
    exact ⟨le1000 hl, fun p hp => w1 _ _ (l1.new hp _) (rep_newT hp r1) (Fs.new l1 hp)⟩
  · exact w1.elim
/-- a new list, nothing else leads to it -/
def RL (X : Cx) (F : Fm) (σ : L2.St) (H0 : Hp) : Sx → Hp → List D → V → Prop := fun st H xs v => ∃ a vs, v = .ref a ∧ H0 a = none ∧ H a = some (.lst vs) ∧ ¬ Md F st σ a ∧ Lk X.K (F.add a) st σ H ∧ Reps X.K (Md (F.add a) st σ) H xs vs
def rdL (X : Cx) (W : WX) (f : Sx → Rz (List D)) : TE := fun σ H Q => ∃ F st, Lk X.K F st σ H ∧ Post X W F (RL X F σ H) st σ H (f st) Q
def DL (X : Cx) (W : WX) (e : Expr) (f : Sx → Rz (List D)) : Prop := PE X e (rdL X W f)
theorem Reps.sub {K : PySem.W.Frag} {M M' : MS} {H : Hp} {ds : List D} {vs : List V} (h : Reps K M H ds vs) (s : ∀ a, M' a → M a) : Reps K M' H ds vs := h.mono (Fr.sub s)
theorem de_l {f : Sx → Rz (List D)} (h : DL X W e f) : DE X W e (eL f) := by
  refine PE.weak h fun σ H Q ⟨F, st, l, w⟩ => ⟨F, st, l, Post.bind w fun xs st1 v H1 l1 r1 f1 w1 => ?_⟩
  obtain ⟨a, vs, rfl, _, h1, n, _, r⟩ := r1
  exact w1 _ H1 l1 (.lst n h1 (r.sub fun _ z => Md.add.mpr (.inl z))) Fs.refl
/-- a list laid at p -/
theorem rl_new {F : Fm} {st : Sx} {σ : L2.St} {H : Hp} {p : Addr} {ds : List D} {vs : List V} (l : Lk X.K F st σ H) (hp : H p = none) (r : Reps X.K (Md F st σ) H ds vs) {H0 : Hp} (h0 : H0 p = none) : RL X F σ H0 st (upd H p (.lst vs)) ds (.ref p) :=
  ⟨p, vs, rfl, h0, upd_same, l.fresh hp, l.addNew hp _, r.mono ((fr_add l hp).trans (Fr.of_same (same_upd hp)))⟩
theorem dl_lst {g : AS} (h : DA X W es g) : DL X W (.List es pos) (lLst g) := by
  refine PE.weak (pe_lst h) fun σ H Q ⟨F, st, l, w⟩ => ⟨F, st, l, Post.bind w fun ds st1 vs H1 l1 r1 f1 w1 => ?_⟩
  split at w1
  · rename_i hl
    rw [r1.length] at hl
    exact ⟨le1000 hl, fun p hp => w1 _ _ (l1.new hp _) (rl_new l1 hp r1 (f1.fr.there _ hp)) (Fs.new l1 hp)⟩
  · exact w1.elim
/-! ### built-in functions -/
def BfD (X : Cx) (f : Value) (g : Bf) : Prop := CallR X f fun vs H Q => ∃ F st σ ds z, Lk X.K F st σ H ∧ Paired (WRep X.K (Md F st σ) H) ds vs ∧ g ds = some z ∧ ∀ w H', Rep X.K (Md F st σ) H' z w → Same H H' → Q w H'
theorem bf_core {g : Bf} {ps : List PV} {vs : List V} {F : Fm} {st : Sx} {σ : L2.St} {H : Hp} {Q : V → Hp → Prop} (l : Lk X.K F st σ H) (r : RKs X F σ st H ps vs) (h : Post X W F (RE X F σ) st σ H (Rz.of ((resAll st ps).bind g) st) Q) :
    ∃ F st σ ds z, Lk X.K F st σ H ∧ Paired (WRep X.K (Md F st σ) H) ds vs ∧ g ds = some z ∧ ∀ w H', Rep X.K (Md F st σ) H' z w → Same H H' → Q w H' := by
  obtain ⟨z, ez, hz⟩ := Post.of h
  cases e1 : resAll st ps with
  | none => rw [e1] at ez; cases ez
  | some ds =>
    rw [e1] at ez
    exact ⟨F, st, σ, ds, z, l, res_all l r e1, ez, fun w H' r' s => hz w H' (l.same s) r' (Fs.of_same l s)⟩
theorem de_bf {id : String} {x : Str} {g : Bf} {fa : PS'} {p : Pos} (hc : BfD X (.builtin id) g) (hg : Gl X x) (hm : X.mg x = none) (hv : bootBuiltins x = some (.builtin id)) (ha : DP X W (e :: es) fa) (hn : x ≠ "__name__" := by decide) (hdb : (x == ("__debug__" : Str)) = false := by decide)
    (he : starEach (e :: es) X.env = (false, eval e X.env) :: starEach es X.env := by rfl) (hpl : (backTo pos (starEach es X.env)).any (·.1) = false := by rfl) : DE X W (.Call (.Name x p) (e :: es) [] pos) (eBf g fa) := by
  refine PE.weak (pe_callB hc hg hm hv ha hn hdb he hpl) fun σ H Q ⟨F, st, l, w⟩ => ⟨F, st, l, Post.bind w fun ps st1 vs H1 l1 r1 f1 w1 => bf_core l1 r1 w1⟩
theorem de_ty {T : String} {x : Str} {g : Bf} {fa : PS'} {p : Pos} (hc : BfD X (.type T) g) (hg : Gl X x) (hm : X.mg x = none) (hv : bootBuiltins x = some (.type T)) (ha : DP X W (e :: es) fa) (hn : x ≠ "__name__" := by decide) (hdb : (x == ("__debug__" : Str)) = false := by decide)
    (he : starEach (e :: es) X.env = (false, eval e X.env) :: starEach es X.env := by rfl) (hpl : (backTo pos (starEach es X.env)).any (·.1) = false := by rfl) : DE X W (.Call (.Name x p) (e :: es) [] pos) (eBf g fa) := by
  refine PE.weak (pe_callTy hc hg hm hv ha hn hdb he hpl) fun σ H Q ⟨F, st, l, w⟩ => ⟨F, st, l, Post.bind w fun ps st1 vs H1 l1 r1 f1 w1 => bf_core l1 r1 w1⟩
end
end BD

set_option Elab.async false
set_option linter.all false
set_option maxRecDepth 100000
set_option maxHeartbeats 1000000
namespace BD
open PySem PySem.Spec PyProof.Rows L2

theorem ints_of : ∀ {xs : List D} {ns : List Int}, intsD xs = some ns → xs = ns.map PyData.int
  | [], _, h => by cases h; rfl
  | x :: r, ns, h => by
    cases x with
    | int i =>
      cases q : intsD r with
      | none => simp [intsD, q] at h
      | some ms => simp [intsD, q] at h; subst h; rw [ints_of q]; rfl
    | _ => simp [intsD] at h
theorem bools_of : ∀ {xs : List D} {ns : List Bool}, boolsD xs = some ns → xs = ns.map PyData.bool
  | [], _, h => by cases h; rfl
  | x :: r, ns, h => by
    cases x with
    | bool i =>
      cases q : boolsD r with
      | none => simp [boolsD, q] at h
      | some ms => simp [boolsD, q] at h; subst h; rw [bools_of q]; rfl
    | _ => simp [boolsD] at h
theorem foldl_min_le : ∀ (l : List Int) (a : Int), l.foldl min a ≤ a ∧ ∀ y ∈ l, l.foldl min a ≤ y
  | [], a => ⟨Int.le_refl _, fun _ h => by cases h⟩
  | x :: r, a => by
    have ih := foldl_min_le r (min a x)
    refine ⟨Int.le_trans ih.1 (Int.min_le_left _ _), fun y h => ?_⟩
    rcases List.mem_cons.mp h with e | h
    · subst e; exact Int.le_trans ih.1 (Int.min_le_right _ _)
    · exact ih.2 y h
theorem foldl_min_mem : ∀ (l : List Int) (a : Int), l.foldl min a = a ∨ l.foldl min a ∈ l
  | [], a => .inl rfl
  | x :: r, a => by
    have ih := foldl_min_mem r (min a x)
    have e : (x :: r).foldl min a = r.foldl min (min a x) := rfl
    rw [e]
    rcases ih with h | h
    · rw [h]
      by_cases q : a ≤ x
      · exact .inl (Int.min_eq_left q)
      · rw [Int.min_eq_right (by omega)]; exact .inr (List.mem_cons_self ..)
    · exact .inr (List.mem_cons_of_mem _ h)
theorem foldl_max_le : ∀ (l : List Int) (a : Int), a ≤ l.foldl max a ∧ ∀ y ∈ l, y ≤ l.foldl max a
  | [], a => ⟨Int.le_refl _, fun _ h => by cases h⟩
  | x :: r, a => by
    have ih := foldl_max_le r (max a x)
    refine ⟨Int.le_trans (Int.le_max_left _ _) ih.1, fun y h => ?_⟩
    rcases List.mem_cons.mp h with e | h
    · subst e; exact Int.le_trans (Int.le_max_right _ _) ih.1
    · exact ih.2 y h
theorem leastI_spec {m : Int} : ∀ {ns : List Int}, m ∈ ns → (∀ y ∈ ns, m ≤ y) → m = leastI ns
  | x :: r, h, hl => by
    have h1 := foldl_min_le r x
    have h2 := foldl_min_mem r x
    have a : leastI (x :: r) ≤ m := by
      rcases List.mem_cons.mp h with e | h
      · subst e; exact h1.1
      · exact h1.2 m h
    have b : m ≤ leastI (x :: r) := by
      rcases h2 with e | e
      · show m ≤ r.foldl min x
        rw [e]; exact hl x (List.mem_cons_self ..)
      · exact hl _ (List.mem_cons_of_mem _ e)
    omega
theorem foldl_max_mem : ∀ (l : List Int) (a : Int), l.foldl max a = a ∨ l.foldl max a ∈ l
  | [], a => .inl rfl
  | x :: r, a => by
    have ih := foldl_max_mem r (max a x)
    have e : (x :: r).foldl max a = r.foldl max (max a x) := rfl
    rw [e]
    rcases ih with h | h
    · rw [h]
      by_cases q : x ≤ a
      · exact .inl (Int.max_eq_left q)
      · rw [Int.max_eq_right (by omega)]; exact .inr (List.mem_cons_self ..)
    · exact .inr (List.mem_cons_of_mem _ h)
theorem mostI_spec {m : Int} : ∀ {ns : List Int}, m ∈ ns → (∀ y ∈ ns, y ≤ m) → m = mostI ns
  | x :: r, h, hl => by
    have h1 := foldl_max_le r x
    have h2 := foldl_max_mem r x
    have a : m ≤ mostI (x :: r) := by
      rcases List.mem_cons.mp h with e | h
      · subst e; exact h1.1
      · exact h1.2 m h
    have b : mostI (x :: r) ≤ m := by
      rcases h2 with e | e
      · show r.foldl max x ≤ m
        rw [e]; exact hl x (List.mem_cons_self ..)
      · exact hl _ (List.mem_cons_of_mem _ e)
    omega
theorem Reps.intsV {K : PySem.W.Frag} {M : MS} {H : Hp} : ∀ {ns : List Int} {vs : List V}, Reps K M H (ns.map PyData.int) vs → vs = ns.map V.int
  | [], _, h => by cases h; rfl
  | n :: r, _, h => by
    cases h with
    | cons h1 h2 => cases h1; rw [Reps.intsV h2]; rfl
theorem Reps.boolsV {K : PySem.W.Frag} {M : MS} {H : Hp} : ∀ {ns : List Bool} {vs : List V}, Reps K M H (ns.map PyData.bool) vs → vs = ns.map V.bl
  | [], _, h => by cases h; rfl
  | n :: r, _, h => by
    cases h with
    | cons h1 h2 => cases h1; rw [Reps.boolsV h2]; rfl
section
variable {X : Cx} {W : WX} {k : Nat} {pos : Pos}
theorem w1 {K : PySem.W.Frag} {M : MS} {H : Hp} {d : D} {vs : List V} (h : Paired (WRep K M H) [d] vs) : ∃ v, vs = [v] ∧ WRep K M H d v := by
  cases h with
  | cons h t => cases t; exact ⟨_, rfl, h⟩
theorem w2 {K : PySem.W.Frag} {M : MS} {H : Hp} {d e : D} {vs : List V} (h : Paired (WRep K M H) [d, e] vs) : ∃ v u, vs = [v, u] ∧ WRep K M H d v ∧ WRep K M H e u := by
  cases h with
  | cons h t => cases t with
    | cons h2 t => cases t; exact ⟨_, _, rfl, h, h2⟩
theorem bf_len : BfD X (.builtin "len") lenB := by
  intro pins s σ H vs us Q I r ⟨F, st, σ', ds, z, l, ws, ez, hz⟩
  unfold lenB at ez
  split at ez
  · cases ez
    obtain ⟨v, rfl, w⟩ := w1 ws
    obtain ⟨a, xs, rfl, h, r'⟩ := w.lst
    have q := hz (.int xs.length) H (by rw [r'.length]; exact .int _) (Same.refl H)
    exact call_len pins s σ H _ us Q I r ⟨_, _, rfl, .inl ⟨xs, .inl (.inl h), rfl⟩, q⟩
  · cases ez
    obtain ⟨v, rfl, w⟩ := w1 ws
    obtain ⟨a, xs, rfl, h, r'⟩ := w.tup
    have q := hz (.int xs.length) H (by rw [r'.length]; exact .int _) (Same.refl H)
    exact call_len pins s σ H _ us Q I r ⟨_, _, rfl, .inr ⟨xs, h, rfl⟩, q⟩
  · split at ez
    · rename_i hs
      cases ez
      obtain ⟨v, rfl, w⟩ := w1 ws
      cases w.str
      exact call_len pins s σ H _ us Q I r ⟨_, _, rfl, ⟨szl_ok hs, rfl⟩, hz _ H (.int _) (Same.refl H)⟩
    · cases ez
  · cases ez
    obtain ⟨v, rfl, w⟩ := w1 ws
    obtain ⟨a, xs, rfl, h, r'⟩ := w.frz
    have q := hz (.int xs.length) H (by rw [r'.length]; exact .int _) (Same.refl H)
    exact call_len pins s σ H _ us Q I r ⟨_, _, rfl, .inl ⟨xs, h.sq, rfl⟩, q⟩
  · cases ez
theorem bf_abs : BfD X (.builtin "abs") absB := by
  intro pins s σ H vs us Q I r ⟨F, st, σ', ds, z, l, ws, ez, hz⟩
  unfold absB at ez
  split at ez
  · cases ez
    obtain ⟨v, rfl, w⟩ := w1 ws
    cases w.int
    exact call_abs pins s σ H _ us Q I r ⟨_, rfl, hz _ H (.int _) (Same.refl H)⟩
  · cases ez
theorem bf_int : BfD X (.type "int") intB := by
  intro pins s σ H vs us Q I r ⟨F, st, σ', ds, z, l, ws, ez, hz⟩
  unfold intB at ez
  split at ez
  · cases ez
    obtain ⟨v, rfl, w⟩ := w1 ws
    cases w.int
    exact call_int1 pins s σ H _ us Q I r (.inl ⟨_, rfl, hz _ H (.int _) (Same.refl H)⟩)
  · cases ez
    obtain ⟨v, rfl, w⟩ := w1 ws
    cases w.bl
    exact call_int1 pins s σ H _ us Q I r (.inr ⟨_, rfl, hz _ H (.int _) (Same.refl H)⟩)
  · cases ez
theorem bf_all (hc : X.calm = true) : BfD X (.builtin "all") allB := by
  intro pins s σ H vs us Q I r ⟨F, st, σ', ds, z, l, ws, ez, hz⟩
  unfold allB at ez
  split at ez
  · rename_i xs
    obtain ⟨v, rfl, w⟩ := w1 ws
    obtain ⟨a, ys, rfl, h, r'⟩ := w.lst
    cases q : boolsD xs with
    | none => rw [q] at ez; cases ez
    | some bs =>
      rw [q] at ez
      cases ez
      rw [bools_of q] at r'
      rw [Reps.boolsV r'] at h
      exact cr_all hc pins s σ H _ us Q I r ⟨a, bs, rfl, .inl (.inl h), hz _ H (.bl _) (Same.refl H)⟩
  · cases ez
theorem bf_any (hc : X.calm = true) : BfD X (.builtin "any") anyB := by
  intro pins s σ H vs us Q I r ⟨F, st, σ', ds, z, l, ws, ez, hz⟩
  unfold anyB at ez
  split at ez
  · rename_i xs
    obtain ⟨v, rfl, w⟩ := w1 ws
    obtain ⟨a, ys, rfl, h, r'⟩ := w.lst
    cases q : boolsD xs with
    | none => rw [q] at ez; cases ez
    | some bs =>
      rw [q] at ez
      cases ez
      rw [bools_of q] at r'
      rw [Reps.boolsV r'] at h
      exact cr_any hc pins s σ H _ us Q I r ⟨a, bs, rfl, .inl (.inl h), hz _ H (.bl _) (Same.refl H)⟩
  · cases ez
theorem bf_sum (hc : X.calm = true) : BfD X (.builtin "sum") sumB := by
  intro pins s σ H vs us Q I r ⟨F, st, σ', ds, z, l, ws, ez, hz⟩
  unfold sumB at ez
  split at ez
  · rename_i xs
    obtain ⟨v, rfl, w⟩ := w1 ws
    obtain ⟨a, ys, rfl, h, r'⟩ := w.lst
    cases q : intsD xs with
    | none => rw [q] at ez; cases ez
    | some bs =>
      rw [q] at ez
      cases ez
      rw [ints_of q] at r'
      rw [Reps.intsV r'] at h
      exact cr_sum hc pins s σ H _ us Q I r ⟨a, bs, rfl, .inl (.inl h), hz _ H (.int _) (Same.refl H)⟩
  · cases ez
theorem bf_min (hc : X.calm = true) : BfD X (.builtin "min") minB := by
  intro pins s σ H vs us Q I r ⟨F, st, σ', ds, z, l, ws, ez, hz⟩
  unfold minB at ez
  split at ez
  · cases ez
    obtain ⟨v, u, rfl, e1, e2⟩ := w2 ws
    cases e1.int; cases e2.int
    exact call_min2 hc pins s σ H _ us Q I r ⟨_, _, rfl, hz _ H (.int _) (Same.refl H)⟩
  · rename_i xs
    obtain ⟨v, rfl, w⟩ := w1 ws
    obtain ⟨a, ys, rfl, h, r'⟩ := w.lst
    cases q : intsD xs with
    | none => rw [q] at ez; cases ez
    | some bs =>
      rw [q] at ez
      dsimp only [Option.bind] at ez
      split at ez
      · cases ez
      · rename_i hn
        cases ez
        rw [ints_of q] at r'
        rw [Reps.intsV r'] at h
        refine cr_min hc pins s σ H _ us Q I r ⟨a, bs, rfl, .inl (.inl h), List.length_pos_iff.mpr hn, fun m hm hl => ?_⟩
        rw [leastI_spec hm hl]
        exact hz _ H (.int _) (Same.refl H)
  · cases ez
theorem bf_max (hc : X.calm = true) : BfD X (.builtin "max") maxB := by
  intro pins s σ H vs us Q I r ⟨F, st, σ', ds, z, l, ws, ez, hz⟩
  unfold maxB at ez
  split at ez
  · cases ez
    obtain ⟨v, u, rfl, e1, e2⟩ := w2 ws
    cases e1.int; cases e2.int
    exact call_max2 hc pins s σ H _ us Q I r ⟨_, _, rfl, hz _ H (.int _) (Same.refl H)⟩
  · rename_i xs
    obtain ⟨v, rfl, w⟩ := w1 ws
    obtain ⟨a, ys, rfl, h, r'⟩ := w.lst
    cases q : intsD xs with
    | none => rw [q] at ez; cases ez
    | some bs =>
      rw [q] at ez
      dsimp only [Option.bind] at ez
      split at ez
      · cases ez
      · rename_i hn
        cases ez
        rw [ints_of q] at r'
        rw [Reps.intsV r'] at h
        refine cr_max hc pins s σ H _ us Q I r ⟨a, bs, rfl, .inl (.inl h), List.length_pos_iff.mpr hn, fun m hm hl => ?_⟩
        rw [mostI_spec hm hl]
        exact hz _ H (.int _) (Same.refl H)
  · cases ez
theorem bf_tuple : BfD X (.type "tuple") tupleB := by
  intro pins s σ H vs us Q I r ⟨F, st, σ', ds, z, l, ws, ez, hz⟩
  unfold tupleB at ez
  split at ez
  · cases ez
    obtain ⟨v, rfl, w⟩ := w1 ws
    obtain ⟨a, xs, rfl, h, r'⟩ := w.lst
    exact call_tuple_of pins s σ H _ us Q I r ⟨a, xs, rfl, .inl ⟨.inl (.inl h), fun p hp => hz _ _ (rep_newT hp r') (same_upd hp)⟩⟩
  · cases ez
    obtain ⟨v, rfl, w⟩ := w1 ws
    obtain ⟨a, xs, rfl, h, r'⟩ := w.tup
    exact call_tuple_of pins s σ H _ us Q I r ⟨a, xs, rfl, .inr ⟨h, hz _ H (.tup h r') (Same.refl H)⟩⟩
  · cases ez
/-! calls that bring a new list -/
def LfD (X : Cx) (f : Value) (g : Lf) : Prop := CallR X f fun vs H Q => ∃ F st σ ds zs, Lk X.K F st σ H ∧ Paired (WRep X.K (Md F st σ) H) ds vs ∧ g ds = some zs ∧ ∀ p us, H p = none → Reps X.K (Md F st σ) H zs us → Q (.ref p) (upd H p (.lst us))
theorem lf_core {g : Lf} {ps : List PV} {vs : List V} {F : Fm} {st : Sx} {σ : L2.St} {H H0 : Hp} {Q : V → Hp → Prop} (l : Lk X.K F st σ H) (r : RKs X F σ st H ps vs) (h0 : ∀ a, H a = none → H0 a = none) (h : Post X W F (RL X F σ H0) st σ H (Rz.of ((resAll st ps).bind g) st) Q) :
    ∃ F st σ ds zs, Lk X.K F st σ H ∧ Paired (WRep X.K (Md F st σ) H) ds vs ∧ g ds = some zs ∧ ∀ p us, H p = none → Reps X.K (Md F st σ) H zs us → Q (.ref p) (upd H p (.lst us)) := by
  obtain ⟨z, ez, hz⟩ := Post.of h
  cases e1 : resAll st ps with
  | none => rw [e1] at ez; cases ez
  | some ds =>
    rw [e1] at ez
    exact ⟨F, st, σ, ds, z, l, res_all l r e1, ez, fun p us hp r' => hz _ _ (l.new hp _) (rl_new l hp r' (h0 _ hp)) (Fs.new l hp)⟩
variable {e : Expr} {es : List Expr}
theorem dl_bf {id : String} {x : Str} {g : Lf} {fa : PS'} {p : Pos} (hc : LfD X (.builtin id) g) (hg : Gl X x) (hm : X.mg x = none) (hv : bootBuiltins x = some (.builtin id)) (ha : DP X W (e :: es) fa) (hn : x ≠ "__name__" := by decide) (hdb : (x == ("__debug__" : Str)) = false := by decide)
    (he : starEach (e :: es) X.env = (false, eval e X.env) :: starEach es X.env := by rfl) (hpl : (backTo pos (starEach es X.env)).any (·.1) = false := by rfl) : DL X W (.Call (.Name x p) (e :: es) [] pos) (lLf g fa) := by
  refine PE.weak (pe_callB hc hg hm hv ha hn hdb he hpl) fun σ H Q ⟨F, st, l, w⟩ => ⟨F, st, l, Post.bind w fun ps st1 vs H1 l1 r1 f1 w1 => lf_core l1 r1 f1.fr.there w1⟩
theorem dl_ty {T : String} {x : Str} {g : Lf} {fa : PS'} {p : Pos} (hc : LfD X (.type T) g) (hg : Gl X x) (hm : X.mg x = none) (hv : bootBuiltins x = some (.type T)) (ha : DP X W (e :: es) fa) (hn : x ≠ "__name__" := by decide) (hdb : (x == ("__debug__" : Str)) = false := by decide)
    (he : starEach (e :: es) X.env = (false, eval e X.env) :: starEach es X.env := by rfl) (hpl : (backTo pos (starEach es X.env)).any (·.1) = false := by rfl) : DL X W (.Call (.Name x p) (e :: es) [] pos) (lLf g fa) := by
  refine PE.weak (pe_callTy hc hg hm hv ha hn hdb he hpl) fun σ H Q ⟨F, st, l, w⟩ => ⟨F, st, l, Post.bind w fun ps st1 vs H1 l1 r1 f1 w1 => lf_core l1 r1 f1.fr.there w1⟩
theorem lf_list : LfD X (.type "list") listL := by
  intro pins s σ H vs us Q I r ⟨F, st, σ', ds, z, l, ws, ez, hz⟩
  unfold listL at ez
  split at ez
  · cases ez
    obtain ⟨v, rfl, w⟩ := w1 ws
    obtain ⟨a, xs, rfl, h, r'⟩ := w.lst
    exact call_list_of pins s σ H _ us Q I r ⟨a, xs, rfl, .inl (.inl (.inl h)), fun p hp => hz p _ hp r'⟩
  · cases ez
    obtain ⟨v, rfl, w⟩ := w1 ws
    obtain ⟨a, xs, rfl, h, r'⟩ := w.tup
    exact call_list_of pins s σ H _ us Q I r ⟨a, xs, rfl, .inr h, fun p hp => hz p _ hp r'⟩
  · cases ez
open PySem.W in
theorem reads_each {pins : List (Addr × Obj)} {σ : L2.St} {H : Hp} {s : Shared} {M : MS} (I : Inv X pins σ H s) : ∀ {xs : List D} {vs : List V} {us : List Value}, Reps X.K M H xs vs → Vals vs us → xs.all SeqAt.shaped = true → EachIs (fun (v : Value) (b : V × D) => ∃ as, Reads s.heap v b.2 as) us (vs.zip xs) ∧ EachIs (fun (v : Value) (b : V × D) => RelV b.1 v ∧ Rep X.K M H b.2 b.1) us (vs.zip xs)
  | _, _, _, .nil, .nil, _ => ⟨.nil, .nil⟩
  | _, _, _, .cons h r, .cons rv t, hs => by
    rw [List.all_cons, Bool.and_eq_true] at hs
    have ih := reads_each I r t hs.2
    exact ⟨.cons (Dp.reads I _ _ _ (h.dp (SeqAt.canLay_of_shaped hs.1)) rv) ih.1, .cons ⟨rv, h⟩ ih.2⟩
open PySem.W in
theorem each_out {M : MS} {K : PySem.W.Frag} {H : Hp} : ∀ {out : List Value} {bs : List (V × D)}, EachIs (fun (v : Value) (b : V × D) => RelV b.1 v ∧ Rep K M H b.2 b.1) out bs → Vals (bs.map (·.1)) out ∧ Reps K M H (bs.map (·.2)) (bs.map (·.1))
  | _, _, .nil => ⟨.nil, .nil⟩
  | _, _, .cons h t => ⟨.cons h.1 (each_out t).1, .cons h.2 (each_out t).2⟩
theorem zip_snd {α β : Type} : ∀ {xs : List α} {ys : List β}, xs.length = ys.length → (xs.zip ys).map (·.2) = ys
  | [], [], _ => rfl
  | x :: xs, y :: ys, h => by rw [List.zip_cons_cons, List.map_cons, zip_snd (by simpa using h)]
theorem sort_snd (l : List (V × D)) : (l.mergeSort (PySem.W.dataLe false Prod.snd)).map Prod.snd = (l.map Prod.snd).mergeSort dle :=
  List.map_mergeSort (fun a _ b _ => rfl)
theorem lf_sorted (hr : Room k X.A) : LfD X (.builtin "sorted") sortL := by
  intro pins s σ H vs us Q I r ⟨F, st, σ', ds, z, l, ws, ez, hz⟩
  unfold sortL at ez
  split at ez
  · rename_i xs
    split at ez
    · rename_i hs
      cases ez
      obtain ⟨hs, hn⟩ := hs
      obtain ⟨v, rfl, w⟩ := w1 ws
      obtain ⟨a, ys, rfl, h, r'⟩ := w.lst
      unfold sortable at hs
      rw [Bool.and_eq_true, Bool.and_eq_true] at hs
      obtain ⟨⟨s1, s2⟩, s3⟩ := hs
      obtain ⟨its, rv, hl, hzl⟩ := I.list (show SqL X.K H a ys from .inl (.inl h))
      rw [Vals.ref1 r]
      obtain ⟨er, e⟩ := reads_each I r' rv s3
      have em : (ys.zip xs).map Prod.snd = xs := zip_snd r'.length.symm
      have hlen : (ys.zip xs).length = xs.length := by rw [List.length_zip, r'.length, Nat.min_self]
      refine PySem.W.sorted_data (enc := Prod.snd) (bs := ys.zip xs) hl.isList e er (by rw [em]; intro d hd d' hd'; exact List.all_eq_true.mp (List.all_eq_true.mp s1 d hd) d' hd') ?_ (by rw [hlen]; exact szl_ok hn) (fun b hb => ?_) fun out h1 h2 => ?_
      · rw [em]
        rw [Bool.or_eq_true] at s2
        rcases s2 with s2 | s2
        · refine .inl fun d hd => ?_
          have q := List.all_eq_true.mp s2 d hd
          cases d with
          | tuple xs => cases xs with
            | nil => cases q
            | cons x r => exact ⟨x, r, rfl⟩
          | _ => cases q
        · refine .inr fun d hd => ?_
          have q := List.all_eq_true.mp s2 d hd
          cases d with
          | int i => exact ⟨(by intro z; cases z), (by intro xs z; cases z)⟩
          | str i => exact ⟨(by intro z; cases z), (by intro xs z; cases z)⟩
          | _ => cases q
      · have q : b.2 ∈ xs := by rw [← em]; exact List.mem_map_of_mem hb
        have q2 := SeqAt.depth_of_shaped (List.all_eq_true.mp s3 _ q)
        have := hr.un
        omega
      · obtain ⟨ep, he'⟩ := PyProof.Rows.sortedAll_at s.heap its out.toArray
        obtain ⟨v1, v2⟩ := each_out h2
        have e2 := sort_snd (ys.zip xs)
        rw [em] at e2
        have e2' : ((ys.zip xs).mergeSort (PySem.W.dataLe false Prod.snd)).map (·.2) = xs.mergeSort dle := e2
        rw [e2'] at v2
        have hz' := hz _ _ (I.hok.fresh (Nat.le_succ _)) v2
        have hlen2 : (((ys.zip xs).mergeSort (PySem.W.dataLe false Prod.snd)).map (·.1)).length ≤ sizeLine := by rw [List.length_map, List.length_mergeSort, hlen]; exact szl_ok hn
        exact ⟨.ref _, _, I.laid (t' := s.toks) (fun _ _ => PyProof.Rows.sortedAll_old) (Nat.le_succ _) (show ObjOk X.prog X.w _ _ _ (.lst (((ys.zip xs).mergeSort (PySem.W.dataLe false Prod.snd)).map (·.1))) from ⟨hlen2, out, ep, v1, he'⟩), rfl, hz'⟩
    · cases ez
  · cases ez
end
end BD

set_option Elab.async false
set_option linter.all false
set_option maxRecDepth 100000
set_option maxHeartbeats 1000000
namespace BD
open PySem PySem.Spec PyProof.Rows L2

/-! ### isinstance -/
def Ty.name : Ty → String
  | .int => "int" | .bool => "bool" | .str => "str" | .tuple => "tuple" | .list => "list" | .dict => "dict"
def nameD : D → String
  | .none => "NoneType" | .bool _ => "bool" | .int _ => "int" | .str _ => "str" | .tuple _ => "tuple" | .list _ => "list" | .dict _ => "dict"
theorem kitB_all : ∀ (T : Ty) (d : D), kitB (nameD d) T.name = some (isTb T d) := by
  intro T d
  cases T <;> cases d <;> first | (simp only [nameD, Ty.name, isTb]; decide +kernel)
section
variable {X : Cx} {W : WX} {k : Nat} {pos : Pos}
theorem mark_not {K : PySem.W.Frag} {M : MS} {H : Hp} {d : D} {v : V} (h : WRep K M H d v) (hm : mark d = false) : TyX K H v (.type (nameD d)) := by
  cases h with
  | own h _ => exact .base (.lst h)
  | rep h =>
    cases h with
    | non => exact .base .non
    | bl b => exact .base (.bl b)
    | int i => exact .base (.int i)
    | str x => exact .base (.str x)
    | lst _ h _ => exact .base (.lst h)
    | tup h _ =>
      rcases h with (h | ⟨o, h⟩) | ⟨o, its, n, hk, hc, _⟩
      · exact .base (.tup h)
      · exact .fTuple h
      · exact .kTuple hk hc
    | dic _ h _ => exact .base (.dK h)
    | frz _ _ => cases hm
/-- isinstance(x, T) -/
theorem is_core {T : Ty} {p : PV} {v : V} {F : Fm} {st : Sx} {σ : L2.St} {H : Hp} {β : Type} {R : Sx → Hp → Bool → β → Prop} {Q : β → Hp → Prop} (l : Lk X.K F st σ H) (r : RK1 X F σ st H p v) (h : Post X W F R st σ H (Rz.of ((res st p).bind (isT T)) st) Q) :
    ∃ d, TyX X.K H v (.type (nameD d)) ∧ Post X W F R st σ H (.ok (isTb T d) st) Q := by
  obtain ⟨z, ez, hz⟩ := Post.of h
  cases e1 : res st p with
  | none => rw [e1] at ez; cases ez
  | some d =>
    rw [e1] at ez
    have ez : isT T d = some z := ez
    unfold isT at ez
    split at ez
    · cases ez
    · rename_i hm
      cases ez
      exact ⟨d, mark_not (res_ok l r e1) (by simpa using hm), hz⟩
theorem dv_is {a : Expr} {fa : KS} {x T' : Str} {p pt : Pos} (T : Ty) (ha : DK X W a fa) (hg : Gl X x) (hm : X.mg x = none) (hv : bootBuiltins x = some (.builtin "isinstance")) (hgT : Gl X T') (hmT : X.mg T' = none) (hvT : bootBuiltins T' = some (.type T.name)) (hn : x ≠ "__name__" := by decide)
    (hn' : T' ≠ "__name__" := by decide) (hdb : (x == ("__debug__" : Str)) = false := by decide) (hdb' : (T' == ("__debug__" : Str)) = false := by decide)
    (he : starEach [a, .Name T' pt] X.env = [(false, eval a X.env), (false, eval (.Name T' pt) X.env)] := by rfl) (he2 : starEach [.Name T' pt] X.env = [(false, eval (.Name T' pt) X.env)] := by rfl) (hpl : (backTo pos (starEach [.Name T' pt] X.env)).any (·.1) = false := by rfl) :
    DV X W (.Call (.Name x p) [a, .Name T' pt] [] pos) (bIs T fa) := by
  refine PE.weak (pe_callB call_isi hg hm hv (pa_cons ha (pa_cons (pe_bltn (v := .ty T.name) hgT hmT hvT rfl hn' hdb') pa_nil he2) (by rw [he, he2])) hn hdb (by rw [he, he2]) hpl) fun σ H Q ⟨F, st, l, w⟩ => ⟨F, st, l, Post.bind w fun q st1 v H1 l1 r1 f1 w1 => ?_⟩
  obtain ⟨d, ty, z⟩ := is_core l1 r1 w1
  exact ⟨v, .ty T.name, _, _, _, rfl, .ty _, ty, kit_ty (kitB_all T d), z _ H1 l1 rfl Fs.refl⟩
/-! ### subscripts, slices -/
theorem ixN_eq (n : Nat) (i : Int) : BD.ixN n i = L2.ixN n i := rfl
theorem atD_some {α : Type} {xs : List α} {i : Int} {x : α} (h : atD xs i = some x) : ∃ j : Nat, L2.ixN xs.length i = some j ∧ xs[j]? = some x := by
  unfold atD at h
  cases q : BD.ixN xs.length i with
  | none => rw [q] at h; cases h
  | some j => rw [q] at h; exact ⟨j, q, h⟩
theorem reps_at {K : PySem.W.Frag} {M : MS} {H : Hp} {xs : List D} {vs : List V} {i : Int} {d : D} (r : Reps K M H xs vs) (h : atD xs i = some d) : ∃ v, atI vs i = some v ∧ Rep K M H d v := by
  obtain ⟨j, h1, h2⟩ := atD_some h
  obtain ⟨v, h3, h4⟩ := r.get h2
  refine ⟨v, ?_, h4⟩
  unfold atI
  rw [← r.length, h1]
  exact h3
theorem de_ix {a b : Expr} {fa fb : KS} (ha : DK X W a fa) (hb : DK X W b fb) (hs : PlainIx b := by intro _ _; rfl) : DE X W (.Subscript a b pos) (eOp idxD fa fb) := by
  refine PE.weak (pe_ix ix_seq ha hb hs) fun σ H Q ⟨F, st, l, h⟩ => ⟨F, st, l, Post.bind h fun p st1 x H1 l1 r1 f1 h1 => ⟨F, st1, l1, Post.bind h1 fun q st2 y H2 l2 r2 f2 h2 => ?_⟩⟩
  obtain ⟨z, ez, hz⟩ := Post.of h2
  cases e1 : res st2 p with
  | none => rw [e1] at ez; cases ez
  | some d =>
    cases e2 : res st2 q with
    | none => rw [e1, e2] at ez; cases ez
    | some e =>
      rw [e1, e2] at ez
      have ez : idxD d e = some z := ez
      have u1 := res_ok l2 (r1.mono f2.fr) e1
      have u2 := res_ok l2 r2 e2
      unfold idxD at ez
      split at ez
      · cases u2.int
        obtain ⟨p, vs, rfl, h, r⟩ := u1.lst
        obtain ⟨v, h3, h4⟩ := reps_at r ez
        exact .inl ⟨p, vs, _, v, rfl, rfl, .inl (.inl h), h3, hz v H2 l2 h4 Fs.refl⟩
      · cases u2.int
        obtain ⟨p, vs, rfl, h, r⟩ := u1.tup
        obtain ⟨v, h3, h4⟩ := reps_at r ez
        exact .inr (.inl ⟨p, vs, _, v, rfl, rfl, h, h3, hz v H2 l2 h4 Fs.refl⟩)
      · cases u2.int
        obtain ⟨p, vs, rfl, h, r⟩ := u1.frz
        obtain ⟨v, h3, h4⟩ := reps_at r ez
        exact .inl ⟨p, vs, _, v, rfl, rfl, h.sq, h3, hz v H2 l2 h4 Fs.refl⟩
      · split at ez
        · rename_i hs
          cases u2.int
          cases u1.str
          rw [Option.map_eq_some_iff] at ez
          obtain ⟨c, q, rfl⟩ := ez
          obtain ⟨j, h1, h2⟩ := atD_some q
          exact .inr (.inr ⟨_, _, c, rfl, rfl, szl_ok hs, by unfold atI; rw [h1]; exact h2, hz _ H2 l2 (.str _) Fs.refl⟩)
        · cases ez
      · cases ez
def rdO (X : Cx) (W : WX) (f : OS) : TO := fun σ H Q => ∃ F st, Lk X.K F st σ H ∧ Post X W F (fun _ _ a b => a = b) st σ H (f st) Q
def DO (X : Cx) (W : WX) (e : Option Expr) (f : OS) : Prop := PO X e (rdO X W f)
theorem PO.weak {X : Cx} {e : Option Expr} {t t' : TO} (h : PO X e t) (i : ∀ σ H Q, t' σ H Q → t σ H Q) : PO X e t' := ⟨fun pins s σ H Q I w => h.run pins s σ H Q I (i σ H Q w)⟩
theorem do_no : DO X W none oNo := PO.weak po_none fun σ H Q ⟨F, st, l, w⟩ => w none H l rfl Fs.refl
theorem do_e {e : Expr} {f : ES} (h : DE X W e f) : DO X W (some e) (oE f) := by
  refine PO.weak (po_some h) fun σ H Q ⟨F, st, l, w⟩ => ⟨F, st, l, Post.bind w fun d st1 v H1 l1 r1 f1 w1 => ?_⟩
  cases d with
  | int i => cases r1; exact ⟨i, rfl, w1 _ H1 l1 rfl Fs.refl⟩
  | _ => exact w1.elim
theorem sIx_eq (n d : Nat) (o : Option Int) : BD.sIx n d o = HT.sIx n d o := by cases o <;> rfl
theorem reps_cut {K : PySem.W.Frag} {M : MS} {H : Hp} {xs : List D} {vs : List V} (r : Reps K M H xs vs) (lo hi : Option Int) : Reps K M H (cutD xs lo hi) (cutV vs lo hi) := by
  unfold cutD cutV
  rw [sIx_eq, sIx_eq, r.length]
  exact (r.drop _).take _
theorem cut_whole {α : Type} {xs : List α} {lo hi : Option Int} (h : HT.sIx xs.length 0 lo = 0 ∧ HT.sIx xs.length xs.length hi = xs.length) : cutD xs lo hi = xs := by
  unfold cutD
  rw [sIx_eq, sIx_eq, h.1, h.2]
  simp
/-- a slice -/
theorem de_sl {a : Expr} {fa : KS} {lo hi : Option Expr} {fl fh : OS} {p2 : Pos} (ha : DK X W a fa) (hl : DO X W lo fl) (hh : DO X W hi fh) : DE X W (.Subscript a (.Slice lo hi none p2) pos) (eSl fa fl fh) := by
  refine PE.weak (pe_slice (SlR.or sl_tupA (SlR.or sl_list sl_str)) ha hl hh) fun σ H Q ⟨F, st, l, h⟩ => ⟨F, st, l, Post.bind h fun p st1 x H1 l1 r1 f1 h1 => ⟨F, st1, l1, Post.bind h1 fun lo st2 y H2 l2 r2 f2 h2 => ⟨F, st2, l2, Post.bind h2 fun hi st3 y3 H3 l3 r3 f3 h3 => ?_⟩⟩⟩
  subst r2 r3
  obtain ⟨z, ez, hz⟩ := Post.of h3
  cases e1 : res st3 p with
  | none => rw [e1] at ez; cases ez
  | some d =>
    rw [e1] at ez
    have ez : sliceD d lo hi = some z := ez
    have u1 := res_ok l3 ((r1.mono f2.fr).mono f3.fr) e1
    unfold sliceD at ez
    split at ez
    · cases ez
      obtain ⟨p, vs, rfl, h, r⟩ := u1.lst
      exact .inr (.inl ⟨p, vs, rfl, .inl (.inl h), fun p hp => hz _ _ (l3.new hp _) (rep_newL l3 hp (reps_cut r _ _)) (Fs.new l3 hp)⟩)
    · cases ez
      obtain ⟨p, vs, rfl, h, r⟩ := u1.tup
      refine .inl ⟨p, vs, rfl, h, fun hw => ?_, fun hw p hp => hz _ _ (l3.new hp _) (rep_newT hp (reps_cut r _ _)) (Fs.new l3 hp)⟩
      rw [← r.length] at hw
      rw [cut_whole hw] at hz
      exact hz _ H3 l3 (.tup h r) Fs.refl
    · split at ez
      · rename_i hs
        cases ez
        cases u1.str
        refine .inr (.inr ⟨_, rfl, szl_ok hs, ?_⟩)
        have q := hz _ H3 l3 (.str _) Fs.refl
        rw [sIx_eq, sIx_eq] at q
        exact q
      · cases ez
    · cases ez
/-- a list's slice: a new list -/
theorem dl_sl {a : Expr} {fa : KS} {lo hi : Option Expr} {fl fh : OS} {p2 : Pos} (ha : DK X W a fa) (hl : DO X W lo fl) (hh : DO X W hi fh) : DL X W (.Subscript a (.Slice lo hi none p2) pos) (lSl fa fl fh) := by
  refine PE.weak (pe_slice sl_list ha hl hh) fun σ H Q ⟨F, st, l, h⟩ => ⟨F, st, l, Post.bind h fun p st1 x H1 l1 r1 f1 h1 => ⟨F, st1, l1, Post.bind h1 fun lo st2 y H2 l2 r2 f2 h2 => ⟨F, st2, l2, Post.bind h2 fun hi st3 y3 H3 l3 r3 f3 h3 => ?_⟩⟩⟩
  subst r2 r3
  obtain ⟨z, ez, hz⟩ := Post.of h3
  cases e1 : res st3 p with
  | none => rw [e1] at ez; cases ez
  | some d =>
    rw [e1] at ez
    have ez : cutL d lo hi = some z := ez
    have u1 := res_ok l3 ((r1.mono f2.fr).mono f3.fr) e1
    unfold cutL at ez
    split at ez
    · cases ez
      obtain ⟨p, vs, rfl, h, r⟩ := u1.lst
      exact ⟨p, vs, rfl, .inl (.inl h), fun p hp => hz _ _ (l3.new hp _) (rl_new l3 hp (reps_cut r _ _) (f1.fr.there _ (f2.fr.there _ (f3.fr.there _ hp)))) (Fs.new l3 hp)⟩
    · cases ez
theorem dl_rev {a : Expr} {fa : KS} {k' : Nat} {p1 p2 p3 : Pos} (ha : DK X W a fa) : DL X W (.Subscript a (.Slice none none (some (.UnaryOp .USub (.Constant (.int 1) k' p1) p2)) p3) pos) (lRev fa) := by
  refine PE.weak (pe_revL ha) fun σ H Q ⟨F, st, l, h⟩ => ⟨F, st, l, Post.bind h fun p st1 x H1 l1 r1 f1 h1 => ?_⟩
  obtain ⟨z, ez, hz⟩ := Post.of h1
  cases e1 : res st1 p with
  | none => rw [e1] at ez; cases ez
  | some d =>
    rw [e1] at ez
    have ez : revL d = some z := ez
    have u1 := res_ok l1 r1 e1
    unfold revL at ez
    split at ez
    · cases ez
      obtain ⟨p, vs, rfl, h, r⟩ := u1.lst
      exact ⟨p, vs, rfl, .inl (.inl h), fun p hp => hz _ _ (l1.new hp _) (rl_new l1 hp r.rev (f1.fr.there _ hp)) (Fs.new l1 hp)⟩
    · cases ez
theorem dl_cat {a b : Expr} {fa fb : KS} (ha : DK X W a fa) (hb : DK X W b fb) : DL X W (.BinOp a .Add b pos) (lCat fa fb) := by
  refine PE.weak (pe_op op_cat ha hb) fun σ H Q ⟨F, st, l, h⟩ => ⟨F, st, l, Post.bind h fun p st1 x H1 l1 r1 f1 h1 => ⟨F, st1, l1, Post.bind h1 fun q st2 y H2 l2 r2 f2 h2 => ?_⟩⟩
  obtain ⟨z, ez, hz⟩ := Post.of h2
  cases e1 : res st2 p with
  | none => rw [e1] at ez; cases ez
  | some d =>
    cases e2 : res st2 q with
    | none => rw [e1, e2] at ez; cases ez
    | some e =>
      rw [e1, e2] at ez
      dsimp only [Option.bind] at ez
      have u1 := res_ok l2 (r1.mono f2.fr) e1
      have u2 := res_ok l2 r2 e2
      split at ez
      · split at ez
        · rename_i hs
          cases ez
          obtain ⟨a, vs, rfl, h1, r1⟩ := u1.lst
          obtain ⟨b, us, rfl, h2, r2⟩ := u2.lst
          rw [r1.length, r2.length] at hs
          exact ⟨a, b, vs, us, rfl, rfl, h1, h2, szl_ok hs, fun p hp => hz _ _ (l2.new hp _) (rl_new l2 hp (r1.append r2) (f1.fr.there _ (f2.fr.there _ hp))) (Fs.new l2 hp)⟩
        · cases ez
      · cases ez
/-! ### list(range(..)) -/
theorem reps_upto {K : PySem.W.Frag} {M : MS} {H : Hp} (f : Nat → Int) : ∀ l : List Nat, Reps K M H (l.map fun i => PyData.int (f i)) (l.map fun i => V.int (f i))
  | [] => .nil
  | _ :: r => .cons (.int _) (reps_upto f r)
theorem upto_len (i : Int) (n : Nat) : (upto i n).length = n := by unfold upto; rw [List.length_map, List.length_range]
theorem rg2_some {d e : D} {z : List D} (h : rg2 d e = some z) : ∃ i j : Int, d = .int i ∧ e = .int j ∧ rngOk i ∧ rngOk j ∧ z = upto i (j - i).toNat := by
  unfold rg2 at h
  cases d with
  | int i => cases e with
    | int j =>
      dsimp only [asI, Option.bind] at h
      split at h
      · rename_i hh
        cases h
        exact ⟨i, j, rfl, rfl, hh.1, hh.2, rfl⟩
      · cases h
    | _ => cases h
  | _ => cases h
theorem dl_rg1 {a : Expr} {fa : ES} {p p2 pos2 : Pos} (hc : X.calm = true) (hg : Gl X "list") (hm : X.mg "list" = none) (hg2 : Gl X "range") (hm2 : X.mg "range" = none) (ha : DE X W a fa) (na : starEach [a] X.env = (false, eval a X.env) :: starEach [] X.env := by rfl)
    (nb : starEach [.Call (.Name "range" p2) [a] [] pos2] X.env = (false, eval (.Call (.Name "range" p2) [a] [] pos2) X.env) :: starEach [] X.env := by rfl) : DL X W (.Call (.Name "list" p) [.Call (.Name "range" p2) [a] [] pos2] [] pos) (lRg1 fa) := by
  refine PE.weak (pe_listRg hc hg hm (prg_1 hg2 hm2 ha na) nb) fun σ H Q ⟨F, st, l, h⟩ => ⟨F, st, l, Post.bind h fun d st1 x H1 l1 r1 f1 h1 => ?_⟩
  obtain ⟨z, ez, hz⟩ := Post.of h1
  cases q : rg2 (.int 0) d with
  | none => rw [q] at ez; cases ez
  | some xs =>
    rw [q] at ez
    dsimp only [Option.bind] at ez
    split at ez
    · rename_i hl
      cases ez
      obtain ⟨i, j, e1, e2, k1, k2, e3⟩ := rg2_some q
      cases e1
      subst e2
      cases r1
      subst e3
      rw [upto_len] at hl
      refine ⟨j, rfl, ⟨by decide, by decide, k2.1, k2.2, Nat.le_trans hl (by decide)⟩, fun q hq => hz _ _ (l1.new hq _) (rl_new l1 hq (reps_upto _ _) (f1.fr.there _ hq)) (Fs.new l1 hq)⟩
    · cases ez
theorem dl_rg2 {a b : Expr} {fa fb : ES} {p p2 pos2 : Pos} (hc : X.calm = true) (hg : Gl X "list") (hm : X.mg "list" = none) (hg2 : Gl X "range") (hm2 : X.mg "range" = none) (ha : DE X W a fa) (hb : DE X W b fb) (na : starEach [a, b] X.env = (false, eval a X.env) :: starEach [b] X.env := by rfl)
    (nb' : starEach [b] X.env = (false, eval b X.env) :: starEach [] X.env := by rfl) (hp : (backTo pos2 (starEach [b] X.env)).any (·.1) = false := by rfl)
    (nb : starEach [.Call (.Name "range" p2) [a, b] [] pos2] X.env = (false, eval (.Call (.Name "range" p2) [a, b] [] pos2) X.env) :: starEach [] X.env := by rfl) : DL X W (.Call (.Name "list" p) [.Call (.Name "range" p2) [a, b] [] pos2] [] pos) (lRg2 fa fb) := by
  refine PE.weak (pe_listRg hc hg hm (prg_2 hg2 hm2 ha hb na nb' hp) nb) fun σ H Q ⟨F, st, l, h⟩ => ⟨F, st, l, Post.bind h fun d st1 x H1 l1 r1 f1 h1 => ⟨F, st1, l1, Post.bind h1 fun e st2 y H2 l2 r2 f2 h2 => ?_⟩⟩
  obtain ⟨z, ez, hz⟩ := Post.of h2
  cases q : rg2 d e with
  | none => rw [q] at ez; cases ez
  | some xs =>
    rw [q] at ez
    dsimp only [Option.bind] at ez
    split at ez
    · rename_i hl
      cases ez
      obtain ⟨i, j, e1, e2, k1, k2, e3⟩ := rg2_some q
      subst e1 e2
      cases r1
      cases r2
      subst e3
      rw [upto_len] at hl
      refine ⟨i, j, rfl, rfl, ⟨k1.1, k1.2, k2.1, k2.2, Nat.le_trans hl (by decide)⟩, fun q hq => hz _ _ (l2.new hq _) (rl_new l2 hq (reps_upto _ _) (f1.fr.there _ (f2.fr.there _ hq))) (Fs.new l2 hq)⟩
    · cases ez
end
end BD

set_option Elab.async false
set_option linter.all false
set_option maxRecDepth 100000
set_option maxHeartbeats 1000000
namespace BD
open PySem PySem.Spec PyProof.Rows L2

/-! ### a slot is set -/
section
variable {K : PySem.W.Frag} {F : Fm} {st : Sx} {σ : L2.St} {H H' : Hp} {i : Nat}
theorem getS {L : List Loc} {x : Loc} {j : Nat} {z : Loc} (h : (L.set i x)[j]? = some z) : (j = i ∧ z = x ∧ i < L.length) ∨ (j ≠ i ∧ L[j]? = some z) := by
  by_cases hj : j = i
  · subst hj
    have hl : j < (L.set j x).length := (List.getElem?_eq_some_iff.mp h).1
    rw [List.length_set] at hl
    rw [List.getElem?_set_self hl] at h
    cases h
    exact .inl ⟨rfl, rfl, hl⟩
  · rw [List.getElem?_set_ne (Ne.symm hj)] at h
    exact .inr ⟨hj, h⟩
theorem free_not {l : Option Loc} (h : free l = true) : ∀ xs, l ≠ some (.lent xs) := fun xs e => by subst e; cases h
theorem free_pot {l : Option Loc} (h : free l = true) : l ≠ some .pot := fun e => by subst e; cases h
theorem md_set {x : Loc} {v : V} (hx : ∀ ys, x.ls = some ys → ∃ a, v = .ref a ∧ Md F st σ a) (b : Addr) (h : Md F { st with L := st.L.set i x } (σ.set i (some v)) b) : Md F st σ b := by
  rcases h with h | ⟨j, m, ys, h1, h2, h3⟩
  · exact .inl h
  · rcases getS h1 with ⟨rfl, rfl, hl⟩ | ⟨hj, h1⟩
    · obtain ⟨a, e, q⟩ := hx ys h2
      by_cases hs : j < σ.length
      · rw [List.getElem?_set_self hs] at h3
        cases h3
        cases e
        exact q
      · rw [List.getElem?_eq_none (by simpa using hs)] at h3
        cases h3
    · rw [List.getElem?_set_ne (Ne.symm hj)] at h3
      exact .inr ⟨j, m, ys, h1, h2, h3⟩
theorem lnt_set {x : Loc} {v : V} (hf : free st.L[i]? = true) : ∀ (j : Nat) (xs : List D), st.L[j]? = some (.lent xs) → ({ st with L := st.L.set i x } : Sx).L[j]? = some (.lent xs) ∧ (σ.set i (some v))[j]? = σ[j]? := fun j xs e => by
  have hj : i ≠ j := fun z => by subst z; exact free_not hf xs e
  exact ⟨by show (st.L.set i x)[j]? = _; rw [List.getElem?_set_ne hj]; exact e, List.getElem?_set_ne hj⟩
/-- data -/
theorem Lk.setDat {d : D} {v : V} (l : Lk K F st σ H) (r : Rep K (Md F st σ) H d v) (hf : free st.L[i]? = true) : Lk K F { st with L := st.L.set i (.dat d) } (σ.set i (some v)) H ∧ Fs F st σ { st with L := st.L.set i (.dat d) } (σ.set i (some v)) H H := by
  have sub := md_set (F := F) (st := st) (σ := σ) (i := i) (x := .dat d) (v := v) (fun ys e => by cases e)
  have f : Fr (Md F st σ) (Md F { st with L := st.L.set i (.dat d) } (σ.set i (some v))) H H := Fr.sub sub
  refine ⟨⟨by simp [l.len], fun j z hz => ?_, fun j k m1 m2 xs ys a h1 e1 h2 e2 h3 h4 => ?_, l.pot, l.mo⟩, f, fun _ _ _ => rfl, lnt_set hf⟩
  · rcases getS hz with ⟨rfl, rfl, hl⟩ | ⟨hj, hz⟩
    · exact ⟨v, by rw [List.getElem?_set_self (by rw [l.len]; exact hl)], r.mono f⟩
    · have s := l.slot j z hz
      have es : (σ.set i (some v))[j]? = σ[j]? := List.getElem?_set_ne (Ne.symm hj)
      cases z with
      | non => trivial
      | dat d => obtain ⟨v, e, r⟩ := s; exact ⟨v, es.trans e, r.mono f⟩
      | own xs => obtain ⟨a, vs, e, e2, n, r⟩ := s; exact ⟨a, vs, es.trans e, e2, n, r.mono f⟩
      | lent xs => obtain ⟨a, vs, e, e2, n, r⟩ := s; exact ⟨a, vs, es.trans e, e2, n, r.mono f⟩
      | pot => obtain ⟨a, e, e2⟩ := s; exact ⟨a, e, es.trans e2⟩
  · rcases getS h1 with ⟨rfl, rfl, _⟩ | ⟨hj, h1⟩
    · cases e1
    · rcases getS h2 with ⟨rfl, rfl, _⟩ | ⟨hk, h2⟩
      · cases e2
      · rw [List.getElem?_set_ne (Ne.symm hj)] at h3
        rw [List.getElem?_set_ne (Ne.symm hk)] at h4
        exact l.inj j k m1 m2 xs ys a h1 e1 h2 e2 h3 h4
/-- a new list -/
theorem Lk.setNew {xs : List D} {vs : List V} {a : Addr} (l : Lk K (F.add a) st σ H) (ha : H a = some (.lst vs)) (r : Reps K (Md (F.add a) st σ) H xs vs) (hp : F.pa ≠ some a) (nm : ¬ Md F st σ a) (hf : free st.L[i]? = true) {H0 : Hp} {st0 : Sx} {σ0 : L2.St}
    (fs : Fs F st0 σ0 st σ H0 H) (h0 : H0 a = none) : Lk K F { st with L := st.L.set i (.own xs) } (σ.set i (some (.ref a))) H ∧ Fs F st0 σ0 { st with L := st.L.set i (.own xs) } (σ.set i (some (.ref a))) H0 H := by
  have sub : ∀ b, Md F { st with L := st.L.set i (.own xs) } (σ.set i (some (.ref a))) b → Md F st σ b ∨ b = a := fun b h => by
    have h' : Md (F.add a) { st with L := st.L.set i (.own xs) } (σ.set i (some (.ref a))) b := Md.add.mpr (.inl h)
    exact Md.add.mp (md_set (F := F.add a) (st := st) (σ := σ) (i := i) (x := .own xs) (v := .ref a) (fun ys e => ⟨a, rfl, Md.add.mpr (.inr rfl)⟩) b h')
  have f : Fr (Md (F.add a) st σ) (Md F { st with L := st.L.set i (.own xs) } (σ.set i (some (.ref a)))) H H := Fr.sub fun b h => Md.add.mpr (sub b h)
  refine ⟨⟨by simp [l.len], fun j z hz => ?_, fun j k m1 m2 xs ys b h1 e1 h2 e2 h3 h4 => ?_, fun b e => ?_, fun b m => l.mo b (.inl m)⟩, ⟨fun b o e hm => fs.fr.keep b o e hm, fun b h => ?_, fs.fr.there⟩, fs.out, fun j ys e => ?_⟩
  · rcases getS hz with ⟨rfl, rfl, hl⟩ | ⟨hj, hz⟩
    · exact ⟨a, vs, by rw [List.getElem?_set_self (by rw [l.len]; exact hl)], ha, fun z => nm (.inl z), r.mono f⟩
    · have s := l.slot j z hz
      have es : (σ.set i (some (V.ref a)))[j]? = σ[j]? := List.getElem?_set_ne (Ne.symm hj)
      cases z with
      | non => trivial
      | dat d => obtain ⟨v, e, r⟩ := s; exact ⟨v, es.trans e, r.mono f⟩
      | own xs => obtain ⟨a, vs, e, e2, n, r⟩ := s; exact ⟨a, vs, es.trans e, e2, fun z => n (.inl z), r.mono f⟩
      | lent xs => obtain ⟨a, vs, e, e2, n, r⟩ := s; exact ⟨a, vs, es.trans e, e2, fun z => n (.inl z), r.mono f⟩
      | pot => obtain ⟨a, e, e2⟩ := s; exact ⟨a, e, es.trans e2⟩
  · have other : ∀ {j : Nat} {m : Loc} {xs : List D}, st.L[j]? = some m → m.ls = some xs → σ[j]? = some (some (V.ref a)) → False := fun h1 e1 h3 => nm (.inr ⟨_, _, _, h1, e1, h3⟩)
    have g1 := getS h1
    clear h1
    rcases g1 with ⟨rfl, rfl, hl⟩ | ⟨hj, h1⟩
    · rw [List.getElem?_set_self (by rw [l.len]; exact hl)] at h3
      cases h3
      rcases getS h2 with ⟨rfl, rfl, _⟩ | ⟨hk, h2⟩
      · rfl
      · rw [List.getElem?_set_ne (Ne.symm hk)] at h4
        exact (other h2 e2 h4).elim
    · rw [List.getElem?_set_ne (Ne.symm hj)] at h3
      rcases getS h2 with ⟨rfl, rfl, hl⟩ | ⟨hk, h2⟩
      · rw [List.getElem?_set_self (by rw [l.len]; exact hl)] at h4
        cases h4
        exact (other h1 e1 h3).elim
      · rw [List.getElem?_set_ne (Ne.symm hk)] at h4
        exact l.inj j k m1 m2 _ _ b h1 e1 h2 e2 h3 h4
  · obtain ⟨m, q⟩ := l.pot b e
    rcases m with m | m
    · exact ⟨m, q⟩
    · subst m; exact absurd e hp
  · rcases sub b h with z | z
    · exact fs.fr.grow b z
    · exact .inr (z ▸ h0)
  · obtain ⟨q1, q2⟩ := fs.lnt j ys e
    obtain ⟨q3, q4⟩ := lnt_set (σ := σ) (x := .own xs) (v := .ref a) hf j ys q1
    exact ⟨q3, q4.trans q2⟩
/-- the own list at a slot is changed -/
theorem Lk.chg {xs ys : List D} {vs us : List V} {a : Addr} (l : Lk K F st σ H) (hi : st.L[i]? = some (.own xs)) (hs : σ[i]? = some (some (.ref a))) (ha : H a = some (.lst vs)) (r : Reps K (Md F st σ) H ys us) :
    Lk K F { st with L := st.L.set i (.own ys) } σ (upd H a (.lst us)) ∧ Fs F st σ { st with L := st.L.set i (.own ys) } σ H (upd H a (.lst us)) ∧ ∀ d v, Rep K (Md F st σ) H d v → Rep K (Md F { st with L := st.L.set i (.own ys) } σ) (upd H a (.lst us)) d v := by
  have hil : i < st.L.length := (List.getElem?_eq_some_iff.mp hi).1
  have ma : Md F st σ a := .inr ⟨i, _, _, hi, rfl, hs⟩
  obtain ⟨a', vs', q1, q2, nmo, _⟩ := l.list hi rfl
  rw [hs] at q1
  cases q1
  have sub : ∀ b, Md F { st with L := st.L.set i (.own ys) } σ b → Md F st σ b := fun b h => by
    rcases h with h | ⟨j, m, zs, h1, h2, h3⟩
    · exact .inl h
    · rcases getS h1 with ⟨rfl, rfl, _⟩ | ⟨_, h1⟩
      · rw [hs] at h3; cases h3; exact ma
      · exact .inr ⟨j, m, zs, h1, h2, h3⟩
  have f : Fr (Md F st σ) (Md F { st with L := st.L.set i (.own ys) } σ) H (upd H a (.lst us)) := by
    refine ⟨fun b o e hm => ?_, fun b h => .inl (sub b h), fun b h => ?_⟩
    · by_cases hb : b = a
      · subst hb
        have q := hm ma
        rw [e] at ha
        cases ha
        cases q
      · rw [upd_ne hb]; exact e
    · by_cases hb : b = a
      · subst hb; rw [upd_same] at h; cases h
      · rw [upd_ne hb] at h; exact h
  have oth : ∀ {j : Nat} {m : Loc} {zs : List D} {b : Addr}, j ≠ i → st.L[j]? = some m → m.ls = some zs → σ[j]? = some (some (V.ref b)) → b ≠ a := fun {j m zs b} hj h1 h2 h3 z => by
    subst z
    exact hj (l.inj j i m _ zs xs b h1 h2 hi rfl h3 hs)
  refine ⟨⟨by rw [l.len]; simp, fun j z hz => ?_, fun j k m1 m2 xs1 ys1 b h1 e1 h2 e2 h3 h4 => ?_, fun b e => ?_, fun b m => ?_⟩, ⟨f, fun b m n => ?_, fun j zs e => ⟨?_, rfl⟩⟩, fun d v r => r.mono f⟩
  · rcases getS hz with ⟨rfl, rfl, hl⟩ | ⟨hj, hz⟩
    · exact ⟨a, us, hs, upd_same, nmo, r.mono f⟩
    · have s := l.slot j z hz
      cases z with
      | non => trivial
      | dat d => obtain ⟨v, e, r⟩ := s; exact ⟨v, e, r.mono f⟩
      | own xs => obtain ⟨b, vs, e, e2, n, r⟩ := s; exact ⟨b, vs, e, by rw [upd_ne (oth hj hz rfl e)]; exact e2, n, r.mono f⟩
      | lent xs => obtain ⟨b, vs, e, e2, n, r⟩ := s; exact ⟨b, vs, e, by rw [upd_ne (oth hj hz rfl e)]; exact e2, n, r.mono f⟩
      | pot => exact s
  · have norm : ∀ {j : Nat} {m : Loc} {zs : List D}, (st.L.set i (.own ys))[j]? = some m → m.ls = some zs → ∃ m' zs', st.L[j]? = some m' ∧ m'.ls = some zs' := fun {j m zs} h e => by
      rcases getS h with ⟨rfl, rfl, _⟩ | ⟨_, h⟩
      · exact ⟨_, _, hi, rfl⟩
      · exact ⟨_, _, h, e⟩
    obtain ⟨m1', z1, g1, g2⟩ := norm h1 e1
    obtain ⟨m2', z2, g3, g4⟩ := norm h2 e2
    exact l.inj j k _ _ _ _ b g1 g2 g3 g4 h3 h4
  · obtain ⟨m, q⟩ := l.pot b e
    refine ⟨m, ?_⟩
    rw [upd_ne (fun z => by subst z; exact nmo m)]
    exact q
  · by_cases hb : b = a
    · subst hb; exact ⟨_, upd_same⟩
    · rw [upd_ne hb]; exact l.mo b m
  · exact upd_ne fun z => by subst z; exact nmo m
  · show (st.L.set i (.own ys))[j]? = some (.lent zs)
    rw [List.getElem?_set_ne (fun z => by subst z; rw [hi] at e; cases e)]
    exact e
end

/-! ### targets -/
theorem wipe_get {σ : L2.St} : ∀ {vs : List Nat} {j : Nat}, (wipe σ vs)[j]? = if j ∈ vs then (σ[j]?).map (fun _ => none) else σ[j]?
  | [], j => by simp [wipe]
  | v :: vs, j => by
    unfold wipe
    by_cases hj : v = j
    · subst hj
      by_cases hl : v < σ.length
      · rw [List.getElem?_set_self (by rw [wipe_length]; exact hl)]
        simp [List.getElem?_eq_getElem hl]
      · rw [List.getElem?_eq_none (by rw [List.length_set, wipe_length]; omega)]
        simp [List.getElem?_eq_none (Nat.le_of_not_lt hl)]
    · rw [List.getElem?_set_ne hj, wipe_get]
      have : (j ∈ v :: vs) ↔ j ∈ vs := by rw [List.mem_cons]; exact ⟨fun h => h.elim (fun e => absurd e.symm hj) id, .inr⟩
      by_cases hv : j ∈ vs
      · rw [if_pos hv, if_pos (this.mpr hv)]
      · rw [if_neg hv, if_neg (fun h => hv (this.mp h))]
theorem wipe_set {σ : L2.St} {vs : List Nat} {i : Nat} {x : Option V} (h : i ∈ vs) : wipe (σ.set i x) vs = wipe σ vs := by
  apply List.ext_getElem?
  intro j
  rw [wipe_get, wipe_get]
  by_cases hj : j ∈ vs
  · rw [if_pos hj, if_pos hj]
    by_cases e : i = j
    · subst e
      by_cases hl : i < σ.length
      · rw [List.getElem?_set_self hl, List.getElem?_eq_getElem hl]; rfl
      · rw [List.getElem?_eq_none (by rw [List.length_set]; omega), List.getElem?_eq_none (by omega)]
    · rw [List.getElem?_set_ne e]
  · rw [if_neg hj, if_neg hj, List.getElem?_set_ne (fun e => by subst e; exact hj h)]
section
variable {X : Cx} {W : WX} {k : Nat} {pos : Pos}
/-- S: the slots that are set -/
def rdG (X : Cx) (g : GS) (S : List Nat) : TG := fun v σ H Q => ∃ F st d st', Lk X.K F st σ H ∧ Rep X.K (Md F st σ) H d v ∧ g d st = some st' ∧
  ∀ σ', Lk X.K F st' σ' H → Fs F st σ st' σ' H H → (∀ vs : List Nat, (∀ i ∈ S, i ∈ vs) → wipe σ' vs = wipe σ vs) → Q σ' H
def DG (X : Cx) (tg : Expr) (g : GS) (S : List Nat) : Prop := PG X tg (rdG X g S)
def rdGs (X : Cx) (gs : List GS) (S : List Nat) : TGs := fun vs σ H Q => ∃ F st ds st', Lk X.K F st σ H ∧ Reps X.K (Md F st σ) H ds vs ∧ gEach gs ds st = some st' ∧
  ∀ σ', Lk X.K F st' σ' H → Fs F st σ st' σ' H H → (∀ vs : List Nat, (∀ i ∈ S, i ∈ vs) → wipe σ' vs = wipe σ vs) → Q σ' H
def DGs (X : Cx) (tg : List Expr) (gs : List GS) (S : List Nat) : Prop := PGs X tg (rdGs X gs S)
theorem PG.weak {X : Cx} {e : Expr} {t t' : TG} (h : PG X e t) (i : ∀ v σ H Q, t' v σ H Q → t v σ H Q) : PG X e t' := ⟨fun pins s σ H v u Q I r w => h.run pins s σ H v u Q I r (i v σ H Q w)⟩
theorem PGs.weak {X : Cx} {e : List Expr} {t t' : TGs} (h : PGs X e t) (i : ∀ v σ H Q, t' v σ H Q → t v σ H Q) : PGs X e t' := ⟨fun pins s σ H v u Q I r w => h.run pins s σ H v u Q I r (i v σ H Q w)⟩
theorem dg_v (i : Nat) {x : Str} (hN : X.N.Nodup) (hi : X.N[i]? = some x) (hx : L2.Loc X.env.scope x) (hf : X.fn x = true ∨ X.env.scope.names.lookup x = some .local := by first | exact .inl rfl | exact .inr rfl | assumption) : DG X (.Name x pos) (gV i) [i] := by
  refine PG.weak (pg_name hN hi hx hf) fun v σ H Q ⟨F, st, d, st', l, r, e, q⟩ => ?_
  unfold gV at e
  split at e
  · rename_i hf
    cases e
    obtain ⟨l', f'⟩ := l.setDat r hf
    exact q _ l' f' fun vs hv => wipe_set (hv i (List.mem_cons_self ..))
  · cases e
theorem dgs_nil : DGs X [] [] [] := PGs.weak pgs_nil fun v σ H Q ⟨F, st, ds, st', l, r, e, q⟩ => by
  cases ds with
  | nil =>
    cases r
    cases e
    exact ⟨rfl, q _ l Fs.refl fun _ _ => rfl⟩
  | cons => cases e
theorem dgs_cons {e : Expr} {es : List Expr} {g : GS} {gs : List GS} {S S' : List Nat} (h1 : DG X e g S) (h2 : DGs X es gs S') (hs : (assignEach (e :: es) X.env).map (·.2) = assign e X.env :: (assignEach es X.env).map (·.2) := by rfl) : DGs X (e :: es) (g :: gs) (S ++ S') := by
  refine PGs.weak (pgs_cons h1 h2 hs) fun v σ H Q ⟨F, st, ds, st', l, r, e, q⟩ => ?_
  cases ds with
  | nil => cases e
  | cons d ds =>
    cases r with
    | cons r1 r2 =>
      have e : (g d st).bind (fun s1 => gEach gs ds s1) = some st' := e
      cases e1 : g d st with
      | some st1 =>
        rw [e1] at e
        exact ⟨_, _, rfl, F, st, d, st1, l, r1, e1, fun σ1 l1 f1 w1 => ⟨F, st1, ds, st', l1, r2.mono f1.fr, e, fun σ2 l2 f2 w2 => q σ2 l2 (f1.trans f2) fun vs hv =>
          (w2 vs fun i hi => hv i (List.mem_append_right _ hi)).trans (w1 vs fun i hi => hv i (List.mem_append_left _ hi))⟩⟩
      | none => rw [e1] at e; cases e
theorem gEach_len : ∀ {gs : List GS} {ds : List D} {st st' : Sx}, gEach gs ds st = some st' → ds.length = gs.length
  | [], [], _, _, _ => rfl
  | [], _ :: _, _, _, h => by cases h
  | _ :: _, [], _, _, h => by cases h
  | g :: gs, d :: ds, st, st', h => by
    have h : (g d st).bind (fun s1 => gEach gs ds s1) = some st' := h
    cases e1 : g d st with
    | some st1 => rw [e1] at h; simp [gEach_len h]
    | none => rw [e1] at h; cases h
theorem dg_tup {es : List Expr} {k : Nat} {gs : List GS} {S : List Nat} {n : Nat} (hc : X.calm = true) (h : DGs X es gs S) (hg : gs.length = n) (hn : (assignEach es X.env).length = n := by rfl) (hst : (assignEach es X.env).findIdx? (·.1) = none := by rfl) : DG X (.Tuple es k pos) (gTup gs) S := by
  refine PG.weak (pg_tup hc h hn hst) fun v σ H Q ⟨F, st, d, st', l, r, e, q⟩ => ?_
  cases d with
  | tuple ds =>
    cases r with
    | tup h1 r =>
      exact ⟨_, _, rfl, h1, by rw [← r.length, gEach_len e, hg], F, st, ds, st', l, r, e, q⟩
  | _ => cases e
end
end BD

set_option Elab.async false
set_option linter.all false
set_option maxRecDepth 100000
set_option maxHeartbeats 1000000
namespace BD
open PySem PySem.Spec PyProof.Rows L2
/-! ### statements -/
def PostS (X : Cx) (W : WX) (F : Fm) (D : Ends) (s : Sx) (σ : L2.St) (H : Hp) (r : Rz Fl) : Prop := match r with
  | .ok .nx s' => ∀ σ' H', Lk X.K F s' σ' H' → Fs F s σ s' σ' H H' → D.nx σ' H'
  | .ok .bk s' => ∀ σ' H', Lk X.K F s' σ' H' → Fs F s σ s' σ' H H' → D.bk σ' H'
  | .ok .ct s' => ∀ σ' H', Lk X.K F s' σ' H' → Fs F s σ s' σ' H H' → D.ct σ' H'
  | .ok (.rt d) s' => ∀ v σ' H', Lk X.K F s' σ' H' → Rep X.K (Md F s' σ') H' d v → Fs F s σ s' σ' H H' → D.rt v H'
  | .err c d s' => ∀ C dx v σ' H', X.mg c = some (.ref C) → Lk X.K F s' σ' H' → H' dx = some (.xd [(Str.ofString "value", v)]) → Rep X.K (Md F s' σ') H' d v → Fs F s σ s' σ' H H' → W (.ref C) (some dx) σ' H'
  | .stuck => False
section
variable {X : Cx} {W : WX} {F : Fm} {s s1 : Sx} {σ σ1 : L2.St} {H H1 : Hp} {D D' : Ends}
theorem PostS.pre {r : Rz Fl} (h : PostS X W F D s σ H r) (f : Fs F s σ s1 σ1 H H1) : PostS X W F D s1 σ1 H1 r := by
  cases r with
  | ok a s' =>
    cases a with
    | nx => exact fun σ' H' l f' => h σ' H' l (f.trans f')
    | bk => exact fun σ' H' l f' => h σ' H' l (f.trans f')
    | ct => exact fun σ' H' l f' => h σ' H' l (f.trans f')
    | rt d => exact fun v σ' H' l r f' => h v σ' H' l r (f.trans f')
  | err c d s' => exact fun C dx v σ' H' e l x r f' => h C dx v σ' H' e l x r (f.trans f')
  | stuck => exact h
/-- an expression ahead -/
theorem PostS.bindE {α β : Type} {R : Sx → Hp → α → β → Prop} {r : Rz α} {g : α → Sx → Rz Fl} {Q : β → Hp → Prop} (h : PostS X W F D s σ H (r.bind g))
    (k : ∀ a st1 b H1, Lk X.K F st1 σ H1 → R st1 H1 a b → Fs F s σ st1 σ H H1 → PostS X W F D st1 σ H1 (g a st1) → Q b H1) : Post X W F R s σ H r Q := by
  cases r with
  | ok a st1 => exact fun b H1 l r f => k a st1 b H1 l r f (PostS.pre (r := g a st1) h f)
  | err c d st1 => exact fun C dx v H' e l x r f => h C dx v σ H' e l x r f
  | stuck => exact h
/-- a statement ahead; j: what follows each of its ends -/
theorem PostS.bindS {r : Rz Fl} {g : Fl → Sx → Rz Fl} (h : PostS X W F D s σ H (r.bind g))
    (nx : ∀ s' σ' H', Lk X.K F s' σ' H' → Fs F s σ s' σ' H H' → PostS X W F D s' σ' H' (g .nx s') → D'.nx σ' H')
    (bk : ∀ s' σ' H', Lk X.K F s' σ' H' → Fs F s σ s' σ' H H' → PostS X W F D s' σ' H' (g .bk s') → D'.bk σ' H')
    (ct : ∀ s' σ' H', Lk X.K F s' σ' H' → Fs F s σ s' σ' H H' → PostS X W F D s' σ' H' (g .ct s') → D'.ct σ' H')
    (rt : ∀ d s' v σ' H', Lk X.K F s' σ' H' → Rep X.K (Md F s' σ') H' d v → Fs F s σ s' σ' H H' → PostS X W F D s' σ' H' (g (.rt d) s') → D'.rt v H') : PostS X W F D' s σ H r := by
  cases r with
  | ok a s' =>
    cases a with
    | nx => exact fun σ' H' l f => nx s' σ' H' l f (PostS.pre (r := g .nx s') h f)
    | bk => exact fun σ' H' l f => bk s' σ' H' l f (PostS.pre (r := g .bk s') h f)
    | ct => exact fun σ' H' l f => ct s' σ' H' l f (PostS.pre (r := g .ct s') h f)
    | rt d => exact fun v σ' H' l r f => rt d s' v σ' H' l r f (PostS.pre (r := g (.rt d) s') h f)
  | err c d s' => exact h
  | stuck => exact h
end
def rdS (X : Cx) (W : WX) (f : SS) : TS := fun D σ H => ∃ F s, Lk X.K F s σ H ∧ PostS X W F D s σ H (f s)
def DS (X : Cx) (W : WX) (st : Stmt) (f : SS) : Prop := PS X st (rdS X W f)
def DSs (X : Cx) (W : WX) (st : List Stmt) (f : SS) : Prop := PSs X st (rdS X W f)
theorem PS.weak {X : Cx} {e : Stmt} {t t' : TS} (h : PS X e t) (i : ∀ D σ H, t' D σ H → t D σ H) : PS X e t' := ⟨fun pins s σ H D I w => h.run pins s σ H D I (i D σ H w)⟩
theorem PSs.weak {X : Cx} {e : List Stmt} {t t' : TS} (h : PSs X e t) (i : ∀ D σ H, t' D σ H → t D σ H) : PSs X e t' := ⟨fun pins s σ H D I w => h.run pins s σ H D I (i D σ H w)⟩
section
variable {X : Cx} {W : WX} {k : Nat} {pos : Pos} {e : Expr} {es : List Expr}
theorem ds_nil : DSs X W [] sSkip := PSs.weak pss_nil fun D σ H ⟨F, s, l, h⟩ => h σ H l Fs.refl
theorem ds_cons {st : Stmt} {rest : List Stmt} {f g : SS} (h1 : DS X W st f) (h2 : DSs X W rest g) : DSs X W (st :: rest) (sSeq f g) := by
  refine PSs.weak (pss_cons h1 h2) fun D σ H ⟨F, s, l, h⟩ => ⟨F, s, l, PostS.bindS h (fun s' σ' H' l' _ h' => ⟨F, s', l', h'⟩) (fun s' σ' H' l' _ h' => h' σ' H' l' Fs.refl) (fun s' σ' H' l' _ h' => h' σ' H' l' Fs.refl) fun d s' v σ' H' l' r _ h' => h' v σ' H' l' r Fs.refl⟩
theorem ds_one {st : Stmt} {f : SS} (h1 : DS X W st f) : DSs X W [st] f := pss_one h1
theorem ds_pass : DS X W (.Pass pos) sSkip := PS.weak ps_pass fun D σ H ⟨F, s, l, h⟩ => h σ H l Fs.refl
theorem ds_exp {f : ES} (he : DE X W e f) (hs : swapsWith e none pos.line X.env = pure false := by rfl) : DS X W (.Expr e pos) (sExp f) := by
  refine PS.weak (ps_expr he hs) fun D σ H ⟨F, s, l, h⟩ => ⟨F, s, l, PostS.bindE h fun d s1 v H1 l1 _ f1 h1 => h1 σ H1 l1 Fs.refl⟩
theorem ds_ret {f : ES} (he : DE X W e f) : DS X W (.Return (some e) pos) (sRet f) := by
  refine PS.weak (ps_ret he) fun D σ H ⟨F, s, l, h⟩ => ⟨F, s, l, PostS.bindE h fun d s1 v H1 l1 r1 f1 h1 => h1 v σ H1 l1 r1 Fs.refl⟩
theorem ds_if {c : Expr} {a b : List Stmt} {fc : BS} {fa fb : SS} (hc : DB X W c fc) (ha : DSs X W a fa) (hb : DSs X W b fb) : DS X W (.If c a b pos) (sIf fc fa fb) := by
  refine PS.weak (ps_if hc ha hb) fun D σ H ⟨F, s, l, h⟩ => ⟨F, s, l, PostS.bindE h fun k s1 v H1 l1 r1 f1 h1 => ?_⟩
  subst r1
  cases k with
  | true => exact iteT ⟨F, s1, l1, h1⟩
  | false => exact iteF ⟨F, s1, l1, h1⟩
/-- target = e, the target any -/
theorem ds_asg {tg : Expr} {f : ES} {g : GS} {S : List Nat} (he : DE X W e f) (hg : DG X tg g S) (hs : swapsWithSole [tg] e pos.line X.env = pure false := by rfl) (hw : swappedStores [tg] e X.env = pure none := by rfl)
    (h1 : (assignEach [tg] X.env).map (·.2) = [assign tg X.env] := by rfl) : DS X W (.Assign [tg] e pos) (sSet g f) := by
  refine PS.weak (ps_asg he hg hs hw h1) fun D σ H ⟨F, s, l, h⟩ => ⟨F, s, l, PostS.bindE h fun d s1 v H1 l1 r1 f1 h1 => ?_⟩
  cases e1 : g d s1 with
  | some s2 => rw [e1] at h1; exact ⟨F, s1, d, s2, l1, r1, e1, fun σ' l' f' _ => h1 σ' H1 l' f'⟩
  | none => rw [e1] at h1; exact h1.elim
theorem set_core {i : Nat} {f : ES} {D : Ends} {σ : L2.St} {H : Hp} (h : rdS X W (sSet (gV i) f) D σ H) : tAsg (rdE X W f) (gName i) D σ H := by
  obtain ⟨F, s, l, h⟩ := h
  refine ⟨F, s, l, PostS.bindE h fun d s1 v H1 l1 r1 f1 h1 => ?_⟩
  unfold gV at h1
  split at h1
  · rename_i hfr
    obtain ⟨l', f'⟩ := l1.setDat r1 hfr
    exact h1 _ H1 l' f'
  · exact h1.elim
theorem own_core {i : Nat} {f : Sx → Rz (List BD.D)} {D : Ends} {σ : L2.St} {H : Hp} (h : rdS X W (sOwn i f) D σ H) : tAsg (rdL X W f) (gName i) D σ H := by
  obtain ⟨F, s, l, h⟩ := h
  refine ⟨F, s, l, ?_⟩
  cases q : f s with
  | ok xs s1 =>
    have h : PostS X W F D s σ H (((f s).bind fun xs s1 => (Rz.st (setOwn i xs s1)).bind fun _ s2 => .ok .nx s2)) := h
    rw [q] at h
    have h : PostS X W F D s σ H ((Rz.st (setOwn i xs s1)).bind fun _ s2 => .ok .nx s2) := h
    intro v H1 l1 r1 f1
    obtain ⟨a, vs, rfl, h0, h2, nm, la, r⟩ := r1
    unfold setOwn at h
    split at h
    · rename_i hfr
      have hp : F.pa ≠ some a := fun z => by
        obtain ⟨m, _⟩ := l.pot a z
        obtain ⟨o, e⟩ := l.mo a m
        rw [h0] at e
        cases e
      obtain ⟨l', f'⟩ := la.setNew h2 r hp nm hfr f1 h0
      exact h _ H1 l' f'
    · exact h.elim
  | err c d s1 =>
    have h : PostS X W F D s σ H (((f s).bind fun xs s1 => (Rz.st (setOwn i xs s1)).bind fun _ s2 => .ok .nx s2)) := h
    rw [q] at h
    exact fun C dx v H' e l x r f => h C dx v σ H' e l x r f
  | stuck =>
    have h : PostS X W F D s σ H (((f s).bind fun xs s1 => (Rz.st (setOwn i xs s1)).bind fun _ s2 => .ok .nx s2)) := h
    rw [q] at h
    exact h
/-- name = e -/
theorem ds_set (i : Nat) {x : Str} {f : ES} {p : Pos} (hN : X.N.Nodup) (hi : X.N[i]? = some x) (hx : L2.Loc X.env.scope x) (he : DE X W e f) (hs : swapsWith e (some (.Name x p)) pos.line X.env = pure false := by rfl) (hf : X.fn x = true ∨ X.env.scope.names.lookup x = some .local := by first | exact .inl rfl | exact .inr rfl | assumption) :
    DS X W (.Assign [.Name x p] e pos) (sSet (gV i) f) :=
  PS.weak (ps_set hN hi hx he hs hf) fun D σ H h => set_core h
/-- name = a new list -/
theorem ds_own (i : Nat) {x : Str} {f : Sx → Rz (List D)} {p : Pos} (hN : X.N.Nodup) (hi : X.N[i]? = some x) (hx : L2.Loc X.env.scope x) (he : DL X W e f) (hs : swapsWith e (some (.Name x p)) pos.line X.env = pure false := by rfl) (hf : X.fn x = true ∨ X.env.scope.names.lookup x = some .local := by first | exact .inl rfl | exact .inr rfl | assumption) :
    DS X W (.Assign [.Name x p] e pos) (sOwn i f) :=
  PS.weak (ps_set hN hi hx he hs hf) fun D σ H h => own_core h
/-- a, b = e1, e2: two plain names -/
theorem ds_par {i j : Nat} {x y : Str} {a b : Expr} {fa : AS} {px py pt : Pos} {kt k2 pt2} (hc : X.calm = true) (hN : X.N.Nodup) (hi : X.N[i]? = some x) (hj : X.N[j]? = some y) (hij : i ≠ j)
    (hx : X.env.scope.names.lookup x = some .local) (hy : X.env.scope.names.lookup y = some .local) (ha : DA X W [a, b] fa)
    (hw : swappedStores [.Tuple [.Name x px, .Name y py] kt pt] (.Tuple [a, b] k2 pt2) X.env = pure (some [x, y]) := by rfl)
    (hs : swapsWithSole [.Tuple [.Name x px, .Name y py] kt pt] (.Tuple [a, b] k2 pt2) pos.line X.env = pure false := by rfl) :
    DS X W (.Assign [.Tuple [.Name x px, .Name y py] kt pt] (.Tuple [a, b] k2 pt2) pos) (sPar [gV i, gV j] fa) := by
  refine PS.weak (ps_par hc hN hi hj hij hx hy ha hw hs) fun D σ H ⟨F, s, l, h⟩ => ⟨F, s, l, PostS.bindE h fun ds s1 vs H1 l1 r1 f1 h1 => ?_⟩
  cases q : gEach [gV i, gV j] ds s1 with
  | none => rw [q] at h1; exact h1.elim
  | some s2 =>
    rw [q] at h1
    have hl := gEach_len q
    cases r1 with
    | nil => cases hl
    | cons ra r1 => cases r1 with
      | nil => cases hl
      | cons rb r1 => cases r1 with
        | cons => simp at hl
        | nil =>
          refine ⟨_, _, rfl, ?_⟩
          simp only [gEach, Option.bind, gV] at q
          split at q
          · cases q
          · rename_i s3 e3
            split at e3
            · rename_i hf3
              cases e3
              obtain ⟨l3, f3⟩ := l1.setDat ra hf3
              dsimp only at q
              split at q
              · cases q
              · rename_i s4 e4
                split at e4
                · rename_i hf4
                  cases e4
                  cases q
                  obtain ⟨l4, f4⟩ := l3.setDat (rb.mono f3.fr) hf4
                  exact h1 _ H1 l4 (f3.trans f4)
                · cases e4
            · cases e3
/-! ### what changes a list of the def's own -/
theorem own_at {F : Fm} {s : Sx} {σ : L2.St} {H : Hp} {i : Nat} (l : Lk X.K F s σ H) (h : isOwn s.L[i]? = true) : ∃ a vs, σ[i]? = some (some (.ref a)) ∧ H a = some (.lst vs) := by
  cases q : s.L[i]? with
  | none => rw [q] at h; cases h
  | some m =>
    rw [q] at h
    cases m with
    | own xs =>
      obtain ⟨a, vs, h1, h2, _⟩ := l.list q rfl
      exact ⟨a, vs, h1, h2⟩
    | _ => cases h
variable {x : Str} {p apos : Pos} {i : Nat}
theorem de_apd (i : Nat) {f : ES} (he : DE X W e f) (hN : X.N[i]? = some x := by rfl) (hv : Vis X.env.scope x := by first | exact Or.inl rfl | exact Or.inr (Or.inl rfl) | exact Or.inr (Or.inr rfl)) (hd : (x == ("__debug__" : Str)) = false := by decide) (hcd : (x == ("__classdict__" : Str)) = false := by decide)
    (hbase : attributeBase (.Name x p) "append" X.env (eval (.Name x p) X.env) = eval (.Name x p) X.env := by rfl)
    (hfew : ((backTo pos (starEach [e] X.env)).all (fun x => !x.1) && (backToKw pos (keywordEach [] X.env)).all (fun x => x.1.isSome)
      && decide ([e].length + ([] : List Keyword).length + (if ([] : List Keyword).isEmpty then 0 else 1) < 30)) = true := by rfl)
    (hline : (apos.endLine == pos.line) = true := by rfl) (hs : starEach [e] X.env = (false, eval e X.env) :: starEach [] X.env := by rfl) (hplain : (backTo pos (starEach [] X.env)).any (·.1) = false := by rfl) : DE X W (.Call (.Attribute (.Name x p) "append" apos) [e] [] pos) (eApd i f) := by
  refine PE.weak (pe_bm PySem.F.plainAttrs_list PySem.F.slot_list_append PySem.F.type_list_append mt_append (pe_var hN hv hd hcd) (pa_cons he pa_nil hs) hbase hfew hline hs hplain) fun σ H Q ⟨F, s, l, h⟩ => ?_
  unfold eApd at h
  split at h
  · rename_i ho
    obtain ⟨a, vs, h1, h2⟩ := own_at l ho
    refine ⟨.ref a, h1, .inl ⟨rfl, _, .inl (.inl h2)⟩, F, s, l, Post.bind h fun d s1 v H1 l1 r1 f1 w1 => ?_⟩
    split at w1
    · rename_i xs q
      split at w1
      · rename_i hl
        obtain ⟨a', us, g1, g2, _, g3⟩ := l1.list q rfl
        rw [h1] at g1
        cases g1
        rw [g3.length] at hl
        obtain ⟨l2, f2, m2⟩ := l1.chg q h1 g2 (g3.append (.cons r1 .nil))
        exact ⟨a, us, v, rfl, rfl, g2, szl_lt hl, w1 _ _ l2 .non f2⟩
      · exact w1.elim
    · exact w1.elim
  · exact h.elim
theorem de_ext (i : Nat) {f : KS} (he : DK X W e f) (hN : X.N[i]? = some x := by rfl) (hv : Vis X.env.scope x := by first | exact Or.inl rfl | exact Or.inr (Or.inl rfl) | exact Or.inr (Or.inr rfl)) (hd : (x == ("__debug__" : Str)) = false := by decide) (hcd : (x == ("__classdict__" : Str)) = false := by decide)
    (hbase : attributeBase (.Name x p) "extend" X.env (eval (.Name x p) X.env) = eval (.Name x p) X.env := by rfl)
    (hfew : ((backTo pos (starEach [e] X.env)).all (fun x => !x.1) && (backToKw pos (keywordEach [] X.env)).all (fun x => x.1.isSome)
      && decide ([e].length + ([] : List Keyword).length + (if ([] : List Keyword).isEmpty then 0 else 1) < 30)) = true := by rfl)
    (hline : (apos.endLine == pos.line) = true := by rfl) (hs : starEach [e] X.env = (false, eval e X.env) :: starEach [] X.env := by rfl) (hplain : (backTo pos (starEach [] X.env)).any (·.1) = false := by rfl) : DE X W (.Call (.Attribute (.Name x p) "extend" apos) [e] [] pos) (eExt i f) := by
  refine PE.weak (pe_bm PySem.F.plainAttrs_list PySem.F.slot_list_extend PySem.F.type_list_extend mt_extend (pe_var hN hv hd hcd) (pa_cons he pa_nil hs) hbase hfew hline hs hplain) fun σ H Q ⟨F, s, l, h⟩ => ?_
  unfold eExt at h
  split at h
  · rename_i ho
    obtain ⟨a, vs, h1, h2⟩ := own_at l ho
    refine ⟨.ref a, h1, .inl ⟨rfl, _, .inl (.inl h2)⟩, F, s, l, Post.bind h fun pv s1 v H1 l1 r1 f1 w1 => ?_⟩
    split at w1
    · rename_i ys xs q0 q
      split at w1
      · rename_i hl
        obtain ⟨a', us, g1, g2, _, g3⟩ := l1.list q rfl
        rw [h1] at g1
        cases g1
        cases e1 : res s1 pv with
        | none => rw [e1] at q0; cases q0
        | some d =>
          rw [e1] at q0
          cases d with
          | list zs =>
            cases q0
            obtain ⟨b, ws, rfl, k1, k2⟩ := (res_ok l1 r1 e1).lst
            rw [g3.length, k2.length] at hl
            obtain ⟨l2, f2, m2⟩ := l1.chg q h1 g2 (g3.append k2)
            exact ⟨a, b, us, ws, rfl, rfl, g2, k1, szl_ok hl, w1 _ _ l2 .non f2⟩
          | _ => cases q0
      · exact w1.elim
    · exact w1.elim
  · exact h.elim
theorem de_pop (i : Nat) (hN : X.N[i]? = some x := by rfl) (hv : Vis X.env.scope x := by first | exact Or.inl rfl | exact Or.inr (Or.inl rfl) | exact Or.inr (Or.inr rfl)) (hd : (x == ("__debug__" : Str)) = false := by decide) (hcd : (x == ("__classdict__" : Str)) = false := by decide)
    (hbase : attributeBase (.Name x p) "pop" X.env (eval (.Name x p) X.env) = eval (.Name x p) X.env := by rfl) (hline : (apos.endLine == pos.line) = true := by rfl) : DE X W (.Call (.Attribute (.Name x p) "pop" apos) [] [] pos) (ePop i) := by
  refine PE.weak (pe_bm0 PySem.F.plainAttrs_list PySem.F.slot_list_pop PySem.F.type_list_pop mt_pop (pe_var hN hv hd hcd) hbase hline) fun σ H Q ⟨F, s, l, h⟩ => ?_
  unfold ePop at h
  split at h
  · rename_i xs q
    obtain ⟨a, us, g1, g2, _, g3⟩ := l.list q rfl
    cases e1 : xs[xs.length - 1]? with
    | none => rw [e1] at h; exact h.elim
    | some d =>
      rw [e1] at h
      obtain ⟨y, y1, y2⟩ := g3.get e1
      rw [g3.length] at y1
      have g4 : Reps X.K (Md F s σ) H xs.dropLast us.dropLast := by
        rw [List.dropLast_eq_take, List.dropLast_eq_take, g3.length]
        exact g3.take _
      obtain ⟨l2, f2, m2⟩ := l.chg q g1 g2 g4
      exact ⟨.ref a, g1, .inl ⟨rfl, _, .inl (.inl g2)⟩, a, us, y, rfl, rfl, g2, y1, h _ _ l2 (m2 _ _ y2) f2⟩
  · exact h.elim
theorem seqIx {k : Int} {n : Nat} (h0 : 0 ≤ k) (h : k.toNat < n) : seqIndex? k n = some k.toNat := by
  have e := (ixN_seq (n := n) (i := k) (j := k.toNat) (by unfold L2.ixN; rw [if_pos h0, if_pos (by omega)])).1
  exact e
theorem de_popAt (i : Nat) {f : ES} (he : DE X W e f) (hN : X.N[i]? = some x := by rfl) (hv : Vis X.env.scope x := by first | exact Or.inl rfl | exact Or.inr (Or.inl rfl) | exact Or.inr (Or.inr rfl)) (hd : (x == ("__debug__" : Str)) = false := by decide) (hcd : (x == ("__classdict__" : Str)) = false := by decide)
    (hbase : attributeBase (.Name x p) "pop" X.env (eval (.Name x p) X.env) = eval (.Name x p) X.env := by rfl)
    (hfew : ((backTo pos (starEach [e] X.env)).all (fun x => !x.1) && (backToKw pos (keywordEach [] X.env)).all (fun x => x.1.isSome)
      && decide ([e].length + ([] : List Keyword).length + (if ([] : List Keyword).isEmpty then 0 else 1) < 30)) = true := by rfl)
    (hline : (apos.endLine == pos.line) = true := by rfl) (hs : starEach [e] X.env = (false, eval e X.env) :: starEach [] X.env := by rfl) (hplain : (backTo pos (starEach [] X.env)).any (·.1) = false := by rfl) : DE X W (.Call (.Attribute (.Name x p) "pop" apos) [e] [] pos) (ePopAt i f) := by
  refine PE.weak (pe_bm PySem.F.plainAttrs_list PySem.F.slot_list_pop PySem.F.type_list_pop mt_popAt (pe_var hN hv hd hcd) (pa_cons he pa_nil hs) hbase hfew hline hs hplain) fun σ H Q ⟨F, s, l, h⟩ => ?_
  unfold ePopAt at h
  split at h
  · rename_i ho
    obtain ⟨a, vs, h1, h2⟩ := own_at l ho
    refine ⟨.ref a, h1, .inl ⟨rfl, _, .inl (.inl h2)⟩, F, s, l, Post.bind h fun d s1 v H1 l1 r1 f1 w1 => ?_⟩
    split at w1
    · rename_i k xs q0 q
      split at w1
      · rename_i hl
        obtain ⟨a', us, g1, g2, _, g3⟩ := l1.list q rfl
        rw [h1] at g1
        cases g1
        cases d with
        | int k' =>
          cases q0
          cases r1
          cases e1 : xs[k.toNat]? with
          | none => rw [e1] at w1; exact w1.elim
          | some d =>
            rw [e1] at w1
            obtain ⟨y, y1, y2⟩ := g3.get e1
            obtain ⟨l2, f2, m2⟩ := l1.chg q h1 g2 (g3.erase k.toNat)
            refine ⟨a, us, k, k.toNat, y, rfl, rfl, g2, by omega, by omega, ?_, y1, w1 _ _ l2 (m2 _ _ y2) f2⟩
            exact seqIx hl.1 (List.getElem?_eq_some_iff.mp y1).1
        | _ => cases q0
      · exact w1.elim
    · exact w1.elim
  · exact h.elim
end
end BD

set_option Elab.async false
set_option linter.all false
set_option maxRecDepth 100000
set_option maxHeartbeats 1000000
namespace BD
open PySem PySem.Spec PyProof.Rows L2
/-! ### what is walked -/
inductive Sk where
  | lst (a : Addr)
  | tup (a : Addr)
  | str (x : Str)
def Sk.con (K : PySem.W.Frag) (H : Hp) : Sk → List V → Prop
  | .lst a, vs => SqL K H a vs
  | .tup a, vs => SqT K H a vs
  | .str x, vs => vs = x.cps.toList.map fun c => V.str ⟨#[c]⟩
def Sk.it (it : Addr) (t : Tok) (i : Nat) (h : Heap) : Sk → Prop
  | .lst a => h.IsListIter it a i
  | .tup a => h.IsTupleIter it a i
  | .str x => h.IsStrIter it (strIterType x) x t i
def Sk.fp : Sk → List Addr
  | .lst a => [a]
  | .tup a => [a]
  | .str _ => []
def Sk.ty : Sk → String
  | .lst _ => "list"
  | .tup _ => "tuple"
  | .str _ => "str"
def Sk.val : Sk → V
  | .lst a => .ref a
  | .tup a => .ref a
  | .str x => .str x
def Sk.J (K : PySem.W.Frag) : Sk → It
  | .lst a => Itl K a
  | .tup a => Itt K a
  | .str x => Its x
/-- an iterator that yields these items, as long as what stands stands -/
def Serves (K : PySem.W.Frag) (J : It) (F : Fm) (s : Sx) (σ : L2.St) (H : Hp) (xs : List D) : Prop :=
  ∀ (k : Nat) (F' : Fm) (s' : Sx) (σ' : L2.St) (H' : Hp), Lk K F' s' σ' H' → Fr (Md F s σ) (Md F' s' σ') H H' → (∀ (i : Nat) (ys : List D), s.L[i]? = some (.lent ys) → s'.L[i]? = some (.lent ys) ∧ σ'[i]? = σ[i]?) →
    (∀ d, xs[k]? = some d → J.go k H' ∧ ∀ x H2, J.yld k H' x H2 → Same H' H2 ∧ Rep K (Md F' s' σ') H2 d x) ∧ (xs.length = k → J.stop k H')
def RI (X : Cx) (F : Fm) (σ : L2.St) (s0 : Sx) : Sx → Hp → List D × List Nat → It → Prop := fun s H p J => Serves X.K J F s σ H p.1 ∧ ∀ i ∈ p.2, ∀ ys, s0.L[i]? ≠ some (.lent ys)
def rdI (X : Cx) (W : WX) (f : IS) : TI := fun σ H R => ∃ F s, Lk X.K F s σ H ∧ Post X W F (RI X F σ s) s σ H (f s) R
def DI (X : Cx) (W : WX) (tg e : Expr) (f : IS) : Prop := PI X tg e (rdI X W f)
theorem PI.weak {X : Cx} {tg e : Expr} {t t' : TI} (h : PI X tg e t) (i : ∀ σ H R, t' σ H R → t σ H R) : PI X tg e t' := ⟨fun pins s σ H R I w => h.run pins s σ H R I (i σ H R w)⟩
theorem PI.or {X : Cx} {tg e : Expr} {t t' : TI} (h : PI X tg e t) (h' : PI X tg e t') : PI X tg e (fun σ H R => t σ H R ∨ t' σ H R) :=
  ⟨fun pins s σ H R I w => w.elim (h.run pins s σ H R I) (h'.run pins s σ H R I)⟩
section
variable {K : PySem.W.Frag} {F : Fm} {s s0 : Sx} {σ : L2.St} {H : Hp} {X : Cx} {W : WX}
/-- where the items of what is walked stand -/
inductive Src (K : PySem.W.Frag) (F : Fm) (s : Sx) (σ : L2.St) (H : Hp) : List D → Sk → Prop
  | lst {a : Addr} {vs : List V} {xs : List D} : ¬ Md F s σ a → H a = some (.lst vs) → Reps K (Md F s σ) H xs vs → Src K F s σ H xs (.lst a)
  | tup {a : Addr} {vs : List V} {xs : List D} : SqT K H a vs → Reps K (Md F s σ) H xs vs → Src K F s σ H xs (.tup a)
  | lent {a : Addr} {i : Nat} {xs : List D} : s.L[i]? = some (.lent xs) → σ[i]? = some (some (.ref a)) → Src K F s σ H xs (.lst a)
  | str {x : Str} : Src K F s σ H (signs x) (.str x)
theorem reps_signs {M : MS} : ∀ l : List Nat, Reps K M H (l.map fun c => PyData.str ⟨#[c]⟩) (l.map fun c => V.str ⟨#[c]⟩)
  | [] => .nil
  | _ :: r => .cons (.str _) (reps_signs r)
theorem Src.at {xs : List D} {sk : Sk} (h : Src K F s σ H xs sk) {F' : Fm} {s' : Sx} {σ' : L2.St} {H' : Hp} (l : Lk K F' s' σ' H') (f : Fr (Md F s σ) (Md F' s' σ') H H') (ln : ∀ (i : Nat) (ys : List D), s.L[i]? = some (.lent ys) → s'.L[i]? = some (.lent ys) ∧ σ'[i]? = σ[i]?) :
    ∃ vs, sk.con K H' vs ∧ Reps K (Md F' s' σ') H' xs vs := by
  cases h with
  | lst nm h r => exact ⟨_, (.inl (.inl (f.keep _ _ h fun z => absurd z nm)) : SqL K H' _ _), r.mono f⟩
  | tup h r => exact ⟨_, (SqT.fr f h : SqT K H' _ _), r.mono f⟩
  | lent h e =>
    obtain ⟨q1, q2⟩ := ln _ _ h
    obtain ⟨a', vs, e1, e2, _, e3⟩ := l.list q1 rfl
    rw [q2, e] at e1
    cases e1
    exact ⟨vs, (.inl (.inl e2) : SqL K H' _ _), e3⟩
  | str => exact ⟨_, rfl, reps_signs _⟩
theorem Src.lend {p : PV} {v : V} {xs : List D} {ls : List Nat} (l : Lk K F s σ H) (r : RK1 X F σ s H p v) (e : lend s p = some (xs, ls, s0)) (eK : X.K = K) : ∃ sk : Sk, v = sk.val ∧ Lk K F s0 σ H ∧ Fs F s σ s0 σ H H ∧ Src K F s0 σ H xs sk ∧ ∀ i ∈ ls, ∀ ys, s.L[i]? ≠ some (.lent ys) := by
  subst eK
  have ofD : ∀ d, Rep X.K (Md F s σ) H d v → (seqD d).map (fun xs => (xs, ([] : List Nat), s)) = some (xs, ls, s0) → ∃ sk : Sk, v = sk.val ∧ Lk X.K F s0 σ H ∧ Fs F s σ s0 σ H H ∧ Src X.K F s0 σ H xs sk ∧ ∀ i ∈ ls, ∀ ys, s.L[i]? ≠ some (.lent ys) := fun d r e => by
    cases d with
    | list zs =>
      cases e
      cases r with
      | lst nm h rr => exact ⟨.lst _, rfl, l, Fs.refl, .lst nm h rr, fun i hi => by cases hi⟩
    | tuple zs =>
      cases e
      cases r with
      | tup h rr => exact ⟨.tup _, rfl, l, Fs.refl, .tup h rr, fun i hi => by cases hi⟩
    | str z =>
      cases e
      cases r with
      | str => exact ⟨.str z, rfl, l, Fs.refl, .str, fun i hi => by cases hi⟩
    | _ => cases e
  cases p with
  | d d => exact ofD d r e
  | o i =>
    have r : σ[i]? = some (some v) := r
    dsimp only [lend] at e
    cases q : s.L[i]? with
    | none => rw [q] at e; cases e
    | some m =>
      rw [q] at e
      have sl := l.slot i m q
      cases m with
      | non => cases e
      | pot => cases e
      | dat d =>
        obtain ⟨u, e1, e2⟩ := sl
        rw [r] at e1
        cases e1
        exact ofD d e2 e
      | lent ys =>
        cases e
        obtain ⟨a, vs, e1, e2, _, e3⟩ := sl
        rw [r] at e1
        cases e1
        exact ⟨.lst a, rfl, l, Fs.refl, .lent q r, fun i hi => by cases hi⟩
      | own ys =>
        cases e
        obtain ⟨a, vs, e1, e2, e0, e3⟩ := sl
        rw [r] at e1
        cases e1
        have hil : i < s.L.length := (List.getElem?_eq_some_iff.mp q).1
        have norm : ∀ {j : Nat} {m : Loc} {zs : List D}, (s.L.set i (.lent xs))[j]? = some m → m.ls = some zs → ∃ m', s.L[j]? = some m' ∧ m'.ls = some zs := fun {j m zs} h e => by
          rcases getS h with ⟨rfl, rfl, _⟩ | ⟨_, h⟩
          · exact ⟨_, q, e⟩
          · exact ⟨_, h, e⟩
        have md : ∀ b, Md F { s with L := s.L.set i (.lent xs) } σ b → Md F s σ b := fun b h => by
          rcases h with h | ⟨j, m, zs, h1, h2, h3⟩
          · exact .inl h
          · obtain ⟨m', g1, g2⟩ := norm h1 h2
            exact .inr ⟨j, m', zs, g1, g2, h3⟩
        have f : Fr (Md F s σ) (Md F { s with L := s.L.set i (.lent xs) } σ) H H := Fr.sub md
        have e' : (s.L.set i (.lent xs))[i]? = some (.lent xs) := List.getElem?_set_self hil
        refine ⟨.lst a, rfl, ⟨by rw [l.len]; simp, fun j z hz => ?_, fun j k m1 m2 xs1 ys1 b h1 e1 h2 e2 h3 h4 => ?_, l.pot, l.mo⟩, ⟨f, fun _ _ _ => rfl, fun j zs ej => ⟨?_, rfl⟩⟩, .lent e' r, fun j hj ys hl => ?_⟩
        · rcases getS hz with ⟨rfl, rfl, hl⟩ | ⟨hj, hz⟩
          · exact ⟨a, vs, r, e2, e0, e3.mono f⟩
          · have sl := l.slot j z hz
            cases z with
            | non => trivial
            | dat d => obtain ⟨v, e, r⟩ := sl; exact ⟨v, e, r.mono f⟩
            | own xs => obtain ⟨b, vs, e, e2, n, r⟩ := sl; exact ⟨b, vs, e, e2, n, r.mono f⟩
            | lent xs => obtain ⟨b, vs, e, e2, n, r⟩ := sl; exact ⟨b, vs, e, e2, n, r.mono f⟩
            | pot => exact sl
        · obtain ⟨m1', g1, g2⟩ := norm h1 e1
          obtain ⟨m2', g3, g4⟩ := norm h2 e2
          exact l.inj j k _ _ _ _ b g1 g2 g3 g4 h3 h4
        · show (s.L.set i (.lent xs))[j]? = some (.lent zs)
          rw [List.getElem?_set_ne (fun z => by subst z; rw [q] at ej; cases ej)]
          exact ej
        · have hj : j = i := by simpa using hj
          subst hj
          rw [q] at hl
          cases hl
theorem serves_seq {sk : Sk} {xs : List D} (h : Src K F s σ H xs sk) : Serves K (sk.J K) F s σ H xs := by
  intro k F' s' σ' H' l f ln
  obtain ⟨vs, h1, r⟩ := h.at l f ln
  refine ⟨fun d e => ?_, fun hk => ?_⟩
  · obtain ⟨v, e1, e2⟩ := r.get e
    cases sk with
    | lst a =>
      refine ⟨⟨vs, v, h1, e1⟩, fun x H2 ⟨eh, y⟩ => ?_⟩
      subst eh
      have q := y vs h1
      rw [e1] at q
      cases q
      exact ⟨Same.refl _, e2⟩
    | tup a =>
      refine ⟨⟨vs, v, h1, e1⟩, fun x H2 ⟨eh, y⟩ => ?_⟩
      subst eh
      have q := y vs h1
      rw [e1] at q
      cases q
      exact ⟨Same.refl _, e2⟩
    | str z =>
      have h1 : vs = z.cps.toList.map fun c => V.str ⟨#[c]⟩ := h1
      subst h1
      rw [List.getElem?_map, Option.map_eq_some_iff] at e1
      obtain ⟨c, c1, rfl⟩ := e1
      rw [Array.getElem?_toList] at c1
      refine ⟨(Array.getElem?_eq_some_iff.mp c1).1, fun x H2 ⟨eh, c', c2, ex⟩ => ?_⟩
      subst eh ex
      rw [c1] at c2
      cases c2
      exact ⟨Same.refl _, e2⟩
  · cases sk with
    | lst a => exact ⟨vs, h1, by rw [← r.length]; exact Nat.le_of_eq hk⟩
    | tup a => exact ⟨vs, h1, by rw [← r.length]; exact Nat.le_of_eq hk⟩
    | str z =>
      have h1 : vs = z.cps.toList.map fun c => V.str ⟨#[c]⟩ := h1
      show z.cps.size ≤ k
      rw [← hk, r.length, h1]
      simp
variable {k : Nat} {pos : Pos} {tg e : Expr}
theorem lentTo_core {f : List D → Option (List D)} {p : PV} {v : V} {R : It → Hp → Prop} {s00 : Sx} (l : Lk X.K F s σ H) (r : RK1 X F σ s H p v) (h : Post X W F (RI X F σ s00) s σ H (lentTo f p s) R) (hl : ∀ (i : Nat) (ys : List D), s00.L[i]? = some (.lent ys) → s.L[i]? = some (.lent ys)) :
    ∃ (sk : Sk) (xs ys : List D) (s1 : Sx), v = sk.val ∧ Lk X.K F s1 σ H ∧ Src X.K F s1 σ H xs sk ∧ f xs = some ys ∧ ∀ J, Serves X.K J F s1 σ H ys → R J H := by
  unfold lentTo at h
  cases e1 : lend s p with
  | none => rw [e1] at h; exact h.elim
  | some t =>
    obtain ⟨xs, ls, s1⟩ := t
    rw [e1] at h
    dsimp only at h
    obtain ⟨sk, rfl, l1, f1, sr, hn⟩ := Src.lend l r e1 rfl
    cases e2 : f xs with
    | none => rw [e2] at h; exact h.elim
    | some ys =>
      rw [e2] at h
      exact ⟨sk, xs, ys, s1, rfl, l1, sr, e2, fun J sv => h J H l1 ⟨sv, fun i hi zs ez => hn i hi zs (hl i zs ez)⟩ f1⟩
def iSq (K : PySem.W.Frag) (tl : TE) : TI := fun σ H R => tl σ H fun x H1 => ∃ sk : Sk, x = sk.val ∧ (∃ xs, sk.con K H1 xs) ∧ R (sk.J K) H1
theorem pi_sq {l : Expr} {tl : TE} (hl : PE X l tl) : PI X tg l (iSq X.K tl) := by
  refine ⟨fun pins s σ H R I h => ?_⟩
  refine thn (hl.run pins s σ H _ I h) fun v s1 ⟨x, H1, I1, r1, q1⟩ => ?_
  obtain ⟨sk, e, ⟨xs, hq⟩, q⟩ := q1
  subst e
  cases sk with
  | lst a =>
    cases r1
    obtain ⟨its, rv, p, hz⟩ := I1.list hq
    refine wpAny_pyIter_list p.isList ?_
    refine ⟨s1.heap.objs.size, [s1.heap.objs.size], _, _, H1, rfl, I1.kept (t' := s1.toks) fun b o e => Heap.get?_push_of_some _ e, turn_list a _, ⟨_, Heap.get?_push_size _ rfl, rfl, rfl⟩, fun b hb => ?_, q⟩
    have e : b = s1.heap.objs.size := by simpa using hb
    subst e
    exact I1.fpOk (Nat.le_refl _) (I1.hok.fresh (Nat.le_refl _))
  | tup a =>
    cases r1
    obtain ⟨its, rv, p, hz⟩ := I1.tuple hq
    refine wpAny_pyIter_tuple (show s1.heap.IsTuple a its.toArray from p) ?_
    refine ⟨s1.heap.objs.size, [s1.heap.objs.size], _, _, H1, rfl, I1.kept (t' := s1.toks) fun b o e => Heap.get?_push_of_some _ e, turn_tuple a _, ⟨_, Heap.get?_push_size _ rfl, rfl, rfl⟩, fun b hb => ?_, q⟩
    have e : b = s1.heap.objs.size := by simpa using hb
    subst e
    exact I1.fpOk (Nat.le_refl _) (I1.hok.fresh (Nat.le_refl _))
  | str z =>
    obtain ⟨t, rfl⟩ := r1
    refine wpAny_pyIter_strU ?_
    refine ⟨s1.heap.objs.size, [s1.heap.objs.size], _, _, H1, rfl, I1.kept (t' := s1.toks) fun b o e => Heap.get?_push_of_some _ e, turn_str _ z t (strIterType z) (by unfold strIterType; split <;> simp), ⟨_, Heap.get?_push_size _ rfl, rfl, rfl⟩, fun b hb => ?_, q⟩
    have e : b = s1.heap.objs.size := by simpa using hb
    subst e
    exact I1.fpOk (Nat.le_refl _) (I1.hok.fresh (Nat.le_refl _))
/-- for x in xs: a list, a tuple, a text -/
theorem di_seq {fe : KS} (he : DK X W e fe) : DI X W tg e (iSeq fe) := by
  refine PI.weak (pi_sq he) fun σ H R ⟨F, s, l, h⟩ => ⟨F, s, l, Post.bind h fun p s1 v H1 l1 r1 f1 h1 => ?_⟩
  obtain ⟨sk, xs, ys, s2, rfl, l2, sr, e1, q⟩ := lentTo_core l1 r1 h1 fun i ys e => (f1.lnt i ys e).1
  cases e1
  obtain ⟨vs, g1, g2⟩ := sr.at l2 (Fr.refl _ _) fun _ _ e => ⟨e, rfl⟩
  exact ⟨sk, rfl, ⟨vs, g1⟩, q _ (serves_seq sr)⟩
theorem upto_get {i : Int} {n k : Nat} {d : D} (h : (upto i n)[k]? = some d) : k < n ∧ d = .int (i + (k : Int)) := by
  unfold upto at h
  rw [List.getElem?_map, Option.map_eq_some_iff] at h
  obtain ⟨j, h1, h2⟩ := h
  obtain ⟨h3, h4⟩ := List.getElem?_eq_some_iff.mp h1
  rw [List.length_range] at h3
  rw [List.getElem_range] at h4
  subst h4
  exact ⟨h3, h2.symm⟩
theorem downto_get {i : Int} {n k : Nat} {d : D} (h : (downto i n)[k]? = some d) : k < n ∧ d = .int (i - (k : Int)) := by
  unfold downto at h
  rw [List.getElem?_map, Option.map_eq_some_iff] at h
  obtain ⟨j, h1, h2⟩ := h
  obtain ⟨h3, h4⟩ := List.getElem?_eq_some_iff.mp h1
  rw [List.length_range] at h3
  rw [List.getElem_range] at h4
  subst h4
  exact ⟨h3, h2.symm⟩
theorem serves_rg (i : Int) (n : Nat) : Serves K (Itr i n) F s σ H (upto i n) := by
  intro k F' s' σ' H' l f ln
  refine ⟨fun d e => ?_, fun hk => by show n ≤ k; rw [← hk, upto_len]; exact Nat.le_refl _⟩
  obtain ⟨h1, h2⟩ := upto_get e
  refine ⟨h1, fun x H2 ⟨eh, y⟩ => ?_⟩
  subst eh y h2
  exact ⟨Same.refl _, .int _⟩
theorem serves_dn (i : Int) (n : Nat) : Serves K (Itc i (-1) n) F s σ H (downto i n) := by
  intro k F' s' σ' H' l f ln
  refine ⟨fun d e => ?_, fun hk => by show n ≤ k; rw [← hk]; unfold downto; rw [List.length_map, List.length_range]; exact Nat.le_refl _⟩
  obtain ⟨h1, h2⟩ := downto_get e
  refine ⟨h1, fun x H2 ⟨eh, y⟩ => ?_⟩
  subst eh y h2
  have e : i - (k : Int) = i + (k : Int) * (-1) := by omega
  rw [e]
  exact ⟨Same.refl _, .int _⟩
theorem no_lent {s0 : Sx} {xs : List D} {J : It} (h : Serves X.K J F s σ H xs) : RI X F σ s0 s H (xs, []) J := ⟨h, fun _ hi => by cases hi⟩
theorem di_rg1 {a : Expr} {fa : ES} {p : Pos} (hg : Gl X "range") (hm : X.mg "range" = none) (ha : DE X W a fa) (hs : starEach [a] X.env = [(false, eval a X.env)] := by rfl) : DI X W tg (.Call (.Name "range" p) [a] [] pos) (iRg1 fa) := by
  refine PI.weak (pi_range1 hg hm (pa_cons ha pa_nil hs) hs) fun σ H R ⟨F, s, l, h⟩ => ⟨F, s, l, Post.bind h fun d s1 v H1 l1 r1 f1 h1 => ?_⟩
  obtain ⟨z, ez, hz⟩ := Post.of h1
  rw [Option.map_eq_some_iff] at ez
  obtain ⟨xs, q, rfl⟩ := ez
  obtain ⟨i, j, e1, e2, k1, k2, e3⟩ := rg2_some q
  cases e1
  subst e2
  cases r1
  subst e3
  refine ⟨j, rfl, k2.1, k2.2, hz _ H1 l1 (no_lent ?_) Fs.refl⟩
  have e : (j - 0).toNat = j.toNat := by omega
  rw [e]
  exact serves_rg 0 _
theorem di_rg2 {a b : Expr} {fa fb : ES} {p : Pos} (hg : Gl X "range") (hm : X.mg "range" = none) (ha : DE X W a fa) (hb : DE X W b fb) (hs : starEach [a, b] X.env = [(false, eval a X.env), (false, eval b X.env)] := by rfl) (hs2 : starEach [b] X.env = [(false, eval b X.env)] := by rfl) :
    DI X W tg (.Call (.Name "range" p) [a, b] [] pos) (iRg2 fa fb) := by
  refine PI.weak (pi_range2 hg hm (pa_cons ha (pa_cons hb pa_nil hs2) (by rw [hs, hs2])) hs hs2) fun σ H R ⟨F, s, l, h⟩ => ⟨F, s, l, Post.bind h fun d s1 v H1 l1 r1 f1 h1 => ⟨F, s1, l1, Post.bind h1 fun d2 s2 v2 H2 l2 r2 f2 h2 => ?_⟩⟩
  obtain ⟨z, ez, hz⟩ := Post.of h2
  rw [Option.map_eq_some_iff] at ez
  obtain ⟨xs, q, rfl⟩ := ez
  obtain ⟨i, j, e1, e2, k1, k2, e3⟩ := rg2_some q
  subst e1 e2
  cases r1
  cases r2
  subst e3
  exact ⟨i, j, rfl, ⟨k1.1, k1.2, k2.1, k2.2⟩, hz _ H2 l2 (no_lent (serves_rg i _)) Fs.refl⟩
theorem di_rgd {a b : Expr} {fa fb : ES} {p p1 p2 : Pos} {k' : Nat} (hg : Gl X "range") (hm : X.mg "range" = none) (ha : DE X W a fa) (hb : DE X W b fb) (hs : starEach [a, b, .UnaryOp .USub (.Constant (.int 1) k' p1) p2] X.env = (false, eval a X.env) :: starEach [b, .UnaryOp .USub (.Constant (.int 1) k' p1) p2] X.env := by rfl)
    (hs2 : starEach [b, .UnaryOp .USub (.Constant (.int 1) k' p1) p2] X.env = (false, eval b X.env) :: starEach [.UnaryOp .USub (.Constant (.int 1) k' p1) p2] X.env := by rfl) (hs3 : starEach [.UnaryOp .USub (.Constant (.int 1) k' p1) p2] X.env = (false, eval (.UnaryOp .USub (.Constant (.int 1) k' p1) p2) X.env) :: starEach [] X.env := by rfl)
    (hpl : (backTo pos (starEach [b, .UnaryOp .USub (.Constant (.int 1) k' p1) p2] X.env)).any (·.1) = false := by rfl) :
    DI X W tg (.Call (.Name "range" p) [a, b, .UnaryOp .USub (.Constant (.int 1) k' p1) p2] [] pos) (iRgD fa fb) := by
  refine PI.weak (pi_range3 hg hm (pa_cons ha (pa_cons hb (pa_cons (pe_un un_neg pe_int) pa_nil hs3) hs2) hs) hs hpl) fun σ H R ⟨F, s, l, h⟩ => ⟨F, s, l, Post.bind h fun d s1 v H1 l1 r1 f1 h1 => ⟨F, s1, l1, Post.bind h1 fun d2 s2 v2 H2 l2 r2 f2 h2 => ?_⟩⟩
  obtain ⟨z, ez, hz⟩ := Post.of h2
  rw [Option.map_eq_some_iff] at ez
  obtain ⟨xs, q, rfl⟩ := ez
  unfold rgDown at q
  cases d with
  | int i => cases d2 with
    | int j =>
      dsimp only [asI, Option.bind] at q
      split at q
      · rename_i hh
        cases q
        cases r1
        cases r2
        exact ⟨1, rfl, i, j, -1, _, rfl, RgC.neg hh.1.1 hh.1.2 hh.2.1 hh.2.2, hz _ H2 l2 (no_lent (serves_dn i _)) Fs.refl⟩
      · cases q
    | _ => cases q
  | _ => cases q
end
end BD

set_option Elab.async false
set_option linter.all false
set_option maxRecDepth 100000
set_option maxHeartbeats 1000000
namespace BD
open PySem PySem.Spec PyProof.Rows L2
/-! ### enumerate and zip over lists, tuples and texts in any mix -/
theorem Vals.getU : ∀ {xs : List V} {us : List Value} {i : Nat} {u : Value}, Vals xs us → us[i]? = some u → ∃ x, xs[i]? = some x ∧ RelV x u
  | _, _, _, _, .nil, e => by simp at e
  | _, _, 0, _, .cons h _, e => by simp at e; subst e; exact ⟨_, rfl, h⟩
  | _, _, i + 1, d, .cons _ r, e => by
    obtain ⟨v, h1, h2⟩ := Vals.getU (i := i) (u := d) r (by simpa using e)
    exact ⟨v, by simpa using h1, h2⟩
section
variable {X : Cx} {pins : List (Addr × Obj)} {σ : L2.St} {H : Hp} {s : Shared}
theorem Sk.inj (I : Inv X pins σ H s) : ∀ {sk : Sk} {vs us : List V}, sk.con X.K H vs → sk.con X.K H us → vs = us
  | .lst _, _, _, h1, h2 => I.list_inj h1 h2
  | .tup _, _, _, h1, h2 => I.tuple_inj h1 h2
  | .str _, _, _, h1, h2 => h1.trans h2.symm
theorem Sk.small (I : Inv X pins σ H s) : ∀ {sk : Sk} {vs : List V}, sk.con X.K H vs → ∀ b ∈ sk.fp, ∃ o, s.heap.get? b = some o ∧ o.cls = .type sk.ty
  | .lst a, _, h, b, hb => by
    obtain ⟨its, rv, ⟨o, n, e, c, _⟩, _⟩ := I.list h
    have e' : b = a := by simpa [Sk.fp] using hb
    subst e'
    exact ⟨o, e, c⟩
  | .tup a, _, h, b, hb => by
    obtain ⟨its, rv, ⟨o, e, c, _⟩, _⟩ := I.tuple h
    have e' : b = a := by simpa [Sk.fp] using hb
    subst e'
    exact ⟨o, e, c⟩
  | .str _, _, _, b, hb => by cases hb
theorem Sk.ityp {it : Addr} {t : Tok} {i : Nat} {h : Heap} : ∀ {sk : Sk}, sk.it it t i h → ∃ o, h.get? it = some o ∧ (o.cls = .type "list_iterator" ∨ o.cls = .type "tuple_iterator" ∨ o.cls = .type "str_ascii_iterator" ∨ o.cls = .type "str_iterator") ∧ ∀ v, o.data ≠ .cell v
  | .lst _, ⟨o, e, c, d⟩ => ⟨o, e, .inl c, fun v z => by rw [d] at z; cases z⟩
  | .tup _, ⟨o, e, c, d⟩ => ⟨o, e, .inr (.inl c), fun v z => by rw [d] at z; cases z⟩
  | .str x, ⟨o, e, c, d⟩ => ⟨o, e, by
      rw [c]
      unfold strIterType
      split
      · exact .inr (.inr (.inl rfl))
      · exact .inr (.inr (.inr rfl)), fun v z => by rw [d] at z; cases z⟩
theorem Sk.keepIt {it : Addr} {t : Tok} {i : Nat} {h h' : Heap} (k : ∀ o, h.get? it = some o → h'.get? it = some o) : ∀ {sk : Sk}, sk.it it t i h → sk.it it t i h'
  | .lst _, st => st.at k
  | .tup _, st => st.at k
  | .str _, ⟨o, e, r⟩ => ⟨o, k o e, r⟩
theorem Sk.apart (I : Inv X pins σ H s) {sk : Sk} {vs : List V} (hc : sk.con X.K H vs) {e : Addr} {o : Obj} {n : String} (he : s.heap.get? e = some o) (c : o.cls = .type n) (hn : n ≠ "list" ∧ n ≠ "tuple" ∧ n ≠ "str") : e ∉ sk.fp := fun hb => by
  obtain ⟨o', e', c'⟩ := Sk.small I hc e hb
  rw [he] at e'
  cases e'
  rw [c] at c'
  injection c' with c'
  cases sk with
  | lst => exact hn.1 c'
  | tup => exact hn.2.1 c'
  | str => exact hn.2.2 c'
theorem Sk.draws (I : Inv X pins σ H s) {A : Around} (hh : A.handled = none) {it : Addr} {t : Tok} {i : Nat} : ∀ {sk : Sk} {vs : List V}, sk.con X.K H vs → sk.it it t i s.heap →
    ∃ (P : Nat → Value → Prop) (St : Nat → Heap → Prop), Draws X.prog X.w A it (it :: sk.fp) vs.length P St ∧ St i s.heap ∧ (∀ j v, P j v → ∃ x, vs[j]? = some x ∧ RelV x v) ∧ ∀ j h', St j h' → sk.it it t j h'
  | .lst a, vs, hc, hit => by
    obtain ⟨its, rv, p, _⟩ := I.list hc
    have hne : a ≠ it := by
      obtain ⟨o, _, e, c, _⟩ := id p
      obtain ⟨o', e', c', _⟩ := id hit
      rintro rfl
      rw [e] at e'
      cases e'
      rw [c] at c'
      injection c' with c'; exact absurd c' (by decide)
    have D := Draws.list (prog := X.prog) (w := X.w) hh it a hne its.toArray
    rw [List.size_toArray, ← rv.length] at D
    refine ⟨_, _, D, ⟨hit, p.isList⟩, fun j v e => Vals.getU rv (by simpa using e), fun j h' st => st.1⟩
  | .tup a, vs, hc, hit => by
    obtain ⟨its, rv, p, _⟩ := I.tuple hc
    have hne : a ≠ it := by
      obtain ⟨o, e, c, _⟩ := id p
      obtain ⟨o', e', c', _⟩ := id hit
      rintro rfl
      rw [e] at e'
      cases e'
      rw [c] at c'
      injection c' with c'; exact absurd c' (by decide)
    have D := Draws.tuple (prog := X.prog) (w := X.w) hh it a hne its.toArray
    rw [List.size_toArray, ← rv.length] at D
    refine ⟨_, _, D, ⟨hit, p⟩, fun j v e => Vals.getU rv (by simpa using e), fun j h' st => st.1⟩
  | .str x, vs, hc, hit => by
    have hc : vs = x.cps.toList.map fun c => V.str ⟨#[c]⟩ := hc
    subst hc
    have D := Draws.text (prog := X.prog) (w := X.w) hh it x t
    rw [show x.cps.size = (x.cps.toList.map fun c => V.str ⟨#[c]⟩).length by simp] at D
    refine ⟨_, _, D, hit, fun j v ⟨c, u, e1, e2⟩ => ⟨.str ⟨#[c]⟩, ?_, ⟨u, e2⟩⟩, fun j h' st => st⟩
    rw [List.getElem?_map, Array.getElem?_toList, e1]
    rfl
end
/-- each item in a new pair, counted from k -/
def JE (K : PySem.W.Frag) (sk : Sk) (k : Int) : It :=
  ⟨fun i H => ∃ (vs : List V) (x : V), sk.con K H vs ∧ vs[i]? = some x, fun i H v H' => ∃ T x, v = .ref T ∧ H T = none ∧ H' = upd H T (.tup [.int (k + (i : Int)), x]) ∧ ∀ vs, sk.con K H vs → vs[i]? = some x, fun i H => ∃ vs : List V, sk.con K H vs ∧ vs.length = i⟩
theorem turn_JE {P : Program} {w : World} {K : PySem.W.Frag} {elts : List Expr} {kk : Nat} {tpos : Pos} (sk : Sk) (k : Int) (e it : Addr) (t : Tok) :
    Turn P w K (.Tuple elts kk tpos) (JE K sk k) [e, it] e (fun i h => (∃ old, IsEnum h e it (k + (i : Int)) old) ∧ sk.it it t i h ∧ e ≠ it) where
  mem := by simp
  obj := fun i h st b hb => by
    obtain ⟨⟨old, he⟩, hi, _⟩ := st
    have e' : b = e ∨ b = it := by simpa using hb
    rcases e' with z | z
    · rw [z]; exact ⟨_, he, fun v q => nomatch q⟩
    · rw [z]; obtain ⟨o, ho, _, hd⟩ := Sk.ityp hi; exact ⟨o, ho, hd⟩
  keep := fun i h h' st kp => let ⟨⟨old, he⟩, hi, hne⟩ := st; ⟨⟨old, kp e (by simp) _ he⟩, Sk.keepIt (fun o q => kp it (by simp) o q) hi, hne⟩
  item := by
    intro X hP hw hK hc i pins s σ H E I hf st hg
    subst hP hw hK
    obtain ⟨⟨old, he⟩, hit, hne⟩ := st
    obtain ⟨vs, x, hq, hx⟩ := hg
    obtain ⟨P, St, D, hst, hPx, hSt⟩ := Sk.draws I (show X.A.in1.handled = none from I.ok.hd hc) hq hit
    have hel : e < s.heap.objs.size := Heap.lt_size he
    have hil : it < s.heap.objs.size := by obtain ⟨o, q, _⟩ := Sk.ityp hit; exact Heap.lt_size q
    have hef : e ∉ it :: sk.fp := by
      rw [List.mem_cons, not_or]
      exact ⟨hne, Sk.apart I hq he rfl ⟨by decide, by decide, by decide⟩⟩
    refine wpAny_pyNext_enum_itemC D he hst (List.getElem?_eq_some_iff.mp hx).1 hne hef fun u h' tk hP' ho hst' hT hsz hk => ?_
    obtain ⟨x', hx', ru⟩ := hPx i u hP'
    rw [hx] at hx'
    cases hx'
    refine ⟨_, rfl, wpAny_letOwnedTupleGo_enum (s := { s with heap := h', toks := tk + 1 }) ho fun h'' he' sb => ?_⟩
    have hT2 : h''.get? s.heap.objs.size = some { cls := .type "tuple", data := .seq #[.int (k + (i : Int)) tk, u] } := (sb.2 _ (Nat.ne_of_gt hel)).trans hT
    have new : ObjOk X.prog X.w (upd H s.heap.objs.size (.tup [.int (k + (i : Int)), x])) h'' s.heap.objs.size (.tup [.int (k + (i : Int)), x]) :=
      ⟨by show 2 ≤ sizeLine; decide, [.int (k + (i : Int)) tk, u], .cons ⟨_, rfl⟩ (.cons ru .nil), ⟨_, hT2, rfl, _, rfl⟩⟩
    have I1 : Inv X pins σ (upd H s.heap.objs.size (.tup [.int (k + (i : Int)), x])) { s with heap := h'', toks := tk + 1 } :=
      I.turnedNew (ch := [e, it]) (fun b ob hb q => (sb.2 b (fun z => hb (by simp [z]))).trans (hk b ob (fun z => hb (by simp [z])) (fun z => hb (by simp [z])) q)) hf (Nat.le_refl _) new
    refine ⟨.ref s.heap.objs.size, _, I1, rfl, ⟨_, x, rfl, I.hok.fresh (Nat.le_refl _), rfl, fun ys hy => by rw [Sk.inj I hy hq]; exact hx⟩, ⟨⟨u, ?_⟩, Sk.keepIt (fun o q => (sb.2 it (Ne.symm hne)).trans q) (hSt _ _ hst'), hne⟩, fun b hb => ?_⟩
    · have e1 : k + ((i + 1 : Nat) : Int) = k + (i : Int) + 1 := by omega
      rw [e1]; exact he'
    · have hb' : b < s.heap.objs.size := by
        have e' : b = e ∨ b = it := by simpa using hb
        rcases e' with z | z
        · rw [z]; exact hel
        · rw [z]; exact hil
      rw [upd_ne (Nat.ne_of_lt hb')]
      exact (hf b hb).1
  done := by
    intro X hP hw hK hc i pins s σ H E I hf st hg
    subst hP hw hK
    obtain ⟨⟨old, he⟩, hit, hne⟩ := st
    obtain ⟨vs, hq, hx⟩ := hg
    obtain ⟨P, St, D, hst, hPx, hSt⟩ := Sk.draws I (show X.A.in1.handled = none from I.ok.hd hc) hq hit
    obtain ⟨f0, f1, f2, f3, f4, f5⟩ := hf it (by simp)
    subst hx
    exact wpAny_pyNext_enum_endD D he hst fun h' eb => ⟨rfl, I.turned (t' := s.toks) (fun b o hb q => eb b o hb q) f0 f1 f3 f4 f5⟩
  self := fun A i s Q E st h => let ⟨⟨_, he⟩, _⟩ := st; wpAny_pyIter_enum he h
/-- pairs of the items of both -/
def JZ (K : PySem.W.Frag) (a b : Sk) : It :=
  ⟨fun i H => ∃ (xs ys : List V) (x y : V), a.con K H xs ∧ b.con K H ys ∧ xs[i]? = some x ∧ ys[i]? = some y,
    fun i H v H' => ∃ T x y, v = .ref T ∧ H T = none ∧ H' = upd H T (.tup [x, y]) ∧ (∀ xs, a.con K H xs → xs[i]? = some x) ∧ ∀ ys, b.con K H ys → ys[i]? = some y,
    fun i H => ∃ xs ys : List V, a.con K H xs ∧ b.con K H ys ∧ i ≤ xs.length ∧ i ≤ ys.length ∧ (i = xs.length ∨ i = ys.length)⟩
theorem turn_JZ {P : Program} {w : World} {K : PySem.W.Frag} {elts : List Expr} {kk : Nat} {tpos : Pos} (a b : Sk) (z TI TO i1 i2 : Addr) (t1 t2 : Tok) (n1 : z ≠ i1) (n2 : z ≠ i2) (n3 : TO ≠ i1) (n4 : TO ≠ i2) (n5 : TI ≠ i1) (n6 : TI ≠ i2) (n7 : TI ≠ z) (n8 : TO ≠ z) (n9 : TI ≠ TO) (n10 : i1 ≠ i2) (na : TO ∉ a.fp) (nb : TO ∉ b.fp) :
    Turn P w K (.Tuple elts kk tpos) (JZ K a b) [z, TI, TO, i1, i2] z (fun i h => IsZip h z TI TO .none ∧ IsTupOf2 h TI (.ref i1) (.ref i2) ∧ (∃ x y, IsTupOf2 h TO x y) ∧ a.it i1 t1 i h ∧ b.it i2 t2 i h) where
  mem := by simp
  obj := fun i h st c hc => by
    obtain ⟨hz, hTI, ⟨x, y, hTO⟩, h1, h2⟩ := st
    obtain ⟨o1, e1, _, d1⟩ := Sk.ityp h1
    obtain ⟨o2, e2, _, d2⟩ := Sk.ityp h2
    have e' : c = z ∨ c = TI ∨ c = TO ∨ c = i1 ∨ c = i2 := by simpa using hc
    rcases e' with q | q | q | q | q
    · rw [q]; exact ⟨_, hz, fun v q => nomatch q⟩
    · rw [q]; exact ⟨_, hTI, fun v q => nomatch q⟩
    · rw [q]; exact ⟨_, hTO, fun v q => nomatch q⟩
    · rw [q]; exact ⟨o1, e1, d1⟩
    · rw [q]; exact ⟨o2, e2, d2⟩
  keep := fun i h h' st k => by
    obtain ⟨hz, hTI, ⟨x, y, hTO⟩, h1, h2⟩ := st
    exact ⟨k z (by simp) _ hz, k TI (by simp) _ hTI, ⟨x, y, k TO (by simp) _ hTO⟩, Sk.keepIt (fun o q => k i1 (by simp) o q) h1, Sk.keepIt (fun o q => k i2 (by simp) o q) h2⟩
  item := by
    intro X hP hw hK hc i pins s σ H E I hf st hg
    subst hP hw hK
    obtain ⟨hz, hTI, ⟨x0, y0, hTO⟩, h1, h2⟩ := st
    obtain ⟨xs, ys, x, y, hqx, hqy, hx, hy⟩ := hg
    have hh : X.A.in1.handled = none := I.ok.hd hc
    obtain ⟨P1, St1, D1, hst1, hP1, hS1⟩ := Sk.draws I hh hqx h1
    obtain ⟨P2, St2, D2, hst2, hP2, hS2⟩ := Sk.draws I hh hqy h2
    have hzl : z < s.heap.objs.size := Heap.lt_size hz
    obtain ⟨o1, e1, c1, _⟩ := Sk.ityp h1
    obtain ⟨o2, e2, c2, _⟩ := Sk.ityp h2
    have ap : ∀ {sk : Sk} {vs : List V} {it : Addr} {o : Obj}, sk.con X.K H vs → s.heap.get? it = some o → (o.cls = .type "list_iterator" ∨ o.cls = .type "tuple_iterator" ∨ o.cls = .type "str_ascii_iterator" ∨ o.cls = .type "str_iterator") → it ∉ sk.fp := fun {sk vs it o} hq e c => by
      rcases c with c | c | c | c
      · exact Sk.apart I hq e c ⟨by decide, by decide, by decide⟩
      · exact Sk.apart I hq e c ⟨by decide, by decide, by decide⟩
      · exact Sk.apart I hq e c ⟨by decide, by decide, by decide⟩
      · exact Sk.apart I hq e c ⟨by decide, by decide, by decide⟩
    have S : ZipSep2 z TI TO i1 i2 (i1 :: a.fp) (i2 :: b.fp) := {
      TIz := n7, TOz := n8, TITO := n9, TIi1 := n5, mem1 := List.mem_cons_self .., TIi2 := n6, mem2 := List.mem_cons_self ..,
      zf1 := by rw [List.mem_cons, not_or]; exact ⟨n1, Sk.apart I hqx hz rfl ⟨by decide, by decide, by decide⟩⟩,
      zf2 := by rw [List.mem_cons, not_or]; exact ⟨n2, Sk.apart I hqy hz rfl ⟨by decide, by decide, by decide⟩⟩,
      Tf1 := by rw [List.mem_cons, not_or]; exact ⟨n3, na⟩, Tf2 := by rw [List.mem_cons, not_or]; exact ⟨n4, nb⟩,
      sep1_2 := by rw [List.mem_cons, not_or]; exact ⟨n10, ap hqy e1 c1⟩, sep2_1 := by rw [List.mem_cons, not_or]; exact ⟨Ne.symm n10, ap hqx e2 c2⟩ }
    refine wpAny_pyNext_zipD2_item S D1 D2 hz hTI hTO hst1 hst2 (List.getElem?_eq_some_iff.mp hx).1 (List.getElem?_eq_some_iff.mp hy).1 fun u u2 h' tk p1 p2 z' TO' st1' st2' hT hsz hk => ?_
    obtain ⟨x', hx', ru⟩ := hP1 i u p1
    rw [hx] at hx'
    cases hx'
    obtain ⟨y', hy', ru2⟩ := hP2 i u2 p2
    rw [hy] at hy'
    cases hy'
    refine ⟨_, rfl, wpAny_letOwnedTupleGo_zip (s := { s with heap := h', toks := tk }) z' fun h'' z'' sb => ?_⟩
    have hT2 : h''.get? s.heap.objs.size = some { cls := .type "tuple", data := .seq #[u, u2] } := (sb.2 _ (Nat.ne_of_gt hzl)).trans hT
    have new : ObjOk X.prog X.w (upd H s.heap.objs.size (.tup [x, y])) h'' s.heap.objs.size (.tup [x, y]) :=
      ⟨by show 2 ≤ sizeLine; decide, [u, u2], .cons ru (.cons ru2 .nil), ⟨_, hT2, rfl, _, rfl⟩⟩
    have I1 : Inv X pins σ (upd H s.heap.objs.size (.tup [x, y])) { s with heap := h'', toks := tk } :=
      I.turnedNew (t' := tk) (ch := [z, TI, TO, i1, i2]) (fun c o hb q => (sb.2 c (fun q' => hb (by simp [q']))).trans (hk c o (fun q' => hb (by simp [q'])) (fun q' => hb (by simp [q'])) (fun q' => hb (by simp [q'])) (fun q' => hb (by simp [q'])) q)) hf (Nat.le_refl _) new
    refine ⟨.ref s.heap.objs.size, _, I1, rfl, ⟨_, x, y, rfl, I.hok.fresh (Nat.le_refl _), rfl, fun l hl => by rw [Sk.inj I hl hqx]; exact hx, fun l hl => by rw [Sk.inj I hl hqy]; exact hy⟩, ⟨z'', ?_, ⟨u, u2, ?_⟩, ?_, ?_⟩, fun c hcm => ?_⟩
    · exact (sb.2 _ n7).trans (hk _ _ n7 n9 n5 n6 hTI)
    · exact (sb.2 _ n8).trans TO'
    · exact Sk.keepIt (fun o q => (sb.2 _ (Ne.symm n1)).trans q) (hS1 _ _ st1')
    · exact Sk.keepIt (fun o q => (sb.2 _ (Ne.symm n2)).trans q) (hS2 _ _ st2')
    · have hlt : c < s.heap.objs.size := by
        have e' : c = z ∨ c = TI ∨ c = TO ∨ c = i1 ∨ c = i2 := by simpa using hcm
        rcases e' with q | q | q | q | q
        · rw [q]; exact hzl
        · rw [q]; exact Heap.lt_size hTI
        · rw [q]; exact Heap.lt_size hTO
        · rw [q]; exact Heap.lt_size e1
        · rw [q]; exact Heap.lt_size e2
      rw [upd_ne (Nat.ne_of_lt hlt)]
      exact (hf c hcm).1
  done := by
    intro X hP hw hK hc i pins s σ H E I hf st hg
    subst hP hw hK
    obtain ⟨hz, hTI, ⟨x0, y0, hTO⟩, h1, h2⟩ := st
    obtain ⟨xs, ys, hqx, hqy, l1, l2, hend⟩ := hg
    have hh : X.A.in1.handled = none := I.ok.hd hc
    obtain ⟨P1, St1, D1, hst1, hP1, hS1⟩ := Sk.draws I hh hqx h1
    obtain ⟨P2, St2, D2, hst2, hP2, hS2⟩ := Sk.draws I hh hqy h2
    obtain ⟨o1, e1, c1, _⟩ := Sk.ityp h1
    obtain ⟨o2, e2, c2, _⟩ := Sk.ityp h2
    have ap : ∀ {sk : Sk} {vs : List V} {it : Addr} {o : Obj}, sk.con X.K H vs → s.heap.get? it = some o → (o.cls = .type "list_iterator" ∨ o.cls = .type "tuple_iterator" ∨ o.cls = .type "str_ascii_iterator" ∨ o.cls = .type "str_iterator") → it ∉ sk.fp := fun {sk vs it o} hq e c => by
      rcases c with c | c | c | c
      · exact Sk.apart I hq e c ⟨by decide, by decide, by decide⟩
      · exact Sk.apart I hq e c ⟨by decide, by decide, by decide⟩
      · exact Sk.apart I hq e c ⟨by decide, by decide, by decide⟩
      · exact Sk.apart I hq e c ⟨by decide, by decide, by decide⟩
    have S : ZipSep2 z TI TO i1 i2 (i1 :: a.fp) (i2 :: b.fp) := {
      TIz := n7, TOz := n8, TITO := n9, TIi1 := n5, mem1 := List.mem_cons_self .., TIi2 := n6, mem2 := List.mem_cons_self ..,
      zf1 := by rw [List.mem_cons, not_or]; exact ⟨n1, Sk.apart I hqx hz rfl ⟨by decide, by decide, by decide⟩⟩,
      zf2 := by rw [List.mem_cons, not_or]; exact ⟨n2, Sk.apart I hqy hz rfl ⟨by decide, by decide, by decide⟩⟩,
      Tf1 := by rw [List.mem_cons, not_or]; exact ⟨n3, na⟩, Tf2 := by rw [List.mem_cons, not_or]; exact ⟨n4, nb⟩,
      sep1_2 := by rw [List.mem_cons, not_or]; exact ⟨n10, ap hqy e1 c1⟩, sep2_1 := by rw [List.mem_cons, not_or]; exact ⟨Ne.symm n10, ap hqx e2 c2⟩ }
    exact wpAny_pyNext_zipD2_end S D1 D2 hz hTI hTO hst1 hst2 l1 l2 hend fun h' tk hk => ⟨rfl, I.turnedL (t' := tk) (ch := [z, TI, TO, i1, i2]) (fun c o hb q =>
      hk c o (fun q' => hb (by simp [q'])) (fun q' => hb (by simp [q'])) (fun q' => hb (by simp [q'])) (fun q' => hb (by simp [q'])) q) hf⟩
  self := fun A i s Q E st h => wpAny_pyIter_zip st.1 h
end BD

set_option Elab.async false
set_option linter.all false
set_option maxRecDepth 100000
set_option maxHeartbeats 1000000
namespace BD
open PySem PySem.Spec PyProof.Rows L2
/-! ### what was lent is given back -/
theorem give_len : ∀ (ls : List Nat) (L : List Loc), (give L ls).length = L.length
  | [], L => rfl
  | i :: r, L => by
    unfold give
    rw [give_len r]
    split
    · simp
    · rfl
theorem give_at : ∀ (ls : List Nat) (L : List Loc) (j : Nat) (m : Loc), (give L ls)[j]? = some m → L[j]? = some m ∨ ∃ xs, L[j]? = some (.lent xs) ∧ m = .own xs ∧ j ∈ ls
  | [], L, j, m, h => .inl h
  | i :: r, L, j, m, h => by
    unfold give at h
    cases q : L[i]? with
    | none =>
      rw [q] at h
      rcases give_at r _ j m h with z | ⟨xs, z, e, hm⟩
      · exact .inl z
      · exact .inr ⟨xs, z, e, List.mem_cons_of_mem _ hm⟩
    | some u =>
      rw [q] at h
      by_cases hu : ∃ xs, u = .lent xs
      · obtain ⟨xs, rfl⟩ := hu
        dsimp only at h
        rcases give_at r _ j m h with z | ⟨ys, z, e, hm⟩
        · rcases getS z with ⟨rfl, rfl, _⟩ | ⟨_, z⟩
          · exact .inr ⟨xs, q, rfl, List.mem_cons_self ..⟩
          · exact .inl z
        · rcases getS z with ⟨rfl, z, _⟩ | ⟨_, z⟩
          · cases z
          · exact .inr ⟨ys, z, e, List.mem_cons_of_mem _ hm⟩
      · have h : (give L r)[j]? = some m := by
          cases u with
          | lent xs => exact absurd ⟨xs, rfl⟩ hu
          | _ => exact h
        rcases give_at r _ j m h with z | ⟨xs, z, e, hm⟩
        · exact .inl z
        · exact .inr ⟨xs, z, e, List.mem_cons_of_mem _ hm⟩
theorem give_out : ∀ (ls : List Nat) (L : List Loc) (j : Nat), j ∉ ls → (give L ls)[j]? = L[j]?
  | [], L, j, h => rfl
  | i :: r, L, j, h => by
    have h1 : i ≠ j := fun e => h (by rw [e]; exact List.mem_cons_self ..)
    have h2 : j ∉ r := fun e => h (List.mem_cons_of_mem _ e)
    unfold give
    rw [give_out r _ j h2]
    split
    · rw [List.getElem?_set_ne h1]
    · rfl
section
variable {K : PySem.W.Frag} {F : Fm} {s s0 : Sx} {σ σ0 : L2.St} {H H0 : Hp} {ls : List Nat}
theorem md_give (b : Addr) (h : Md F { s with L := give s.L ls } σ b) : Md F s σ b := by
  rcases h with h | ⟨j, m, xs, h1, h2, h3⟩
  · exact .inl h
  · rcases give_at _ _ _ _ h1 with z | ⟨ys, z, e, _⟩
    · exact .inr ⟨j, m, xs, z, h2, h3⟩
    · exact .inr ⟨j, _, ys, z, rfl, h3⟩
theorem fr_give : Fr (Md F s σ) (Md F { s with L := give s.L ls } σ) H H := Fr.sub md_give
theorem Lk.give (l : Lk K F s σ H) : Lk K F { s with L := give s.L ls } σ H := by
  have f : Fr (Md F s σ) (Md F { s with L := BD.give s.L ls } σ) H H := fr_give
  have norm : ∀ {j : Nat} {m : Loc} {zs : List D}, (BD.give s.L ls)[j]? = some m → m.ls = some zs → ∃ m' zs', s.L[j]? = some m' ∧ m'.ls = some zs' := fun {j m zs} h e => by
    rcases give_at _ _ _ _ h with z | ⟨ys, z, _, _⟩
    · exact ⟨_, _, z, e⟩
    · exact ⟨_, _, z, rfl⟩
  refine ⟨by rw [l.len]; exact (give_len ls s.L).symm, fun j z hz => ?_, fun j k m1 m2 xs1 ys1 b h1 e1 h2 e2 h3 h4 => ?_, l.pot, l.mo⟩
  · rcases give_at _ _ _ _ hz with hy | ⟨ys, hy, rfl, _⟩
    · have sl := l.slot j z hy
      cases z with
      | non => trivial
      | dat d => obtain ⟨v, e, r⟩ := sl; exact ⟨v, e, r.mono f⟩
      | own xs => obtain ⟨b, vs, e, e2, n, r⟩ := sl; exact ⟨b, vs, e, e2, n, r.mono f⟩
      | lent xs => obtain ⟨b, vs, e, e2, n, r⟩ := sl; exact ⟨b, vs, e, e2, n, r.mono f⟩
      | pot => exact sl
    · obtain ⟨b, vs, e, e2, n, r⟩ := l.slot j _ hy
      exact ⟨b, vs, e, e2, n, r.mono f⟩
  · obtain ⟨m1', z1, g1, g2⟩ := norm h1 e1
    obtain ⟨m2', z2, g3, g4⟩ := norm h2 e2
    exact l.inj j k _ _ _ _ b g1 g2 g3 g4 h3 h4
theorem Fs.give (f : Fs F s0 σ0 s σ H0 H) (h : ∀ i ∈ ls, ∀ ys, s0.L[i]? ≠ some (.lent ys)) : Fs F s0 σ0 { s with L := give s.L ls } σ H0 H := by
  refine ⟨f.fr.trans fr_give, f.out, fun j xs e => ?_⟩
  obtain ⟨h1, h2⟩ := f.lnt j xs e
  refine ⟨?_, h2⟩
  show (BD.give s.L ls)[j]? = _
  rw [give_out _ _ _ fun hm => h j hm xs e]
  exact h1
end
section
variable {X : Cx} {W : WX} {pos : Pos}
theorem ds_for {tg iter : Expr} {body : List Stmt} {fi : IS} {g : GS} {S : List Nat} {fb : SS} (hp : PassesOwn (model X.prog X.w) X.A X.env X.xe) (hc : X.calm = true) (hi : DI X W tg iter fi) (hg : DG X tg g S) (hb : DSs X W body fb)
    (hs : ∀ x, foldedSetIterable iter X.env x = pure x := by intro _; rfl) : DS X W (.For tg iter body [] pos) (sFor fi g fb) := by
  refine PS.weak (ps_for hp hc hi hg hb hs) fun D σ H ⟨F, s, l, h⟩ => ⟨F, s, l, ?_⟩
  cases q : fi s with
  | err c d s1 =>
    have h : PostS X W F D s σ H ((fi s).bind fun p s1 => (forL g fb p.1 s1).bind fun f s2 => .ok f { s2 with L := give s2.L p.2 }) := h
    rw [q] at h
    exact fun C dx v H' e l x r f => h C dx v σ H' e l x r f
  | stuck =>
    have h : PostS X W F D s σ H ((fi s).bind fun p s1 => (forL g fb p.1 s1).bind fun f s2 => .ok f { s2 with L := give s2.L p.2 }) := h
    rw [q] at h
    exact h
  | ok p s1 =>
    have h : PostS X W F D s σ H ((fi s).bind fun p s1 => (forL g fb p.1 s1).bind fun f s2 => .ok f { s2 with L := give s2.L p.2 }) := h
    rw [q] at h
    obtain ⟨xs, ls⟩ := p
    have h : PostS X W F D s σ H ((forL g fb xs s1).bind fun f s2 => .ok f { s2 with L := give s2.L ls }) := h
    intro J H1 l1 r1 f1
    obtain ⟨sv, nl⟩ := r1
    dsimp only at sv nl
    let T : Nat → L2.St → Hp → Prop := fun i σ' H' => i ≤ xs.length ∧ ∃ s', Lk X.K F s' σ' H' ∧ Fs F s1 σ s' σ' H1 H' ∧ PostS X W F D s σ H ((forL g fb (xs.drop i) s').bind fun f s2 => .ok f { s2 with L := give s2.L ls })
    refine ⟨fun i m σ' H' => m = xs.length - i ∧ T i σ' H', ⟨xs.length, rfl, Nat.zero_le _, s1, l1, Fs.refl, h⟩, fun i m σ' H' hW => ?_⟩
    obtain ⟨rfl, hi, s', l', f', h'⟩ := hW
    have ss := sv i F s' σ' H' l' f'.fr f'.lnt
    by_cases hlt : i < xs.length
    · right
      rw [List.drop_eq_getElem_cons hlt] at h'
      obtain ⟨go, yld⟩ := ss.1 xs[i] (List.getElem?_eq_getElem hlt)
      refine ⟨go, T (i + 1), fun σ'' H'' t => ⟨xs.length - (i + 1), by omega, rfl, t⟩, fun x H'' hy => ?_⟩
      obtain ⟨sm, rx⟩ := yld x H'' hy
      have h' : PostS X W F D s σ H (((Rz.st (g xs[i] s')).bind fun _ s1 => (fb s1).bind fun f s2 => match f with
          | .nx => forL g fb (xs.drop (i + 1)) s2
          | .ct => forL g fb (xs.drop (i + 1)) s2
          | .bk => .ok .nx s2
          | .rt d => .ok (.rt d) s2).bind fun f s2 => .ok f { s2 with L := give s2.L ls }) := h'
      cases eg : g xs[i] s' with
      | none => rw [eg] at h'; exact h'.elim
      | some s2 =>
        rw [eg] at h'
        have lx := l'.same sm
        refine ⟨F, s', xs[i], s2, lx, rx, eg, fun σ2 l2 f2 _ => ⟨F, s2, l2, ?_⟩⟩
        have fa : Fs F s1 σ s2 σ2 H1 H'' := (f'.trans (Fs.of_same l' sm)).trans f2
        have h' : PostS X W F D s σ H (((fb s2).bind fun f s2 => match f with
            | .nx => forL g fb (xs.drop (i + 1)) s2
            | .ct => forL g fb (xs.drop (i + 1)) s2
            | .bk => .ok .nx s2
            | .rt d => .ok (.rt d) s2).bind fun f s2 => .ok f { s2 with L := give s2.L ls }) := h'
        revert h'
        cases fb s2 with
        | err c d s3 => exact fun h' C dx v σ3 H3 e l3 x3 r3 f3 => h' C dx v σ3 H3 e l3 x3 r3 (f1.trans (fa.trans f3))
        | stuck => exact fun h' => h'
        | ok f s3 =>
          cases f with
          | nx => exact fun h' σ3 H3 l3 f3 => ⟨hlt, s3, l3, fa.trans f3, h'⟩
          | ct => exact fun h' σ3 H3 l3 f3 => ⟨hlt, s3, l3, fa.trans f3, h'⟩
          | bk => exact fun h' σ3 H3 l3 f3 => h' σ3 H3 l3.give ((f1.trans (fa.trans f3)).give nl)
          | rt d => exact fun h' v σ3 H3 l3 r3 f3 => h' v σ3 H3 l3.give (r3.mono fr_give) ((f1.trans (fa.trans f3)).give nl)
    · left
      have e : i = xs.length := by omega
      subst e
      rw [List.drop_length] at h'
      exact ⟨ss.2 rfl, h' σ' H' l'.give ((f1.trans f').give nl)⟩
theorem ds_while {c : Expr} {body : List Stmt} {fc : BS} {fb : SS} (hp : PassesOwn (model X.prog X.w) X.A X.env X.xe) (hc : DB X W c fc) (hb : DSs X W body fb) : DS X W (.While c body [] pos) (sWhile fc fb) := by
  refine PS.weak (ps_while hp hc hb) fun D σ H ⟨F, s, l, h⟩ => ?_
  unfold sWhile at h
  split at h
  · rename_i hex
    generalize Classical.choose hex = n at h
    refine ⟨fun m σ' H' => ∃ s', Lk X.K F s' σ' H' ∧ Fs F s σ s' σ' H H' ∧ PostS X W F D s σ H (whN fc fb m s'), ⟨n, s, l, Fs.refl, h⟩, fun m σ' H' ⟨s', l', f', h'⟩ => ?_⟩
    cases m with
    | zero => exact h'.elim
    | succ m =>
      refine ⟨F, s', l', ?_⟩
      have h' : PostS X W F D s σ H ((fc s').bind fun k s1 => if k = true then (fb s1).bind fun f s2 => (match f with
        | .nx => whN fc fb m s2
        | .ct => whN fc fb m s2
        | .bk => .ok .nx s2
        | .rt d => .ok (.rt d) s2) else .ok .nx s1) := h'
      revert h'
      cases fc s' with
      | err cc d s1 => exact fun h' C dx v H1 e l1 x1 r1 f1 => h' C dx v σ' H1 e l1 x1 r1 (f'.trans f1)
      | stuck => exact fun h' => h'
      | ok k s1 =>
        intro h' b H1 l1 r1 f1
        have r1 : k = b := r1
        subst r1
        cases k with
        | false => exact iteF (h' σ' H1 l1 (f'.trans f1))
        | true =>
          refine iteT ⟨fun σ2 H2 => ∃ s2, Lk X.K F s2 σ2 H2 ∧ Fs F s σ s2 σ2 H H2 ∧ PostS X W F D s σ H (whN fc fb m s2), fun σ2 H2 t => ⟨m, Nat.lt_succ_self _, t⟩, F, s1, l1, ?_⟩
          have h' : PostS X W F D s σ H ((fb s1).bind fun f s2 => (match f with
            | .nx => whN fc fb m s2
            | .ct => whN fc fb m s2
            | .bk => .ok .nx s2
            | .rt d => .ok (.rt d) s2)) := h'
          revert h'
          cases fb s1 with
          | err c d s3 => exact fun h' C dx v σ3 H3 e l3 x3 r3 f3 => h' C dx v σ3 H3 e l3 x3 r3 ((f'.trans f1).trans f3)
          | stuck => exact fun h' => h'
          | ok f s3 =>
            cases f with
            | nx => exact fun h' σ3 H3 l3 f3 => ⟨s3, l3, (f'.trans f1).trans f3, h'⟩
            | ct => exact fun h' σ3 H3 l3 f3 => ⟨s3, l3, (f'.trans f1).trans f3, h'⟩
            | bk => exact fun h' σ3 H3 l3 f3 => h' σ3 H3 l3 ((f'.trans f1).trans f3)
            | rt d => exact fun h' v σ3 H3 l3 r3 f3 => h' v σ3 H3 l3 r3 ((f'.trans f1).trans f3)
  · exact h.elim
/-! a while, by the number of its turns -/
theorem whN_more {c : BS} {b : SS} : ∀ (n m : Nat) (s : Sx), whN c b n s ≠ .stuck → whN c b (n + m) s = whN c b n s
  | 0, _, _, h => absurd rfl h
  | n + 1, m, s, h => by
    rw [show n + 1 + m = (n + m) + 1 by omega]
    unfold whN at h ⊢
    cases e : c s with
    | err => rfl
    | stuck => rfl
    | ok k s1 =>
      rw [e] at h
      cases k with
      | false => rfl
      | true =>
        simp only [bind_ok, if_true] at h ⊢
        cases q : b s1 with
        | err => rfl
        | stuck => rfl
        | ok f s2 =>
          rw [q] at h
          cases f with
          | nx => exact whN_more n m s2 h
          | ct => exact whN_more n m s2 h
          | bk => rfl
          | rt => rfl
theorem sWhile_of {c : BS} {b : SS} {n : Nat} {s : Sx} (h : whN c b n s ≠ .stuck) : sWhile c b s = whN c b n s := by
  have hex : ∃ n, whN c b n s ≠ .stuck := ⟨n, h⟩
  unfold sWhile
  rw [dif_pos hex]
  have h2 := Classical.choose_spec hex
  generalize Classical.choose hex = m at h2
  rcases Nat.le_total n m with z | z
  · obtain ⟨j, rfl⟩ := Nat.exists_eq_add_of_le z
    exact whN_more n j s h
  · obtain ⟨j, rfl⟩ := Nat.exists_eq_add_of_le z
    exact (whN_more m j s h2).symm
end
end BD

set_option Elab.async false
set_option linter.all false
set_option maxRecDepth 100000
set_option maxHeartbeats 1000000
namespace BD
open PySem PySem.Spec PyProof.Rows L2
theorem unset_len : ∀ (own : List Nat) (L : List Loc), (unset L own).length = L.length
  | [], L => rfl
  | v :: vs, L => by unfold unset; rw [List.length_set, unset_len]
theorem unset_get : ∀ (own : List Nat) (L : List Loc) (j : Nat), (unset L own)[j]? = if j ∈ own then (L[j]?).map (fun _ => Loc.non) else L[j]?
  | [], L, j => by simp [unset]
  | v :: vs, L, j => by
    unfold unset
    by_cases hj : v = j
    · subst hj
      have hl : (unset L vs).length = L.length := unset_len vs L
      by_cases h : v < L.length
      · rw [List.getElem?_set_self (by rw [hl]; exact h)]
        simp [List.getElem?_eq_getElem h]
      · rw [List.getElem?_eq_none (by rw [List.length_set, hl]; omega)]
        simp [List.getElem?_eq_none (Nat.le_of_not_lt h)]
    · rw [List.getElem?_set_ne hj, unset_get]
      have : (j ∈ v :: vs) ↔ j ∈ vs := by rw [List.mem_cons]; exact ⟨fun h => h.elim (fun e => absurd e.symm hj) id, .inr⟩
      by_cases hv : j ∈ vs
      · rw [if_pos hv, if_pos (this.mpr hv)]
      · rw [if_neg hv, if_neg (fun h => hv (this.mp h))]
theorem back_len (L0 : List Loc) : ∀ (own : List Nat) (L : List Loc), (back L0 L own).length = L.length
  | [], L => rfl
  | v :: vs, L => by unfold back; rw [List.length_set, back_len]
theorem back_get (L0 : List Loc) : ∀ (own : List Nat) (L : List Loc) (j : Nat), (back L0 L own)[j]? = if j ∈ own then (L[j]?).map (fun _ => L0.getD j .non) else L[j]?
  | [], L, j => by simp [back]
  | v :: vs, L, j => by
    unfold back
    by_cases hj : v = j
    · subst hj
      by_cases h : v < L.length
      · rw [List.getElem?_set_self (by rw [back_len]; exact h)]
        simp [List.getElem?_eq_getElem h]
      · rw [List.getElem?_eq_none (by rw [List.length_set, back_len]; omega)]
        simp [List.getElem?_eq_none (Nat.le_of_not_lt h)]
    · rw [List.getElem?_set_ne hj, back_get]
      have : (j ∈ v :: vs) ↔ j ∈ vs := by rw [List.mem_cons]; exact ⟨fun h => h.elim (fun e => absurd e.symm hj) id, .inr⟩
      by_cases hv : j ∈ vs
      · rw [if_pos hv, if_pos (this.mpr hv)]
      · rw [if_neg hv, if_neg (fun h => hv (this.mp h))]
section
variable {K : PySem.W.Frag} {F : Fm} {s s1 : Sx} {σ : L2.St} {H H1 : Hp} {own : List Nat}
theorem md_unset (b : Addr) (h : Md F { s with L := unset s.L own } (wipe σ own) b) : Md F s σ b := by
  rcases h with h | ⟨j, m, xs, h1, h2, h3⟩
  · exact .inl h
  · have h1 : (unset s.L own)[j]? = some m := h1
    rw [unset_get] at h1
    by_cases hj : j ∈ own
    · rw [if_pos hj] at h1
      cases q : s.L[j]? with
      | none => rw [q] at h1; cases h1
      | some u => rw [q] at h1; cases h1; cases h2
    · rw [if_neg hj] at h1
      rw [wipe_get, if_neg hj] at h3
      exact .inr ⟨j, m, xs, h1, h2, h3⟩
theorem fr_unset : Fr (Md F s σ) (Md F { s with L := unset s.L own } (wipe σ own)) H H := Fr.sub md_unset
theorem Lk.unset (l : Lk K F s σ H) : Lk K F { s with L := unset s.L own } (wipe σ own) H := by
  have f : Fr (Md F s σ) (Md F { s with L := BD.unset s.L own } (wipe σ own)) H H := fr_unset
  have norm : ∀ {j : Nat} {m : Loc} {xs : List D}, (BD.unset s.L own)[j]? = some m → m.ls = some xs → s.L[j]? = some m ∧ (wipe σ own)[j]? = σ[j]? := fun {j m xs} h e => by
    rw [unset_get] at h
    by_cases hj : j ∈ own
    · rw [if_pos hj] at h
      cases q : s.L[j]? with
      | none => rw [q] at h; cases h
      | some u => rw [q] at h; cases h; cases e
    · rw [if_neg hj] at h
      exact ⟨h, by rw [wipe_get, if_neg hj]⟩
  refine ⟨by rw [wipe_length, l.len]; exact (unset_len own s.L).symm, fun j z hz => ?_, fun j k m1 m2 xs1 ys1 b h1 e1 h2 e2 h3 h4 => ?_, l.pot, l.mo⟩
  · have hz : (BD.unset s.L own)[j]? = some z := hz
    rw [unset_get] at hz
    by_cases hj : j ∈ own
    · rw [if_pos hj] at hz
      cases q : s.L[j]? with
      | none => rw [q] at hz; cases hz
      | some u => rw [q] at hz; cases hz; trivial
    · rw [if_neg hj] at hz
      have es : (wipe σ own)[j]? = σ[j]? := by rw [wipe_get, if_neg hj]
      have sl := l.slot j z hz
      cases z with
      | non => trivial
      | dat d => obtain ⟨v, e, r⟩ := sl; exact ⟨v, es.trans e, r.mono f⟩
      | own xs => obtain ⟨b, vs, e, e2, n, r⟩ := sl; exact ⟨b, vs, es.trans e, e2, n, r.mono f⟩
      | lent xs => obtain ⟨b, vs, e, e2, n, r⟩ := sl; exact ⟨b, vs, es.trans e, e2, n, r.mono f⟩
      | pot => obtain ⟨a, e, e2⟩ := sl; exact ⟨a, e, es.trans e2⟩
  · obtain ⟨g1, g2⟩ := norm h1 e1
    obtain ⟨g3, g4⟩ := norm h2 e2
    exact l.inj j k _ _ _ _ b g1 e1 g3 e2 (g2 ▸ h3) (g4 ▸ h4)
/-- a list held aside is changed -/
theorem Lk.aside {p : Addr} {vs us : List V} (l : Lk K (F.add p) s σ H) (hp : F.pa ≠ some p) (h : H p = some (.lst vs)) : Lk K (F.add p) s σ (upd H p (.lst us)) ∧ Fr (Md (F.add p) s σ) (Md (F.add p) s σ) H (upd H p (.lst us)) := by
  have f : Fr (Md (F.add p) s σ) (Md (F.add p) s σ) H (upd H p (.lst us)) := ⟨fun a o e hm => by
    by_cases ha : a = p
    · subst ha
      have q := hm (Md.add.mpr (.inr rfl))
      rw [h] at e
      cases e
      cases q
    · rw [upd_ne ha]; exact e, fun a z => .inl z, fun a z => by
    by_cases ha : a = p
    · subst ha; rw [upd_same] at z; cases z
    · rw [upd_ne ha] at z; exact z⟩
  refine ⟨l.mono f (fun a z => ?_) rfl (fun a z => z) (fun i m xs a us e1 em e2 e3 => ?_) fun a e => ?_, f⟩
  · by_cases ha : a = p
    · subst ha; exact ⟨_, upd_same⟩
    · rw [upd_ne ha]; exact l.mo a z
  · obtain ⟨b, ws, q1, q2, q3, _⟩ := l.list e1 em
    rw [e2] at q1
    cases q1
    have ha : a ≠ p := fun z => q3 (.inr z)
    exact ⟨by rw [upd_ne ha]; exact e3, q3⟩
  · exact upd_ne fun z => hp (z ▸ e)
end
section
variable {X : Cx} {W : WX} {pos : Pos}
abbrev W0 : WX := fun _ _ _ _ => False
theorem comp_core {own : List (Str × Nat)} {fi : IS} {g : GS} {S : List Nat} {fc : BS} {fe : ES} (hS : ∀ i ∈ S, i ∈ own.map (·.2)) {σ : L2.St} {H : Hp} {Q : VK} (h : rdL X W (lComp fi g fc fe (own.map (·.2))) σ H Q) :
    tLc (rdI X W fi) (rdG X g S) (rdB X W0 fc) (rdE X W0 fe) (own.map (·.2)) σ H Q := by
  obtain ⟨F, s, l, h⟩ := h
  refine ⟨F, s, l, ?_⟩
  generalize own.map (·.2) = ow at hS h ⊢
  cases q : fi s with
  | err c d s1 =>
    have h : Post X W F (RL X F σ H) s σ H ((fi s).bind fun p s1 => if ow.all (fun i => isDat s1.L[i]?) then (compL g fc fe ow p.1 [] { s1 with L := unset s1.L ow }).bind fun ys s2 => .ok ys { s2 with L := give (back s1.L s2.L ow) p.2 } else .stuck) Q := h
    rw [q] at h
    exact fun C dx v H' e l x r f => h C dx v H' e l x r f
  | stuck =>
    have h : Post X W F (RL X F σ H) s σ H ((fi s).bind fun p s1 => if ow.all (fun i => isDat s1.L[i]?) then (compL g fc fe ow p.1 [] { s1 with L := unset s1.L ow }).bind fun ys s2 => .ok ys { s2 with L := give (back s1.L s2.L ow) p.2 } else .stuck) Q := h
    rw [q] at h
    exact h
  | ok p s1 =>
    have h : Post X W F (RL X F σ H) s σ H ((fi s).bind fun p s1 => if ow.all (fun i => isDat s1.L[i]?) then (compL g fc fe ow p.1 [] { s1 with L := unset s1.L ow }).bind fun ys s2 => .ok ys { s2 with L := give (back s1.L s2.L ow) p.2 } else .stuck) Q := h
    rw [q] at h
    obtain ⟨xs, ls⟩ := p
    have h : Post X W F (RL X F σ H) s σ H (if ow.all (fun i => isDat s1.L[i]?) then (compL g fc fe ow xs [] { s1 with L := unset s1.L ow }).bind fun ys s2 => .ok ys { s2 with L := give (back s1.L s2.L ow) ls } else .stuck) Q := h
    split at h
    case isFalse => exact h.elim
    rename_i hdat
    rw [List.all_eq_true] at hdat
    intro J H1 l1 r1 f1 D nD
    obtain ⟨sv, nl⟩ := r1
    dsimp only at sv nl
    have pD : F.pa ≠ some D := fun z => by
      obtain ⟨m, _⟩ := l1.pot D z
      obtain ⟨o, e⟩ := l1.mo D m
      rw [nD] at e
      cases e
    have h0D : H D = none := f1.fr.there D nD
    -- the block's start
    have lU := ((l1.addNew nD (.lst [])).unset (own := ow))
    have frU : Fr (Md F s1 σ) (Md (F.add D) { s1 with L := unset s1.L ow } (wipe σ ow)) H1 (upd H1 D (.lst [])) := ((fr_add l1 nD).trans (Fr.of_same (same_upd nD))).trans fr_unset
    have nown : ∀ (i : Nat) (ys : List BD.D), s1.L[i]? = some (.lent ys) → i ∉ ow := fun i ys e hm => by
      have z := hdat i hm
      rw [e] at z
      cases z
    let T : Nat → Hp → Prop := fun i H' => i ≤ xs.length ∧ ∃ s' acc vs, Lk X.K (F.add D) s' (wipe σ ow) H' ∧ Fr (Md (F.add D) { s1 with L := unset s1.L ow } (wipe σ ow)) (Md (F.add D) s' (wipe σ ow)) (upd H1 D (.lst [])) H' ∧
      (∀ a, F.Mo a → F.pa ≠ some a → H' a = H1 a) ∧ (∀ (j : Nat) (zs : List BD.D), s1.L[j]? = some (.lent zs) → s'.L[j]? = some (.lent zs)) ∧ H' D = some (.lst vs) ∧ Reps X.K (Md (F.add D) s' (wipe σ ow)) H' acc vs ∧
      Post X W F (RL X F σ H) s σ H ((compL g fc fe ow (xs.drop i) acc s').bind fun ys s2 => .ok ys { s2 with L := give (back s1.L s2.L ow) ls }) Q
    refine ⟨fun i m H' => m = xs.length - i ∧ T i H', ⟨xs.length, rfl, Nat.zero_le _, _, [], [], lU, Fr.refl _ _, fun a m n => upd_ne fun z => ?_, fun j zs e => ?_, upd_same, .nil, h⟩, fun i m H' hW => ?_⟩
    · subst z
      obtain ⟨o, e⟩ := l1.mo _ m
      rw [nD] at e
      cases e
    · show (unset s1.L ow)[j]? = _
      rw [unset_get, if_neg (nown j zs e)]
      exact e
    obtain ⟨rfl, hi, s', acc, vs, l', f', out', ln', hD', rA, h'⟩ := hW
    have ss := sv i (F.add D) s' (wipe σ ow) H' l' (frU.trans f') (fun j ys e => ⟨ln' j ys e, by rw [wipe_get, if_neg (nown j ys e)]⟩)
    by_cases hlt : i < xs.length
    · right
      rw [List.drop_eq_getElem_cons hlt] at h'
      obtain ⟨go, yld⟩ := ss.1 xs[i] (List.getElem?_eq_getElem hlt)
      refine ⟨go, T (i + 1), fun H'' t => ⟨xs.length - (i + 1), by omega, rfl, t⟩, fun x H'' hy => ?_⟩
      obtain ⟨sm, rx⟩ := yld x H'' hy
      have h' : Post X W F (RL X F σ H) s σ H (((Rz.st (g xs[i] s')).bind fun _ s1 => (fc s1).calm.bind fun k s2 =>
          if k = true then (fe s2).calm.bind fun y s3 => if acc.length < szl then compL g fc fe ow (xs.drop (i + 1)) (acc ++ [y]) { s3 with L := unset s3.L ow } else .stuck
          else compL g fc fe ow (xs.drop (i + 1)) acc { s2 with L := unset s2.L ow }).bind fun ys s2 => .ok ys { s2 with L := give (back s1.L s2.L ow) ls }) Q := h'
      cases eg : g xs[i] s' with
      | none => rw [eg] at h'; exact h'.elim
      | some s2 =>
        rw [eg] at h'
        have lx := l'.same sm
        refine ⟨F.add D, s', xs[i], s2, lx, rx, eg, fun σ2 l2 f2 w2 => ⟨(w2 ow hS).trans ?_, F.add D, s2, l2, ?_⟩⟩
        · have : ∀ (vs : List Nat), wipe (wipe σ vs) vs = wipe σ vs := fun vs => by
            apply List.ext_getElem?
            intro j
            rw [wipe_get, wipe_get]
            by_cases hj : j ∈ vs
            · rw [if_pos hj, if_pos hj]
              cases σ[j]? <;> rfl
            · rw [if_neg hj, if_neg hj]
          exact this ow
        have hw2 : wipe σ2 ow = wipe σ ow := (w2 ow hS).trans (by
          apply List.ext_getElem?
          intro j
          rw [wipe_get, wipe_get]
          by_cases hj : j ∈ ow
          · rw [if_pos hj, if_pos hj]
            cases σ[j]? <;> rfl
          · rw [if_neg hj, if_neg hj])
        have fa : Fs (F.add D) s' (wipe σ ow) s2 σ2 H' H'' := (Fs.of_same l' sm).trans f2
        have h' : Post X W F (RL X F σ H) s σ H (((fc s2).calm.bind fun k s2 =>
          if k = true then (fe s2).calm.bind fun y s3 => if acc.length < szl then compL g fc fe ow (xs.drop (i + 1)) (acc ++ [y]) { s3 with L := unset s3.L ow } else .stuck
          else compL g fc fe ow (xs.drop (i + 1)) acc { s2 with L := unset s2.L ow }).bind fun ys s2 => .ok ys { s2 with L := give (back s1.L s2.L ow) ls }) Q := h'
        revert h'
        cases fc s2 with
        | err c d s3 => exact fun h' => h'.elim
        | stuck => exact fun h' => h'
        | ok k s3 =>
          intro h' b H3 l3 r3 f3
          have r3 : k = b := r3
          subst r3
          have fb := fa.trans f3
          -- the end of a turn
          have fin : ∀ {s4 : Sx} {H4 : Hp} {acc' : List BD.D} {vs' : List V}, Lk X.K (F.add D) s4 σ2 H4 → Fr (Md (F.add D) s' (wipe σ ow)) (Md (F.add D) s4 σ2) H' H4 → (∀ a, F.Mo a → F.pa ≠ some a → H4 a = H' a) → (∀ (j : Nat) (zs : List BD.D), s'.L[j]? = some (.lent zs) → s4.L[j]? = some (.lent zs)) → H4 D = some (.lst vs') → Reps X.K (Md (F.add D) s4 σ2) H4 acc' vs' →
              Post X W F (RL X F σ H) s σ H ((compL g fc fe ow (xs.drop (i + 1)) acc' { s4 with L := unset s4.L ow }).bind fun ys s2 => .ok ys { s2 with L := give (back s1.L s2.L ow) ls }) Q → T (i + 1) H4 := fun {s4 H4 acc' vs'} l4 f4 o4 n4 hD4 r4 h4 => by
            have lu := l4.unset (own := ow)
            have fu : Fr (Md (F.add D) s4 σ2) (Md (F.add D) { s4 with L := unset s4.L ow } (wipe σ2 ow)) H4 H4 := fr_unset
            rw [hw2] at lu fu
            refine ⟨hlt, _, acc', vs', lu, (f'.trans f4).trans fu, fun a m n => (o4 a m n).trans (out' a m n), fun j zs e => ?_, hD4, r4.mono fu, h4⟩
            show (unset s4.L ow)[j]? = _
            rw [unset_get, if_neg (nown j zs e)]
            exact n4 j zs (ln' j zs e)
          cases k with
          | false =>
            refine iteF (fin l3 fb.fr (fun a m n => fb.out a (.inl m) n) (fun j zs e => (fb.lnt j zs e).1) ?_ (rA.mono fb.fr) h')
            rw [fb.out D (.inr rfl) pD]
            exact hD'
          | true =>
            refine iteT ⟨F.add D, s3, l3, ?_⟩
            have h' : Post X W F (RL X F σ H) s σ H (((fe s3).calm.bind fun y s3 => if acc.length < szl then compL g fc fe ow (xs.drop (i + 1)) (acc ++ [y]) { s3 with L := unset s3.L ow } else .stuck).bind fun ys s2 => .ok ys { s2 with L := give (back s1.L s2.L ow) ls }) Q := h'
            revert h'
            cases fe s3 with
            | err c d s4 => exact fun h' => h'.elim
            | stuck => exact fun h' => h'
            | ok y s4 =>
              intro h' v H4 l4 r4 f4
              have h' : Post X W F (RL X F σ H) s σ H ((if acc.length < szl then compL g fc fe ow (xs.drop (i + 1)) (acc ++ [y]) { s4 with L := unset s4.L ow } else .stuck).bind fun ys s2 => .ok ys { s2 with L := give (back s1.L s2.L ow) ls }) Q := h'
              split at h'
              case isFalse => exact h'.elim
              rename_i hsz
              have fc' := fb.trans f4
              have hD4 : H4 D = some (.lst vs) := by rw [fc'.out D (.inr rfl) pD]; exact hD'
              obtain ⟨l5, f5⟩ := l4.aside (us := vs ++ [v]) pD hD4
              refine ⟨vs, hD4, ?_, fin l5 (fc'.fr.trans f5) (fun a m n => ?_) (fun j zs e => (fc'.lnt j zs e).1) upd_same (((rA.mono fc'.fr).append (.cons r4 .nil)).mono f5) h'⟩
              · rw [← rA.length]; exact szl_lt hsz
              · rw [upd_ne]
                · exact fc'.out a (.inl m) n
                · rintro rfl
                  obtain ⟨o, e⟩ := l1.mo _ m
                  rw [nD] at e
                  cases e
    · left
      have e : i = xs.length := by omega
      subst e
      rw [List.drop_length] at h'
      refine ⟨ss.2 rfl, ?_⟩
      have h' : ∀ b H', Lk X.K F { s' with L := give (back s1.L s'.L ow) ls } σ H' → RL X F σ H { s' with L := give (back s1.L s'.L ow) ls } H' acc b → Fs F s σ { s' with L := give (back s1.L s'.L ow) ls } σ H H' → Q b H' := h'
      -- the slots as they were
      have bk : ∀ {j : Nat} {m : Loc}, (back s1.L s'.L ow)[j]? = some m → (j ∈ ow ∧ (m = .non ∨ ∃ d, m = .dat d) ∧ (m = .non ∨ s1.L[j]? = some m)) ∨ (j ∉ ow ∧ s'.L[j]? = some m ∧ (wipe σ ow)[j]? = σ[j]?) := fun {j m} hm => by
        rw [back_get] at hm
        by_cases hj : j ∈ ow
        · rw [if_pos hj] at hm
          left
          cases q : s'.L[j]? with
          | none => rw [q] at hm; cases hm
          | some u =>
            rw [q] at hm
            have hm : s1.L.getD j .non = m := Option.some.inj hm
            have z := hdat j hj
            rw [List.getD_eq_getElem?_getD] at hm
            cases q2 : s1.L[j]? with
            | none => rw [q2] at hm; subst hm; exact ⟨hj, .inl rfl, .inl rfl⟩
            | some u2 =>
              rw [q2] at hm z
              have hm : u2 = m := hm
              subst hm
              cases u2 with
              | non => exact ⟨hj, .inl rfl, .inl rfl⟩
              | dat d => exact ⟨hj, .inr ⟨d, rfl⟩, .inr rfl⟩
              | _ => cases z
        · rw [if_neg hj] at hm
          exact .inr ⟨hj, hm, by rw [wipe_get, if_neg hj]⟩
      have mdb : ∀ b, Md F { s' with L := back s1.L s'.L ow } σ b → Md F s' (wipe σ ow) b := fun b hb => by
        rcases hb with hb | ⟨j, m, zs, g1, g2, g3⟩
        · exact .inl hb
        · rcases bk g1 with ⟨_, z, _⟩ | ⟨hj, z, e⟩
          · rcases z with z | ⟨d, z⟩
            · subst z; cases g2
            · subst z; cases g2
          · exact .inr ⟨j, m, zs, z, g2, e ▸ g3⟩
      have f2 : Fr (Md F s1 σ) (Md F { s' with L := back s1.L s'.L ow } σ) H1 H' := by
        refine (frU.trans f').trans (Fr.sub fun b hb => ?_)
        exact Md.add.mpr (.inl (mdb b hb))
      have nDm : ¬ Md F { s' with L := back s1.L s'.L ow } σ D := fun hb => by
        rcases mdb D hb with z | ⟨j, m, zs, g1, g2, g3⟩
        · obtain ⟨o, e⟩ := l1.mo D z
          rw [nD] at e
          cases e
        · obtain ⟨a, us, e1, e2, e3, _⟩ := l'.list g1 g2
          rw [g3] at e1
          cases e1
          exact e3 (.inr rfl)
      have f2D : Fr (Md (F.add D) s' (wipe σ ow)) (Md (F.add D) { s' with L := back s1.L s'.L ow } σ) H' H' := Fr.sub fun b hb => (Md.add.mp hb).elim (fun z => Md.add.mpr (.inl (mdb b z))) fun z => Md.add.mpr (.inr z)
      have f1D : Fr (Md F s1 σ) (Md (F.add D) { s' with L := back s1.L s'.L ow } σ) H1 H' := (frU.trans f').trans f2D
      have lD : Lk X.K (F.add D) { s' with L := back s1.L s'.L ow } σ H' := by
        refine ⟨?_, fun j z hz => ?_, fun j k m1 m2 xs1 ys1 b g1 e1 g2 e2 g3 g4 => ?_, l'.pot, l'.mo⟩
        · have e1 := l'.len
          rw [wipe_length] at e1
          rw [e1]
          exact (back_len _ _ _).symm
        · rcases bk hz with ⟨hj, z1, z2⟩ | ⟨hj, z1, e⟩
          · rcases z1 with z1 | ⟨d, z1⟩
            · subst z1; trivial
            · subst z1
              rcases z2 with z2 | z2
              · cases z2
              · obtain ⟨v, e, r⟩ := l1.slot j _ z2
                exact ⟨v, e, r.mono f1D⟩
          · have sl := l'.slot j z z1
            cases z with
            | non => trivial
            | dat d => obtain ⟨v, e3, r⟩ := sl; exact ⟨v, e ▸ e3, r.mono f2D⟩
            | own xs => obtain ⟨b, vs, e3, e2, n, r⟩ := sl; exact ⟨b, vs, e ▸ e3, e2, n, r.mono f2D⟩
            | lent xs => obtain ⟨b, vs, e3, e2, n, r⟩ := sl; exact ⟨b, vs, e ▸ e3, e2, n, r.mono f2D⟩
            | pot => obtain ⟨a, e3, e2⟩ := sl; exact ⟨a, e3, e ▸ e2⟩
        · have norm : ∀ {j : Nat} {m : Loc} {zs : List BD.D}, (back s1.L s'.L ow)[j]? = some m → m.ls = some zs → s'.L[j]? = some m ∧ (wipe σ ow)[j]? = σ[j]? := fun {j m zs} h e => by
            rcases bk h with ⟨_, z, _⟩ | ⟨_, z, e2⟩
            · rcases z with z | ⟨d, z⟩
              · subst z; cases e
              · subst z; cases e
            · exact ⟨z, e2⟩
          obtain ⟨k1, k2⟩ := norm g1 e1
          obtain ⟨k3, k4⟩ := norm g2 e2
          exact l'.inj j k _ _ _ _ b k1 e1 k3 e2 (k2 ▸ g3) (k4 ▸ g4)
      have fin : Fs F s σ { s' with L := back s1.L s'.L ow } σ H H' := f1.trans ⟨f2, out', fun j zs e => ⟨by show (back s1.L s'.L ow)[j]? = _; rw [back_get, if_neg (nown j zs e)]; exact ln' j zs e, rfl⟩⟩
      refine h' (.ref D) H' (lD.give.drop pD) ⟨D, vs, rfl, h0D, hD', fun z => nDm (md_give D z), lD.give, (rA.mono f2D).mono fr_give⟩ (fin.give nl)
theorem dl_comp {elt tg iter : Expr} {ifs : List Expr} {scope : Scope} {own : List (Str × Nat)} {fi : IS} {g : GS} {S : List Nat} {fc : BS} {fe : ES} (hc : X.calm = true) (hN : X.N.Nodup) (hi : DI X W tg iter fi) (ok : BlkOk X.N X.env.scope scope own)
    (hg : ∀ (s : Shared) (H : Hp) (C : Addr) (cl : List (Str × Addr)) (fp : List Addr), DG (X.blk s H scope (compEnvC scope cl C X.env) fp) tg g S) (hS : ∀ i ∈ S, i ∈ own.map (·.2))
    (ht : ∀ (s : Shared) (H : Hp) (C : Addr) (cl : List (Str × Addr)) (fp : List Addr), PTs (X.blk s H scope (compEnvC scope cl C X.env) fp) ifs (rdB X W0 fc))
    (he : ∀ (s : Shared) (H : Hp) (C : Addr) (cl : List (Str × Addr)) (fp : List Addr), DE (X.blk s H scope (compEnvC scope cl C X.env) fp) W0 elt fe) (hs : ∀ x, foldedSetIterable iter X.env x = pure x := by intro _; rfl) :
    DL X W (.ListComp elt [⟨tg, iter, ifs, 0⟩] scope pos) (lComp fi g fc fe (own.map (·.2))) :=
  PE.weak (pe_lc (g := rdG X g S) (te := rdE X W0 fe) hc hN hi ok hg ht he hs) fun σ H Q h => comp_core hS h
/-- name = [..] on one line, the name a local: a list of the def's own | data -/
theorem ds_ownC {i : Nat} {y : Str} {py : Pos} {spos : Pos} {elt tg iter : Expr} {ifs : List Expr} {scope : Scope} {own : List (Str × Nat)} {fi : IS} {g : GS} {S : List Nat} {fc : BS} {fe : ES} (hc : X.calm = true) (hN : X.N.Nodup) (hy : X.N[i]? = some y) (hyl : X.env.scope.names.lookup y = some .local)
    (hsw : swapsWith (.ListComp elt [⟨tg, iter, ifs, 0⟩] scope pos) (some (.Name y py)) spos.line X.env = pure true) (hi : DI X W tg iter fi) (ok : BlkOk X.N X.env.scope scope own)
    (hg : ∀ (s : Shared) (H : Hp) (C : Addr) (cl : List (Str × Addr)) (fp : List Addr), DG (X.blk s H scope (compEnvC scope cl C X.env) fp) tg g S) (hS : ∀ i ∈ S, i ∈ own.map (·.2))
    (ht : ∀ (s : Shared) (H : Hp) (C : Addr) (cl : List (Str × Addr)) (fp : List Addr), PTs (X.blk s H scope (compEnvC scope cl C X.env) fp) ifs (rdB X W0 fc))
    (he : ∀ (s : Shared) (H : Hp) (C : Addr) (cl : List (Str × Addr)) (fp : List Addr), DE (X.blk s H scope (compEnvC scope cl C X.env) fp) W0 elt fe) (hs : ∀ x, foldedSetIterable iter X.env x = pure x := by intro _; rfl) :
    DS X W (.Assign [.Name y py] (.ListComp elt [⟨tg, iter, ifs, 0⟩] scope pos) spos) (sOwn i (lComp fi g fc fe (own.map (·.2)))) :=
  PS.weak (ps_setLc (g := rdG X g S) (te := rdE X W0 fe) hc hN hy hyl hsw hi ok hg ht he hs) fun D σ H h => comp_core hS (own_core h)
theorem el_core {f : Sx → Rz (List D)} {σ : L2.St} {H : Hp} {Q : VK} (h : rdE X W (eL f) σ H Q) : rdL X W f σ H Q := by
  obtain ⟨F, st, l, w⟩ := h
  exact ⟨F, st, l, Post.bind w fun xs st1 v H1 l1 r1 f1 w1 => by
    obtain ⟨a, vs, rfl, n0, n1, n2, n3, n4⟩ := r1
    exact w1 _ H1 l1 (.lst n2 n1 (n4.mono (Fr.sub fun b hb => Md.add.mpr (.inl hb)))) Fs.refl⟩
theorem ds_setC {i : Nat} {y : Str} {py : Pos} {spos : Pos} {elt tg iter : Expr} {ifs : List Expr} {scope : Scope} {own : List (Str × Nat)} {fi : IS} {g : GS} {S : List Nat} {fc : BS} {fe : ES} (hc : X.calm = true) (hN : X.N.Nodup) (hy : X.N[i]? = some y) (hyl : X.env.scope.names.lookup y = some .local)
    (hsw : swapsWith (.ListComp elt [⟨tg, iter, ifs, 0⟩] scope pos) (some (.Name y py)) spos.line X.env = pure true) (hi : DI X W tg iter fi) (ok : BlkOk X.N X.env.scope scope own)
    (hg : ∀ (s : Shared) (H : Hp) (C : Addr) (cl : List (Str × Addr)) (fp : List Addr), DG (X.blk s H scope (compEnvC scope cl C X.env) fp) tg g S) (hS : ∀ i ∈ S, i ∈ own.map (·.2))
    (ht : ∀ (s : Shared) (H : Hp) (C : Addr) (cl : List (Str × Addr)) (fp : List Addr), PTs (X.blk s H scope (compEnvC scope cl C X.env) fp) ifs (rdB X W0 fc))
    (he : ∀ (s : Shared) (H : Hp) (C : Addr) (cl : List (Str × Addr)) (fp : List Addr), DE (X.blk s H scope (compEnvC scope cl C X.env) fp) W0 elt fe) (hs : ∀ x, foldedSetIterable iter X.env x = pure x := by intro _; rfl) :
    DS X W (.Assign [.Name y py] (.ListComp elt [⟨tg, iter, ifs, 0⟩] scope pos) spos) (sSet (gV i) (eL (lComp fi g fc fe (own.map (·.2))))) :=
  PS.weak (ps_setLc (g := rdG X g S) (te := rdE X W0 fe) hc hN hy hyl hsw hi ok hg ht he hs) fun D σ H h => comp_core hS (el_core (set_core h))
end
end BD

set_option Elab.async false
set_option linter.all false
set_option maxRecDepth 100000
set_option maxHeartbeats 1000000
namespace BD
open PySem PySem.Spec PyProof.Rows L2
set_option maxHeartbeats 1000000 in
theorem meets_enumerate_newB1 {v : Value} {o : Obj} {H : Heap → Prop} (B : Begins v o H) :
    Meets (Builtin.«enumerate.__new__» ⟨[.type "enumerate", v], []⟩) (fun _ R s => H s.heap ∧
      R (.ok (.ret (.ref (s.heap.push o).objs.size))) { s with heap := (s.heap.push o).push { cls := .type "enumerate", data := .fields #[.none, .bool false, .ref s.heap.objs.size, rawInt 0, .none, .none] } }) :=
  .of_wp fun prog w A R s h => by
    obtain ⟨hp, g, d, tk, os⟩ := s; obtain ⟨h1, h⟩ := h
    have hsub := sub_enumerate
    have q1 : ∀ {A' : Around} {E : Value → Shared → Prop} {Q : Value → Shared → Prop}, Q (.ref hp.objs.size) ⟨hp.push o, g, d, tk, os⟩ → wpAny (model prog w) A' (pyIter v) Q E ⟨hp, g, d, tk, os⟩ :=
      fun q => B.iter prog w _ _ ⟨hp, g, d, tk, os⟩ _ h1 q
    wp_walk using q1
    refine wpAny_stack_any fun st => wpAny_pure ?_
    split
    · rename_i c _ _ _ _ _
      cases (c == Value.type "enumerate")
      · wp_walk using q1
        exact ⟨_, rfl, h⟩
      · wp_walk using q1
        exact ⟨_, rfl, h⟩
    · wp_walk using q1
      exact ⟨_, rfl, h⟩
section
variable {prog : Program} {w : World} {A : Around} {E : Value → Shared → Prop} {s : Shared}
theorem enum_begins1 {v : Value} {o : Obj} {H : Heap → Prop} {Q : Value → Shared → Prop} (B : Begins v o H) (h1 : H s.heap)
    (h : ∀ h', IsEnum h' (s.heap.objs.size + 1) s.heap.objs.size 0 .none → h'.get? s.heap.objs.size = some o → h'.objs.size = s.heap.objs.size + 2 →
      (∀ b o, s.heap.get? b = some o → h'.get? b = some o) → Q (.ref (s.heap.objs.size + 1)) { s with heap := h' }) :
    wpAny (model prog w) A (call (.type "enumerate") [v]) Q E s := by
  refine callType_new F.called_enumerate (by decide) (F.typeCall_enumerate_1 _) (F.newCall_enumerate_1 _) (fun obj => F.args_object_init_2 obj _) F.entry_enumerate_new
    (meets_enumerate_newB1 B) ⟨h1, ?_⟩
  have hz : (s.heap.push o).objs.size = s.heap.objs.size + 1 := Heap.size_push ..
  show _ ∧ _
  rw [hz]
  have he : IsEnum ((s.heap.push o).push { cls := .type "enumerate", data := .fields #[.none, .bool false, .ref s.heap.objs.size, rawInt 0, .none, .none] }) (s.heap.objs.size + 1) s.heap.objs.size 0 .none := by
    have := Heap.get?_push_size (s.heap.push o) (o := { cls := .type "enumerate", data := .fields #[.none, .bool false, .ref s.heap.objs.size, rawInt 0, .none, .none] }) rfl
    rw [hz] at this; exact this
  refine ⟨⟨_, he, rfl⟩, h _ he (Heap.get?_push_of_some _ (Heap.get?_push_size _ B.free)) (by rw [Heap.size_push, hz]) fun b o x => Heap.get?_push_of_some _ (Heap.get?_push_of_some _ x)⟩
end
section
variable {X : Cx} {W : WX} {pins : List (Addr × Obj)} {σ : L2.St} {H : Hp} {s : Shared}
theorem Sk.begin (I : Inv X pins σ H s) : ∀ {sk : Sk} {vs : List V} {u : Value}, sk.con X.K H vs → RelV sk.val u → ∃ (o : Obj) (t : Tok) (P : Heap → Prop), Begins u o P ∧ P s.heap ∧ (∀ (it : Addr) (h : Heap), h.get? it = some o → sk.it it t 0 h) ∧ ∀ b ∈ sk.fp, b < s.heap.objs.size
  | .lst a, vs, u, hc, r => by
    cases r
    obtain ⟨its, rv, p, hz⟩ := I.list hc
    refine ⟨_, 0, _, begins_list a its.toArray, p.isList, fun it h e => ⟨_, e, rfl, rfl⟩, fun b hb => ?_⟩
    have e : b = a := by simpa [Sk.fp] using hb
    subst e
    obtain ⟨o, n, e, _⟩ := p
    exact Heap.lt_size e
  | .tup a, vs, u, hc, r => by
    cases r
    obtain ⟨its, rv, p, hz⟩ := I.tuple hc
    refine ⟨_, 0, _, begins_tuple a its.toArray, p, fun it h e => ⟨_, e, rfl, rfl⟩, fun b hb => ?_⟩
    have e : b = a := by simpa [Sk.fp] using hb
    subst e
    obtain ⟨o, e, _⟩ := p
    exact Heap.lt_size e
  | .str x, vs, u, hc, r => by
    obtain ⟨t, rfl⟩ := r
    exact ⟨_, t, _, begins_text x t, trivial, fun it h e => ⟨_, e, rfl, rfl⟩, fun b hb => by cases hb⟩
def iJE (K : PySem.W.Frag) (ta : TA) (k : Int) (more : List V) : TI := fun σ H R => ta σ H fun vs H1 => ∃ sk : Sk, vs = sk.val :: more ∧ (∃ xs, sk.con K H1 xs) ∧ R (JE K sk k) H1
theorem enum_end {E : Value → Shared → Prop} {tpos : Pos} {elts : List Expr} {kk : Nat} {R : It → Hp → Prop} {sk : Sk} {k : Int} {o : Obj} {t : Tok} (I : Inv X pins σ H s) (hit : ∀ (it : Addr) (h : Heap), h.get? it = some o → sk.it it t 0 h) {h' : Heap} (he : IsEnum h' (s.heap.objs.size + 1) s.heap.objs.size k .none)
    (ho : h'.get? s.heap.objs.size = some o) (hk : ∀ b o, s.heap.get? b = some o → h'.get? b = some o) (q : R (JE X.K sk k) H) : wpAny (model X.prog X.w) X.A (pyIter (.ref (s.heap.objs.size + 1))) (PIE X pins σ (.Tuple elts kk tpos) R) E { s with heap := h' } := by
  refine wpAny_pyIter_enum he ?_
  have I2 : Inv X pins σ H { s with heap := h' } := I.kept (t' := s.toks) hk
  refine ⟨s.heap.objs.size + 1, [s.heap.objs.size + 1, s.heap.objs.size], _, _, H, rfl, I2, turn_JE sk k (s.heap.objs.size + 1) s.heap.objs.size t, ⟨⟨.none, by rw [show k + ((0 : Nat) : Int) = k by omega]; exact he⟩, hit _ _ ho, Nat.succ_ne_self _⟩, fun b hb => ?_, q⟩
  have e' : b = s.heap.objs.size + 1 ∨ b = s.heap.objs.size := by simpa using hb
  have hle : s.heap.objs.size ≤ b := by
    rcases e' with z | z
    · rw [z]; exact Nat.le_add_right _ _
    · rw [z]; exact Nat.le_refl _
  exact I.fpOk hle (I.hok.fresh hle)
theorem pi_enumJ {e : Expr} {ta : TA} {p pos tpos : Pos} {elts : List Expr} {kk : Nat} (hg : Gl X "enumerate") (hm : X.mg "enumerate" = none) (ha : PA X [e] ta) (hs : starEach [e] X.env = [(false, eval e X.env)] := by rfl) :
    PI X (.Tuple elts kk tpos) (.Call (.Name "enumerate" p) [e] [] pos) (iJE X.K ta 0 []) := by
  refine ⟨fun pins s σ H R I h => ?_⟩
  refine Call_ (ld_blt I hg hm boot_enumerate (PyProof.Rows.callWith_type1 (thn (ha.run pos pins s σ H _ I h) fun us s1 ⟨vs, H1, I1, r1, q1⟩ => ?_) hs rfl))
  obtain ⟨sk, ex, ⟨xs, hq⟩, q⟩ := q1
  subst ex
  cases r1 with
  | cons r rr =>
    cases rr
    obtain ⟨o, t, P, B, hP, hit, _⟩ := Sk.begin I1 hq r
    exact enum_begins1 B hP fun h' he ho hsz hk => enum_end I1 hit he ho hk q
theorem pi_enumK {e : Expr} {ta : TA} {k : Int} {j : Nat} {p p2 pos tpos : Pos} {elts : List Expr} {kk : Nat} (hk0 : -(2 ^ 63) ≤ k) (hk1 : k < 2 ^ 63) (hg : Gl X "enumerate") (hm : X.mg "enumerate" = none) (ha : PA X [e, .Constant (.int k) j p2] ta)
    (hs : starEach [e, .Constant (.int k) j p2] X.env = (false, eval e X.env) :: starEach [.Constant (.int k) j p2] X.env := by rfl) (hpl : (backTo pos (starEach [.Constant (.int k) j p2] X.env)).any (·.1) = false := by rfl) :
    PI X (.Tuple elts kk tpos) (.Call (.Name "enumerate" p) [e, .Constant (.int k) j p2] [] pos) (iJE X.K ta k [.int k]) := by
  refine ⟨fun pins s σ H R I h => ?_⟩
  refine Call_ (ld_blt I hg hm boot_enumerate (PyProof.Rows.callWith_type1 (thn (ha.run pos pins s σ H _ I h) fun us s1 ⟨vs, H1, I1, r1, q1⟩ => ?_) hs hpl))
  obtain ⟨sk, ex, ⟨xs, hq⟩, q⟩ := q1
  subst ex
  cases r1 with
  | cons r rr =>
    cases rr with
    | cons r' rr =>
      cases rr
      obtain ⟨t', rfl⟩ := r'
      obtain ⟨o, t, P, B, hP, hit, _⟩ := Sk.begin I1 hq r
      exact enum_begins B hP hk0 hk1 fun h' he ho hsz hk => enum_end I1 hit he ho hk q
def iJZ (K : PySem.W.Frag) (ta : TA) : TI := fun σ H R => ta σ H fun vs H1 => ∃ a b : Sk, vs = [a.val, b.val] ∧ (∃ xs, a.con K H1 xs) ∧ (∃ xs, b.con K H1 xs) ∧ R (JZ K a b) H1
theorem pi_zipJ {e e2 : Expr} {ta : TA} {p pos tpos : Pos} {elts : List Expr} {kk : Nat} (hg : Gl X "zip") (hm : X.mg "zip" = none) (ha : PA X [e, e2] ta)
    (hs : starEach [e, e2] X.env = (false, eval e X.env) :: starEach [e2] X.env := by rfl) (hpl : (backTo pos (starEach [e2] X.env)).any (·.1) = false := by rfl) : PI X (.Tuple elts kk tpos) (.Call (.Name "zip" p) [e, e2] [] pos) (iJZ X.K ta) := by
  refine ⟨fun pins s σ H R I h => ?_⟩
  refine Call_ (ld_blt I hg hm boot_zip (PyProof.Rows.callWith_type1 (thn (ha.run pos pins s σ H _ I h) fun us s1 ⟨vs, H1, I1, r1, q1⟩ => ?_) hs hpl))
  obtain ⟨a, b, ex, ⟨xs, hx⟩, ⟨ys, hy⟩, q⟩ := q1
  subst ex
  cases r1 with
  | cons r rr =>
    cases rr with
    | cons r' rr =>
      cases rr
      obtain ⟨o1, t1, P1, B1, hP1, hit1, l1⟩ := Sk.begin I1 hx r
      obtain ⟨o2, t2, P2, B2, hP2, hit2, l2⟩ := Sk.begin I1 hy r'
      refine zip_begins2 B1 B2 hP1 hP2 fun h' hz hTI hTO ho1 ho2 hsz hk => wpAny_pyIter_zip hz ?_
      have I2 : Inv X pins σ H1 { s1 with heap := h' } := I1.kept (t' := s1.toks) hk
      generalize hN : s1.heap.objs.size = N at *
      have ne : ∀ i j : Nat, i ≠ j → (N + i : Nat) ≠ N + j := fun i j h => by omega
      have T := turn_JZ (P := X.prog) (w := X.w) (K := X.K) (elts := elts) (kk := kk) (tpos := tpos) a b (N + 4) (N + 2) (N + 3) N (N + 1) t1 t2 (show (N + 4 : Nat) ≠ N by omega) (show (N + 4 : Nat) ≠ N + 1 by omega) (show (N + 3 : Nat) ≠ N by omega) (show (N + 3 : Nat) ≠ N + 1 by omega)
        (show (N + 2 : Nat) ≠ N by omega) (show (N + 2 : Nat) ≠ N + 1 by omega) (show (N + 2 : Nat) ≠ N + 4 by omega) (show (N + 3 : Nat) ≠ N + 4 by omega) (show (N + 2 : Nat) ≠ N + 3 by omega) (show (N : Nat) ≠ N + 1 by omega)
        (fun hm => by have := l1 _ hm; have q : (N + 3 : Nat) < N := this; omega) (fun hm => by have := l2 _ hm; have q : (N + 3 : Nat) < N := this; omega)
      refine ⟨N + 4, [N + 4, N + 2, N + 3, N, N + 1], _, _, H1, rfl, I2, T, ⟨hz, hTI, ⟨_, _, hTO⟩, hit1 _ _ ho1, hit2 _ _ ho2⟩, fun c hc => ?_, q⟩
      have hle : N ≤ c := by
        have e' : c = N + 4 ∨ c = N + 2 ∨ c = N + 3 ∨ c = N ∨ c = N + 1 := by simpa using hc
        rcases e' with z | z | z | z | z
        · rw [z]; exact Nat.le_add_right _ _
        · rw [z]; exact Nat.le_add_right _ _
        · rw [z]; exact Nat.le_add_right _ _
        · rw [z]; exact Nat.le_refl _
        · rw [z]; exact Nat.le_add_right _ _
      exact I1.fpOk (hN ▸ hle) (I1.hok.fresh (hN ▸ hle))
/-! ### what they yield -/
variable {K : PySem.W.Frag} {F : Fm} {st : Sx} {H1 : Hp}
theorem enumD_get {k : Int} {xs : List D} {i : Nat} {d : D} (h : (enumD k xs)[i]? = some d) : ∃ x, xs[i]? = some x ∧ d = .tuple [.int (k + (i : Int)), x] := by
  unfold enumD at h
  rw [List.getElem?_map, Option.map_eq_some_iff] at h
  obtain ⟨p, h1, h2⟩ := h
  rw [List.getElem?_zipIdx, Option.map_eq_some_iff] at h1
  obtain ⟨x, h3, h4⟩ := h1
  subst h4
  exact ⟨x, h3, by rw [← h2]; simp⟩
theorem enumD_len (k : Int) (xs : List D) : (enumD k xs).length = xs.length := by unfold enumD; simp
theorem zipD_get {xs ys : List D} {i : Nat} {d : D} (h : (zipD xs ys)[i]? = some d) : ∃ x y, xs[i]? = some x ∧ ys[i]? = some y ∧ d = .tuple [x, y] := by
  unfold zipD at h
  rw [List.getElem?_map, Option.map_eq_some_iff] at h
  obtain ⟨p, h1, h2⟩ := h
  rw [List.getElem?_zip_eq_some] at h1
  exact ⟨p.1, p.2, h1.1, h1.2, h2.symm⟩
theorem serves_enum {sk : Sk} {k : Int} {xs : List D} (h : Src K F st σ H xs sk) : Serves K (JE K sk k) F st σ H (enumD k xs) := by
  intro i F' s' σ' H' l f ln
  obtain ⟨vs, h1, r⟩ := h.at l f ln
  refine ⟨fun d e => ?_, fun hk => ⟨vs, h1, by rw [← r.length, ← enumD_len k]; exact hk⟩⟩
  obtain ⟨x, e1, rfl⟩ := enumD_get e
  obtain ⟨v, e3, e4⟩ := r.get e1
  refine ⟨⟨vs, v, h1, e3⟩, fun y H2 ⟨T, z, ey, nT, eH, hz⟩ => ?_⟩
  subst ey eH
  have q := hz vs h1
  rw [e3] at q
  cases q
  exact ⟨same_upd nT, rep_newT nT (.cons (.int _) (.cons e4 .nil))⟩
theorem serves_zip {a b : Sk} {xs ys : List D} (h : Src K F st σ H xs a) (h2 : Src K F st σ H ys b) : Serves K (JZ K a b) F st σ H (zipD xs ys) := by
  intro i F' s' σ' H' l f ln
  obtain ⟨vs, g1, r⟩ := h.at l f ln
  obtain ⟨us, g2, r2⟩ := h2.at l f ln
  refine ⟨fun d e => ?_, fun hk => ⟨vs, us, g1, g2, ?_⟩⟩
  · obtain ⟨x, y, e1, e2, rfl⟩ := zipD_get e
    obtain ⟨v, e3, e4⟩ := r.get e1
    obtain ⟨u, e5, e6⟩ := r2.get e2
    refine ⟨⟨vs, us, v, u, g1, g2, e3, e5⟩, fun y H2 ⟨T, z, z2, ey, nT, eH, hz, hz2⟩ => ?_⟩
    subst ey eH
    have q := hz vs g1
    rw [e3] at q
    cases q
    have q := hz2 us g2
    rw [e5] at q
    cases q
    exact ⟨same_upd nT, rep_newT nT (.cons e4 (.cons e6 .nil))⟩
  · unfold zipD at hk
    rw [List.length_map, List.length_zip, r.length, r2.length] at hk
    omega
end
section
variable {X : Cx} {W : WX} {pos tpos : Pos} {elts : List Expr} {kk : Nat}
theorem di_enum {e : Expr} {fe : KS} {p : Pos} (hg : Gl X "enumerate") (hm : X.mg "enumerate" = none) (he : DK X W e fe) (hs : starEach [e] X.env = [(false, eval e X.env)] := by rfl) : DI X W (.Tuple elts kk tpos) (.Call (.Name "enumerate" p) [e] [] pos) (iEnum 0 fe) := by
  refine PI.weak (pi_enumJ hg hm (pa_cons he pa_nil hs) hs) fun σ H R ⟨F, s, l, h⟩ => ⟨F, s, l, Post.bind h fun p s1 v H1 l1 r1 f1 h1 => ?_⟩
  obtain ⟨sk, xs, ys, s2, rfl, l2, sr, e1, q⟩ := lentTo_core l1 r1 h1 fun i ys e => (f1.lnt i ys e).1
  cases e1
  obtain ⟨vs, g1, g2⟩ := sr.at l2 (Fr.refl _ _) fun _ _ e => ⟨e, rfl⟩
  exact ⟨sk, rfl, ⟨vs, g1⟩, q _ (serves_enum sr)⟩
theorem di_enumK {e : Expr} {fe : KS} {k : Int} {j : Nat} {p p2 : Pos} (hk0 : -(2 ^ 63) ≤ k) (hk1 : k < 2 ^ 63) (hg : Gl X "enumerate") (hm : X.mg "enumerate" = none) (he : DK X W e fe)
    (hs : starEach [e, .Constant (.int k) j p2] X.env = (false, eval e X.env) :: starEach [.Constant (.int k) j p2] X.env := by rfl) (hpl : (backTo pos (starEach [.Constant (.int k) j p2] X.env)).any (·.1) = false := by rfl) :
    DI X W (.Tuple elts kk tpos) (.Call (.Name "enumerate" p) [e, .Constant (.int k) j p2] [] pos) (iEnum k fe) := by
  refine PI.weak (pi_enumK hk0 hk1 hg hm (pa_cons he (pa_cons pe_int pa_nil) hs) hs hpl) fun σ H R ⟨F, s, l, h⟩ => ⟨F, s, l, Post.bind h fun p s1 v H1 l1 r1 f1 h1 => ?_⟩
  obtain ⟨sk, xs, ys, s2, rfl, l2, sr, e1, q⟩ := lentTo_core l1 r1 h1 fun i ys e => (f1.lnt i ys e).1
  cases e1
  obtain ⟨vs, g1, g2⟩ := sr.at l2 (Fr.refl _ _) fun _ _ e => ⟨e, rfl⟩
  exact ⟨sk, rfl, ⟨vs, g1⟩, q _ (serves_enum sr)⟩
/-- a value to walk, at a state that lends nothing more -/
def peekOk (s : Sx) : PV → Bool
  | .d _ => true
  | .o i => match s.L[i]? with
    | some (.own _) => true
    | some (.lent _) => true
    | some (.dat _) => true
    | _ => false
theorem di_zip {e e2 : Expr} {fe fe2 : KS} {p : Pos} (hg : Gl X "zip") (hm : X.mg "zip" = none) (he : DK X W e fe) (he2 : DK X W e2 fe2)
    (hs : starEach [e, e2] X.env = (false, eval e X.env) :: starEach [e2] X.env := by rfl) (hpl : (backTo pos (starEach [e2] X.env)).any (·.1) = false := by rfl) (hs2 : starEach [e2] X.env = (false, eval e2 X.env) :: starEach [] X.env := by rfl) : DI X W (.Tuple elts kk tpos) (.Call (.Name "zip" p) [e, e2] [] pos) (iZip fe fe2) := by
  refine PI.weak (pi_zipJ hg hm (pa_cons he (pa_cons he2 pa_nil hs2) hs) hs hpl) fun σ H R ⟨F, s, l, h⟩ => ⟨F, s, l, Post.bind h fun p s1 v H1 l1 r1 f1 h1 => ⟨F, s1, l1, Post.bind h1 fun q s2 u H2 l2 r2 f2 h2 => ?_⟩⟩
  have r1 := r1.mono f2.fr
  cases e1 : lend s2 p with
  | none => rw [e1] at h2; exact h2.elim
  | some t =>
    obtain ⟨xs, ls, s3⟩ := t
    rw [e1] at h2
    dsimp only at h2
    cases e2 : lend s3 q with
    | none => rw [e2] at h2; exact h2.elim
    | some t =>
      obtain ⟨ys, ls', s4⟩ := t
      rw [e2] at h2
      obtain ⟨sk, rfl, l3, f3, sr, hn⟩ := Src.lend l2 r1 e1 rfl
      obtain ⟨sk2, rfl, l4, f4, sr2, hn2⟩ := Src.lend l3 (r2.mono f3.fr) e2 rfl
      have sr' : Src X.K F s4 σ H2 xs sk := by
        cases sr with
        | lst nm h r => exact .lst (fun z => (f4.fr.grow _ z).elim nm fun q => by rw [q] at h; cases h) h (r.mono f4.fr)
        | tup h r => exact .tup h (r.mono f4.fr)
        | lent h e => exact .lent (f4.lnt _ _ h).1 e
        | str => exact .str
      obtain ⟨vs, g1, g2⟩ := sr'.at l4 (Fr.refl _ _) fun _ _ e => ⟨e, rfl⟩
      obtain ⟨us, k1, k2⟩ := sr2.at l4 (Fr.refl _ _) fun _ _ e => ⟨e, rfl⟩
      refine ⟨sk, sk2, rfl, ⟨vs, g1⟩, ⟨us, k1⟩, h2 _ H2 l4 ⟨serves_zip sr' sr2, fun i hi zs ez => ?_⟩ (f3.trans f4)⟩
      have ez1 := (f1.lnt i zs ez).1
      have ez2 := (f2.lnt i zs ez1).1
      rcases List.mem_append.mp hi with hi | hi
      · exact hn i hi zs ez2
      · exact hn2 i hi zs (f3.lnt i zs ez2).1
end
end BD

set_option Elab.async false
set_option linter.all false
set_option maxRecDepth 100000
set_option maxHeartbeats 1000000
namespace BD
open PySem PySem.Spec PyProof.Rows L2
/-! ### defs, where no repr is under way -/
structure FnG (P : Program) (w : World) (K : PySem.W.Frag) (mg : Str → Option Value) (base : Heap) (CX : CXT) (k : Nat) (f : Addr) (fd : FuncData) (ps : List Str) (sp : Sp) : Prop where
  len : ∀ vs H Q E, sp vs H Q E → vs.length = ps.length
  run : ∀ (A : Around) (outer : List Env) (s : Shared) (H : Hp) (args : Args) (us : List Value) (vs : List V) (Q : VK) (E : XK), Room k A → A.guards = some [] → Env0 P w K mg base A outer s H → BindsTo s fd args (ps.zip us) → Vals vs us → sp vs H Q E →
    codeAny (model P w) A (.call (.ref f) args) (CR CX outer P w H s Q E) s
theorem FnG.mono {P : Program} {w : World} {K : PySem.W.Frag} {mg : Str → Option Value} {base : Heap} {CX : CXT} {j k : Nat} {f : Addr} {fd : FuncData} {ps : List Str} {sp : Sp} (F : FnG P w K mg base CX j f fd ps sp) (h : j ≤ k) :
    FnG P w K mg base CX k f fd ps sp := ⟨F.len, fun A outer s H args us vs Q E hr => F.run A outer s H args us vs Q E (hr.mono h)⟩
theorem FnG.imp {P : Program} {w : World} {K : PySem.W.Frag} {mg : Str → Option Value} {base : Heap} {CX : CXT} {k : Nat} {f : Addr} {fd : FuncData} {ps : List Str} {sp sp' : Sp} (F : FnG P w K mg base CX k f fd ps sp)
    (h : ∀ vs H Q E, sp' vs H Q E → sp vs H Q E) : FnG P w K mg base CX k f fd ps sp' :=
  ⟨fun vs H Q E q => F.len vs H Q E (h _ _ _ _ q), fun A outer s H args us vs Q E hr hg he hb hv hs => F.run A outer s H args us vs Q E hr hg he hb hv (h _ _ _ _ hs)⟩
/-- a def by its body, where no repr is under way -/
theorem fn_ofG {CX : CXT} {P : Program} {w : World} {K : PySem.W.Frag} {mg : Str → Option Value} {base : Heap} {k : Nat} {f : Addr} {x qual : Str} {st : Stmt} {fd : FuncData} {N ps : List Str} {sp : Sp} (F : Fun K x qual st f fd) (S : FnScope N ps (defScope st))
    (len : ∀ vs H Q E, sp vs H Q E → vs.length = ps.length)
    (hbody : ∀ (cdv : Value) (A : Around) (outer : List Env) (s : Shared) (H : Hp) (vs : List V) (Q : VK) (E : XK), Room k (A.deeper (envOfC qual (defScope st) s.heap.objs.size f cdv)) → A.guards = some [] → sp vs H Q E →
      ∃ t, PSs (cxOf CX P w K mg base N qual (defScope st) f cdv A outer s H E) (defBody st) t ∧ t { nx := fun _ H' => Q .non H', rt := Q } (L2.start N vs) H) :
    FnG P w K mg base CX (k + 1) f fd ps sp := by
  obtain ⟨oc, od, kV, doc, pm, an, cdv, ct, osl, rfl, lk, hcd⟩ := F.ex
  refine ⟨len, fun A outer s H args us vs Q E hr hgu e0 hb r hsp => ?_⟩
  have hl := len _ _ _ _ hsp
  have KX : K.In s.heap := e0.mod.kin.keeps fun b o e => (e0.bs b o e).1
  have lim : s.heap.NoLimit := e0.mod.nolimit.keeps fun b o e => (e0.bs b o e).1
  have hkind : ∀ y ∈ ps.zip us, (defScope st).names.lookup y.1 = some .local ∨ ((defScope st).names.lookup y.1 = some .cell ∧ ((cellsFrom (s.heap.objs.size + 1) (defScope st).names []).lookup y.1).isSome = true) := fun y hy =>
    (S.par y.1 (List.of_mem_zip hy).1).imp id fun q => ⟨q, PySem.W.cellsFrom_some _ _ _ (.inl q)⟩
  refine codeAny_call_function hr.depth (KX _ _ lk) rfl S.co S.gen rfl (PySem.W.codeRec_of KX hcd) (hb _ _ _ _ (wpAny_newFunctionEnv_cells S.kind hkind fun env he s1 x => ?_))
  subst he
  refine ⟨lim.keeps x.toInCall.keep, codeAny_func ?_⟩
  obtain ⟨t, ht, hq⟩ := hbody cdv A outer s H vs Q E (hr.deeper _) hgu hsp
  refine wpAny_mono (ht.run [] s1 _ H _ (inv_start S hr.hd e0 hl r x) hq) (fun fl s' hs => ?_) fun e s' hs => hs
  cases fl with
  | ret u =>
    obtain ⟨v, σ', H', J, rv, q⟩ := hs
    exact ⟨v, H', J.os, J.bare, J.base, J.hok, rv, q⟩
  | next =>
    obtain ⟨σ', H', J, q⟩ := hs
    exact ⟨V.non, H', J.os, J.bare, J.base, J.hok, rfl, q⟩
  | brk => obtain ⟨_, _, _, q⟩ := hs; exact q.elim
  | cont => obtain ⟨_, _, _, q⟩ := hs; exact q.elim
section
variable {X : Cx} {CX : CXT} {k : Nat} {f : Addr} {fd : FuncData} {ps : List Str} {sp : Sp} {E : L2.St → XK} {x : Str} {p pos : Pos} {e : Expr} {es : List Expr} {t : TA}
theorem run_fnG {pins : List (Addr × Obj)} {σ : L2.St} {H : Hp} {s : Shared} {Q : VK} {us : List Value} {vs : List V} (F : FnG X.prog X.w X.K X.mg X.base CX k f fd ps sp) (hr : Room k X.A) (hgu : X.A.guards = some []) (hb : Binds X.K fd ps []) (hx : PassesAt CX X σ (E σ))
    (I : Inv X pins σ H s) (r : Vals vs us) (h : sp vs H Q (E σ)) : wpAny (model X.prog X.w) X.A (call (.ref f) us) (EP X pins σ Q) X.xe s := by
  have b := hb s us I.kIn (by rw [List.append_nil, ← r.length]; exact F.len _ _ _ _ h)
  rw [List.append_nil] at b
  refine wpAny_call (codeAny_mono (F.run X.A X.stack s H ⟨us, []⟩ us vs Q (E σ) hr hgu I.env0 b r h) fun r s' hq => ?_)
  cases r with
  | error e => exact hx pins H s e s' I hq
  | ok fl =>
    cases fl with
    | ret u => exact I.after hq
    | next => exact False.elim hq
    | brk => exact False.elim hq
    | cont => exact False.elim hq
end
/-! ### contracts -/
abbrev MG := Str → Option Value
def EndE (K : PySem.W.Frag) (mg : MG) (M : MS) (R : Hp → Prop) (E : XK) (c : Str) (d : D) : Prop := ∀ C dx v H', mg c = some (.ref C) → R H' → H' dx = some (.xd [(Str.ofString "value", v)]) → Rep K M H' d v → E (.ref C) (some dx) H'
/-- a def that leaves what stands -/
def spP (K : PySem.W.Frag) (mg : MG) (p : Nat) (m : PFn) : Sp := fun vs H Q E => vs.length = p ∧ ∃ (M : MS) (ds : List D), Reps K M H ds vs ∧ (∀ a, M a → ∃ o, H a = some o) ∧ match m ds with
  | .ok d => ∀ v H', Same H H' → Rep K M H' d v → Q v H'
  | .err c d => EndE K mg M (Same H) E c d
  | .stuck => False
def Pots (p : Addr) (G' : List Int) (H H' : Hp) : Prop := (∀ b o, b ≠ p → H b = some o → H' b = some o) ∧ H' p = some (.lst (G'.map V.int))
/-- .. but the pot -/
def spQ (K : PySem.W.Frag) (mg : MG) (p : Nat) (m : QFn) : Sp := fun vs H Q E => vs.length = p + 1 ∧ ∃ (M : MS) (ds : List D) (G : List Int) (a : Addr) (us : List V), vs = .ref a :: us ∧ Reps K M H ds us ∧ (∀ a, M a → ∃ o, H a = some o) ∧ M a ∧ H a = some (.lst (G.map V.int)) ∧ match m G ds with
  | .ok d G' => ∀ v H', Pots a G' H H' → Rep K M H' d v → Q v H'
  | .err c d G' => EndE K mg M (Pots a G' H) E c d
  | .stuck => False
/-- a new list is handed on -/
def spL (K : PySem.W.Frag) (p : Nat) (m : LFn) : Sp := fun vs H Q _ => vs.length = p ∧ ∃ (M : MS) (ds xs : List D), Reps K M H ds vs ∧ (∀ a, M a → ∃ o, H a = some o) ∧ m ds = some xs ∧ ∀ a us H', Same H H' → H a = none → H' a = some (.lst us) → Reps K (fun b => M b ∨ b = a) H' xs us → Q (.ref a) H'
section
variable {K : PySem.W.Frag} {M : MS} {H H' : Hp} {mg : MG} {N : List Str} {ds : List D} {vs : List V} {n : Nat} {s' : Sx} {σ' : L2.St} {G : List Int}
theorem start_len (n : Nat) (ds : List D) : (start n ds).length = ds.length + (n - ds.length) := by unfold start; simp
theorem start_own {i : Nat} {m : Loc} (h : (start n ds)[i]? = some m) : (m = .non) ∨ ∃ d, ds[i]? = some d ∧ m = .dat d := by
  unfold start at h
  by_cases hi : i < ds.length
  · right
    rw [List.getElem?_append_left (by simpa using hi), List.getElem?_map, Option.map_eq_some_iff] at h
    obtain ⟨d, h1, h2⟩ := h
    exact ⟨d, h1, h2.symm⟩
  · left
    rw [List.getElem?_append_right (by simpa using Nat.le_of_not_lt hi)] at h
    exact (List.mem_replicate.mp (List.mem_of_getElem? h)).2
theorem st_get {i : Nat} {v : V} (h : vs[i]? = some v) : (L2.start N vs)[i]? = some (some v) := by
  unfold L2.start
  have hi := (List.getElem?_eq_some_iff.mp h).1
  rw [List.getElem?_append_left (by simpa using hi), List.getElem?_map, h]
  rfl
theorem md_start {σ : L2.St} {b : Addr} {pa : Option Addr} (h : Md ⟨M, pa⟩ ⟨start n ds, G⟩ σ b) : M b := by
  rcases h with h | ⟨j, m, xs, h1, h2, h3⟩
  · exact h
  · rcases start_own h1 with z | ⟨d, _, z⟩
    · subst z; cases h2
    · subst z; cases h2
theorem md_startQ {σ : L2.St} {b : Addr} {pa : Option Addr} (h : Md ⟨M, pa⟩ ⟨.pot :: start n ds, G⟩ σ b) : M b := by
  rcases h with h | ⟨j, m, xs, h1, h2, h3⟩
  · exact h
  · cases j with
    | zero => cases h1; cases h2
    | succ j =>
      rcases start_own (show (start n ds)[j]? = some m from h1) with z | ⟨d, _, z⟩
      · subst z; cases h2
      · subst z; cases h2
theorem lk_start (r : Reps K M H ds vs) (hM : ∀ a, M a → ∃ o, H a = some o) (hn : N.length = n) : Lk K ⟨M, none⟩ ⟨start n ds, []⟩ (L2.start N vs) H := by
  have f : Fr M (Md ⟨M, none⟩ ⟨start n ds, []⟩ (L2.start N vs)) H H := Fr.sub fun b h => md_start h
  refine ⟨?_, fun i z hz => ?_, fun i j l m xs ys a h1 e1 h2 e2 h3 h4 => ?_, (fun a e => nomatch e), hM⟩
  · show (L2.start N vs).length = (start n ds).length
    rw [start_len, r.length]
    unfold L2.start
    simp [hn]
  · rcases start_own hz with z | ⟨d, hd, z⟩
    · subst z; trivial
    · subst z
      obtain ⟨v, e1, e2⟩ := r.get hd
      exact ⟨v, st_get e1, e2.mono f⟩
  · rcases start_own h1 with z | ⟨d, _, z⟩
    · subst z; cases e1
    · subst z; cases e1
theorem lk_startQ {p : Addr} (r : Reps K M H ds vs) (hM : ∀ a, M a → ∃ o, H a = some o) (hp : M p) (hG : H p = some (.lst (G.map V.int))) (hn : N.length = n + 1) : Lk K ⟨M, some p⟩ ⟨.pot :: start n ds, G⟩ (L2.start N (.ref p :: vs)) H := by
  have f : Fr M (Md ⟨M, some p⟩ ⟨.pot :: start n ds, G⟩ (L2.start N (.ref p :: vs))) H H := Fr.sub fun b h => md_startQ h
  refine ⟨?_, fun i z hz => ?_, fun i j l m xs ys a h1 e1 h2 e2 h3 h4 => ?_, fun a e => ?_, hM⟩
  · show (L2.start N (.ref p :: vs)).length = (Loc.pot :: start n ds).length
    rw [List.length_cons, start_len, r.length]
    unfold L2.start
    simp [hn]
  · cases i with
    | zero => cases hz; exact ⟨p, rfl, st_get rfl⟩
    | succ i =>
      rcases start_own (show (start n ds)[i]? = some z from hz) with z | ⟨d, hd, z⟩
      · subst z; trivial
      · subst z
        obtain ⟨v, e1, e2⟩ := r.get hd
        exact ⟨v, st_get (i := i + 1) e1, e2.mono f⟩
  · cases i with
    | zero => cases h1; cases e1
    | succ i =>
      rcases start_own (show (start n ds)[i]? = some l from h1) with z | ⟨d, _, z⟩
      · subst z; cases e1
      · subst z; cases e1
  · cases e
    exact ⟨hp, hG⟩
theorem same_of {s0 : Sx} {σ0 : L2.St} (h0 : ∀ b, Md ⟨M, none⟩ s0 σ0 b → M b) (f : Fs ⟨M, none⟩ s0 σ0 s' σ' H H') : Same H H' := fun b o e => by
  by_cases hb : M b
  · rw [f.out b hb (fun z => by cases z)]; exact e
  · exact f.fr.keep b o e fun z => absurd (h0 b z) hb
theorem pots_of {p : Addr} {s0 : Sx} {σ0 : L2.St} (h0 : ∀ b, Md ⟨M, some p⟩ s0 σ0 b → M b) (f : Fs ⟨M, some p⟩ s0 σ0 s' σ' H H') (l : Lk K ⟨M, some p⟩ s' σ' H') : Pots p s'.G H H' := ⟨fun b o hb e => by
  by_cases hm : M b
  · rw [f.out b hm (fun z => hb (Option.some.inj z).symm)]; exact e
  · exact f.fr.keep b o e fun z => absurd (h0 b z) hm, (l.pot p rfl).2⟩
theorem rep_out {pa : Option Addr} {d : D} {v : V} (r : Rep K (Md ⟨M, pa⟩ s' σ') H' d v) : Rep K M H' d v := r.mono (Fr.sub fun a h => .inl h)
end
section
variable {P : Program} {w : World} {K : PySem.W.Frag} {mg : MG} {base : Heap} {x qual : Str} {st : Stmt} {f : Addr} {fd : FuncData} {N ps : List Str} {k p n : Nat} {b : SS}
abbrev Xd (P : Program) (w : World) (K : PySem.W.Frag) (mg : MG) (base : Heap) (N : List Str) (qual : Str) (st : Stmt) (f : Addr) (cdv : Value) (A : Around) (outer : List Env) (s : Shared) (H : Hp) (E : XK) : Cx := cxOf (L2.CX P w) P w K mg base N qual (defScope st) f cdv A outer s H E
abbrev Wd (E : XK) : WX := fun cls d _ H => E cls d H
theorem fn_pure (F : Fun K x qual st f fd) (S : FnScope N ps (defScope st)) (hN : N.length = n) (hp : ps.length = p)
    (hb : ∀ (cdv : Value) (A : Around) (outer : List Env) (s : Shared) (H : Hp) (E : XK), Room k (A.deeper (envOfC qual (defScope st) s.heap.objs.size f cdv)) → A.guards = some [] → DSs (Xd P w K mg base N qual st f cdv A outer s H E) (Wd E) (defBody st) b) :
    FnG P w K mg base (L2.CX P w) (k + 1) f fd ps (spP K mg p (runP p n b)) := by
  refine fn_ofG F S (fun vs H Q E h => h.1.trans hp.symm) (fun cdv A outer s H vs Q E hr hgu h => ⟨_, hb cdv A outer s H E hr hgu, ?_⟩)
  obtain ⟨hl, M, ds, r, hM, q⟩ := h
  have hl2 : ds.length = p := r.length.trans hl
  unfold runP at q
  rw [if_pos hl2] at q
  refine ⟨⟨M, none⟩, ⟨start n ds, []⟩, lk_start r hM hN, ?_⟩
  revert q
  cases b ⟨start n ds, []⟩ with
  | stuck => exact fun q => q
  | err c d s' => exact fun q C dx v σ' H' e l hx rr ff => q C dx v H' e (same_of (fun b h => md_start (pa := none) (n := n) (ds := ds) (G := []) h) ff) hx (rep_out rr)
  | ok fl s' =>
    cases fl with
    | nx => exact fun q σ' H' l ff => q .non H' (same_of (fun b h => md_start (pa := none) (n := n) (ds := ds) (G := []) h) ff) .non
    | rt d => exact fun q v σ' H' l rr ff => q v H' (same_of (fun b h => md_start (pa := none) (n := n) (ds := ds) (G := []) h) ff) (rep_out rr)
    | bk => exact fun q => q.elim
    | ct => exact fun q => q.elim
theorem fn_pot (F : Fun K x qual st f fd) (S : FnScope N ps (defScope st)) (hN : N.length = n + 1) (hp : ps.length = p + 1)
    (hb : ∀ (cdv : Value) (A : Around) (outer : List Env) (s : Shared) (H : Hp) (E : XK), Room k (A.deeper (envOfC qual (defScope st) s.heap.objs.size f cdv)) → A.guards = some [] → DSs (Xd P w K mg base N qual st f cdv A outer s H E) (Wd E) (defBody st) b) :
    FnG P w K mg base (L2.CX P w) (k + 1) f fd ps (spQ K mg p (runQ p n b)) := by
  refine fn_ofG F S (fun vs H Q E h => h.1.trans hp.symm) (fun cdv A outer s H vs Q E hr hgu h => ⟨_, hb cdv A outer s H E hr hgu, ?_⟩)
  obtain ⟨hl, M, ds, G, a, us, rfl, r, hM, ha, hG, q⟩ := h
  have hl2 : ds.length = p := r.length.trans (by simpa using hl)
  unfold runQ at q
  rw [if_pos hl2] at q
  refine ⟨⟨M, some a⟩, ⟨.pot :: start n ds, G⟩, lk_startQ r hM ha hG hN, ?_⟩
  revert q
  cases b ⟨.pot :: start n ds, G⟩ with
  | stuck => exact fun q => q
  | err c d s' => exact fun q C dx v σ' H' e l hx rr ff => q C dx v H' e (pots_of (fun b h => md_startQ (pa := some a) (n := n) (ds := ds) (G := G) h) ff l) hx (rep_out rr)
  | ok fl s' =>
    cases fl with
    | nx => exact fun q σ' H' l ff => q .non H' (pots_of (fun b h => md_startQ (pa := some a) (n := n) (ds := ds) (G := G) h) ff l) .non
    | rt d => exact fun q v σ' H' l rr ff => q v H' (pots_of (fun b h => md_startQ (pa := some a) (n := n) (ds := ds) (G := G) h) ff l) (rep_out rr)
    | bk => exact fun q => q.elim
    | ct => exact fun q => q.elim
/-- statements, then a new list is handed on -/
def rdSL (X : Cx) (f : SS) (e : Sx → Rz (List D)) : TS := fun D σ H => ∃ F s s1 xs s2, Lk X.K F s σ H ∧ f s = .ok .nx s1 ∧ e s1 = .ok xs s2 ∧ ∀ v σ' H' H1, Fs F s σ s2 σ' H H' → RL X F σ' H1 s2 H' xs v → (∀ a, H1 a = none → H a = none) → D.rt v H'
def DSL (X : Cx) (st : List Stmt) (f : SS) (e : Sx → Rz (List D)) : Prop := PSs X st (rdSL X f e)
theorem dsl_ret {X : Cx} {W : WX} {e : Expr} {pos : Pos} {fe : Sx → Rz (List D)} (he : DL X W e fe) : DSL X [.Return (some e) pos] sSkip fe := by
  refine PSs.weak (pss_one (ps_ret he)) fun D σ H ⟨F, s, s1, xs, s2, l, e1, e2, h⟩ => ⟨F, s, l, ?_⟩
  cases e1
  rw [e2]
  exact fun v H' l' r' f' => h v σ H' H f' r' fun _ z => z
theorem dsl_cons {X : Cx} {W : WX} {st : Stmt} {rest : List Stmt} {f g : SS} {e : Sx → Rz (List D)} (h1 : DS X W st f) (h2 : DSL X rest g e) : DSL X (st :: rest) (sSeq f g) e := by
  refine PSs.weak (pss_cons h1 h2) fun D σ H ⟨F, s, s1, xs, s2, l, e1, e2, h⟩ => ⟨F, s, l, ?_⟩
  unfold sSeq at e1
  cases q : f s with
  | err c d s' => rw [q] at e1; cases e1
  | stuck => rw [q] at e1; cases e1
  | ok fl s' =>
    rw [q] at e1
    cases fl with
    | nx => exact fun σ' H' l' f' => ⟨F, s', s1, xs, s2, l', e1, e2, fun v σ2 H2 H1 f2 r2 h1 => h v σ2 H2 H1 (f'.trans f2) r2 fun a z => f'.fr.there a (h1 a z)⟩
    | rt d => cases e1
    | bk => cases e1
    | ct => cases e1
theorem fn_lst {e : Sx → Rz (List D)} (F : Fun K x qual st f fd) (S : FnScope N ps (defScope st)) (hN : N.length = n) (hp : ps.length = p)
    (hb : ∀ (cdv : Value) (A : Around) (outer : List Env) (s : Shared) (H : Hp) (E : XK), Room k (A.deeper (envOfC qual (defScope st) s.heap.objs.size f cdv)) → A.guards = some [] → DSL (Xd P w K mg base N qual st f cdv A outer s H E) (defBody st) b e) :
    FnG P w K mg base (L2.CX P w) (k + 1) f fd ps (spL K p (runL p n b e)) := by
  refine fn_ofG F S (fun vs H Q E h => h.1.trans hp.symm) (fun cdv A outer s H vs Q E hr hgu h => ⟨_, hb cdv A outer s H E hr hgu, ?_⟩)
  obtain ⟨hl, M, ds, xs, r, hM, e1, q⟩ := h
  have hl2 : ds.length = p := r.length.trans hl
  unfold runL at e1
  rw [if_pos hl2] at e1
  cases q1 : b ⟨start n ds, []⟩ with
  | stuck => rw [q1] at e1; cases e1
  | err c d s' => rw [q1] at e1; cases e1
  | ok fl s1 =>
    rw [q1] at e1
    cases fl with
    | rt d => cases e1
    | bk => cases e1
    | ct => cases e1
    | nx =>
      dsimp only at e1
      cases q2 : e s1 with
      | stuck => rw [q2] at e1; cases e1
      | err c d s' => rw [q2] at e1; cases e1
      | ok ys s2 =>
        rw [q2] at e1
        cases e1
        refine ⟨⟨M, none⟩, ⟨start n ds, []⟩, s1, xs, s2, lk_start r hM hN, q1, q2, fun v σ' H' H1 ff rl h1 => ?_⟩
        obtain ⟨a, us, rfl, n1, n2, n3, l2, r2⟩ := rl
        refine q a us H' (same_of (fun b h => md_start (pa := none) (n := n) (ds := ds) (G := []) h) ff) (h1 a n1) n2 (r2.mono (Fr.sub fun c hc => ?_))
        exact Md.add.mpr (hc.elim (fun z => .inl (.inl z)) .inr)
end
/-! ### calls -/
/-- a def that may be called by its name -/
structure Cal (P : Program) (w : World) (K : PySem.W.Frag) (mg : MG) (base : Heap) (k : Nat) (x : Str) (sp : Sp) : Prop where
  ex : ∃ (f : Addr) (fd : FuncData) (ps : List Str), FnG P w K mg base (L2.CX P w) k f fd ps sp ∧ mg x = some (.ref f) ∧ PySem.W.keepIn K (.ref f) = true ∧ Binds K fd ps []
theorem Cal.mono {P : Program} {w : World} {K : PySem.W.Frag} {mg : MG} {base : Heap} {j k : Nat} {x : Str} {sp : Sp} (c : Cal P w K mg base j x sp) (h : j ≤ k) : Cal P w K mg base k x sp :=
  let ⟨f, fd, ps, F, a, b, d⟩ := c.ex
  ⟨f, fd, ps, F.mono h, a, b, d⟩
section
variable {X : Cx} {W : WX} {k j p : Nat} {x : Str} {np pos : Pos} {e : Expr} {es : List Expr}
theorem call_core {sp : Sp} {t : TA} (c : Cal X.prog X.w X.K X.mg X.base k x sp) (hr : Room j X.A) (hk : k ≤ j) (gu : X.A.guards = some []) (tk : Takes X W) (hg : Gl X x) (ha : PA X (e :: es) t) (hdb : (x == ("__debug__" : Str)) = false := by decide)
    (he : starEach (e :: es) X.env = (false, eval e X.env) :: starEach es X.env := by rfl) (hpl : (backTo pos (starEach es X.env)).any (·.1) = false := by rfl) : PE X (.Call (.Name x np) (e :: es) [] pos) (fun σ H Q => t σ H fun vs H1 => sp vs H1 Q (WE W σ)) := by
  obtain ⟨f, fd, ps, F, hm, hkp, hb⟩ := c.ex
  refine ⟨fun pins s σ H Q I h => ?_⟩
  refine wpAny_Call_Name_kw (ld_glob I hg hm ?_ hdb)
  exact PySem.W.callWith_K (h₀ := X.base) I.ok.mod.kin hkp (thn (ha.run pos pins s σ H _ I h) fun us s1 ⟨vs, H1, I1, r, q⟩ => ⟨I1.kIn, run_fnG (F.mono hk) hr gu hb (passAt tk σ) I1 r q⟩) he hpl
theorem call_core0 {sp : Sp} (c : Cal X.prog X.w X.K X.mg X.base k x sp) (hr : Room j X.A) (hk : k ≤ j) (gu : X.A.guards = some []) (tk : Takes X W) (hg : Gl X x) (hdb : (x == ("__debug__" : Str)) = false := by decide) : PE X (.Call (.Name x np) [] [] pos) (fun σ H Q => sp [] H Q (WE W σ)) := by
  obtain ⟨f, fd, ps, F, hm, hkp, hb⟩ := c.ex
  refine ⟨fun pins s σ H Q I h => ?_⟩
  refine wpAny_Call_Name_kw (ld_glob I hg hm ?_ hdb)
  exact PySem.W.callWith_K0 I.kIn hkp (run_fnG (us := []) (F.mono hk) hr gu hb (passAt tk σ) I .nil h)
theorem rdA_app {n : Nat} {f : PFn} {a : AS} {σ : L2.St} {H : Hp} {Q : VK} {F : Fm} {s : Sx} (l : Lk X.K F s σ H) (h : Post X W F (RE X F σ) s σ H (eApp n f a s) Q) :
    rdA X W a σ H fun vs H1 => spP X.K X.mg n f vs H1 Q (WE W σ) := by
  refine ⟨F, s, l, Post.bind h fun ds s1 vs H1 l1 r1 f1 h1 => ?_⟩
  split at h1
  case isFalse => exact h1.elim
  rename_i hl
  refine ⟨r1.length.symm.trans hl, Md F s1 σ, ds, r1, fun a h => l1.there h, ?_⟩
  cases q : f ds with
  | stuck => rw [q] at h1; exact h1.elim
  | ok d =>
    rw [q] at h1
    exact fun v H' sm r => h1 v H' (l1.same sm) r (Fs.of_same l1 sm)
  | err c d =>
    rw [q] at h1
    exact fun C dx v H' hc sm hx r => h1 C dx v H' hc (l1.same sm) hx r (Fs.of_same l1 sm)
/-- f(e, ..) -/
theorem de_app {n : Nat} {f : PFn} {a : AS} (c : Cal X.prog X.w X.K X.mg X.base k x (spP X.K X.mg n f)) (hr : Room j X.A) (hk : k ≤ j) (gu : X.A.guards = some []) (tk : Takes X W) (hg : Gl X x) (ha : DA X W (e :: es) a) (hdb : (x == ("__debug__" : Str)) = false := by decide)
    (he : starEach (e :: es) X.env = (false, eval e X.env) :: starEach es X.env := by rfl) (hpl : (backTo pos (starEach es X.env)).any (·.1) = false := by rfl) : DE X W (.Call (.Name x np) (e :: es) [] pos) (eApp n f a) :=
  PE.weak (call_core c hr hk gu tk hg ha hdb he hpl) fun σ H Q ⟨F, s, l, h⟩ => rdA_app l h
theorem de_app0 {f : PFn} (c : Cal X.prog X.w X.K X.mg X.base k x (spP X.K X.mg 0 f)) (hr : Room j X.A) (hk : k ≤ j) (gu : X.A.guards = some []) (tk : Takes X W) (hg : Gl X x) (hdb : (x == ("__debug__" : Str)) = false := by decide) : DE X W (.Call (.Name x np) [] [] pos) (eApp 0 f aNil) :=
  PE.weak (call_core0 c hr hk gu tk hg hdb) fun σ H Q ⟨F, s, l, h⟩ => by
    refine ⟨rfl, Md F s σ, [], .nil, fun a h => l.there h, ?_⟩
    have h : Post X W F (RE X F σ) s σ H ((f []).to s) Q := h
    cases q : f [] with
    | stuck => rw [q] at h; exact h.elim
    | ok d =>
      rw [q] at h
      exact fun v H' sm r => h v H' (l.same sm) r (Fs.of_same l sm)
    | err c d =>
      rw [q] at h
      exact fun C dx v H' hc sm hx r => h C dx v H' hc (l.same sm) hx r (Fs.of_same l sm)
/-- a new list from a def -/
theorem dl_apl {n : Nat} {f : LFn} {a : AS} (c : Cal X.prog X.w X.K X.mg X.base k x (spL X.K n f)) (hr : Room j X.A) (hk : k ≤ j) (gu : X.A.guards = some []) (tk : Takes X W) (hg : Gl X x) (ha : DA X W (e :: es) a) (hdb : (x == ("__debug__" : Str)) = false := by decide)
    (he : starEach (e :: es) X.env = (false, eval e X.env) :: starEach es X.env := by rfl) (hpl : (backTo pos (starEach es X.env)).any (·.1) = false := by rfl) : DL X W (.Call (.Name x np) (e :: es) [] pos) (lApl n f a) :=
  PE.weak (call_core c hr hk gu tk hg ha hdb he hpl) fun σ H Q ⟨F, s, l, h⟩ => ⟨F, s, l, Post.bind h fun ds s1 vs H1 l1 r1 f1 h1 => by
    split at h1
    case isFalse => exact h1.elim
    rename_i hl
    obtain ⟨xs, e1, q⟩ := Post.of h1
    refine ⟨r1.length.symm.trans hl, Md F s1 σ, ds, xs, r1, fun a h => l1.there h, e1, fun p us H' sm np hp rp => ?_⟩
    have lf := l1.addNew np (.lst us)
    have l2 := l1.same sm
    have nm : ¬ Md F s1 σ p := l1.fresh np
    have fa : Fr (Md F s1 σ) (Md (F.add p) s1 σ) H1 H' := (fr_add l1 np).trans (Fr.of_same sm)
    have la : Lk X.K (F.add p) s1 σ H' := by
      refine l1.mono fa (fun a z => ?_) rfl (fun a z => .inl z) (fun i m xs a vs e1 em e2 e3 => ⟨sm _ _ e3, fun z => ?_⟩) fun a e => ?_
      · rcases z with z | z
        · obtain ⟨o, e⟩ := l1.mo a z
          exact ⟨o, sm _ _ e⟩
        · subst z; exact ⟨_, hp⟩
      · rcases z with z | z
        · obtain ⟨b, us, q1, q2, q3, _⟩ := l1.list e1 em
          rw [e2] at q1
          cases q1
          exact q3 z
        · subst z
          rw [np] at e3
          cases e3
      · have z := (l1.pot a e).2
        rw [z, sm _ _ z]
    refine q _ H' l2 ⟨p, us, rfl, f1.fr.there p np, hp, nm, la, rp.mono (Fr.sub fun c hc => (Md.add.mp hc).elim .inl .inr)⟩ (Fs.of_same l1 sm)⟩
/-! the pot -/
theorem pot_at {F : Fm} {s : Sx} {σ : L2.St} {H : Hp} {i : Nat} (l : Lk X.K F s σ H) (h : isPot s.L[i]? = true) : ∃ a, σ[i]? = some (some (.ref a)) ∧ F.pa = some a ∧ F.Mo a ∧ H a = some (.lst (s.G.map V.int)) := by
  cases q : s.L[i]? with
  | none => rw [q] at h; cases h
  | some m =>
    rw [q] at h
    cases m with
    | pot =>
      obtain ⟨a, e1, e2⟩ := l.slot i _ q
      obtain ⟨m, e3⟩ := l.pot a e1
      exact ⟨a, e2, e1, m, e3⟩
    | _ => cases h
/-- what the pot holds is changed -/
theorem Lk.pots {F : Fm} {s : Sx} {σ : L2.St} {H H' : Hp} {a : Addr} {G' : List Int} {K : PySem.W.Frag} (l : Lk K F s σ H) (hp : F.pa = some a) (h : Pots a G' H H') : Lk K F { s with G := G' } σ H' ∧ Fs F s σ { s with G := G' } σ H H' := by
  obtain ⟨m, e⟩ := l.pot a hp
  have f : Fr (Md F s σ) (Md F { s with G := G' } σ) H H' := ⟨fun b o eb hm => by
    by_cases hb : b = a
    · subst hb
      have q := hm (.inl m)
      rw [e] at eb
      cases eb
      cases q
    · exact h.1 b o hb eb, fun b z => .inl z, fun b z => by
    by_cases hb : b = a
    · subst hb; rw [h.2] at z; cases z
    · cases q : H b with
      | none => rfl
      | some o => rw [h.1 b o hb q] at z; cases z⟩
  refine ⟨⟨l.len, fun i x ex => ?_, l.inj, fun b eb => ?_, fun b mb => ?_⟩, f, fun b mb nb => ?_, fun i xs ex => ⟨ex, rfl⟩⟩
  · have sl := l.slot i x ex
    cases x with
    | non => trivial
    | dat d => obtain ⟨v, e1, r⟩ := sl; exact ⟨v, e1, r.mono f⟩
    | own xs => obtain ⟨b, vs, e1, e2, n, r⟩ := sl; exact ⟨b, vs, e1, h.1 b _ (fun z => n (z ▸ m)) e2, n, r.mono f⟩
    | lent xs => obtain ⟨b, vs, e1, e2, n, r⟩ := sl; exact ⟨b, vs, e1, h.1 b _ (fun z => n (z ▸ m)) e2, n, r.mono f⟩
    | pot => exact sl
  · rw [hp] at eb
    cases eb
    exact ⟨m, h.2⟩
  · by_cases hb : b = a
    · subst hb; exact ⟨_, h.2⟩
    · obtain ⟨o, eo⟩ := l.mo b mb
      exact ⟨o, h.1 b o hb eo⟩
  · obtain ⟨o, eo⟩ := l.mo b mb
    rw [eo]
    exact h.1 b o (fun z => nb (z ▸ hp)) eo
/-- f(pot, e, ..) -/
theorem de_apq (i : Nat) {n : Nat} {f : QFn} {a : AS} {y : Str} {pp : Pos} (c : Cal X.prog X.w X.K X.mg X.base k x (spQ X.K X.mg n f)) (hr : Room j X.A) (hk : k ≤ j) (gu : X.A.guards = some []) (tk : Takes X W) (hg : Gl X x) (ha : DA X W es a)
    (hN : X.N[i]? = some y := by rfl) (hv : Vis X.env.scope y := by first | exact Or.inl rfl | exact Or.inr (Or.inl rfl) | exact Or.inr (Or.inr rfl)) (hd : (y == ("__debug__" : Str)) = false := by decide) (hcd : (y == ("__classdict__" : Str)) = false := by decide)
    (hdb : (x == ("__debug__" : Str)) = false := by decide)
    (he : starEach (.Name y pp :: es) X.env = (false, eval (.Name y pp) X.env) :: starEach es X.env := by rfl) (hpl : (backTo pos (starEach es X.env)).any (·.1) = false := by rfl) : DE X W (.Call (.Name x np) (.Name y pp :: es) [] pos) (eApq i n f a) := by
  refine PE.weak (call_core c hr hk gu tk hg (pa_cons (pe_var hN hv hd hcd) ha he) hdb he hpl) fun σ H Q ⟨F, s, l, h⟩ => ?_
  unfold eApq at h
  split at h
  case isFalse => exact h.elim
  rename_i hpot
  obtain ⟨pa, e1, e2, e3, e4⟩ := pot_at l hpot
  refine ⟨.ref pa, e1, F, s, l, Post.bind h fun ds s1 vs H1 l1 r1 f1 h1 => ?_⟩
  split at h1
  case isFalse => exact h1.elim
  rename_i hl
  obtain ⟨_, e5⟩ := l1.pot pa e2
  refine ⟨by rw [List.length_cons, r1.length.symm.trans hl], Md F s1 σ, ds, s1.G, pa, vs, rfl, r1, fun a h => l1.there h, .inl e3, e5, ?_⟩
  cases q : f s1.G ds with
  | stuck => rw [q] at h1; exact h1.elim
  | ok d G' =>
    rw [q] at h1
    exact fun v H' po r => let ⟨l2, f2⟩ := l1.pots e2 po; h1 v H' l2 r f2
  | err c d G' =>
    rw [q] at h1
    exact fun C dx v H' hc po hx r => let ⟨l2, f2⟩ := l1.pots e2 po; h1 C dx v H' hc l2 hx r f2
theorem ints_reps {K : PySem.W.Frag} {M : MS} {H : Hp} : ∀ {xs : List D} {us : List V} {G : List Int}, Reps K M H xs us → intsD xs = some G → us = G.map V.int
  | _, _, _, .nil, h => by cases h; rfl
  | _, _, _, .cons (d := d) (ds := ds') (vs := vs') r rs, h => by
    cases d with
    | int i =>
      have h : (intsD ds').map (i :: ·) = some _ := h
      rw [Option.map_eq_some_iff] at h
      obtain ⟨G', h1, rfl⟩ := h
      cases r
      rw [ints_reps rs h1]
      rfl
    | _ => cases h
theorem reps_ints {K : PySem.W.Frag} {M : MS} {H : Hp} : ∀ G : List Int, Reps K M H (G.map PyData.int) (G.map V.int)
  | [] => .nil
  | i :: r => .cons (.int i) (reps_ints r)
/-- the pot: a list of the def's own -/
theorem Lk.ownPot {F : Fm} {s : Sx} {σ : L2.St} {H H' : Hp} {i : Nat} {a : Addr} {xs : List D} {vs : List V} {G' : List Int} {K : PySem.W.Frag} (l : Lk K F s σ H) (hi : s.L[i]? = some (.own xs)) (hs : σ[i]? = some (some (.ref a))) (ha : H a = some (.lst vs)) (h : Pots a G' H H') :
    Lk K F { s with L := s.L.set i (.own (G'.map PyData.int)) } σ H' ∧ Fs F s σ { s with L := s.L.set i (.own (G'.map PyData.int)) } σ H H' ∧ ∀ d v, Rep K (Md F s σ) H' d v → Rep K (Md F { s with L := s.L.set i (.own (G'.map PyData.int)) } σ) H' d v := by
  obtain ⟨l1, f1, m1⟩ := l.chg hi hs ha (ys := G'.map PyData.int) (us := G'.map V.int) (reps_ints G')
  have sm : Same (upd H a (.lst (G'.map V.int))) H' := fun b o e => by
    by_cases hb : b = a
    · subst hb; rw [upd_same] at e; cases e; exact h.2
    · rw [upd_ne hb] at e; exact h.1 b o hb e
  refine ⟨l1.same sm, f1.trans (Fs.of_same l1 sm), fun d v r => r.mono (Fr.sub fun b hb => ?_)⟩
  rcases hb with hb | ⟨j, m, ys, g1, g2, g3⟩
  · exact .inl hb
  · rcases getS g1 with ⟨rfl, rfl, _⟩ | ⟨_, g1⟩
    · exact .inr ⟨j, _, xs, hi, rfl, g3⟩
    · exact .inr ⟨j, m, ys, g1, g2, g3⟩
theorem de_apo (i : Nat) {n : Nat} {f : QFn} {a : AS} {y : Str} {pp : Pos} (c : Cal X.prog X.w X.K X.mg X.base k x (spQ X.K X.mg n f)) (hr : Room j X.A) (hk : k ≤ j) (gu : X.A.guards = some []) (tk : Takes X W) (hg : Gl X x) (ha : DA X W es a)
    (hN : X.N[i]? = some y := by rfl) (hv : Vis X.env.scope y := by first | exact Or.inl rfl | exact Or.inr (Or.inl rfl) | exact Or.inr (Or.inr rfl)) (hd : (y == ("__debug__" : Str)) = false := by decide) (hcd : (y == ("__classdict__" : Str)) = false := by decide)
    (hdb : (x == ("__debug__" : Str)) = false := by decide)
    (he : starEach (.Name y pp :: es) X.env = (false, eval (.Name y pp) X.env) :: starEach es X.env := by rfl) (hpl : (backTo pos (starEach es X.env)).any (·.1) = false := by rfl) : DE X W (.Call (.Name x np) (.Name y pp :: es) [] pos) (eApo i n f a) := by
  refine PE.weak (call_core c hr hk gu tk hg (pa_cons (pe_var hN hv hd hcd) ha he) hdb he hpl) fun σ H Q ⟨F, s, l, h⟩ => ?_
  unfold eApo at h
  split at h
  case isFalse => exact h.elim
  rename_i ho
  obtain ⟨pa, ws, e1, e2⟩ := own_at l ho
  refine ⟨.ref pa, e1, F, s, l, Post.bind h fun ds s1 vs H1 l1 r1 f1 h1 => ?_⟩
  split at h1
  case isFalse => exact h1.elim
  rename_i hl
  cases q0 : s1.L[i]? with
  | none => rw [q0] at h1; exact h1.elim
  | some m =>
    rw [q0] at h1
    cases m with
    | own xs =>
      cases q1 : intsD xs with
      | none =>
        have h1 : Post X W F (RE X F σ) s1 σ H1 (match intsD xs with | some G => (f G ds).own i s1 | none => .stuck) Q := h1
        rw [q1] at h1; exact h1.elim
      | some G =>
        have h1 : Post X W F (RE X F σ) s1 σ H1 (match intsD xs with | some G => (f G ds).own i s1 | none => .stuck) Q := h1
        rw [q1] at h1
        obtain ⟨a', us, g1, g2, g3, g4⟩ := l1.list q0 rfl
        rw [e1] at g1
        cases g1
        have eu := ints_reps g4 q1
        subst eu
        refine ⟨by rw [List.length_cons, r1.length.symm.trans hl], Md F s1 σ, ds, G, pa, vs, rfl, r1, fun a h => l1.there h, .inr ⟨i, _, xs, q0, rfl, e1⟩, g2, ?_⟩
        dsimp only at h1
        cases q : f G ds with
        | stuck => rw [q] at h1; exact h1.elim
        | ok d G' =>
          rw [q] at h1
          exact fun v H' po r => let ⟨l2, f2, m2⟩ := l1.ownPot q0 e1 g2 po; h1 v H' l2 (m2 _ _ r) f2
        | err c d G' =>
          rw [q] at h1
          exact fun C dx v H' hc po hx r => let ⟨l2, f2, m2⟩ := l1.ownPot q0 e1 g2 po; h1 C dx v H' hc l2 hx (m2 _ _ r) f2
    | _ => exact h1.elim
theorem Fs.news {F : Fm} {s s1 s2 : Sx} {σ : L2.St} {H H1 H2 H' : Hp} {pa : Addr} (f1 : Fs F s σ s1 σ H H1) (n0 : H pa = none) (mo : ∀ b, F.Mo b → ∃ o, H b = some o) (f2 : Fs (F.add pa) s1 σ s2 σ H1 H2) (f3 : ∀ b o, b ≠ pa → H2 b = some o → H' b = some o) : Fs F s σ s2 σ H H' := by
  have ne : ∀ b o, H b = some o → b ≠ pa := fun b o e z => by subst z; rw [n0] at e; cases e
  refine ⟨⟨fun b o e hm => ?_, fun b hb => ?_, fun b hb => ?_⟩, fun b m nb => ?_, fun i xs e => ?_⟩
  · refine f3 b o (ne b o e) (f2.fr.keep b o (f1.fr.keep b o e hm) fun z => ?_)
    rcases Md.add.mp z with z | z
    · rcases f1.fr.grow b z with z | z
      · exact hm z
      · rw [e] at z; cases z
    · exact absurd z (ne b o e)
  · rcases f2.fr.grow b (Md.add.mpr (.inl hb)) with z | z
    · rcases Md.add.mp z with z | z
      · exact f1.fr.grow b z
      · exact .inr (z ▸ n0)
    · exact .inr (f1.fr.there b z)
  · by_cases hp : b = pa
    · exact hp ▸ n0
    · refine f1.fr.there b (f2.fr.there b ?_)
      cases q : H2 b with
      | none => rfl
      | some o => rw [f3 b o hp q] at hb; cases hb
  · obtain ⟨o, e⟩ := mo b m
    rw [e]
    exact f3 b o (ne b o e) (by rw [f2.out b (.inl m) nb, f1.out b m nb]; exact e)
  · obtain ⟨g1, g2⟩ := f1.lnt i xs e
    obtain ⟨g3, g4⟩ := f2.lnt i xs g1
    exact ⟨g3, g4.trans g2⟩
/-- the pot: a new list -/
theorem de_apn {n : Nat} {f : QFn} {g : Sx → Rz (List D)} {a : AS} (c : Cal X.prog X.w X.K X.mg X.base k x (spQ X.K X.mg n f)) (hr : Room j X.A) (hk : k ≤ j) (gu : X.A.guards = some []) (tk : Takes X W) (hg : Gl X x) (hl0 : DL X W e g) (ha : DA X W es a)
    (hdb : (x == ("__debug__" : Str)) = false := by decide)
    (he : starEach (e :: es) X.env = (false, eval e X.env) :: starEach es X.env := by rfl) (hpl : (backTo pos (starEach es X.env)).any (·.1) = false := by rfl) : DE X W (.Call (.Name x np) (e :: es) [] pos) (eApn n f g a) := by
  refine PE.weak (call_core c hr hk gu tk hg (pa_cons hl0 ha he) hdb he hpl) fun σ H Q ⟨F, s, l, h⟩ => ⟨F, s, l, ?_⟩
  have h : Post X W F (RE X F σ) s σ H ((g s).bind fun xs s1 => match intsD xs with
    | some G => (a s1).bind fun ds s2 => if ds.length = n then (f G ds).gone s2 else .stuck
    | none => .stuck) Q := h
  revert h
  cases g s with
  | stuck => exact fun h => h
  | err cc d s2 => exact fun h => h
  | ok xs s1 =>
    intro h v0 H1 l1 r0 f1
    have h : Post X W F (RE X F σ) s σ H (match intsD xs with
      | some G => (a s1).bind fun ds s2 => if ds.length = n then (f G ds).gone s2 else .stuck
      | none => .stuck) Q := h
    obtain ⟨pa, us, rfl, n0, n1, nm, la, ru⟩ := r0
    have pD : F.pa ≠ some pa := fun z => nm (.inl (l1.pot pa z).1)
    cases q1 : intsD xs with
    | none => rw [q1] at h; exact h.elim
    | some G =>
      rw [q1] at h
      dsimp only at h
      have eu := ints_reps ru q1
      subst eu
      refine ⟨F.add pa, s1, la, ?_⟩
      revert h
      cases a s1 with
      | stuck => exact fun h => h
      | err cc d s2 =>
        intro h C dx v H2 hc l2 hx r2 f2
        exact h C dx v H2 hc (l2.drop pD) hx (r2.mono (Fr.sub fun b hb => Md.add.mpr (.inl hb))) (Fs.news f1 n0 l.mo f2 fun b o _ e => e)
      | ok ds s2 =>
        intro h vs H2 l2 r2 f2
        have h : Post X W F (RE X F σ) s σ H (if ds.length = n then (f G ds).gone s2 else .stuck) Q := h
        split at h
        case isFalse => exact h.elim
        rename_i hl
        have sub : ∀ b, Md F s2 σ b → Md (F.add pa) s2 σ b := fun b hb => Md.add.mpr (.inl hb)
        have e2 : H2 pa = some (.lst (G.map V.int)) := by rw [f2.out pa (.inr rfl) pD]; exact n1
        refine ⟨by rw [List.length_cons, r2.length.symm.trans hl], Md (F.add pa) s2 σ, ds, G, pa, vs, rfl, r2, fun a h => l2.there h, Md.add.mpr (.inr rfl), e2, ?_⟩
        have fin : ∀ {G' : List Int} {H' : Hp}, Pots pa G' H2 H' → Lk X.K F s2 σ H' ∧ Fs F s σ s2 σ H H' := fun {G' H'} po => by
          obtain ⟨l3, f3⟩ := l2.aside (us := G'.map V.int) pD e2
          have sm : Same (upd H2 pa (.lst (G'.map V.int))) H' := fun b o e => by
            by_cases hb : b = pa
            · subst hb; rw [upd_same] at e; cases e; exact po.2
            · rw [upd_ne hb] at e; exact po.1 b o hb e
          exact ⟨(l3.same sm).drop pD, Fs.news f1 n0 l.mo f2 po.1⟩
        revert h
        cases f G ds with
        | stuck => exact fun h => h.elim
        | ok d G' => exact fun h v H' po r => let ⟨l3, f3⟩ := fin po; h v H' l3 (r.mono (Fr.sub sub)) f3
        | err c d G' => exact fun h C dx v H' hc po hx r => let ⟨l3, f3⟩ := fin po; h C dx v H' hc l3 hx (r.mono (Fr.sub sub)) f3
end
end BD

set_option Elab.async false
set_option linter.all false
set_option maxRecDepth 100000
set_option maxHeartbeats 1000000
namespace BD
open PySem PySem.Spec PyProof.Rows L2
section
variable {X : Cx} {W : WX} {pos : Pos} {y : Str} {pp : Pos} {e : Expr}
theorem ixN_of {n : Nat} {k : Int} {j : Nat} (h : BD.ixN n k = some j) : L2.ixN n k = some j := by
  unfold BD.ixN at h
  unfold L2.ixN
  split at h
  · rename_i h0
    rw [if_pos h0]
    split at h
    · rename_i h1
      rw [if_pos (by omega)]
      exact h
    · cases h
  · rename_i h0
    rw [if_neg h0]
    split at h
    · rename_i h1
      rw [if_pos (by omega)]
      cases h
      congr 1
    · cases h
/-- pot[k] -/
theorem de_potIx (i : Nat) {f : ES} (he : DE X W e f) (hN : X.N[i]? = some y := by rfl) (hv : Vis X.env.scope y := by first | exact Or.inl rfl | exact Or.inr (Or.inl rfl) | exact Or.inr (Or.inr rfl)) (hd : (y == ("__debug__" : Str)) = false := by decide) (hcd : (y == ("__classdict__" : Str)) = false := by decide)
    (hs : PlainIx e := by intro _ _; rfl) : DE X W (.Subscript (.Name y pp) e pos) (ePotIx i f) := by
  refine PE.weak (pe_ix ix_seq (pe_var hN hv hd hcd) he hs) fun σ H Q ⟨F, st, l, h⟩ => ?_
  unfold ePotIx at h
  split at h
  case isFalse => exact h.elim
  rename_i hp
  obtain ⟨pa, e1, e2, e3, e4⟩ := pot_at l hp
  refine ⟨.ref pa, e1, F, st, l, Post.bind h fun d s1 v H1 l1 r1 f1 h1 => ?_⟩
  obtain ⟨z, ez, hz⟩ := Post.of h1
  cases d with
  | int k =>
    have ez : (atD s1.G k).map PyData.int = some z := ez
    rw [Option.map_eq_some_iff] at ez
    obtain ⟨g, h2, rfl⟩ := ez
    cases r1
    obtain ⟨_, e5⟩ := l1.pot pa e2
    unfold atD at h2
    rw [Option.bind_eq_some_iff] at h2
    obtain ⟨j, h3, h4⟩ := h2
    refine .inl ⟨pa, _, k, .int g, rfl, rfl, .inl (.inl e5), ?_, hz _ H1 l1 (.int g) Fs.refl⟩
    unfold atI
    rw [List.length_map, ixN_of h3]
    show (s1.G.map V.int)[j]? = _
    rw [List.getElem?_map, h4]
    rfl
  | _ => cases ez
/-- pot[k] = e -/
theorem ds_potSet (i : Nat) {f : ES} {k : Int} {j : Nat} {p2 p3 : Pos} (he : DE X W e f) (hN : X.N[i]? = some y := by rfl) (hv : Vis X.env.scope y := by first | exact Or.inl rfl | exact Or.inr (Or.inl rfl) | exact Or.inr (Or.inr rfl)) (hd : (y == ("__debug__" : Str)) = false := by decide) (hcd : (y == ("__classdict__" : Str)) = false := by decide)
    (ha : ∀ v, assign (.Subscript (.Name y pp) (.Constant (.int k) j p2) p3) X.env v = (do
      let ov ← holding [v] (eval (.Name y pp) X.env)
      let iv ← holding [v, ov] (eval (.Constant (.int k) j p2) X.env)
      standAt p3
      holding [v, ov, iv] (setItem ov iv v)
      release [v, ov, iv] []) := by intro _; rfl)
    (hs : swapsWithSole [.Subscript (.Name y pp) (.Constant (.int k) j p2) p3] e pos.line X.env = pure false := by rfl) (hw : swappedStores [.Subscript (.Name y pp) (.Constant (.int k) j p2) p3] e X.env = pure none := by rfl)
    (h1 : (assignEach [.Subscript (.Name y pp) (.Constant (.int k) j p2) p3] X.env).map (·.2) = [assign (.Subscript (.Name y pp) (.Constant (.int k) j p2) p3) X.env] := by rfl) :
    DS X W (.Assign [.Subscript (.Name y pp) (.Constant (.int k) j p2) p3] e pos) (sPotSet i k f) := by
  refine PS.weak (ps_asg he (pg_sub (pe_var hN hv hd hcd) pe_int set_list ha) hs hw h1) fun D σ H ⟨F, s, l, h⟩ => ?_
  unfold sPotSet at h
  split at h
  case isFalse => exact h.elim
  rename_i hp
  obtain ⟨pa, e1, e2, e3, e4⟩ := pot_at l hp
  refine ⟨F, s, l, PostS.bindE h fun d s1 v H1 l1 r1 f1 h1 => ?_⟩
  cases d with
  | int g =>
    have h1 : PostS X W F D s1 σ H1 (if 0 ≤ k ∧ k.toNat < s1.G.length then .ok .nx { s1 with G := s1.G.set k.toNat g } else .stuck) := h1
    split at h1
    case isFalse => exact h1.elim
    rename_i hk
    cases r1
    obtain ⟨_, e5⟩ := l1.pot pa e2
    refine ⟨.ref pa, e1, pa, _, k, k.toNat, rfl, rfl, e5, ?_, ?_⟩
    · unfold L2.ixN
      rw [List.length_map, if_pos hk.1, if_pos (by omega)]
    · have po : Pots pa (s1.G.set k.toNat g) H1 (upd H1 pa (.lst ((s1.G.map V.int).set k.toNat (.int g)))) := ⟨fun b o hb eb => by rw [upd_ne hb]; exact eb, by rw [upd_same, List.map_set]⟩
      obtain ⟨l2, f2⟩ := l1.pots e2 po
      exact h1 σ _ l2 f2
  | _ => exact h1.elim
end
end BD

set_option Elab.async false
set_option linter.all false
set_option maxRecDepth 100000
set_option maxHeartbeats 1000000
namespace BD
open PySem PySem.Spec PyProof.Rows L2
/-! ### the law's def, called -/
theorem law_callG {P : Program} {w : World} {K : PySem.W.Frag} {mg mb : Str → Option Value} {CX : CXT} {k : Nat} {fa a : Addr} {fd : FuncData} {x : Str} {sp : Sp} {s₁ : Shared} {vs : List Value} {ns : List Int}
    (KX : K.In s₁.heap) (hns : s₁.heap.Ns mainGlobals mg) (hb : s₁.heap.Ns builtinsNs mb) (hbb : ∀ x : Str, x ≠ "__name__" → mb x = bootBuiltins x) (hlim : s₁.heap.NoLimit) (hg : s₁.gens = #[])
    (ha : s₁.heap.get? a = some { cls := .type "list", data := .seq vs.toArray }) (hi : IntsAre vs ns) (hl : ns.length ≤ sizeLine) (hr : Room k callerA)
    (F : ∀ base : Heap, K.In base → base.Ns mainGlobals mg → FnG P w K mg base CX k fa fd [x] sp) (hbind : ∀ (s : Shared) (u : Value), BindsTo s fd ⟨[u], []⟩ [(x, u)])
    (hsp : ∀ H : Hp, SqF K H a (ns.map V.int) → sp [.ref a] H (fun v _ => v = .bl true) fun _ _ _ => False)
    (hCX : ∀ H e s', CX [] H s₁ (fun _ _ _ => False) e s' → False) :
    codeAny (model P w) callerA (.call (.ref fa) ⟨[.ref a], []⟩) (fun r s' => r = .ok (.ret (.bool true)) ∧ OldK s₁.heap s'.heap ∧ s'.os = s₁.os ∧ AllBare s'.gens) s₁ := by
  have rv := vals_ints hi
  have lenV := hi.length
  -- nothing but the script may be tracked
  have core : ∀ H : Hp, (∀ b, H b = none ∨ ∃ o xs, H b = some (.frz o (.lst xs))) → SqF K H a (ns.map V.int) → HOk P w H s₁.heap → (∀ b, H b ≠ none → b = a) → (H a ≠ none → K.lookup a = none) →
      codeAny (model P w) callerA (.call (.ref fa) ⟨[.ref a], []⟩) (fun r s' => r = .ok (.ret (.bool true)) ∧ OldK s₁.heap s'.heap ∧ s'.os = s₁.os ∧ AllBare s'.gens) s₁ := by
    intro H hO hS hok hA hK
    have isA : ∀ {b : Addr}, ¬ H b = none → b = a := fun {b} h => hA b h
    have nsK : ∀ {b : Addr} {m : Str → Option Value}, s₁.heap.Ns b m → (hidT s₁.heap H).Ns b m := fun {b m} ⟨o, es, ep, e, d, r⟩ => by
      refine ⟨o, es, ep, hidT_get e (Classical.byContradiction fun q => ?_), d, r⟩
      have e' := isA q
      subst e'
      rw [ha] at e; cases e
      have d' : Data.seq vs.toArray _ = Data.dict es ep := d
      cases d'
    have hKb : K.In (hidT s₁.heap H) := fun b o e => hidT_get (KX b o e) (Classical.byContradiction fun q => by
      have e' := isA q
      subst e'
      rw [hK q] at e; cases e)
    have hM : Mod K mg (hidT s₁.heap H) := ⟨hKb, nsK hns, ⟨mb, nsK hb, hbb⟩, let ⟨mc, h1, h2⟩ := hlim; ⟨mc, nsK h1, h2⟩⟩
    have e0 : Env0 P w K mg (hidT s₁.heap H) callerA [] s₁ H := ⟨rfl, hM, fun b o e => of_hidT e, Nat.le_of_eq (hidT_size _ _), trivial, fun b hb => absurd (show b ∈ ([] : List Addr) from hb) (by simp), hok, .of_eq hg⟩
    refine codeAny_mono ((F _ hKb (nsK hns)).run callerA [] s₁ H ⟨[.ref a], []⟩ [.ref a] [.ref a] _ _ hr rfl e0 (hbind s₁ (.ref a)) (.cons rfl .nil) (hsp H hS)) fun r s' h => ?_
    cases r with
    | error e => exact (hCX H e s' h).elim
    | ok fl =>
      cases fl with
      | next => exact False.elim h
      | brk => exact False.elim h
      | cont => exact False.elim h
      | ret u =>
        obtain ⟨v, H', os, bare, un, hok', r', q⟩ := h
        have q' : v = .bl true := q
        subst q'
        obtain rfl : u = Value.bool true := r'
        refine ⟨rfl, OldK.of_keep fun b o e => ?_, os, bare⟩
        rcases hO b with z | ⟨ob, xs, z⟩
        · exact un.keep b o e z (by intro z; exact absurd (show b ∈ ([] : List Addr) from z) (by simp)) (by simp)
        · obtain ⟨e1, _⟩ := hok b _ z
          obtain ⟨e2, _⟩ := hok' b _ (un.frzs b ob _ z)
          rw [e] at e1; cases e1
          exact e2
  cases hk : K.lookup a with
  | some o =>
    have e := KX a o hk
    rw [ha] at e
    cases e
    exact core (fun _ => none) (fun _ => .inl rfl) (.inr ⟨_, vs.toArray, _, hk, rfl, rfl, rfl, by rw [List.size_toArray, lenV]; exact hl, by simpa using rv⟩) (fun b u z => nomatch (show (none : Option HO) = some u from z)) (fun b z => absurd rfl z) fun z => absurd rfl z
  | none =>
    refine core (fun b => if b = a then some (.frz { cls := .type "list", data := .seq vs.toArray } (.lst (ns.map V.int))) else none) (fun b => ?_) (.inl ⟨{ cls := .type "list", data := .seq vs.toArray }, if_pos rfl⟩) (fun b u z => ?_) (fun b z => ?_) fun _ => hk
    · by_cases hb : b = a
      · exact .inr ⟨_, _, if_pos hb⟩
      · exact .inl (if_neg hb)
    · by_cases hb : b = a
      · have z' := (if_pos hb).symm.trans z
        cases z'
        subst hb
        exact ⟨ha, by rw [List.length_map]; exact hl, vs, _, rv, ha⟩
      · have z' := (if_neg hb).symm.trans z
        cases z'
    · by_cases hb : b = a
      · exact hb
      · exact absurd (if_neg hb) z
/-- the script, told by data -/
def scriptD (ns : List Int) : D := .dict [(.none, .tuple (ns.map PyData.int))]
theorem walk_ofG {l : PySem.W.OpenLaw} {n k : Nat} {q : Program} {loose : List Str} {XP : (Str → Option Value) → Heap → Prop} {YP : World → Heap → Prop} {d : DefRec} {K : Params → PySem.W.Frag} {m : PFn} {x : Str}
    (hn : l.most = some n) (hn2 : n ≤ sizeLine) (hdf : d.params.defaults = []) (hr : Room k callerA)
    (hY : ∀ (w : World) (h : Heap), YP w h → (K w.params).In h)
    (F : ∀ (w : World) (mg : Str → Option Value) (fa : Addr) (h : Heap), (K w.params).In h → h.Ns mainGlobals mg → mg d.name = some (.ref fa) →
      ∃ fd : FuncData, (∀ (s : Shared) (u : Value), BindsTo s fd ⟨[u], []⟩ [(x, u)]) ∧
        ∀ base : Heap, (K w.params).In base → base.Ns mainGlobals mg → FnG l.prog w (K w.params) mg base (L2.CX l.prog w) k fa fd [x] (spP (K w.params) mg 1 m))
    (hsp : ∀ ns : List Int, ns.length ≤ n → m [scriptD ns] = .ok (.bool true)) :
    PySem.W.WalkO q loose XP YP l.row.toRowW d [] (fun f vs => PySem.call f vs) := by
  refine Att.attach_call hn hdf fun w s₀ s₁ mg mb fa o pm cd doc a vs ns G Y ho hd hcd hmg hobj hints hlen hg => ?_
  obtain ⟨fd, hb, hF⟩ := F w mg fa _ (hY w _ Y) G.T.g hmg
  refine law_callG (hY w _ Y) G.T.g G.T.b G.T.builtins G.T.nolimit hg hobj hints (Nat.le_trans hlen hn2) hr hF hb (fun H hS => ⟨rfl, fun _ => False, [scriptD ns], .cons (.frz hS (reps_ints ns)) .nil, fun _ z => z.elim, ?_⟩) fun H e s' z => ?_
  · rw [hsp ns hlen]
    intro v H' _ r
    cases r
    rfl
  · obtain ⟨_, _, _, _, _, _, _, _, _, _, _, _, z⟩ := z
    exact z.elim
/-! ### repr -/
section
variable {X : Cx} {k : Nat}
def reprB : Bf
  | [d] => if SeqAt.shaped d && d.showable && decide (d.shown.length ≤ sizeLine) then some (.str d.shown) else none
  | _ => none
theorem noDict_of_shaped {d : PyData} (h : SeqAt.shaped d = true) : d.hasDict = false := PyData.hasDict_of_canLay d (SeqAt.canLay_of_shaped h)
theorem bf_repr (hr : Room k X.A) (gu : X.A.guards = some []) : BfD X (.builtin "repr") reprB := by
  intro pins s σ H vs us Q I r ⟨F, st, σ', ds, z, l, ws, ez, hz⟩
  unfold reprB at ez
  split at ez
  · rename_i d
    split at ez
    · rename_i hs
      cases ez
      rw [Bool.and_eq_true, Bool.and_eq_true, decide_eq_true_eq] at hs
      obtain ⟨⟨h1, h2⟩, h3⟩ := hs
      obtain ⟨v, rfl, w⟩ := w1 ws
      obtain ⟨u, rfl, ru⟩ := vals1 r
      obtain ⟨as, ra⟩ := Dp.reads I _ _ _ (w.dp h1) ru
      have q := hz (.str d.shown) H (.str _) (Same.refl H)
      have fin : ∀ (h' : Heap) (t : Tok) (tk : Nat), (∀ b o, s.heap.get? b = some o → h'.get? b = some o) → EP X pins σ Q (.str d.shown t) { s with heap := h', toks := tk } := fun h' t tk hk =>
        ⟨.str d.shown, H, I.kept (t' := tk) hk, ⟨t, rfl⟩, q⟩
      have hd := SeqAt.depth_of_shaped h1
      have hru := hr.un
      cases ra with
      | none => exact PySem.P.repr_of_none (fin s.heap _ _ fun _ _ e => e)
      | bool b => exact PySem.P.repr_of_bool (fin s.heap _ _ fun _ _ e => e)
      | int i t => exact PySem.P.repr_of_int (by simpa [PyData.showable] using h2) (fin s.heap _ _ fun _ _ e => e)
      | str x t => exact PySem.P.repr_of_str (fin s.heap _ _ fun _ _ e => e) (by simpa only [PyData.shown] using h3)
      | list a b c e => exact repr_of_reads' (.list a b c e) h2 (PyData.noDict_hsm (noDict_of_shaped h1)) gu (by omega) (fun _ _ e => e) (fun h' u tk hk => fin h' u tk hk) h3
      | tuple a b c e => exact repr_of_reads' (.tuple a b c e) h2 (PyData.noDict_hsm (noDict_of_shaped h1)) gu (by omega) (fun _ _ e => e) (fun h' u tk hk => fin h' u tk hk) h3
      | dict a b c e f => exact repr_of_reads' (.dict a b c e f) h2 (PyData.noDict_hsm (noDict_of_shaped h1)) gu (by omega) (fun _ _ e => e) (fun h' u tk hk => fin h' u tk hk) h3
    · cases ez
  · cases ez
end
end BD

set_option Elab.async false
set_option linter.all false
set_option maxRecDepth 100000
set_option maxHeartbeats 1000000
namespace BD
open PySem PySem.Spec PyProof.Rows L2
/-! ### calls that look at lists of the def's own -/
theorem rep_flat {K : PySem.W.Frag} {M M' : MS} {H : Hp} : (∀ {d : D} {v : V}, Rep K M H d v → flat d = true → Rep K M' H d v) ∧ (∀ {d : List D} {v : List V}, Reps K M H d v → flatAll d = true → Reps K M' H d v) := by
  have A : ∀ n : Nat, (∀ (d : D) (v : V), sizeOf d ≤ n → Rep K M H d v → flat d = true → Rep K M' H d v) ∧ (∀ (d : List D) (v : List V), sizeOf d ≤ n → Reps K M H d v → flatAll d = true → Reps K M' H d v) := by
    intro n
    induction n with
    | zero =>
      refine ⟨fun d v h r f => ?_, fun d v h r f => ?_⟩
      · cases d <;> simp at h
      · cases d <;> simp at h
    | succ n ih =>
      refine ⟨fun d v h r f => ?_, fun d v h r f => ?_⟩
      · cases r with
        | non => exact .non
        | bl b => exact .bl b
        | int i => exact .int i
        | str x => exact .str x
        | tup h1 r => exact .tup h1 (ih.2 _ _ (by simp at h; omega) r (by simpa [flat] using f))
        | lst _ _ _ => simp [flat] at f
        | dic _ _ _ => simp [flat] at f
        | frz _ _ => simp [flat] at f
      · cases r with
        | nil => exact .nil
        | cons r rs =>
          simp only [flatAll, Bool.and_eq_true] at f
          simp at h
          exact .cons (ih.1 _ _ (by omega) r f.1) (ih.2 _ _ (by omega) rs f.2)
  exact ⟨fun {d v} r f => (A _).1 d v (Nat.le_refl _) r f, fun {d v} r f => (A _).2 d v (Nat.le_refl _) r f⟩
section
variable {X : Cx} {W : WX} {k j p : Nat} {x : Str} {np pos : Pos} {e : Expr} {es : List Expr}
theorem reps_bare {F : Fm} {s : Sx} {σ : L2.St} {H : Hp} (l : Lk X.K F s σ H) : ∀ {ps : List PV} {vs : List V} {ds : List D}, RKs X F σ s H ps vs → resAll s ps = some ds → Reps X.K F.Mo H ds vs
  | _, _, ds, .nil, e => by cases e; exact .nil
  | _, _, ds, .cons (a := pv) (l₁ := ps) h t, e => by
    unfold resAll at e
    cases q : res s pv with
    | none => rw [q] at e; cases e
    | some d =>
      rw [q] at e
      cases q2 : resAll s ps with
      | none => rw [q2] at e; cases e
      | some ds' =>
        rw [q2] at e
        cases e
        have f : Fr (Md F s σ) F.Mo H H := Fr.sub fun b hb => .inl hb
        refine .cons ?_ (reps_bare l t q2)
        cases pv with
        | d d' => cases q; exact Rep.mono f h
        | o i =>
          have h : σ[i]? = some (some _) := h
          dsimp only [res] at q
          cases q3 : s.L[i]? with
          | none => rw [q3] at q; cases q
          | some m =>
            rw [q3] at q
            have sl := l.slot i m q3
            cases m with
            | non => cases q
            | pot => cases q
            | dat d' =>
              cases q
              obtain ⟨u, e1, e2⟩ := sl
              rw [h] at e1
              cases e1
              exact e2.mono f
            | own xs =>
              cases q
              obtain ⟨a, us, e1, e2, e3, e4⟩ := sl
              rw [h] at e1
              cases e1
              exact .lst e3 e2 (e4.mono f)
            | lent xs =>
              cases q
              obtain ⟨a, us, e1, e2, e3, e4⟩ := sl
              rw [h] at e1
              cases e1
              exact .lst e3 e2 (e4.mono f)
theorem de_appB {n : Nat} {f : PFn} {a : PS'} (c : Cal X.prog X.w X.K X.mg X.base k x (spP X.K X.mg n f)) (hr : Room j X.A) (hk : k ≤ j) (gu : X.A.guards = some []) (tk : Takes X W) (hg : Gl X x) (ha : DP X W (e :: es) a) (hdb : (x == ("__debug__" : Str)) = false := by decide)
    (he : starEach (e :: es) X.env = (false, eval e X.env) :: starEach es X.env := by rfl) (hpl : (backTo pos (starEach es X.env)).any (·.1) = false := by rfl) : DE X W (.Call (.Name x np) (e :: es) [] pos) (eAppB n f a) :=
  PE.weak (call_core c hr hk gu tk hg ha hdb he hpl) fun σ H Q ⟨F, s, l, h⟩ => by
    refine ⟨F, s, l, Post.bind h fun ps s1 vs H1 l1 r1 f1 h1 => ?_⟩
    cases q0 : resAll s1 ps with
    | none => rw [q0] at h1; exact h1.elim
    | some ds =>
      rw [q0] at h1
      have h1 : Post X W F (RE X F σ) s1 σ H1 (if ds.length = n then (f ds).flat s1 else .stuck) Q := h1
      split at h1
      case isFalse => exact h1.elim
      rename_i hl
      have r2 := reps_bare l1 r1 q0
      refine ⟨r2.length.symm.trans hl, F.Mo, ds, r2, l1.mo, ?_⟩
      cases q : f ds with
      | stuck => rw [q] at h1; exact h1.elim
      | ok d =>
        rw [q] at h1
        have h1 : Post X W F (RE X F σ) s1 σ H1 (if flat d = true then .ok d s1 else .stuck) Q := h1
        split at h1
        case isFalse => exact h1.elim
        rename_i hf
        exact fun v H' sm r => h1 v H' (l1.same sm) (rep_flat.1 r hf) (Fs.of_same l1 sm)
      | err c d =>
        rw [q] at h1
        have h1 : Post X W F (RE X F σ) s1 σ H1 (if flat d = true then .err c d s1 else .stuck) Q := h1
        split at h1
        case isFalse => exact h1.elim
        rename_i hf
        exact fun C dx v H' hc sm hx r => h1 C dx v H' hc (l1.same sm) hx (rep_flat.1 r hf) (Fs.of_same l1 sm)
theorem de_apqB (i : Nat) {n : Nat} {f : QFn} {a : PS'} {y : Str} {pp : Pos} (c : Cal X.prog X.w X.K X.mg X.base k x (spQ X.K X.mg n f)) (hr : Room j X.A) (hk : k ≤ j) (gu : X.A.guards = some []) (tk : Takes X W) (hg : Gl X x) (ha : DP X W es a)
    (hN : X.N[i]? = some y := by rfl) (hv : Vis X.env.scope y := by first | exact Or.inl rfl | exact Or.inr (Or.inl rfl) | exact Or.inr (Or.inr rfl)) (hd : (y == ("__debug__" : Str)) = false := by decide) (hcd : (y == ("__classdict__" : Str)) = false := by decide)
    (hdb : (x == ("__debug__" : Str)) = false := by decide)
    (he : starEach (.Name y pp :: es) X.env = (false, eval (.Name y pp) X.env) :: starEach es X.env := by rfl) (hpl : (backTo pos (starEach es X.env)).any (·.1) = false := by rfl) : DE X W (.Call (.Name x np) (.Name y pp :: es) [] pos) (eApqB i n f a) := by
  refine PE.weak (call_core c hr hk gu tk hg (pa_cons (pe_var hN hv hd hcd) ha he) hdb he hpl) fun σ H Q ⟨F, s, l, h⟩ => ?_
  unfold eApqB at h
  split at h
  case isFalse => exact h.elim
  rename_i hpot
  obtain ⟨pa, e1, e2, e3, e4⟩ := pot_at l hpot
  refine ⟨.ref pa, e1, F, s, l, Post.bind h fun ps s1 vs H1 l1 r1 f1 h1 => ?_⟩
  cases q0 : resAll s1 ps with
  | none => rw [q0] at h1; exact h1.elim
  | some ds =>
    rw [q0] at h1
    have h1 : Post X W F (RE X F σ) s1 σ H1 (if ds.length = n then (f s1.G ds).flat s1 else .stuck) Q := h1
    split at h1
    case isFalse => exact h1.elim
    rename_i hl
    obtain ⟨_, e5⟩ := l1.pot pa e2
    have r2 := reps_bare l1 r1 q0
    refine ⟨by rw [List.length_cons, r2.length.symm.trans hl], F.Mo, ds, s1.G, pa, vs, rfl, r2, l1.mo, e3, e5, ?_⟩
    cases q : f s1.G ds with
    | stuck => rw [q] at h1; exact h1.elim
    | ok d G' =>
      rw [q] at h1
      have h1 : Post X W F (RE X F σ) s1 σ H1 (if flat d = true then .ok d { s1 with G := G' } else .stuck) Q := h1
      split at h1
      case isFalse => exact h1.elim
      rename_i hf
      exact fun v H' po r => let ⟨l2, f2⟩ := l1.pots e2 po; h1 v H' l2 (rep_flat.1 r hf) f2
    | err c d G' =>
      rw [q] at h1
      have h1 : Post X W F (RE X F σ) s1 σ H1 (if flat d = true then .err c d { s1 with G := G' } else .stuck) Q := h1
      split at h1
      case isFalse => exact h1.elim
      rename_i hf
      exact fun C dx v H' hc po hx r => let ⟨l2, f2⟩ := l1.pots e2 po; h1 C dx v H' hc l2 hx (rep_flat.1 r hf) f2
end
end BD

set_option Elab.async false
set_option linter.all false
set_option maxRecDepth 100000
set_option maxHeartbeats 1000000
namespace BD
open PySem PySem.Spec PyProof.Rows L2
section
variable {X : Cx} {W : WX}
theorem ds_stuck {st : Stmt} : DS X W st sStuck := ⟨fun pins s σ H D I h => by
  obtain ⟨F, s, l, h⟩ := h
  exact h.elim⟩
theorem de_stuck {e : Expr} : DE X W e eStuck := ⟨fun pins s σ H Q I h => by
  obtain ⟨F, s, l, h⟩ := h
  exact h.elim⟩
theorem ts_nil : PTs X [] (rdB X W bYes) := ⟨fun pins s σ H Q I h => by
  obtain ⟨F, st, l, h⟩ := h
  exact pts_nil.run pins s σ H Q I (h true H l rfl Fs.refl)⟩
theorem ts_one {c : Expr} {f : BS} (h : DB X W c f) : PTs X [c] (rdB X W f) := pts_one h
end
/-- a def of the text -/
structure Def (K : PySem.W.Frag) (mg : MG) (x : Str) (st : Stmt) : Prop where
  ex : ∃ (f : Addr) (fd : FuncData), Fun K x x st f fd ∧ mg x = some (.ref f)
theorem def_mk {K : PySem.W.Frag} {h : Heap} {mg : MG} {x : Str} {st : Stmt} {f : Addr} {oc : Value} {od an : Option Addr} {osl : Array (Option Value)} {kV doc pm cdv ct : Value} (Y : K.In h) (G : h.Ns mainGlobals mg) (a : PySem.W.nsIn K mainGlobals x = some (some (.ref f))) (l : K.lookup f = some ⟨oc, od, .func (PySem.W.fnOf x x (defArgs st) (defBody st) (defScope st) .none kV doc pm an cdv ct), osl⟩)
    (c : PySem.W.codeIn K cdv x = true) (k : PySem.W.keepIn K (.ref f) = true) : Def K mg x st := ⟨f, _, fun_mk l c k, PySem.W.mg_of Y G a⟩
theorem law_end {P : Program} {w : World} {K : PySem.W.Frag} {mg : MG} {fa : Addr} {x : Str} {st : Stmt} {k : Nat} {m : PFn} (d : Def K mg "law" st) (hmg : mg "law" = some (.ref fa))
    (hb : ∀ (kV doc pm : Value) (an : Option Addr) (cdv ct : Value) (us : List Value), us.length = 1 → bindArgs (PySem.W.fnOf "law" "law" (defArgs st) (defBody st) (defScope st) .none kV doc pm an cdv ct) ⟨us, []⟩ = pure ([x].zip us))
    (hF : ∀ (fd : FuncData), Fun K "law" "law" st fa fd → ∀ base : Heap, FnG P w K mg base (L2.CX P w) k fa fd [x] (spP K mg 1 m)) :
    ∃ fd : FuncData, (∀ (s : Shared) (u : Value), BindsTo s fd ⟨[u], []⟩ [(x, u)]) ∧ ∀ base : Heap, K.In base → base.Ns mainGlobals mg → FnG P w K mg base (L2.CX P w) k fa fd [x] (spP K mg 1 m) := by
  obtain ⟨f, fd, F, g⟩ := d.ex
  have e := hmg.symm.trans g
  cases e
  refine ⟨fd, fun s u => ?_, fun base _ _ => hF fd F base⟩
  obtain ⟨oc, od, kV, doc, pm, an, cdv, ct, osl, rfl, lk, hcd⟩ := F.ex
  exact .of_eq (hb kV doc pm an cdv ct [u] rfl)
end BD

set_option Elab.async false
set_option linter.all false
set_option maxRecDepth 100000
set_option maxHeartbeats 1000000
namespace BD
open PySem
/-! ### how the mirrors run -/
theorem bind_cong {α β : Type} {r r' : Rz α} {g : α → Sx → Rz β} (h : r = r') : r.bind g = r'.bind g := by rw [h]
theorem finP_cong {r r' : Rz Fl} (h : r = r') : finP r = finP r' := by rw [h]
theorem finQ_cong {r r' : Rz Fl} (h : r = r') : finQ r = finQ r' := by rw [h]
@[simp] theorem finP_rt (d : D) (s : Sx) : finP (.ok (.rt d) s) = .ok d := (rfl)
@[simp] theorem finP_nx (s : Sx) : finP (.ok .nx s) = .ok .none := (rfl)
@[simp] theorem finP_err (c : Str) (d : D) (s : Sx) : finP (.err c d s) = .err c d := (rfl)
@[simp] theorem finQ_rt (d : D) (s : Sx) : finQ (.ok (.rt d) s) = .ok d s.G := (rfl)
@[simp] theorem finQ_nx (s : Sx) : finQ (.ok .nx s) = .ok .none s.G := (rfl)
@[simp] theorem finQ_err (c : Str) (d : D) (s : Sx) : finQ (.err c d s) = .err c d s.G := (rfl)
@[simp] theorem rp_err (c : Str) (d : D) (s : Sx) : (Rp.err c d).to s = .err c d s := (rfl)
@[simp] theorem rq_err (c : Str) (d : D) (G : List Int) (s : Sx) : (Rq.err c d G).to s = .err c d { s with G := G } := (rfl)
@[simp] theorem calm_err (c : Str) (d : D) (s : Sx) : (Rz.err c d s : Rz α).calm = .stuck := (rfl)
@[simp] theorem calm_stuck : (Rz.stuck : Rz α).calm = .stuck := (rfl)
variable (s : Sx)
@[simp] theorem res_d (d : D) : res s (.d d) = some d := (rfl)
@[simp] theorem res_o (i : Nat) : res s (.o i) = match s.L[i]? with
    | some (.own xs) => some (.list xs)
    | some (.lent xs) => some (.list xs)
    | some (.dat d) => some d
    | _ => none := (rfl)
@[simp] theorem eV_ap (i : Nat) : eV i s = match s.L[i]? with
  | some (.dat d) => .ok d s
  | some (.own xs) => .ok (.list xs) { s with L := s.L.set i (.dat (.list xs)) }
  | _ => .stuck := (rfl)
@[simp] theorem kV_ap (i : Nat) : kV i s = match s.L[i]? with
  | some (.dat d) => .ok (.d d) s
  | some (.own _) => .ok (.o i) s
  | some (.lent _) => .ok (.o i) s
  | _ => .stuck := (rfl)
@[simp] theorem kE_ap (e : ES) : kE e s = (e s).bind fun d s1 => .ok (.d d) s1 := (rfl)
@[simp] theorem eC_ap (d : D) : eC d s = .ok d s := (rfl)
@[simp] theorem eOp_ap (f : Op2) (a b : KS) : eOp f a b s = (a s).bind fun x s1 => (b s1).bind fun y s2 => Rz.of ((res s2 x).bind fun u => (res s2 y).bind fun v => f u v) s2 := (rfl)
@[simp] theorem bCm_ap (f : Cm2) (a b : KS) : bCm f a b s = (a s).bind fun x s1 => (b s1).bind fun y s2 => Rz.of ((res s2 x).bind fun u => (res s2 y).bind fun v => f u v) s2 := (rfl)
@[simp] theorem bCh_ap (f g : Cm2) (a b c : KS) : bCh f g a b c s = (a s).bind fun x s1 => (b s1).bind fun y s2 => (Rz.of ((res s2 x).bind fun u => (res s2 y).bind fun v => f u v) s2).bind fun k s3 =>
  if k = true then (c s3).bind fun z s4 => Rz.of ((res s4 y).bind fun u => (res s4 z).bind fun v => g u v) s4 else .ok false s3 := (rfl)
@[simp] theorem eB_ap (b : BS) : eB b s = (b s).bind fun k s1 => .ok (.bool k) s1 := (rfl)
@[simp] theorem bE_ap (e : ES) : bE e s = (e s).bind fun d s1 => Rz.of (asB d) s1 := (rfl)
@[simp] theorem bAnd_ap (a b : BS) : bAnd a b s = (a s).bind fun k s1 => if k = true then b s1 else .ok false s1 := (rfl)
@[simp] theorem bOr_ap (a b : BS) : bOr a b s = (a s).bind fun k s1 => if k = true then .ok true s1 else b s1 := (rfl)
@[simp] theorem bNot_ap (a : BS) : bNot a s = (a s).bind fun k s1 => .ok (!k) s1 := (rfl)
@[simp] theorem eNeg_ap (a : ES) : eNeg a s = (a s).bind fun d s1 => Rz.of ((asI d).map fun i => .int (-i)) s1 := (rfl)
@[simp] theorem eIf_ap (t : BS) (a b : ES) : eIf t a b s = (t s).bind fun k s1 => if k = true then a s1 else b s1 := (rfl)
@[simp] theorem aNil_ap : aNil s = .ok [] s := (rfl)
@[simp] theorem aCons_ap (e : ES) (r : AS) : aCons e r s = (e s).bind fun d s1 => (r s1).bind fun ds s2 => .ok (d :: ds) s2 := (rfl)
@[simp] theorem pNil_ap : pNil s = .ok [] s := (rfl)
@[simp] theorem pCons_ap (e : KS) (r : PS') : pCons e r s = (e s).bind fun d s1 => (r s1).bind fun ds s2 => .ok (d :: ds) s2 := (rfl)
@[simp] theorem resAll_nil : resAll s [] = some [] := (rfl)
@[simp] theorem resAll_cons (p : PV) (r : List PV) : resAll s (p :: r) = (res s p).bind fun d => (resAll s r).map (d :: ·) := (rfl)
@[simp] theorem eTup_ap (a : AS) : eTup a s = (a s).bind fun ds s1 => if ds.length ≤ 1000 then .ok (.tuple ds) s1 else .stuck := (rfl)
@[simp] theorem lLst_ap (a : AS) : lLst a s = (a s).bind fun ds s1 => if ds.length ≤ 1000 then .ok ds s1 else .stuck := (rfl)
@[simp] theorem eL_ap (a : Sx → Rz (List D)) : eL a s = (a s).bind fun ds s1 => .ok (.list ds) s1 := (rfl)
@[simp] theorem eApp_ap (n : Nat) (f : PFn) (a : AS) : eApp n f a s = (a s).bind fun ds s1 => if ds.length = n then (f ds).to s1 else .stuck := (rfl)
@[simp] theorem eAppB_ap (n : Nat) (f : PFn) (a : PS') : eAppB n f a s = (a s).bind fun ps s1 => match resAll s1 ps with
  | some ds => if ds.length = n then (f ds).flat s1 else .stuck
  | none => .stuck := (rfl)
@[simp] theorem eApq_ap (i n : Nat) (f : QFn) (a : AS) : eApq i n f a s = if isPot s.L[i]? then (a s).bind fun ds s1 => if ds.length = n then (f s1.G ds).to s1 else .stuck else .stuck := (rfl)
@[simp] theorem eApqB_ap (i n : Nat) (f : QFn) (a : PS') : eApqB i n f a s = if isPot s.L[i]? then (a s).bind fun ps s1 => match resAll s1 ps with
  | some ds => if ds.length = n then (f s1.G ds).flat s1 else .stuck
  | none => .stuck else .stuck := (rfl)
@[simp] theorem eApo_ap (i n : Nat) (f : QFn) (a : AS) : eApo i n f a s = if isOwn s.L[i]? then (a s).bind fun ds s1 => if ds.length = n then (match ownI s1.L[i]? with
  | some G => (f G ds).own i s1
  | none => .stuck) else .stuck else .stuck := (rfl)
@[simp] theorem eApn_ap (n : Nat) (f : QFn) (g : Sx → Rz (List D)) (a : AS) : eApn n f g a s = (g s).bind fun xs s1 => match intsD xs with
  | some G => (a s1).bind fun ds s2 => if ds.length = n then (f G ds).gone s2 else .stuck
  | none => .stuck := (rfl)
@[simp] theorem lApl_ap (n : Nat) (f : LFn) (a : AS) : lApl n f a s = (a s).bind fun ds s1 => if ds.length = n then Rz.of (f ds) s1 else .stuck := (rfl)
@[simp] theorem isPot_pot : isPot (some .pot) = true := (rfl)
@[simp] theorem isOwn_own (xs : List D) : isOwn (some (.own xs)) = true := (rfl)
@[simp] theorem ownI_own (xs : List D) : ownI (some (.own xs)) = intsD xs := (rfl)
@[simp] theorem own_ok (i : Nat) (d : D) (G : List Int) : (Rq.ok d G).own i s = .ok d { s with L := s.L.set i (.own (G.map PyData.int)) } := (rfl)
@[simp] theorem gone_ok (d : D) (G : List Int) : (Rq.ok d G).gone s = .ok d s := (rfl)
@[simp] theorem pflat_ok (d : D) : (Rp.ok d).flat s = if BD.flat d = true then .ok d s else .stuck := (rfl)
@[simp] theorem qflat_ok (d : D) (G : List Int) : (Rq.ok d G).flat s = if BD.flat d = true then .ok d { s with G := G } else .stuck := (rfl)
@[simp] theorem flat_int (i : Int) : flat (.int i) = true := by simp [flat]
@[simp] theorem flat_str (i : Str) : flat (.str i) = true := by simp [flat]
@[simp] theorem flat_bool (i : Bool) : flat (.bool i) = true := by simp [flat]
@[simp] theorem flat_none : flat .none = true := by simp [flat]
@[simp] theorem flat_tuple (xs : List D) : flat (.tuple xs) = flatAll xs := by simp [flat]
@[simp] theorem flatAll_nil : flatAll [] = true := by simp [flatAll]
@[simp] theorem flatAll_cons (d : D) (r : List D) : flatAll (d :: r) = (flat d && flatAll r) := by simp [flatAll]
@[simp] theorem eBf_ap (f : Bf) (a : PS') : eBf f a s = (a s).bind fun ps s1 => Rz.of ((resAll s1 ps).bind f) s1 := (rfl)
@[simp] theorem lLf_ap (f : Lf) (a : PS') : lLf f a s = (a s).bind fun ps s1 => Rz.of ((resAll s1 ps).bind f) s1 := (rfl)
@[simp] theorem bIs_ap (T : Ty) (a : KS) : bIs T a s = (a s).bind fun p s1 => Rz.of ((res s1 p).bind (isT T)) s1 := (rfl)
@[simp] theorem oNo_ap : oNo s = .ok none s := (rfl)
@[simp] theorem oE_ap (e : ES) : oE e s = (e s).bind fun d s1 => Rz.of ((asI d).map some) s1 := (rfl)
@[simp] theorem eSl_ap (a : KS) (lo hi : OS) : eSl a lo hi s = (a s).bind fun p s1 => (lo s1).bind fun l s2 => (hi s2).bind fun u s3 => Rz.of ((res s3 p).bind fun x => sliceD x l u) s3 := (rfl)
@[simp] theorem lSl_ap (a : KS) (lo hi : OS) : lSl a lo hi s = (a s).bind fun p s1 => (lo s1).bind fun l s2 => (hi s2).bind fun u s3 => Rz.of ((res s3 p).bind fun x => cutL x l u) s3 := (rfl)
@[simp] theorem lRev_ap (a : KS) : lRev a s = (a s).bind fun p s1 => Rz.of ((res s1 p).bind revL) s1 := (rfl)
@[simp] theorem lCat_ap (a b : KS) : lCat a b s = (a s).bind fun x s1 => (b s1).bind fun y s2 => Rz.of ((res s2 x).bind fun u => (res s2 y).bind fun v => match u, v with
  | .list xs, .list ys => if xs.length + ys.length ≤ szl then some (xs ++ ys) else none
  | _, _ => none) s2 := (rfl)
@[simp] theorem lRg1_ap (e : ES) : lRg1 e s = (e s).bind fun d s1 => Rz.of ((rg2 (.int 0) d).bind fun xs => if xs.length ≤ szl then some xs else none) s1 := (rfl)
@[simp] theorem lRg2_ap (a b : ES) : lRg2 a b s = (a s).bind fun x s1 => (b s1).bind fun y s2 => Rz.of ((rg2 x y).bind fun xs => if xs.length ≤ szl then some xs else none) s2 := (rfl)
@[simp] theorem ePotIx_ap (i : Nat) (e : ES) : ePotIx i e s = if isPot s.L[i]? then (e s).bind fun d s1 => Rz.of ((asI d).bind fun k => (atD s1.G k).map PyData.int) s1 else .stuck := (rfl)
@[simp] theorem sPotSet_ap (i : Nat) (k : Int) (e : ES) : sPotSet i k e s = if isPot s.L[i]? then (e s).bind fun d s1 => (match asI d with
  | some j => if 0 ≤ k ∧ k.toNat < s1.G.length then .ok .nx { s1 with G := s1.G.set k.toNat j } else .stuck
  | none => .stuck) else .stuck := (rfl)
/-! iteration -/
@[simp] theorem lend_d (d : D) : lend s (.d d) = (seqD d).map fun xs => (xs, [], s) := (rfl)
@[simp] theorem lend_o (i : Nat) : lend s (.o i) = match s.L[i]? with
    | some (.own xs) => some (xs, [i], { s with L := s.L.set i (.lent xs) })
    | some (.lent xs) => some (xs, [], s)
    | some (.dat d) => (seqD d).map fun xs => (xs, [], s)
    | _ => none := (rfl)
@[simp] theorem seqD_list (xs : List D) : seqD (.list xs) = some xs := (rfl)
@[simp] theorem seqD_tuple (xs : List D) : seqD (.tuple xs) = some xs := (rfl)
@[simp] theorem lentTo_ap (f : List D → Option (List D)) (p : PV) : lentTo f p s = match lend s p with
  | some (xs, ls, s') => Rz.of ((f xs).map fun ys => (ys, ls)) s'
  | none => .stuck := (rfl)
@[simp] theorem iSeq_ap (e : KS) : iSeq e s = (e s).bind fun p s1 => lentTo some p s1 := (rfl)
@[simp] theorem iEnum_ap (k : Int) (e : KS) : iEnum k e s = (e s).bind fun p s1 => lentTo (fun xs => some (enumD k xs)) p s1 := (rfl)
@[simp] theorem iRg1_ap (e : ES) : iRg1 e s = (e s).bind fun d s1 => Rz.of ((rg2 (.int 0) d).map fun xs => (xs, [])) s1 := (rfl)
@[simp] theorem iRg2_ap (a b : ES) : iRg2 a b s = (a s).bind fun x s1 => (b s1).bind fun y s2 => Rz.of ((rg2 x y).map fun xs => (xs, [])) s2 := (rfl)
@[simp] theorem iRgD_ap (a b : ES) : iRgD a b s = (a s).bind fun x s1 => (b s1).bind fun y s2 => Rz.of ((rgDown x y).map fun xs => (xs, [])) s2 := (rfl)
@[simp] theorem iZip_ap (a b : KS) : iZip a b s = (a s).bind fun p s1 => (b s1).bind fun q s2 => match lend s2 p with
  | some (xs, ls, s3) => (match lend s3 q with
    | some (ys, ls', s4) => .ok (zipD xs ys, ls ++ ls') s4
    | none => .stuck)
  | none => .stuck := (rfl)
@[simp] theorem give_nil (L : List Loc) : give L [] = L := (rfl)
@[simp] theorem give_cons (L : List Loc) (i : Nat) (r : List Nat) : give L (i :: r) = give (match L[i]? with | some (.lent xs) => L.set i (.own xs) | _ => L) r := (rfl)
@[simp] theorem free_non : free (some .non) = true := (rfl)
@[simp] theorem free_dat (d : D) : free (some (.dat d)) = true := (rfl)
@[simp] theorem free_own (xs : List D) : free (some (.own xs)) = true := (rfl)
@[simp] theorem gV_ap (i : Nat) (d : D) : gV i d s = if free s.L[i]? then some { s with L := s.L.set i (.dat d) } else none := (rfl)
@[simp] theorem gTup_ap (gs : List GS) (ds : List D) : gTup gs (.tuple ds) s = gEach gs ds s := (rfl)
@[simp] theorem gEach_nil : gEach [] [] s = some s := (rfl)
@[simp] theorem gEach_cons (g : GS) (gs : List GS) (d : D) (ds : List D) : gEach (g :: gs) (d :: ds) s = (g d s).bind fun s1 => gEach gs ds s1 := (rfl)
@[simp] theorem unset_nil (L : List Loc) : unset L [] = L := (rfl)
@[simp] theorem unset_cons (L : List Loc) (i : Nat) (r : List Nat) : unset L (i :: r) = (unset L r).set i .non := (rfl)
@[simp] theorem back_nil (L0 L : List Loc) : back L0 L [] = L := (rfl)
@[simp] theorem back_cons (L0 L : List Loc) (i : Nat) (r : List Nat) : back L0 L (i :: r) = (back L0 L r).set i (L0.getD i .non) := (rfl)
@[simp] theorem isDat_non : isDat (some .non) = true := (rfl)
@[simp] theorem isDat_dat (d : D) : isDat (some (.dat d)) = true := (rfl)
@[simp] theorem lComp_ap (it : IS) (g : GS) (c : BS) (e : ES) (own : List Nat) : lComp it g c e own s = (it s).bind fun p s1 =>
  if own.all (fun i => isDat s1.L[i]?) then (compL g c e own p.1 [] { s1 with L := unset s1.L own }).bind fun ys s2 => .ok ys { s2 with L := give (back s1.L s2.L own) p.2 } else .stuck := (rfl)
@[simp] theorem bYes_ap : bYes s = .ok true s := (rfl)
/-! statements -/
@[simp] theorem sSkip_ap : sSkip s = .ok .nx s := (rfl)
@[simp] theorem sSeq_ap (a b : SS) : sSeq a b s = (a s).bind fun f s1 => match f with
  | .nx => b s1
  | f => .ok f s1 := (rfl)
@[simp] theorem sRet_ap (e : ES) : sRet e s = (e s).bind fun d s1 => .ok (.rt d) s1 := (rfl)
@[simp] theorem sExp_ap (e : ES) : sExp e s = (e s).bind fun _ s1 => .ok .nx s1 := (rfl)
@[simp] theorem sIf_ap (t : BS) (a b : SS) : sIf t a b s = (t s).bind fun k s1 => if k = true then a s1 else b s1 := (rfl)
@[simp] theorem sSet_ap (g : GS) (e : ES) : sSet g e s = (e s).bind fun d s1 => (Rz.st (g d s1)).bind fun _ s2 => .ok .nx s2 := (rfl)
@[simp] theorem sOwn_ap (i : Nat) (e : Sx → Rz (List D)) : sOwn i e s = (e s).bind fun xs s1 => (Rz.st (setOwn i xs s1)).bind fun _ s2 => .ok .nx s2 := (rfl)
@[simp] theorem setOwn_ap (i : Nat) (xs : List D) : setOwn i xs s = if free s.L[i]? then some { s with L := s.L.set i (.own xs) } else none := (rfl)
@[simp] theorem sPar_ap (gs : List GS) (a : AS) : sPar gs a s = (a s).bind fun ds s1 => (Rz.st (gEach gs ds s1)).bind fun _ s2 => .ok .nx s2 := (rfl)
@[simp] theorem eApd_ap (i : Nat) (e : ES) : eApd i e s = if isOwn s.L[i]? then (e s).bind fun d s1 => (match s1.L[i]? with
  | some (.own xs) => if xs.length < szl then .ok .none { s1 with L := s1.L.set i (.own (xs ++ [d])) } else .stuck
  | _ => .stuck) else .stuck := (rfl)
@[simp] theorem eExt_ap (i : Nat) (e : KS) : eExt i e s = if isOwn s.L[i]? then (e s).bind fun p s1 => (match (res s1 p).bind lstD, s1.L[i]? with
  | some ys, some (.own xs) => if xs.length + ys.length ≤ szl then .ok .none { s1 with L := s1.L.set i (.own (xs ++ ys)) } else .stuck
  | _, _ => .stuck) else .stuck := (rfl)
@[simp] theorem lstD_list (xs : List D) : lstD (.list xs) = some xs := (rfl)
@[simp] theorem ePop_ap (i : Nat) : ePop i s = match s.L[i]? with
  | some (.own xs) => Rz.of (xs[xs.length - 1]?) { s with L := s.L.set i (.own xs.dropLast) }
  | _ => .stuck := (rfl)
@[simp] theorem ePopAt_ap (i : Nat) (e : ES) : ePopAt i e s = if isOwn s.L[i]? then (e s).bind fun d s1 => (match asI d, s1.L[i]? with
  | some k, some (.own xs) => if 0 ≤ k ∧ k < 2 ^ 62 then Rz.of (xs[k.toNat]?) { s1 with L := s1.L.set i (.own (xs.eraseIdx k.toNat)) } else .stuck
  | _, _ => .stuck) else .stuck := (rfl)
@[simp] theorem sFor_ap (it : IS) (g : GS) (b : SS) : sFor it g b s = (it s).bind fun p s1 => (forL g b p.1 s1).bind fun f s2 => .ok f { s2 with L := give s2.L p.2 } := (rfl)
@[simp] theorem forL_nil (g : GS) (b : SS) : forL g b [] s = .ok .nx s := (rfl)
theorem forL_cons (g : GS) (b : SS) (x : D) (xs : List D) : forL g b (x :: xs) s = (Rz.st (g x s)).bind fun _ s1 => (b s1).bind fun f s2 => match f with
    | .nx => forL g b xs s2
    | .ct => forL g b xs s2
    | .bk => .ok .nx s2
    | .rt d => .ok (.rt d) s2 := (rfl)
@[simp] theorem compL_nil (g : GS) (c : BS) (e : ES) (own : List Nat) (acc : List D) : compL g c e own [] acc s = .ok acc s := (rfl)
theorem compL_cons (g : GS) (c : BS) (e : ES) (own : List Nat) (x : D) (xs acc : List D) : compL g c e own (x :: xs) acc s = (Rz.st (g x s)).bind fun _ s1 => (c s1).calm.bind fun k s2 =>
    if k = true then (e s2).calm.bind fun y s3 => if acc.length < szl then compL g c e own xs (acc ++ [y]) { s3 with L := unset s3.L own } else .stuck
    else compL g c e own xs acc { s2 with L := unset s2.L own } := (rfl)
/-! built-in functions -/
@[simp] theorem lenB_list (xs : List D) : lenB [.list xs] = some (.int xs.length) := (rfl)
@[simp] theorem lenB_tuple (xs : List D) : lenB [.tuple xs] = some (.int xs.length) := (rfl)
@[simp] theorem lenB_script (ns : List Int) : lenB [scriptD ns] = some (.int ns.length) := by simp [scriptD, lenB]
@[simp] theorem absB_int (i : Int) : absB [.int i] = some (.int (if i < 0 then -i else i)) := (rfl)
@[simp] theorem intB_int (i : Int) : intB [.int i] = some (.int i) := (rfl)
@[simp] theorem intB_bool (i : Bool) : intB [.bool i] = some (.int (if i then 1 else 0)) := (rfl)
@[simp] theorem allB_list (xs : List D) : allB [.list xs] = (boolsD xs).map fun bs => .bool (bs.all id) := (rfl)
@[simp] theorem anyB_list (xs : List D) : anyB [.list xs] = (boolsD xs).map fun bs => .bool (bs.any id) := (rfl)
@[simp] theorem minB_two (i j : Int) : minB [.int i, .int j] = some (.int (if j < i then j else i)) := (rfl)
@[simp] theorem maxB_two (i j : Int) : maxB [.int i, .int j] = some (.int (if j > i then j else i)) := (rfl)
@[simp] theorem tupleB_list (xs : List D) : tupleB [.list xs] = some (.tuple xs) := (rfl)
@[simp] theorem tupleB_tuple (xs : List D) : tupleB [.tuple xs] = some (.tuple xs) := (rfl)
@[simp] theorem listL_list (xs : List D) : listL [.list xs] = some xs := (rfl)
@[simp] theorem listL_tuple (xs : List D) : listL [.tuple xs] = some xs := (rfl)
@[simp] theorem idx_list (xs : List D) (i : Int) : idxD (.list xs) (.int i) = atD xs i := (rfl)
@[simp] theorem idx_tuple (xs : List D) (i : Int) : idxD (.tuple xs) (.int i) = atD xs i := (rfl)
@[simp] theorem idx_script (ns : List Int) (i : Int) : idxD (scriptD ns) (.int i) = atD (ns.map PyData.int) i := (rfl)
@[simp] theorem isT_int (T : Ty) (i : Int) : isT T (.int i) = some (isTb T (.int i)) := (rfl)
@[simp] theorem isT_bool (T : Ty) (i : Bool) : isT T (.bool i) = some (isTb T (.bool i)) := (rfl)
@[simp] theorem isT_str (T : Ty) (i : Str) : isT T (.str i) = some (isTb T (.str i)) := (rfl)
@[simp] theorem isT_none (T : Ty) : isT T .none = some (isTb T .none) := (rfl)
@[simp] theorem isT_tuple (T : Ty) (xs : List D) : isT T (.tuple xs) = some (isTb T (.tuple xs)) := (rfl)
@[simp] theorem isT_list (T : Ty) (xs : List D) : isT T (.list xs) = some (isTb T (.list xs)) := (rfl)
theorem at_nat {α : Type} {xs : List α} {i : Nat} {a : α} (h : xs[i]? = some a) : atD xs (i : Int) = some a := by
  have hl := (List.getElem?_eq_some_iff.mp h).1
  unfold atD ixN
  rw [if_pos (by omega), if_pos (by omega)]
  simpa using h
theorem at_int {α : Type} {xs : List α} {i : Int} (h0 : 0 ≤ i) (h : i < xs.length) : ∃ a, xs[i.toNat]? = some a ∧ atD xs i = some a := by
  have hl : i.toNat < xs.length := by omega
  refine ⟨xs[i.toNat], List.getElem?_eq_getElem hl, ?_⟩
  unfold atD ixN
  rw [if_pos h0, if_pos h]
  exact List.getElem?_eq_getElem hl
end BD

set_option Elab.async false
set_option linter.all false
set_option maxRecDepth 100000
set_option maxHeartbeats 1000000
namespace BD
open PySem
/-! ### how large a number is -/
def Bt (n : Nat) (i : Int) : Prop := i.natAbs < 2 ^ n
theorem Bt.mono {m n : Nat} {i : Int} (h : Bt m i) (hmn : m ≤ n) : Bt n i := Nat.lt_of_lt_of_le h (Nat.pow_le_pow_right (by decide) hmn)
theorem Bt.mul {m n : Nat} {i j : Int} (h : Bt m i) (h2 : Bt n j) : Bt (m + n) (i * j) := by
  unfold Bt at *
  rw [Int.natAbs_mul, Nat.pow_add]
  exact Nat.mul_lt_mul_of_lt_of_lt h h2
theorem Bt.add {m n : Nat} {i j : Int} (h : Bt m i) (h2 : Bt n j) : Bt (max m n + 1) (i + j) := by
  have a : Bt (max m n) i := h.mono (Nat.le_max_left _ _)
  have b : Bt (max m n) j := h2.mono (Nat.le_max_right _ _)
  unfold Bt at *
  rw [Nat.pow_succ]
  have := Int.natAbs_add_le i j
  omega
theorem Bt.neg {n : Nat} {i : Int} (h : Bt n i) : Bt n (-i) := by unfold Bt at *; rwa [Int.natAbs_neg]
theorem Bt.sub {m n : Nat} {i j : Int} (h : Bt m i) (h2 : Bt n j) : Bt (max m n + 1) (i - j) := by
  rw [Int.sub_eq_add_neg]
  exact h.add h2.neg
theorem Bt.of {n : Nat} {i : Int} (h0 : -(2 ^ n : Nat) < i) (h : i < (2 ^ n : Nat)) : Bt n i := by
  unfold Bt
  omega
theorem Bt.lg {n : Nat} {i : Int} (h : Bt n i) : lg i ≤ n := by
  unfold BD.lg
  by_cases h0 : i.natAbs = 0
  · rw [h0]; simp
  · exact Nat.le_of_lt ((Nat.log2_lt h0).mpr h)
theorem mulOk_of {m n : Nat} {i j : Int} (h : Bt m i) (h2 : Bt n j) (hs : m + n < 1000000) : mulOk i j := by
  have a := h.lg
  have b := h2.lg
  unfold mulOk
  omega
theorem divOk_of {n : Nat} {j : Int} (h : Bt n j) (hj : j ≠ 0) (hs : n < 9000) : divOk j := ⟨hj, Nat.lt_of_le_of_lt h.lg hs⟩
theorem powOk_of {n : Nat} {i j : Int} (h : Bt n i) (h0 : 0 ≤ j) (hs : ((n : Int) + 1) * j ≤ 2 ^ 27) : powOk i j := by
  refine ⟨h0, Int.le_trans (Int.mul_le_mul_of_nonneg_right (c := j) ?_ h0) hs⟩
  have := h.lg
  omega
theorem fmod_lo (a : Int) {b : Int} (h : 0 < b) : 0 ≤ a.fmod b := Int.fmod_nonneg_of_pos a h
theorem fmod_hi (a : Int) {b : Int} (h : 0 < b) : a.fmod b < b := Int.fmod_lt_of_pos a h
theorem fmod_Bt {a b : Int} {n : Nat} (h : 0 < b) (hb : b ≤ (2 ^ n : Nat)) : Bt n (a.fmod b) := by
  have h1 := fmod_lo a h
  have h2 := fmod_hi a h
  exact Bt.of (by have : (0 : Int) < (2 ^ n : Nat) := by exact_mod_cast Nat.two_pow_pos n
                  omega) (by omega)
/-! ### indices -/
section
variable {α : Type} {a b c d : α} {r : List α}
@[simp] theorem atD_0 : atD (a :: r) 0 = some a := at_nat (i := 0) rfl
@[simp] theorem atD_1 : atD (a :: b :: r) 1 = some b := at_nat (i := 1) rfl
@[simp] theorem atD_2 : atD (a :: b :: c :: r) 2 = some c := at_nat (i := 2) rfl
@[simp] theorem atD_3 : atD (a :: b :: c :: d :: r) 3 = some d := at_nat (i := 3) rfl
theorem atD_map {β : Type} {xs : List β} {f : β → α} {i : Int} : atD (xs.map f) i = (atD xs i).map f := by
  unfold atD
  rw [List.length_map]
  cases ixN xs.length i with
  | none => rfl
  | some j => simp
theorem atD_of {xs : List α} {i : Int} (h0 : 0 ≤ i) (h : i < xs.length) : ∃ a, a ∈ xs ∧ atD xs i = some a := by
  obtain ⟨a, h1, h2⟩ := at_int h0 h
  exact ⟨a, List.mem_of_getElem? h1, h2⟩
end
/-! ### comprehensions -/
/-- each item gives one, the state as it was -/
theorem compL_map {g : GS} {e : ES} {own : List Nat} {f : D → D} {s : Sx} : ∀ (xs acc : List D), (∀ x ∈ xs, ∃ s1 s2, g x s = some s1 ∧ e s1 = .ok (f x) s2 ∧ { s2 with L := unset s2.L own } = s) → acc.length + xs.length ≤ szl → compL g bYes e own xs acc s = .ok (acc ++ xs.map f) s
  | [], acc, _, _ => by simp
  | x :: xs, acc, h, hl => by
    obtain ⟨s1, s2, h1, h2, h3⟩ := h x (List.mem_cons_self ..)
    have hl' : acc.length + (xs.length + 1) ≤ szl := by simpa using hl
    rw [compL_cons, h1]
    simp only [st_some, bind_ok, bYes_ap, calm_ok, if_true, h2, h3]
    rw [if_pos (by omega), compL_map xs (acc ++ [f x]) (fun y hy => h y (List.mem_cons_of_mem _ hy)) (by simp; omega)]
    simp
/-- the general form: an invariant of the state and what is gathered -/
theorem compL_inv {g : GS} {c : BS} {e : ES} {own : List Nat} (I : List D → List D → Sx → Prop) : ∀ (xs acc : List D) (s : Sx), I xs acc s → acc.length + xs.length ≤ szl →
    (∀ x xs acc s, I (x :: xs) acc s → ∃ s1 s2 k, g x s = some s1 ∧ c s1 = .ok k s2 ∧ ((k = true ∧ ∃ y s3, e s2 = .ok y s3 ∧ I xs (acc ++ [y]) { s3 with L := unset s3.L own }) ∨ (k = false ∧ I xs acc { s2 with L := unset s2.L own }))) → ∃ ys s', compL g c e own xs acc s = .ok ys s' ∧ I [] ys s'
  | [], acc, s, h, _, _ => ⟨acc, s, by simp, h⟩
  | x :: xs, acc, s, h, hl, step => by
    have hl' : acc.length + (xs.length + 1) ≤ szl := by simpa using hl
    obtain ⟨s1, s2, k, h1, h2, h3⟩ := step x xs acc s h
    rcases h3 with ⟨rfl, y, s3, h3, h4⟩ | ⟨rfl, h4⟩
    · obtain ⟨ys, s', q, q2⟩ := compL_inv I xs (acc ++ [y]) _ h4 (by simp; omega) step
      refine ⟨ys, s', ?_, q2⟩
      rw [compL_cons, h1]
      simp only [st_some, bind_ok, h2, calm_ok, if_true, h3]
      rw [if_pos (by omega), q]
    · obtain ⟨ys, s', q, q2⟩ := compL_inv I xs acc _ h4 (by omega) step
      refine ⟨ys, s', ?_, q2⟩
      rw [compL_cons, h1]
      simp only [st_some, bind_ok, h2, calm_ok]
      exact q
/-- a loop that goes through, by an invariant; or ends before -/
theorem forL_inv {g : GS} {b : SS} (I : List D → Sx → Prop) : ∀ (xs : List D) (s : Sx), I xs s →
    (∀ x xs s, I (x :: xs) s → ∃ s1 s2, g x s = some s1 ∧ b s1 = .ok .nx s2 ∧ I xs s2) → ∃ s', forL g b xs s = .ok .nx s' ∧ I [] s'
  | [], s, h, _ => ⟨s, rfl, h⟩
  | x :: xs, s, h, step => by
    obtain ⟨s1, s2, h1, h2, h3⟩ := step x xs s h
    obtain ⟨s', q, q2⟩ := forL_inv I xs s2 h3 step
    refine ⟨s', ?_, q2⟩
    rw [forL_cons, h1]
    simp only [st_some, bind_ok, h2]
    exact q
/-- .. with an end of its own -/
theorem forL_inv2 {g : GS} {b : SS} (I : List D → Sx → Prop) (R : D → Sx → Prop) : ∀ (xs : List D) (s : Sx), I xs s →
    (∀ x xs s, I (x :: xs) s → ∃ s1 s2, g x s = some s1 ∧ ((b s1 = .ok .nx s2 ∧ I xs s2) ∨ ∃ d, b s1 = .ok (.rt d) s2 ∧ R d s2)) → (∃ s', forL g b xs s = .ok .nx s' ∧ I [] s') ∨ ∃ d s', forL g b xs s = .ok (.rt d) s' ∧ R d s'
  | [], s, h, _ => .inl ⟨s, rfl, h⟩
  | x :: xs, s, h, step => by
    obtain ⟨s1, s2, h1, h23⟩ := step x xs s h
    rcases h23 with ⟨h2, h3⟩ | ⟨d, h2, h3⟩
    · rcases forL_inv2 I R xs s2 h3 step with ⟨s', q, q2⟩ | ⟨d, s', q, q2⟩
      · refine .inl ⟨s', ?_, q2⟩
        rw [forL_cons, h1]
        simp only [st_some, bind_ok, h2]
        exact q
      · refine .inr ⟨d, s', ?_, q2⟩
        rw [forL_cons, h1]
        simp only [st_some, bind_ok, h2]
        exact q
    · refine .inr ⟨d, s2, ?_, h3⟩
      rw [forL_cons, h1]
      simp only [st_some, bind_ok, h2]
theorem upto_len' (lo : Int) (n : Nat) : (upto lo n).length = n := by unfold upto; simp
theorem mem_upto {lo : Int} {n : Nat} {d : D} (h : d ∈ upto lo n) : ∃ i : Int, d = .int i ∧ lo ≤ i ∧ i < lo + n := by
  unfold upto at h
  rw [List.mem_map] at h
  obtain ⟨j, h1, h2⟩ := h
  rw [List.mem_range] at h1
  exact ⟨lo + (j : Int), h2.symm, by omega, by omega⟩
theorem upto_succ (lo : Int) (n : Nat) : upto lo (n + 1) = .int lo :: upto (lo + 1) n := by
  unfold upto
  rw [List.range_succ_eq_map, List.map_cons, List.map_map]
  congr 1
  · simp
  · apply List.map_congr_left
    intro i _
    show PyData.int (lo + ((i + 1 : Nat) : Int)) = .int (lo + 1 + (i : Int))
    congr 1
    omega
@[simp] theorem upto_zero (lo : Int) : upto lo 0 = [] := rfl
end BD

set_option Elab.async false
set_option linter.all false
set_option maxRecDepth 100000
set_option maxHeartbeats 1000000
namespace BD
open PySem
/-! ### data that are small enough to be compared and shown -/
structure Sm (h k : Nat) (d : D) : Prop where
  lay : d.canLay0 = true
  dep : d.depth ≤ h
  sho : d.showable = true
  lea : d.leavesShort 400 = true
  blk : d.bulk ≤ k
structure SmAll (h k : Nat) (xs : List D) : Prop where
  lay : PyData.canLayAll0 xs = true
  dep : PyData.depthAll xs ≤ h
  sho : PyData.showableAll xs = true
  lea : PyData.leavesShortAll 400 xs = true
  blk : PyData.bulkAll xs ≤ k
theorem Sm.mono {h k h' k' : Nat} {d : D} (s : Sm h k d) (a : h ≤ h') (b : k ≤ k') : Sm h' k' d := ⟨s.lay, Nat.le_trans s.dep a, s.sho, s.lea, Nat.le_trans s.blk b⟩
theorem Sm.none : Sm 0 0 .none := ⟨by simp [PyData.canLay0], by simp [PyData.depth], by simp [PyData.showable], by simp [PyData.leavesShort], by simp [PyData.bulk]⟩
theorem Sm.bool (b : Bool) : Sm 0 0 (.bool b) := ⟨by simp [PyData.canLay0], by simp [PyData.depth], by simp [PyData.showable], by simp [PyData.leavesShort], by simp [PyData.bulk]⟩
theorem Sm.int {i : Int} (h : Bt 300 i) : Sm 0 0 (.int i) := by
  have hl : i.natAbs.log2 < 301 := Nat.lt_succ_of_le h.lg
  refine ⟨by simp [PyData.canLay0], by simp [PyData.depth], ?_, ?_, by simp [PyData.bulk]⟩
  · simp only [PyData.showable, decide_eq_true_eq]; omega
  · simp only [PyData.leavesShort, decide_eq_true_eq]
    have e := int_text_length_le (k := 301) (by decide) hl
    show (Str.ofString (toString i)).length ≤ 400
    rw [ofString_length]
    omega
theorem SmAll.nil : SmAll 0 0 [] := ⟨by simp [PyData.canLayAll0], by simp [PyData.depthAll], by simp [PyData.showableAll], by simp [PyData.leavesShortAll], by simp [PyData.bulkAll]⟩
theorem SmAll.cons {h k h' k' : Nat} {d : D} {xs : List D} (a : Sm h k d) (b : SmAll h' k' xs) : SmAll (max h h') (k + 1 + k') (d :: xs) := by
  refine ⟨by simp [PyData.canLayAll0, a.lay, b.lay], ?_, by simp [PyData.showableAll, a.sho, b.sho], by simp [PyData.leavesShortAll, a.lea, b.lea], ?_⟩
  · have := a.dep; have := b.dep
    simp only [PyData.depthAll]; omega
  · have := a.blk; have := b.blk
    simp only [PyData.bulkAll]; omega
theorem SmAll.of {h k : Nat} : ∀ {xs : List D}, (∀ x ∈ xs, Sm h k x) → SmAll h (xs.length * (k + 1)) xs
  | [], _ => ⟨by simp [PyData.canLayAll0], by simp [PyData.depthAll], by simp [PyData.showableAll], by simp [PyData.leavesShortAll], by simp [PyData.bulkAll]⟩
  | x :: xs, H => by
    have a := H x (List.mem_cons_self ..)
    have b := SmAll.of (xs := xs) fun y hy => H y (List.mem_cons_of_mem _ hy)
    have c := SmAll.cons a b
    refine ⟨c.lay, ?_, c.sho, c.lea, ?_⟩
    · have := c.dep; omega
    · have := c.blk
      rw [List.length_cons, Nat.add_mul, Nat.one_mul]
      omega
theorem Sm.list {h k : Nat} {xs : List D} (a : SmAll h k xs) : Sm (h + 1) k (.list xs) :=
  ⟨by simp only [PyData.canLay0]; exact a.lay, by simp only [PyData.depth]; exact Nat.succ_le_succ a.dep, by simp only [PyData.showable]; exact a.sho, by simp only [PyData.leavesShort]; exact a.lea, by simp only [PyData.bulk]; exact a.blk⟩
theorem Sm.tuple {h k : Nat} {xs : List D} (a : SmAll h k xs) : Sm (h + 1) k (.tuple xs) :=
  ⟨by simp only [PyData.canLay0]; exact a.lay, by simp only [PyData.depth]; exact Nat.succ_le_succ a.dep, by simp only [PyData.showable]; exact a.sho, by simp only [PyData.leavesShort]; exact a.lea, by simp only [PyData.bulk]; exact a.blk⟩
theorem Sm.shaped {h k : Nat} {d : D} (s : Sm h k d) (hh : h ≤ 64) : SeqAt.shaped d = true := by
  unfold SeqAt.shaped
  rw [s.lay, Bool.true_and, decide_eq_true_eq]
  exact Nat.le_trans s.dep hh
theorem Sm.repr {h k : Nat} {d : D} (s : Sm h k d) (hh : h ≤ 64) (hk : k ≤ 40000) : reprB [d] = some (.str d.shown) := by
  have e := PyData.shown_le_bulk 400 (by decide) d s.lea
  have b := s.blk
  have : d.shown.length ≤ sizeLine := by rw [sizeLine_eq]; omega
  simp [reprB, s.shaped hh, s.sho, this]
theorem eq_sh {x y : D} (hx : SeqAt.shaped x = true) (hy : SeqAt.shaped y = true) : eqD x y = some (PyData.eqv x y) := by
  unfold eqD strP
  split
  · rename_i h
    split at h
    · cases h; simp [PyData.eqv]
    · cases h
  · simp [hx, hy]
theorem ne_sh {x y : D} (hx : SeqAt.shaped x = true) (hy : SeqAt.shaped y = true) : neD x y = some (!PyData.eqv x y) := by
  unfold neD strP
  split
  · rename_i h
    split at h
    · cases h; simp [PyData.eqv]
    · cases h
  · simp [hx, hy]
@[simp] theorem eq_str (x y : Str) : eqD (.str x) (.str y) = some (x == y) := (rfl)
@[simp] theorem ne_str (x y : Str) : neD (.str x) (.str y) = some (!(x == y)) := (rfl)
@[simp] theorem eq_int (i j : Int) : eqD (.int i) (.int j) = some (decide (i = j)) := by
  simp [eqD, strP, SeqAt.shaped, PyData.canLay0, PyData.depth, PyData.eqv]
  rfl
@[simp] theorem ne_int (i j : Int) : neD (.int i) (.int j) = some (!decide (i = j)) := by
  simp [neD, strP, SeqAt.shaped, PyData.canLay0, PyData.depth, PyData.eqv]
  rfl
@[simp] theorem eq_bool (i j : Bool) : eqD (.bool i) (.bool j) = some (i == j) := by
  simp [eqD, strP, SeqAt.shaped, PyData.canLay0, PyData.depth, PyData.eqv]
@[simp] theorem ne_bool (i j : Bool) : neD (.bool i) (.bool j) = some (!(i == j)) := by
  simp [neD, strP, SeqAt.shaped, PyData.canLay0, PyData.depth, PyData.eqv]
theorem Sm.pair {i j : Int} (hi : Bt 300 i) (hj : Bt 300 j) : Sm 1 2 (.tuple [.int i, .int j]) := Sm.tuple (SmAll.cons (Sm.int hi) (SmAll.cons (Sm.int hj) SmAll.nil))
mutual
theorem eqv_self : ∀ d : D, d.canLay0 = true → PyData.eqv d d = true
  | .none, _ => by simp [PyData.eqv]
  | .bool b, _ => by simp [PyData.eqv]
  | .int i, _ => by simp [PyData.eqv]
  | .str x, _ => by simp [PyData.eqv]
  | .list xs, h => by simp only [PyData.eqv]; exact eqvAll_self xs (by simpa only [PyData.canLay0] using h)
  | .tuple xs, h => by simp only [PyData.eqv]; exact eqvAll_self xs (by simpa only [PyData.canLay0] using h)
  | .dict xs, h => by simp [PyData.canLay0] at h
theorem eqvAll_self : ∀ d : List D, PyData.canLayAll0 d = true → PyData.eqvAll d d = true
  | [], _ => by simp [PyData.eqvAll]
  | x :: xs, h => by
    simp only [PyData.canLayAll0, Bool.and_eq_true] at h
    simp only [PyData.eqvAll, eqv_self x h.1, eqvAll_self xs h.2, Bool.true_and]
end
theorem Sm.eq {h k : Nat} {d : D} (s : Sm h k d) (hh : h ≤ 64) : eqD d d = some true := by rw [eq_sh (s.shaped hh) (s.shaped hh), eqv_self d s.lay]
theorem Sm.ne {h k : Nat} {d : D} (s : Sm h k d) (hh : h ≤ 64) : neD d d = some false := by rw [ne_sh (s.shaped hh) (s.shaped hh), eqv_self d s.lay]; rfl
end BD

set_option Elab.async false
set_option linter.all false
set_option maxRecDepth 100000
set_option maxHeartbeats 4000000
namespace BD
open PySem PySem.Spec PyProof.Rows L2
namespace M
noncomputable section
def topS (i : Nat) : Stmt := PySem.Challenge.pw_beatpatches_k08_whole_banks_of_cells.main.body.getD i (.Pass ⟨0, 0, 0, 0⟩)
structure Fx (K : PySem.W.Frag) (mg : MG) : Prop where
  z_abs : mg "abs" = none
  z_all : mg "all" = none
  z_bool : mg "bool" = none
  z_int : mg "int" = none
  z_isinstance : mg "isinstance" = none
  z_len : mg "len" = none
  z_list : mg "list" = none
  z_max : mg "max" = none
  z_min : mg "min" = none
  z_range : mg "range" = none
  z_repr : mg "repr" = none
  z_tuple : mg "tuple" = none
  z_zip : mg "zip" = none
  d__law_cells : BD.Def K mg "_law_cells" (topS 17)
  d__law_pot : BD.Def K mg "_law_pot" (topS 14)
  d__law_take : BD.Def K mg "_law_take" (topS 15)
  d__law_of : BD.Def K mg "_law_of" (topS 16)
  d__law_drawn_deal : BD.Def K mg "_law_drawn_deal" (topS 21)
  d__law_some_deal : BD.Def K mg "_law_some_deal" (topS 23)
  d__law_far : BD.Def K mg "_law_far" (topS 22)
  d_is_integer : BD.Def K mg "is_integer" (topS 5)
  d_is_deal : BD.Def K mg "is_deal" (topS 9)
  d_check_deal : BD.Def K mg "check_deal" (topS 10)
  d_is_cell : BD.Def K mg "is_cell" (topS 6)
  d_check_cell : BD.Def K mg "check_cell" (topS 7)
  d_bank_of : BD.Def K mg "bank_of" (topS 11)
  d_bank : BD.Def K mg "bank" (topS 12)
  d__law_moved : BD.Def K mg "_law_moved" (topS 18)
  d__law_is_sum : BD.Def K mg "_law_is_sum" (topS 24)
  d__law_bank : BD.Def K mg "_law_bank" (topS 20)
  d__law_less : BD.Def K mg "_law_less" (topS 19)
  d__law_right : BD.Def K mg "_law_right" (topS 25)
  d_law : BD.Def K mg "law" (topS 26)
variable {P : Program} {w : World} {K : PySem.W.Frag} {mg : MG} {base : Heap}
/-! _law_cells -/
abbrev s__law_cells : Stmt := topS 17
abbrev n__law_cells : List Str := ["_law_script", "_law_most"]
theorem sc__law_cells : FnScope n__law_cells ["_law_script", "_law_most"] (defScope s__law_cells) := ⟨rfl, rfl, rfl, by decide +kernel, rfl, by decide +kernel, by decide +kernel⟩
def t__law_cells : SS := (sRet (eL (lRg1 (eBf maxB (pCons (kE (eC (.int 1))) (pCons (kE (eBf minB (pCons (kV 1) (pCons (kE (eBf lenB (pCons (kV 0) pNil))) pNil)))) pNil))))))
def m__law_cells : PFn := runP 2 2 t__law_cells
theorem r__law_cells (a0 : D) (a1 : D) : m__law_cells [a0, a1] = finP (t__law_cells ⟨[.dat a0, .dat a1], []⟩) := rfl
theorem f__law_cells {f : Addr} {fd : FuncData} (e : Fx K mg) (F : Fun K "_law_cells" "_law_cells" s__law_cells f fd) : FnG P w K mg base (L2.CX P w) 1 f fd ["_law_script", "_law_most"] (spP K mg 2 m__law_cells) :=
  fn_pure F sc__law_cells rfl rfl (fun cdv A outer s H E hr gu => (ds_one (ds_ret (de_l (dl_rg1 rfl (by rfl) e.z_list (by rfl) e.z_range (de_bf (bf_max rfl) (by rfl) e.z_max rfl (dp_cons (dk_e de_int) (dp_cons (dk_e (de_bf (bf_min rfl) (by rfl) e.z_min rfl (dp_cons (dk_v 1) (dp_cons (dk_e (de_bf bf_len (by rfl) e.z_len rfl (dp_cons (dk_v 0) dp_nil))) dp_nil)))) dp_nil))))))))
theorem b__law_cells {f : Addr} {fd : FuncData} (F : Fun K "_law_cells" "_law_cells" s__law_cells f fd) : Binds K fd ["_law_script", "_law_most"] [] := F.binds fun _ _ _ _ _ _ us hl => match us, hl with | [_, _], _ => rfl
theorem c__law_cells (e : Fx K mg) : Cal P w K mg base 1 "_law_cells" (spP K mg 2 m__law_cells) := by
  obtain ⟨f, fd, F, g⟩ := e.d__law_cells
  exact ⟨f, fd, ["_law_script", "_law_most"], f__law_cells e F, g, F.kp, b__law_cells F⟩
/-! _law_pot -/
abbrev s__law_pot : Stmt := topS 14
abbrev n__law_pot : List Str := ["_law_script", "_law_place", "_law_cell", "_law_own", "_law_small"]
theorem sc__law_pot : FnScope n__law_pot ["_law_script", "_law_place"] (defScope s__law_pot) := ⟨rfl, rfl, rfl, by decide +kernel, rfl, by decide +kernel, by decide +kernel⟩
def m__law_pot : LFn := runL 2 5 (sSeq (sSet (gV 2) (eIf (bCm ltD (kV 1) (kE (eBf lenB (pCons (kV 0) pNil)))) (eOp idxD (kV 0) (kV 1)) (eOp addD (kE (eOp mulD (kE (eC (.int 363))) (kV 1))) (kE (eC (.int 185)))))) (sSeq (sSet (gV 3) (eOp mulD (kE (eOp modD (kE (eBf intB (pCons (kE (eBf absB (pCons (kV 2) pNil))) pNil))) (kE (eOp powD (kE (eOp powD (kE (eC (.int 10))) (kE (eC (.int 60))))) (kE (eC (.int 5))))))) (kE (eBf intB (pCons (kE (eB (bCm geD (kE (eBf absB (pCons (kV 2) pNil))) (kE (eOp powD (kE (eC (.int 10))) (kE (eC (.int 18)))))))) pNil))))) (sSeq (sSet (gV 4) (eOp modD (kE (eBf intB (pCons (kV 2) pNil))) (kE (eC (.int 2305843009213693951))))) sSkip))) (lLst (aCons (eV 3) (aCons (eOp modD (kE (eBf intB (pCons (kE (eOp addD (kE (eOp addD (kE (eOp mulD (kV 4) (kE (eC (.int 75269))))) (kE (eOp mulD (kE (eOp mulD (kE (eC (.int 7879))) (kV 1))) (kV 1))))) (kE (eC (.int 263))))) pNil))) (kE (eC (.int 2305843009213693921)))) (aCons (eC (.int 0)) aNil))))
theorem f__law_pot {f : Addr} {fd : FuncData} (e : Fx K mg) (F : Fun K "_law_pot" "_law_pot" s__law_pot f fd) : FnG P w K mg base (L2.CX P w) 1 f fd ["_law_script", "_law_place"] (spL K 2 m__law_pot) :=
  fn_lst F sc__law_pot rfl rfl (fun cdv A outer s H E hr gu => (dsl_cons (W := Wd E) (ds_set 2 sc__law_pot.nd rfl (.inl rfl) (de_if (db_cm (cd_lt hr) (dk_v 1) (dk_e (de_bf bf_len (by rfl) e.z_len rfl (dp_cons (dk_v 0) dp_nil)))) (de_ix (dk_v 0) (dk_v 1)) (de_op od_add (dk_e (de_op od_mul (dk_e de_int) (dk_v 1))) (dk_e de_int)))) (dsl_cons (W := Wd E) (ds_set 3 sc__law_pot.nd rfl (.inl rfl) (de_op od_mul (dk_e (de_op od_mod (dk_e (de_ty bf_int (by rfl) e.z_int rfl (dp_cons (dk_e (de_bf bf_abs (by rfl) e.z_abs rfl (dp_cons (dk_v 2) dp_nil))) dp_nil))) (dk_e (de_op od_pow (dk_e (de_op od_pow (dk_e de_int) (dk_e de_int))) (dk_e de_int))))) (dk_e (de_ty bf_int (by rfl) e.z_int rfl (dp_cons (dk_e (de_b (dv_cm cd_ge (dk_e (de_bf bf_abs (by rfl) e.z_abs rfl (dp_cons (dk_v 2) dp_nil))) (dk_e (de_op od_pow (dk_e de_int) (dk_e de_int)))))) dp_nil))))) (dsl_cons (W := Wd E) (ds_set 4 sc__law_pot.nd rfl (.inl rfl) (de_op od_mod (dk_e (de_ty bf_int (by rfl) e.z_int rfl (dp_cons (dk_v 2) dp_nil))) (dk_e de_int))) (dsl_ret (W := Wd E) (dl_lst (da_cons (de_v 3) (da_cons (de_op od_mod (dk_e (de_ty bf_int (by rfl) e.z_int rfl (dp_cons (dk_e (de_op od_add (dk_e (de_op od_add (dk_e (de_op od_mul (dk_v 4) (dk_e de_int))) (dk_e (de_op od_mul (dk_e (de_op od_mul (dk_e de_int) (dk_v 1))) (dk_v 1))))) (dk_e de_int))) dp_nil))) (dk_e de_int)) (da_cons de_int da_nil)))))))))
theorem b__law_pot {f : Addr} {fd : FuncData} (F : Fun K "_law_pot" "_law_pot" s__law_pot f fd) : Binds K fd ["_law_script", "_law_place"] [] := F.binds fun _ _ _ _ _ _ us hl => match us, hl with | [_, _], _ => rfl
theorem c__law_pot (e : Fx K mg) : Cal P w K mg base 1 "_law_pot" (spL K 2 m__law_pot) := by
  obtain ⟨f, fd, F, g⟩ := e.d__law_pot
  exact ⟨f, fd, ["_law_script", "_law_place"], f__law_pot e F, g, F.kp, b__law_pot F⟩
/-! _law_take -/
abbrev s__law_take : Stmt := topS 15
abbrev n__law_take : List Str := ["_law_pot_here", "_law_upto", "_law_digit", "_law_prime", "_law_mixed"]
theorem sc__law_take : FnScope n__law_take ["_law_pot_here", "_law_upto"] (defScope s__law_take) := ⟨rfl, rfl, rfl, by decide +kernel, rfl, by decide +kernel, by decide +kernel⟩
def t__law_take : SS := (sSeq (sIf (bCm gtD (kE (ePotIx 0 (eC (.int 0)))) (kE (eC (.int 0)))) (sSeq (sSet (gV 2) (eOp modD (kE (eBf intB (pCons (kE (ePotIx 0 (eC (.int 0)))) pNil))) (kV 1))) (sSeq (sPotSet 0 0 (eOp fdivD (kE (ePotIx 0 (eC (.int 0)))) (kV 1))) (sRet (eV 2)))) sSkip) (sSeq (sPotSet 0 2 (eOp addD (kE (ePotIx 0 (eC (.int 2)))) (kE (eC (.int 1))))) (sSeq (sSet (gV 3) (eOp idxD (kE (eL (lLst (aCons (eC (.int 2147483647)) (aCons (eC (.int 2147483629)) (aCons (eC (.int 2147483587)) (aCons (eC (.int 2147483579)) (aCons (eC (.int 2147483563)) aNil)))))))) (kE (eOp modD (kE (eBf intB (pCons (kE (ePotIx 0 (eC (.int 2)))) pNil))) (kE (eC (.int 5))))))) (sSeq (sSet (gV 4) (eOp modD (kE (eBf intB (pCons (kE (eOp powD (kE (eBf intB (pCons (kE (eOp addD (kE (eOp addD (kE (ePotIx 0 (eC (.int 1)))) (kE (eOp mulD (kE (eOp mulD (kE (eC (.int 98653))) (kE (ePotIx 0 (eC (.int 2)))))) (kE (ePotIx 0 (eC (.int 2)))))))) (kE (eC (.int 167))))) pNil))) (kE (eC (.int 3))))) pNil))) (kV 3))) (sSeq (sSet (gV 4) (eOp modD (kE (eBf intB (pCons (kE (eOp mulD (kV 4) (kE (eOp addD (kE (eOp modD (kE (eBf intB (pCons (kV 4) pNil))) (kE (eC (.int 10385))))) (kE (eOp mulD (kE (eC (.int 203))) (kE (ePotIx 0 (eC (.int 2)))))))))) pNil))) (kE (eC (.int 2305843009213693907))))) (sRet (eOp modD (kE (eBf intB (pCons (kE (eOp fdivD (kV 4) (kE (eC (.int 153))))) pNil))) (kV 1))))))))
def m__law_take : QFn := runQ 1 4 t__law_take
theorem r__law_take (G : List Int) (a0 : D) : m__law_take G [a0] = finQ (t__law_take ⟨[.pot, .dat a0, .non, .non, .non], G⟩) := rfl
theorem f__law_take {f : Addr} {fd : FuncData} (e : Fx K mg) (F : Fun K "_law_take" "_law_take" s__law_take f fd) : FnG P w K mg base (L2.CX P w) 1 f fd ["_law_pot_here", "_law_upto"] (spQ K mg 1 m__law_take) :=
  fn_pot F sc__law_take rfl rfl (fun cdv A outer s H E hr gu => (ds_cons (ds_if (db_cm (cd_gt hr) (dk_e (de_potIx 0 de_int)) (dk_e de_int)) (ds_cons (ds_set 2 sc__law_take.nd rfl (.inl rfl) (de_op od_mod (dk_e (de_ty bf_int (by rfl) e.z_int rfl (dp_cons (dk_e (de_potIx 0 de_int)) dp_nil))) (dk_v 1))) (ds_cons (ds_potSet 0 (de_op od_fdiv (dk_e (de_potIx 0 de_int)) (dk_v 1))) (ds_one (ds_ret (de_v 2))))) ds_nil) (ds_cons (ds_potSet 0 (de_op od_add (dk_e (de_potIx 0 de_int)) (dk_e de_int))) (ds_cons (ds_set 3 sc__law_take.nd rfl (.inl rfl) (de_ix (dk_e (de_l (dl_lst (da_cons de_int (da_cons de_int (da_cons de_int (da_cons de_int (da_cons de_int da_nil)))))))) (dk_e (de_op od_mod (dk_e (de_ty bf_int (by rfl) e.z_int rfl (dp_cons (dk_e (de_potIx 0 de_int)) dp_nil))) (dk_e de_int))))) (ds_cons (ds_set 4 sc__law_take.nd rfl (.inl rfl) (de_op od_mod (dk_e (de_ty bf_int (by rfl) e.z_int rfl (dp_cons (dk_e (de_op od_pow (dk_e (de_ty bf_int (by rfl) e.z_int rfl (dp_cons (dk_e (de_op od_add (dk_e (de_op od_add (dk_e (de_potIx 0 de_int)) (dk_e (de_op od_mul (dk_e (de_op od_mul (dk_e de_int) (dk_e (de_potIx 0 de_int)))) (dk_e (de_potIx 0 de_int)))))) (dk_e de_int))) dp_nil))) (dk_e de_int))) dp_nil))) (dk_v 3))) (ds_cons (ds_set 4 sc__law_take.nd rfl (.inl rfl) (de_op od_mod (dk_e (de_ty bf_int (by rfl) e.z_int rfl (dp_cons (dk_e (de_op od_mul (dk_v 4) (dk_e (de_op od_add (dk_e (de_op od_mod (dk_e (de_ty bf_int (by rfl) e.z_int rfl (dp_cons (dk_v 4) dp_nil))) (dk_e de_int))) (dk_e (de_op od_mul (dk_e de_int) (dk_e (de_potIx 0 de_int)))))))) dp_nil))) (dk_e de_int))) (ds_one (ds_ret (de_op od_mod (dk_e (de_ty bf_int (by rfl) e.z_int rfl (dp_cons (dk_e (de_op od_fdiv (dk_v 4) (dk_e de_int))) dp_nil))) (dk_v 1))))))))))
theorem b__law_take {f : Addr} {fd : FuncData} (F : Fun K "_law_take" "_law_take" s__law_take f fd) : Binds K fd ["_law_pot_here", "_law_upto"] [] := F.binds fun _ _ _ _ _ _ us hl => match us, hl with | [_, _], _ => rfl
theorem c__law_take (e : Fx K mg) : Cal P w K mg base 1 "_law_take" (spQ K mg 1 m__law_take) := by
  obtain ⟨f, fd, F, g⟩ := e.d__law_take
  exact ⟨f, fd, ["_law_pot_here", "_law_upto"], f__law_take e F, g, F.kp, b__law_take F⟩
/-! _law_of -/
abbrev s__law_of : Stmt := topS 16
abbrev n__law_of : List Str := ["_law_pot_here", "_law_some"]
theorem sc__law_of : FnScope n__law_of ["_law_pot_here", "_law_some"] (defScope s__law_of) := ⟨rfl, rfl, rfl, by decide +kernel, rfl, by decide +kernel, by decide +kernel⟩
def t__law_of : SS := (sRet (eOp idxD (kV 1) (kE (eApq 0 1 m__law_take (aCons (eBf lenB (pCons (kV 1) pNil)) aNil)))))
def m__law_of : QFn := runQ 1 1 t__law_of
theorem r__law_of (G : List Int) (a0 : D) : m__law_of G [a0] = finQ (t__law_of ⟨[.pot, .dat a0], G⟩) := rfl
theorem f__law_of {f : Addr} {fd : FuncData} (e : Fx K mg) (F : Fun K "_law_of" "_law_of" s__law_of f fd) : FnG P w K mg base (L2.CX P w) 2 f fd ["_law_pot_here", "_law_some"] (spQ K mg 1 m__law_of) :=
  fn_pot F sc__law_of rfl rfl (fun cdv A outer s H E hr gu => (ds_one (ds_ret (de_ix (dk_v 1) (dk_e (de_apq 0 (c__law_take e) hr (by decide) gu (takes_of rfl rfl rfl rfl) (by rfl) (da_cons (de_bf bf_len (by rfl) e.z_len rfl (dp_cons (dk_v 1) dp_nil)) da_nil)))))))
theorem b__law_of {f : Addr} {fd : FuncData} (F : Fun K "_law_of" "_law_of" s__law_of f fd) : Binds K fd ["_law_pot_here", "_law_some"] [] := F.binds fun _ _ _ _ _ _ us hl => match us, hl with | [_, _], _ => rfl
theorem c__law_of (e : Fx K mg) : Cal P w K mg base 2 "_law_of" (spQ K mg 1 m__law_of) := by
  obtain ⟨f, fd, F, g⟩ := e.d__law_of
  exact ⟨f, fd, ["_law_pot_here", "_law_some"], f__law_of e F, g, F.kp, b__law_of F⟩
/-! _law_drawn_deal -/
abbrev s__law_drawn_deal : Stmt := topS 21
abbrev n__law_drawn_deal : List Str := ["_law_pot_here", "_law_most", "_law_p"]
theorem sc__law_drawn_deal : FnScope n__law_drawn_deal ["_law_pot_here", "_law_most"] (defScope s__law_drawn_deal) := ⟨rfl, rfl, rfl, by decide +kernel, rfl, by decide +kernel, by decide +kernel⟩
def t__law_drawn_deal : SS := (sSeq (sSet (gV 2) (eOp addD (kE (eC (.int 1))) (kE (eApq 0 1 m__law_take (aCons (eV 1) aNil))))) (sRet (eTup (aCons (eV 2) (aCons (eApq 0 1 m__law_take (aCons (eV 2) aNil)) (aCons (eOp addD (kE (eC (.int 1))) (kE (eApq 0 1 m__law_take (aCons (eV 1) aNil)))) aNil))))))
def m__law_drawn_deal : QFn := runQ 1 2 t__law_drawn_deal
theorem r__law_drawn_deal (G : List Int) (a0 : D) : m__law_drawn_deal G [a0] = finQ (t__law_drawn_deal ⟨[.pot, .dat a0, .non], G⟩) := rfl
theorem f__law_drawn_deal {f : Addr} {fd : FuncData} (e : Fx K mg) (F : Fun K "_law_drawn_deal" "_law_drawn_deal" s__law_drawn_deal f fd) : FnG P w K mg base (L2.CX P w) 2 f fd ["_law_pot_here", "_law_most"] (spQ K mg 1 m__law_drawn_deal) :=
  fn_pot F sc__law_drawn_deal rfl rfl (fun cdv A outer s H E hr gu => (ds_cons (ds_set 2 sc__law_drawn_deal.nd rfl (.inl rfl) (de_op od_add (dk_e de_int) (dk_e (de_apq 0 (c__law_take e) hr (by decide) gu (takes_of rfl rfl rfl rfl) (by rfl) (da_cons (de_v 1) da_nil))))) (ds_one (ds_ret (de_tup (da_cons (de_v 2) (da_cons (de_apq 0 (c__law_take e) hr (by decide) gu (takes_of rfl rfl rfl rfl) (by rfl) (da_cons (de_v 2) da_nil)) (da_cons (de_op od_add (dk_e de_int) (dk_e (de_apq 0 (c__law_take e) hr (by decide) gu (takes_of rfl rfl rfl rfl) (by rfl) (da_cons (de_v 1) da_nil)))) da_nil))))))))
theorem b__law_drawn_deal {f : Addr} {fd : FuncData} (F : Fun K "_law_drawn_deal" "_law_drawn_deal" s__law_drawn_deal f fd) : Binds K fd ["_law_pot_here", "_law_most"] [] := F.binds fun _ _ _ _ _ _ us hl => match us, hl with | [_, _], _ => rfl
theorem c__law_drawn_deal (e : Fx K mg) : Cal P w K mg base 2 "_law_drawn_deal" (spQ K mg 1 m__law_drawn_deal) := by
  obtain ⟨f, fd, F, g⟩ := e.d__law_drawn_deal
  exact ⟨f, fd, ["_law_pot_here", "_law_most"], f__law_drawn_deal e F, g, F.kp, b__law_drawn_deal F⟩
/-! _law_some_deal -/
abbrev s__law_some_deal : Stmt := topS 23
abbrev n__law_some_deal : List Str := ["_law_pot_here", "_law_most"]
theorem sc__law_some_deal : FnScope n__law_some_deal ["_law_pot_here"] (defScope s__law_some_deal) := ⟨rfl, rfl, rfl, by decide +kernel, rfl, by decide +kernel, by decide +kernel⟩
def t__law_some_deal : SS := (sSeq (sSet (gV 1) (eApq 0 1 m__law_of (aCons (eL (lLst (aCons (eC (.int 4)) (aCons (eC (.int 8)) (aCons (eC (.int 8)) (aCons (eC (.int 30)) (aCons (eOp powD (kE (eC (.int 10))) (kE (eC (.int 4)))) aNil))))))) aNil))) (sRet (eApq 0 1 m__law_drawn_deal (aCons (eV 1) aNil))))
def m__law_some_deal : QFn := runQ 0 1 t__law_some_deal
theorem r__law_some_deal (G : List Int) : m__law_some_deal G [] = finQ (t__law_some_deal ⟨[.pot, .non], G⟩) := rfl
theorem f__law_some_deal {f : Addr} {fd : FuncData} (e : Fx K mg) (F : Fun K "_law_some_deal" "_law_some_deal" s__law_some_deal f fd) : FnG P w K mg base (L2.CX P w) 3 f fd ["_law_pot_here"] (spQ K mg 0 m__law_some_deal) :=
  fn_pot F sc__law_some_deal rfl rfl (fun cdv A outer s H E hr gu => (ds_cons (ds_set 1 sc__law_some_deal.nd rfl (.inl rfl) (de_apq 0 (c__law_of e) hr (by decide) gu (takes_of rfl rfl rfl rfl) (by rfl) (da_cons (de_l (dl_lst (da_cons de_int (da_cons de_int (da_cons de_int (da_cons de_int (da_cons (de_op od_pow (dk_e de_int) (dk_e de_int)) da_nil))))))) da_nil))) (ds_one (ds_ret (de_apq 0 (c__law_drawn_deal e) hr (by decide) gu (takes_of rfl rfl rfl rfl) (by rfl) (da_cons (de_v 1) da_nil))))))
theorem b__law_some_deal {f : Addr} {fd : FuncData} (F : Fun K "_law_some_deal" "_law_some_deal" s__law_some_deal f fd) : Binds K fd ["_law_pot_here"] [] := F.binds fun _ _ _ _ _ _ us hl => match us, hl with | [_], _ => rfl
theorem c__law_some_deal (e : Fx K mg) : Cal P w K mg base 3 "_law_some_deal" (spQ K mg 0 m__law_some_deal) := by
  obtain ⟨f, fd, F, g⟩ := e.d__law_some_deal
  exact ⟨f, fd, ["_law_pot_here"], f__law_some_deal e F, g, F.kp, b__law_some_deal F⟩
/-! _law_far -/
abbrev s__law_far : Stmt := topS 22
abbrev n__law_far : List Str := ["_law_pot_here", "_law_size"]
theorem sc__law_far : FnScope n__law_far ["_law_pot_here"] (defScope s__law_far) := ⟨rfl, rfl, rfl, by decide +kernel, rfl, by decide +kernel, by decide +kernel⟩
def t__law_far : SS := (sSeq (sSet (gV 1) (eApq 0 1 m__law_of (aCons (eL (lLst (aCons (eC (.int 3)) (aCons (eC (.int 20)) (aCons (eC (.int 20)) (aCons (eOp powD (kE (eC (.int 10))) (kE (eC (.int 8)))) aNil)))))) aNil))) (sRet (eTup (aCons (eOp subD (kE (eApq 0 1 m__law_take (aCons (eOp addD (kE (eOp mulD (kE (eC (.int 2))) (kV 1))) (kE (eC (.int 1)))) aNil))) (kV 1)) (aCons (eOp subD (kE (eApq 0 1 m__law_take (aCons (eOp addD (kE (eOp mulD (kE (eC (.int 2))) (kV 1))) (kE (eC (.int 1)))) aNil))) (kV 1)) aNil)))))
def m__law_far : QFn := runQ 0 1 t__law_far
theorem r__law_far (G : List Int) : m__law_far G [] = finQ (t__law_far ⟨[.pot, .non], G⟩) := rfl
theorem f__law_far {f : Addr} {fd : FuncData} (e : Fx K mg) (F : Fun K "_law_far" "_law_far" s__law_far f fd) : FnG P w K mg base (L2.CX P w) 3 f fd ["_law_pot_here"] (spQ K mg 0 m__law_far) :=
  fn_pot F sc__law_far rfl rfl (fun cdv A outer s H E hr gu => (ds_cons (ds_set 1 sc__law_far.nd rfl (.inl rfl) (de_apq 0 (c__law_of e) hr (by decide) gu (takes_of rfl rfl rfl rfl) (by rfl) (da_cons (de_l (dl_lst (da_cons de_int (da_cons de_int (da_cons de_int (da_cons (de_op od_pow (dk_e de_int) (dk_e de_int)) da_nil)))))) da_nil))) (ds_one (ds_ret (de_tup (da_cons (de_op od_sub (dk_e (de_apq 0 (c__law_take e) hr (by decide) gu (takes_of rfl rfl rfl rfl) (by rfl) (da_cons (de_op od_add (dk_e (de_op od_mul (dk_e de_int) (dk_v 1))) (dk_e de_int)) da_nil))) (dk_v 1)) (da_cons (de_op od_sub (dk_e (de_apq 0 (c__law_take e) hr (by decide) gu (takes_of rfl rfl rfl rfl) (by rfl) (da_cons (de_op od_add (dk_e (de_op od_mul (dk_e de_int) (dk_v 1))) (dk_e de_int)) da_nil))) (dk_v 1)) da_nil)))))))
theorem b__law_far {f : Addr} {fd : FuncData} (F : Fun K "_law_far" "_law_far" s__law_far f fd) : Binds K fd ["_law_pot_here"] [] := F.binds fun _ _ _ _ _ _ us hl => match us, hl with | [_], _ => rfl
theorem c__law_far (e : Fx K mg) : Cal P w K mg base 3 "_law_far" (spQ K mg 0 m__law_far) := by
  obtain ⟨f, fd, F, g⟩ := e.d__law_far
  exact ⟨f, fd, ["_law_pot_here"], f__law_far e F, g, F.kp, b__law_far F⟩
/-! is_integer -/
abbrev s_is_integer : Stmt := topS 5
abbrev n_is_integer : List Str := ["value"]
theorem sc_is_integer : FnScope n_is_integer ["value"] (defScope s_is_integer) := ⟨rfl, rfl, rfl, by decide +kernel, rfl, by decide +kernel, by decide +kernel⟩
def t_is_integer : SS := (sRet (eB (bAnd (bIs .int (kV 0)) (bNot (bIs .bool (kV 0))))))
def m_is_integer : PFn := runP 1 1 t_is_integer
theorem r_is_integer (a0 : D) : m_is_integer [a0] = finP (t_is_integer ⟨[.dat a0], []⟩) := rfl
theorem f_is_integer {f : Addr} {fd : FuncData} (e : Fx K mg) (F : Fun K "is_integer" "is_integer" s_is_integer f fd) : FnG P w K mg base (L2.CX P w) 1 f fd ["value"] (spP K mg 1 m_is_integer) :=
  fn_pure F sc_is_integer rfl rfl (fun cdv A outer s H E hr gu => (ds_one (ds_ret (de_b (dv_and (dv_is .int (dk_v 0) (by rfl) e.z_isinstance rfl (by rfl) e.z_int rfl) (dv_one (dv_not (dv_is .bool (dk_v 0) (by rfl) e.z_isinstance rfl (by rfl) e.z_bool rfl))))))))
theorem b_is_integer {f : Addr} {fd : FuncData} (F : Fun K "is_integer" "is_integer" s_is_integer f fd) : Binds K fd ["value"] [] := F.binds fun _ _ _ _ _ _ us hl => match us, hl with | [_], _ => rfl
theorem c_is_integer (e : Fx K mg) : Cal P w K mg base 1 "is_integer" (spP K mg 1 m_is_integer) := by
  obtain ⟨f, fd, F, g⟩ := e.d_is_integer
  exact ⟨f, fd, ["value"], f_is_integer e F, g, F.kp, b_is_integer F⟩
/-! is_deal -/
abbrev s_is_deal : Stmt := topS 9
abbrev n_is_deal : List Str := ["value", "p", "q", "r", "one"]
theorem sc_is_deal : FnScope n_is_deal ["value"] (defScope s_is_deal) := ⟨rfl, rfl, rfl, by decide +kernel, rfl, by decide +kernel, by decide +kernel⟩
def t_is_deal : SS := (sSeq (sIf (bOr (bNot (bIs .tuple (kV 0))) (bOr (bCm neD (kE (eBf lenB (pCons (kV 0) pNil))) (kE (eC (.int 3)))) (bNot (bE (eBf allB (pCons (kE (eL (lComp (iSeq (kV 0)) (gV 4) bYes (eApp 1 m_is_integer (aCons (eV 4) aNil)) [4]))) pNil)))))) (sRet (eC (.bool false))) sSkip) (sSeq (sSet (gTup [(gV 1), (gV 2), (gV 3)]) (eV 0)) (sRet (eB (bAnd (bCm geD (kV 1) (kE (eC (.int 1)))) (bAnd (bCm geD (kV 3) (kE (eC (.int 1)))) (bCh leD ltD (kE (eC (.int 0))) (kV 2) (kV 1))))))))
def m_is_deal : PFn := runP 1 5 t_is_deal
theorem r_is_deal (a0 : D) : m_is_deal [a0] = finP (t_is_deal ⟨[.dat a0, .non, .non, .non, .non], []⟩) := rfl
theorem f_is_deal {f : Addr} {fd : FuncData} (e : Fx K mg) (F : Fun K "is_deal" "is_deal" s_is_deal f fd) : FnG P w K mg base (L2.CX P w) 2 f fd ["value"] (spP K mg 1 m_is_deal) :=
  fn_pure F sc_is_deal rfl rfl (fun cdv A outer s H E hr gu => (ds_cons (ds_if (db_w (dw_or (db_not (db_v (dv_is .tuple (dk_v 0) (by rfl) e.z_isinstance rfl (by rfl) e.z_tuple rfl))) (dw_or (db_cm (cd_ne hr) (dk_e (de_bf bf_len (by rfl) e.z_len rfl (dp_cons (dk_v 0) dp_nil))) (dk_e de_int)) (dw_or1 (db_not (db_e (de_bf (bf_all rfl) (by rfl) e.z_all rfl (dp_cons (dk_e (de_l (dl_comp rfl sc_is_deal.nd (own := [("one", 4)]) (di_seq (dk_v 0)) (blkOk_by (N := n_is_deal) (sc := defScope s_is_deal) (by decide +kernel)) (fun _ _ _ _ _ => (dg_v 4 sc_is_deal.nd rfl (by first | exact .inl rfl | exact .inr rfl))) (by decide) (fun _ _ _ _ _ => (ts_nil (W := W0))) (fun _ _ _ _ _ => (de_app (c_is_integer e) hr (by decide) gu takes0 (by rfl) (da_cons (de_v 4) da_nil)))))) dp_nil)))))))) (ds_one (ds_ret de_bl)) ds_nil) (ds_cons (ds_asg (de_v 0) (dg_tup rfl (dgs_cons (dg_v 1 sc_is_deal.nd rfl (by first | exact .inl rfl | exact .inr rfl)) (dgs_cons (dg_v 2 sc_is_deal.nd rfl (by first | exact .inl rfl | exact .inr rfl)) (dgs_cons (dg_v 3 sc_is_deal.nd rfl (by first | exact .inl rfl | exact .inr rfl)) dgs_nil))) rfl)) (ds_one (ds_ret (de_b (dv_and (dv_cm cd_ge (dk_v 1) (dk_e de_int)) (dv_and (dv_cm cd_ge (dk_v 3) (dk_e de_int)) (dv_one (dv_ch cd_le (cd_lt hr) (dk_e de_int) (dk_v 2) (dk_v 1)))))))))))
theorem b_is_deal {f : Addr} {fd : FuncData} (F : Fun K "is_deal" "is_deal" s_is_deal f fd) : Binds K fd ["value"] [] := F.binds fun _ _ _ _ _ _ us hl => match us, hl with | [_], _ => rfl
theorem c_is_deal (e : Fx K mg) : Cal P w K mg base 2 "is_deal" (spP K mg 1 m_is_deal) := by
  obtain ⟨f, fd, F, g⟩ := e.d_is_deal
  exact ⟨f, fd, ["value"], f_is_deal e F, g, F.kp, b_is_deal F⟩
/-! check_deal -/
abbrev s_check_deal : Stmt := topS 10
abbrev n_check_deal : List Str := ["value"]
theorem sc_check_deal : FnScope n_check_deal ["value"] (defScope s_check_deal) := ⟨rfl, rfl, rfl, by decide +kernel, rfl, by decide +kernel, by decide +kernel⟩
def t_check_deal : SS := (sIf (bNot (bE (eApp 1 m_is_deal (aCons (eV 0) aNil)))) sStuck sSkip)
def m_check_deal : PFn := runP 1 1 t_check_deal
theorem r_check_deal (a0 : D) : m_check_deal [a0] = finP (t_check_deal ⟨[.dat a0], []⟩) := rfl
theorem f_check_deal {f : Addr} {fd : FuncData} (e : Fx K mg) (F : Fun K "check_deal" "check_deal" s_check_deal f fd) : FnG P w K mg base (L2.CX P w) 3 f fd ["value"] (spP K mg 1 m_check_deal) :=
  fn_pure F sc_check_deal rfl rfl (fun cdv A outer s H E hr gu => (ds_one (ds_if (db_not (db_e (de_app (c_is_deal e) hr (by decide) gu (takes_of rfl rfl rfl rfl) (by rfl) (da_cons (de_v 0) da_nil)))) (ds_one ds_stuck) ds_nil)))
theorem b_check_deal {f : Addr} {fd : FuncData} (F : Fun K "check_deal" "check_deal" s_check_deal f fd) : Binds K fd ["value"] [] := F.binds fun _ _ _ _ _ _ us hl => match us, hl with | [_], _ => rfl
theorem c_check_deal (e : Fx K mg) : Cal P w K mg base 3 "check_deal" (spP K mg 1 m_check_deal) := by
  obtain ⟨f, fd, F, g⟩ := e.d_check_deal
  exact ⟨f, fd, ["value"], f_check_deal e F, g, F.kp, b_check_deal F⟩
/-! is_cell -/
abbrev s_is_cell : Stmt := topS 6
abbrev n_is_cell : List Str := ["value", "one"]
theorem sc_is_cell : FnScope n_is_cell ["value"] (defScope s_is_cell) := ⟨rfl, rfl, rfl, by decide +kernel, rfl, by decide +kernel, by decide +kernel⟩
def t_is_cell : SS := (sRet (eB (bAnd (bIs .tuple (kV 0)) (bAnd (bCm eqD (kE (eBf lenB (pCons (kV 0) pNil))) (kE (eC (.int 2)))) (bE (eBf allB (pCons (kE (eL (lComp (iSeq (kV 0)) (gV 1) bYes (eApp 1 m_is_integer (aCons (eV 1) aNil)) [1]))) pNil)))))))
def m_is_cell : PFn := runP 1 2 t_is_cell
theorem r_is_cell (a0 : D) : m_is_cell [a0] = finP (t_is_cell ⟨[.dat a0, .non], []⟩) := rfl
theorem f_is_cell {f : Addr} {fd : FuncData} (e : Fx K mg) (F : Fun K "is_cell" "is_cell" s_is_cell f fd) : FnG P w K mg base (L2.CX P w) 2 f fd ["value"] (spP K mg 1 m_is_cell) :=
  fn_pure F sc_is_cell rfl rfl (fun cdv A outer s H E hr gu => (ds_one (ds_ret (de_b (dv_and (dv_is .tuple (dk_v 0) (by rfl) e.z_isinstance rfl (by rfl) e.z_tuple rfl) (dv_and (dv_cm (cd_eq hr) (dk_e (de_bf bf_len (by rfl) e.z_len rfl (dp_cons (dk_v 0) dp_nil))) (dk_e de_int)) (dv_one (dv_e (de_bf (bf_all rfl) (by rfl) e.z_all rfl (dp_cons (dk_e (de_l (dl_comp rfl sc_is_cell.nd (own := [("one", 1)]) (di_seq (dk_v 0)) (blkOk_by (N := n_is_cell) (sc := defScope s_is_cell) (by decide +kernel)) (fun _ _ _ _ _ => (dg_v 1 sc_is_cell.nd rfl (by first | exact .inl rfl | exact .inr rfl))) (by decide) (fun _ _ _ _ _ => (ts_nil (W := W0))) (fun _ _ _ _ _ => (de_app (c_is_integer e) hr (by decide) gu takes0 (by rfl) (da_cons (de_v 1) da_nil)))))) dp_nil))))))))))
theorem b_is_cell {f : Addr} {fd : FuncData} (F : Fun K "is_cell" "is_cell" s_is_cell f fd) : Binds K fd ["value"] [] := F.binds fun _ _ _ _ _ _ us hl => match us, hl with | [_], _ => rfl
theorem c_is_cell (e : Fx K mg) : Cal P w K mg base 2 "is_cell" (spP K mg 1 m_is_cell) := by
  obtain ⟨f, fd, F, g⟩ := e.d_is_cell
  exact ⟨f, fd, ["value"], f_is_cell e F, g, F.kp, b_is_cell F⟩
/-! check_cell -/
abbrev s_check_cell : Stmt := topS 7
abbrev n_check_cell : List Str := ["value"]
theorem sc_check_cell : FnScope n_check_cell ["value"] (defScope s_check_cell) := ⟨rfl, rfl, rfl, by decide +kernel, rfl, by decide +kernel, by decide +kernel⟩
def t_check_cell : SS := (sIf (bNot (bE (eApp 1 m_is_cell (aCons (eV 0) aNil)))) sStuck sSkip)
def m_check_cell : PFn := runP 1 1 t_check_cell
theorem r_check_cell (a0 : D) : m_check_cell [a0] = finP (t_check_cell ⟨[.dat a0], []⟩) := rfl
theorem f_check_cell {f : Addr} {fd : FuncData} (e : Fx K mg) (F : Fun K "check_cell" "check_cell" s_check_cell f fd) : FnG P w K mg base (L2.CX P w) 3 f fd ["value"] (spP K mg 1 m_check_cell) :=
  fn_pure F sc_check_cell rfl rfl (fun cdv A outer s H E hr gu => (ds_one (ds_if (db_not (db_e (de_app (c_is_cell e) hr (by decide) gu (takes_of rfl rfl rfl rfl) (by rfl) (da_cons (de_v 0) da_nil)))) (ds_one ds_stuck) ds_nil)))
theorem b_check_cell {f : Addr} {fd : FuncData} (F : Fun K "check_cell" "check_cell" s_check_cell f fd) : Binds K fd ["value"] [] := F.binds fun _ _ _ _ _ _ us hl => match us, hl with | [_], _ => rfl
theorem c_check_cell (e : Fx K mg) : Cal P w K mg base 3 "check_cell" (spP K mg 1 m_check_cell) := by
  obtain ⟨f, fd, F, g⟩ := e.d_check_cell
  exact ⟨f, fd, ["value"], f_check_cell e F, g, F.kp, b_check_cell F⟩
/-! bank_of -/
abbrev s_bank_of : Stmt := topS 11
abbrev n_bank_of : List Str := ["deal", "cell", "p", "q", "r", "x", "y"]
theorem sc_bank_of : FnScope n_bank_of ["deal", "cell"] (defScope s_bank_of) := ⟨rfl, rfl, rfl, by decide +kernel, rfl, by decide +kernel, by decide +kernel⟩
def t_bank_of : SS := (sSeq (sSet (gTup [(gV 2), (gV 3), (gV 4)]) (eV 0)) (sSeq (sSet (gTup [(gV 5), (gV 6)]) (eV 1)) (sRet (eOp addD (kE (eOp modD (kE (eOp subD (kV 5) (kE (eOp mulD (kV 3) (kE (eOp fdivD (kV 6) (kV 4))))))) (kV 2))) (kE (eOp mulD (kV 2) (kE (eOp modD (kV 6) (kV 4)))))))))
def m_bank_of : PFn := runP 2 7 t_bank_of
theorem r_bank_of (a0 : D) (a1 : D) : m_bank_of [a0, a1] = finP (t_bank_of ⟨[.dat a0, .dat a1, .non, .non, .non, .non, .non], []⟩) := rfl
theorem f_bank_of {f : Addr} {fd : FuncData} (e : Fx K mg) (F : Fun K "bank_of" "bank_of" s_bank_of f fd) : FnG P w K mg base (L2.CX P w) 1 f fd ["deal", "cell"] (spP K mg 2 m_bank_of) :=
  fn_pure F sc_bank_of rfl rfl (fun cdv A outer s H E hr gu => (ds_cons (ds_asg (de_v 0) (dg_tup rfl (dgs_cons (dg_v 2 sc_bank_of.nd rfl (by first | exact .inl rfl | exact .inr rfl)) (dgs_cons (dg_v 3 sc_bank_of.nd rfl (by first | exact .inl rfl | exact .inr rfl)) (dgs_cons (dg_v 4 sc_bank_of.nd rfl (by first | exact .inl rfl | exact .inr rfl)) dgs_nil))) rfl)) (ds_cons (ds_asg (de_v 1) (dg_tup rfl (dgs_cons (dg_v 5 sc_bank_of.nd rfl (by first | exact .inl rfl | exact .inr rfl)) (dgs_cons (dg_v 6 sc_bank_of.nd rfl (by first | exact .inl rfl | exact .inr rfl)) dgs_nil)) rfl)) (ds_one (ds_ret (de_op od_add (dk_e (de_op od_mod (dk_e (de_op od_sub (dk_v 5) (dk_e (de_op od_mul (dk_v 3) (dk_e (de_op od_fdiv (dk_v 6) (dk_v 4))))))) (dk_v 2))) (dk_e (de_op od_mul (dk_v 2) (dk_e (de_op od_mod (dk_v 6) (dk_v 4)))))))))))
theorem b_bank_of {f : Addr} {fd : FuncData} (F : Fun K "bank_of" "bank_of" s_bank_of f fd) : Binds K fd ["deal", "cell"] [] := F.binds fun _ _ _ _ _ _ us hl => match us, hl with | [_, _], _ => rfl
theorem c_bank_of (e : Fx K mg) : Cal P w K mg base 1 "bank_of" (spP K mg 2 m_bank_of) := by
  obtain ⟨f, fd, F, g⟩ := e.d_bank_of
  exact ⟨f, fd, ["deal", "cell"], f_bank_of e F, g, F.kp, b_bank_of F⟩
/-! bank -/
abbrev s_bank : Stmt := topS 12
abbrev n_bank : List Str := ["deal", "cell"]
theorem sc_bank : FnScope n_bank ["deal", "cell"] (defScope s_bank) := ⟨rfl, rfl, rfl, by decide +kernel, rfl, by decide +kernel, by decide +kernel⟩
def t_bank : SS := (sSeq (sExp (eApp 1 m_check_deal (aCons (eV 0) aNil))) (sSeq (sExp (eApp 1 m_check_cell (aCons (eV 1) aNil))) (sRet (eApp 2 m_bank_of (aCons (eV 0) (aCons (eV 1) aNil))))))
def m_bank : PFn := runP 2 2 t_bank
theorem r_bank (a0 : D) (a1 : D) : m_bank [a0, a1] = finP (t_bank ⟨[.dat a0, .dat a1], []⟩) := rfl
theorem f_bank {f : Addr} {fd : FuncData} (e : Fx K mg) (F : Fun K "bank" "bank" s_bank f fd) : FnG P w K mg base (L2.CX P w) 4 f fd ["deal", "cell"] (spP K mg 2 m_bank) :=
  fn_pure F sc_bank rfl rfl (fun cdv A outer s H E hr gu => (ds_cons (ds_exp (de_app (c_check_deal e) hr (by decide) gu (takes_of rfl rfl rfl rfl) (by rfl) (da_cons (de_v 0) da_nil))) (ds_cons (ds_exp (de_app (c_check_cell e) hr (by decide) gu (takes_of rfl rfl rfl rfl) (by rfl) (da_cons (de_v 1) da_nil))) (ds_one (ds_ret (de_app (c_bank_of e) hr (by decide) gu (takes_of rfl rfl rfl rfl) (by rfl) (da_cons (de_v 0) (da_cons (de_v 1) da_nil))))))))
theorem b_bank {f : Addr} {fd : FuncData} (F : Fun K "bank" "bank" s_bank f fd) : Binds K fd ["deal", "cell"] [] := F.binds fun _ _ _ _ _ _ us hl => match us, hl with | [_, _], _ => rfl
theorem c_bank (e : Fx K mg) : Cal P w K mg base 4 "bank" (spP K mg 2 m_bank) := by
  obtain ⟨f, fd, F, g⟩ := e.d_bank
  exact ⟨f, fd, ["deal", "cell"], f_bank e F, g, F.kp, b_bank F⟩
/-! _law_moved -/
abbrev s__law_moved : Stmt := topS 18
abbrev n__law_moved : List Str := ["_law_cell", "_law_shift"]
theorem sc__law_moved : FnScope n__law_moved ["_law_cell", "_law_shift"] (defScope s__law_moved) := ⟨rfl, rfl, rfl, by decide +kernel, rfl, by decide +kernel, by decide +kernel⟩
def t__law_moved : SS := (sRet (eTup (aCons (eOp addD (kE (eOp idxD (kV 0) (kE (eC (.int 0))))) (kE (eOp idxD (kV 1) (kE (eC (.int 0)))))) (aCons (eOp addD (kE (eOp idxD (kV 0) (kE (eC (.int 1))))) (kE (eOp idxD (kV 1) (kE (eC (.int 1)))))) aNil))))
def m__law_moved : PFn := runP 2 2 t__law_moved
theorem r__law_moved (a0 : D) (a1 : D) : m__law_moved [a0, a1] = finP (t__law_moved ⟨[.dat a0, .dat a1], []⟩) := rfl
theorem f__law_moved {f : Addr} {fd : FuncData} (e : Fx K mg) (F : Fun K "_law_moved" "_law_moved" s__law_moved f fd) : FnG P w K mg base (L2.CX P w) 1 f fd ["_law_cell", "_law_shift"] (spP K mg 2 m__law_moved) :=
  fn_pure F sc__law_moved rfl rfl (fun cdv A outer s H E hr gu => (ds_one (ds_ret (de_tup (da_cons (de_op od_add (dk_e (de_ix (dk_v 0) (dk_e de_int))) (dk_e (de_ix (dk_v 1) (dk_e de_int)))) (da_cons (de_op od_add (dk_e (de_ix (dk_v 0) (dk_e de_int))) (dk_e (de_ix (dk_v 1) (dk_e de_int)))) da_nil))))))
theorem b__law_moved {f : Addr} {fd : FuncData} (F : Fun K "_law_moved" "_law_moved" s__law_moved f fd) : Binds K fd ["_law_cell", "_law_shift"] [] := F.binds fun _ _ _ _ _ _ us hl => match us, hl with | [_, _], _ => rfl
theorem c__law_moved (e : Fx K mg) : Cal P w K mg base 1 "_law_moved" (spP K mg 2 m__law_moved) := by
  obtain ⟨f, fd, F, g⟩ := e.d__law_moved
  exact ⟨f, fd, ["_law_cell", "_law_shift"], f__law_moved e F, g, F.kp, b__law_moved F⟩
/-! _law_is_sum -/
abbrev s__law_is_sum : Stmt := topS 24
abbrev n__law_is_sum : List Str := ["_law_deal", "_law_shift", "_law_p", "_law_q", "_law_r"]
theorem sc__law_is_sum : FnScope n__law_is_sum ["_law_deal", "_law_shift"] (defScope s__law_is_sum) := ⟨rfl, rfl, rfl, by decide +kernel, rfl, by decide +kernel, by decide +kernel⟩
def t__law_is_sum : SS := (sSeq (sSet (gTup [(gV 2), (gV 3), (gV 4)]) (eV 0)) (sSeq (sIf (bCm neD (kE (eOp modD (kE (eBf intB (pCons (kE (eOp idxD (kV 1) (kE (eC (.int 1))))) pNil))) (kV 4))) (kE (eC (.int 0)))) (sRet (eC (.bool false))) sSkip) (sRet (eB (bCm eqD (kE (eOp modD (kE (eBf intB (pCons (kE (eOp subD (kE (eOp idxD (kV 1) (kE (eC (.int 0))))) (kE (eOp mulD (kV 3) (kE (eOp fdivD (kE (eOp idxD (kV 1) (kE (eC (.int 1))))) (kV 4))))))) pNil))) (kV 2))) (kE (eC (.int 0))))))))
def m__law_is_sum : PFn := runP 2 5 t__law_is_sum
theorem r__law_is_sum (a0 : D) (a1 : D) : m__law_is_sum [a0, a1] = finP (t__law_is_sum ⟨[.dat a0, .dat a1, .non, .non, .non], []⟩) := rfl
theorem f__law_is_sum {f : Addr} {fd : FuncData} (e : Fx K mg) (F : Fun K "_law_is_sum" "_law_is_sum" s__law_is_sum f fd) : FnG P w K mg base (L2.CX P w) 1 f fd ["_law_deal", "_law_shift"] (spP K mg 2 m__law_is_sum) :=
  fn_pure F sc__law_is_sum rfl rfl (fun cdv A outer s H E hr gu => (ds_cons (ds_asg (de_v 0) (dg_tup rfl (dgs_cons (dg_v 2 sc__law_is_sum.nd rfl (by first | exact .inl rfl | exact .inr rfl)) (dgs_cons (dg_v 3 sc__law_is_sum.nd rfl (by first | exact .inl rfl | exact .inr rfl)) (dgs_cons (dg_v 4 sc__law_is_sum.nd rfl (by first | exact .inl rfl | exact .inr rfl)) dgs_nil))) rfl)) (ds_cons (ds_if (db_cm (cd_ne hr) (dk_e (de_op od_mod (dk_e (de_ty bf_int (by rfl) e.z_int rfl (dp_cons (dk_e (de_ix (dk_v 1) (dk_e de_int))) dp_nil))) (dk_v 4))) (dk_e de_int)) (ds_one (ds_ret de_bl)) ds_nil) (ds_one (ds_ret (de_b (dv_cm (cd_eq hr) (dk_e (de_op od_mod (dk_e (de_ty bf_int (by rfl) e.z_int rfl (dp_cons (dk_e (de_op od_sub (dk_e (de_ix (dk_v 1) (dk_e de_int))) (dk_e (de_op od_mul (dk_v 3) (dk_e (de_op od_fdiv (dk_e (de_ix (dk_v 1) (dk_e de_int))) (dk_v 4))))))) dp_nil))) (dk_v 2))) (dk_e de_int))))))))
theorem b__law_is_sum {f : Addr} {fd : FuncData} (F : Fun K "_law_is_sum" "_law_is_sum" s__law_is_sum f fd) : Binds K fd ["_law_deal", "_law_shift"] [] := F.binds fun _ _ _ _ _ _ us hl => match us, hl with | [_, _], _ => rfl
theorem c__law_is_sum (e : Fx K mg) : Cal P w K mg base 1 "_law_is_sum" (spP K mg 2 m__law_is_sum) := by
  obtain ⟨f, fd, F, g⟩ := e.d__law_is_sum
  exact ⟨f, fd, ["_law_deal", "_law_shift"], f__law_is_sum e F, g, F.kp, b__law_is_sum F⟩
/-! _law_bank -/
abbrev s__law_bank : Stmt := topS 20
abbrev n__law_bank : List Str := ["_law_deal", "_law_cell", "_law_p", "_law_q", "_law_r", "_law_times"]
theorem sc__law_bank : FnScope n__law_bank ["_law_deal", "_law_cell"] (defScope s__law_bank) := ⟨rfl, rfl, rfl, by decide +kernel, rfl, by decide +kernel, by decide +kernel⟩
def t__law_bank : SS := (sSeq (sSet (gTup [(gV 2), (gV 3), (gV 4)]) (eV 0)) (sSeq (sSet (gV 5) (eOp fdivD (kE (eOp idxD (kV 1) (kE (eC (.int 1))))) (kV 4))) (sRet (eOp addD (kE (eOp modD (kE (eBf intB (pCons (kE (eOp subD (kE (eOp idxD (kV 1) (kE (eC (.int 0))))) (kE (eOp mulD (kV 3) (kV 5))))) pNil))) (kV 2))) (kE (eOp mulD (kV 2) (kE (eBf intB (pCons (kE (eOp subD (kE (eOp idxD (kV 1) (kE (eC (.int 1))))) (kE (eOp mulD (kV 4) (kV 5))))) pNil)))))))))
def m__law_bank : PFn := runP 2 6 t__law_bank
theorem r__law_bank (a0 : D) (a1 : D) : m__law_bank [a0, a1] = finP (t__law_bank ⟨[.dat a0, .dat a1, .non, .non, .non, .non], []⟩) := rfl
theorem f__law_bank {f : Addr} {fd : FuncData} (e : Fx K mg) (F : Fun K "_law_bank" "_law_bank" s__law_bank f fd) : FnG P w K mg base (L2.CX P w) 1 f fd ["_law_deal", "_law_cell"] (spP K mg 2 m__law_bank) :=
  fn_pure F sc__law_bank rfl rfl (fun cdv A outer s H E hr gu => (ds_cons (ds_asg (de_v 0) (dg_tup rfl (dgs_cons (dg_v 2 sc__law_bank.nd rfl (by first | exact .inl rfl | exact .inr rfl)) (dgs_cons (dg_v 3 sc__law_bank.nd rfl (by first | exact .inl rfl | exact .inr rfl)) (dgs_cons (dg_v 4 sc__law_bank.nd rfl (by first | exact .inl rfl | exact .inr rfl)) dgs_nil))) rfl)) (ds_cons (ds_set 5 sc__law_bank.nd rfl (.inl rfl) (de_op od_fdiv (dk_e (de_ix (dk_v 1) (dk_e de_int))) (dk_v 4))) (ds_one (ds_ret (de_op od_add (dk_e (de_op od_mod (dk_e (de_ty bf_int (by rfl) e.z_int rfl (dp_cons (dk_e (de_op od_sub (dk_e (de_ix (dk_v 1) (dk_e de_int))) (dk_e (de_op od_mul (dk_v 3) (dk_v 5))))) dp_nil))) (dk_v 2))) (dk_e (de_op od_mul (dk_v 2) (dk_e (de_ty bf_int (by rfl) e.z_int rfl (dp_cons (dk_e (de_op od_sub (dk_e (de_ix (dk_v 1) (dk_e de_int))) (dk_e (de_op od_mul (dk_v 4) (dk_v 5))))) dp_nil)))))))))))
theorem b__law_bank {f : Addr} {fd : FuncData} (F : Fun K "_law_bank" "_law_bank" s__law_bank f fd) : Binds K fd ["_law_deal", "_law_cell"] [] := F.binds fun _ _ _ _ _ _ us hl => match us, hl with | [_, _], _ => rfl
theorem c__law_bank (e : Fx K mg) : Cal P w K mg base 1 "_law_bank" (spP K mg 2 m__law_bank) := by
  obtain ⟨f, fd, F, g⟩ := e.d__law_bank
  exact ⟨f, fd, ["_law_deal", "_law_cell"], f__law_bank e F, g, F.kp, b__law_bank F⟩
/-! _law_less -/
abbrev s__law_less : Stmt := topS 19
abbrev n__law_less : List Str := ["_law_cell", "_law_other"]
theorem sc__law_less : FnScope n__law_less ["_law_cell", "_law_other"] (defScope s__law_less) := ⟨rfl, rfl, rfl, by decide +kernel, rfl, by decide +kernel, by decide +kernel⟩
def t__law_less : SS := (sRet (eTup (aCons (eOp subD (kE (eOp idxD (kV 0) (kE (eC (.int 0))))) (kE (eOp idxD (kV 1) (kE (eC (.int 0)))))) (aCons (eOp subD (kE (eOp idxD (kV 0) (kE (eC (.int 1))))) (kE (eOp idxD (kV 1) (kE (eC (.int 1)))))) aNil))))
def m__law_less : PFn := runP 2 2 t__law_less
theorem r__law_less (a0 : D) (a1 : D) : m__law_less [a0, a1] = finP (t__law_less ⟨[.dat a0, .dat a1], []⟩) := rfl
theorem f__law_less {f : Addr} {fd : FuncData} (e : Fx K mg) (F : Fun K "_law_less" "_law_less" s__law_less f fd) : FnG P w K mg base (L2.CX P w) 1 f fd ["_law_cell", "_law_other"] (spP K mg 2 m__law_less) :=
  fn_pure F sc__law_less rfl rfl (fun cdv A outer s H E hr gu => (ds_one (ds_ret (de_tup (da_cons (de_op od_sub (dk_e (de_ix (dk_v 0) (dk_e de_int))) (dk_e (de_ix (dk_v 1) (dk_e de_int)))) (da_cons (de_op od_sub (dk_e (de_ix (dk_v 0) (dk_e de_int))) (dk_e (de_ix (dk_v 1) (dk_e de_int)))) da_nil))))))
theorem b__law_less {f : Addr} {fd : FuncData} (F : Fun K "_law_less" "_law_less" s__law_less f fd) : Binds K fd ["_law_cell", "_law_other"] [] := F.binds fun _ _ _ _ _ _ us hl => match us, hl with | [_, _], _ => rfl
theorem c__law_less (e : Fx K mg) : Cal P w K mg base 1 "_law_less" (spP K mg 2 m__law_less) := by
  obtain ⟨f, fd, F, g⟩ := e.d__law_less
  exact ⟨f, fd, ["_law_cell", "_law_other"], f__law_less e F, g, F.kp, b__law_less F⟩
/-! _law_right -/
abbrev s__law_right : Stmt := topS 25
abbrev n__law_right : List Str := ["_law_pot_here", "_law_deal", "_law_p", "_law_q", "_law_r", "_law_cells_here", "_law_lap", "_law_i", "_law_j", "_law_banks", "_law_cell", "_law_mine", "_law_other", "_law_its", "_law_box", "_law_y", "_law_one", "_law_x"]
theorem sc__law_right : FnScope n__law_right ["_law_pot_here"] (defScope s__law_right) := ⟨rfl, rfl, rfl, by decide +kernel, rfl, by decide +kernel, by decide +kernel⟩
def t__law_right : SS := (sSeq (sSet (gV 1) (eApq 0 0 m__law_some_deal aNil)) (sSeq (sSet (gTup [(gV 2), (gV 3), (gV 4)]) (eV 1)) (sSeq (sOwn 5 (lComp (iRg1 (eC (.int 8))) (gV 6) bYes (eApq 0 0 m__law_far aNil) [6])) (sSeq (sFor (iRg1 (eC (.int 4))) (gV 6) (sSeq (sPar [gV 7, gV 8] (aCons (eOp subD (kE (eApq 0 1 m__law_take (aCons (eC (.int 21)) aNil))) (kE (eC (.int 10)))) (aCons (eOp subD (kE (eApq 0 1 m__law_take (aCons (eC (.int 21)) aNil))) (kE (eC (.int 10)))) aNil))) (sExp (eApd 5 (eApp 2 m__law_moved (aCons (eApqB 0 1 m__law_of (pCons (kV 5) pNil)) (aCons (eTup (aCons (eOp addD (kE (eOp mulD (kV 7) (kV 2))) (kE (eOp mulD (kV 8) (kV 3)))) (aCons (eOp mulD (kV 8) (kV 4)) aNil))) aNil))))))) (sSeq (sSet (gV 9) (eL (lComp (iSeq (kV 5)) (gV 10) bYes (eApp 2 m_bank (aCons (eV 1) (aCons (eV 10) aNil))) [10]))) (sSeq (sIf (bOr (bCm neD (kE (eBf reprB (pCons (kV 9) pNil))) (kE (eBf reprB (pCons (kE (eL (lComp (iSeq (kV 5)) (gV 10) bYes (eApp 2 m__law_bank (aCons (eV 1) (aCons (eV 10) aNil))) [10]))) pNil)))) (bNot (bE (eBf allB (pCons (kE (eL (lComp (iSeq (kV 9)) (gV 16) bYes (eB (bCh leD ltD (kE (eC (.int 0))) (kV 16) (kE (eOp mulD (kV 2) (kV 4))))) [16]))) pNil))))) (sRet (eC (.bool false))) sSkip) (sSeq (sFor (iZip (kV 5) (kV 9)) (gTup [(gV 10), (gV 11)]) (sFor (iZip (kV 5) (kV 9)) (gTup [(gV 12), (gV 13)]) (sIf (bCm neD (kE (eB (bCm eqD (kV 11) (kV 13)))) (kE (eApp 2 m__law_is_sum (aCons (eV 1) (aCons (eApp 2 m__law_less (aCons (eV 12) (aCons (eV 10) aNil))) aNil))))) (sRet (eC (.bool false))) sSkip))) (sSeq (sIf (bCm gtD (kE (eOp mulD (kV 2) (kV 4))) (kE (eC (.int 64)))) (sRet (eB (bAnd (bCm eqD (kE (eApp 2 m_bank (aCons (eV 1) (aCons (eTup (aCons (eC (.int 0)) (aCons (eC (.int 0)) aNil))) aNil)))) (kE (eC (.int 0)))) (bAnd (bCm eqD (kE (eApp 2 m_bank (aCons (eV 1) (aCons (eTup (aCons (eOp subD (kV 2) (kE (eC (.int 1)))) (aCons (eOp subD (kV 4) (kE (eC (.int 1)))) aNil))) aNil)))) (kE (eOp subD (kE (eOp mulD (kV 2) (kV 4))) (kE (eC (.int 1)))))) (bCm eqD (kE (eApp 2 m_bank (aCons (eV 1) (aCons (eTup (aCons (eOp subD (kV 3) (kV 2)) (aCons (eV 4) aNil))) aNil)))) (kE (eC (.int 0)))))))) sSkip) (sSeq (sOwn 14 (lLst aNil)) (sSeq (sFor (iRg1 (eV 4)) (gV 15) (sExp (eExt 14 (kE (eL (lComp (iRg1 (eV 2)) (gV 17) bYes (eApp 2 m_bank (aCons (eV 1) (aCons (eTup (aCons (eV 17) (aCons (eV 15) aNil))) aNil))) [17])))))) (sRet (eB (bCm eqD (kV 14) (kE (eL (lRg1 (eOp mulD (kV 2) (kV 4))))))))))))))))))
def m__law_right : QFn := runQ 0 17 t__law_right
theorem r__law_right (G : List Int) : m__law_right G [] = finQ (t__law_right ⟨[.pot, .non, .non, .non, .non, .non, .non, .non, .non, .non, .non, .non, .non, .non, .non, .non, .non, .non], G⟩) := rfl
theorem f__law_right {f : Addr} {fd : FuncData} (e : Fx K mg) (F : Fun K "_law_right" "_law_right" s__law_right f fd) : FnG P w K mg base (L2.CX P w) 5 f fd ["_law_pot_here"] (spQ K mg 0 m__law_right) :=
  fn_pot F sc__law_right rfl rfl (fun cdv A outer s H E hr gu => (ds_cons (ds_set 1 sc__law_right.nd rfl (.inr rfl) (de_apq 0 (c__law_some_deal e) hr (by decide) gu (takes_of rfl rfl rfl rfl) (by rfl) da_nil)) (ds_cons (ds_asg (de_v 1) (dg_tup rfl (dgs_cons (dg_v 2 sc__law_right.nd rfl (by first | exact .inl rfl | exact .inr rfl)) (dgs_cons (dg_v 3 sc__law_right.nd rfl (by first | exact .inl rfl | exact .inr rfl)) (dgs_cons (dg_v 4 sc__law_right.nd rfl (by first | exact .inl rfl | exact .inr rfl)) dgs_nil))) rfl)) (ds_cons (ds_ownC (i := 5) rfl sc__law_right.nd rfl rfl (sw_true rfl rfl rfl (by decide +kernel)) (own := [("_law_lap", 6)]) (di_rg1 (by rfl) e.z_range de_int) (blkOk_by (N := n__law_right) (sc := defScope s__law_right) (by decide +kernel)) (fun _ _ _ _ _ => (dg_v 6 sc__law_right.nd rfl (by first | exact .inl rfl | exact .inr rfl))) (by decide) (fun _ _ _ _ _ => (ts_nil (W := W0))) (fun _ _ _ _ _ => (de_apq 0 (c__law_far e) hr (by decide) gu takes0 (by rfl) da_nil))) (ds_cons (ds_for (passes_of rfl) rfl (di_rg1 (by rfl) e.z_range de_int) (dg_v 6 sc__law_right.nd rfl (by first | exact .inl rfl | exact .inr rfl)) (ds_cons (ds_par (i := 7) (j := 8) rfl sc__law_right.nd rfl rfl (by decide) rfl rfl (da_cons (de_op od_sub (dk_e (de_apq 0 (c__law_take e) hr (by decide) gu (takes_of rfl rfl rfl rfl) (by rfl) (da_cons de_int da_nil))) (dk_e de_int)) (da_cons (de_op od_sub (dk_e (de_apq 0 (c__law_take e) hr (by decide) gu (takes_of rfl rfl rfl rfl) (by rfl) (da_cons de_int da_nil))) (dk_e de_int)) da_nil))) (ds_one (ds_exp (de_apd 5 (de_app (c__law_moved e) hr (by decide) gu (takes_of rfl rfl rfl rfl) (by rfl) (da_cons (de_apqB 0 (c__law_of e) hr (by decide) gu (takes_of rfl rfl rfl rfl) (by rfl) (dp_cons (dk_v 5) dp_nil)) (da_cons (de_tup (da_cons (de_op od_add (dk_e (de_op od_mul (dk_v 7) (dk_v 2))) (dk_e (de_op od_mul (dk_v 8) (dk_v 3)))) (da_cons (de_op od_mul (dk_v 8) (dk_v 4)) da_nil))) da_nil)))))))) (ds_cons (ds_setC (i := 9) rfl sc__law_right.nd rfl rfl (sw_true rfl rfl rfl (by decide +kernel)) (own := [("_law_cell", 10)]) (di_seq (dk_v 5)) (blkOk_by (N := n__law_right) (sc := defScope s__law_right) (by decide +kernel)) (fun _ _ _ _ _ => (dg_v 10 sc__law_right.nd rfl (by first | exact .inl rfl | exact .inr rfl))) (by decide) (fun _ _ _ _ _ => (ts_nil (W := W0))) (fun _ _ _ _ _ => (de_app (c_bank e) hr (by decide) gu takes0 (by rfl) (da_cons (de_v 1) (da_cons (de_v 10) da_nil))))) (ds_cons (ds_if (db_w (dw_or (db_cm (cd_ne hr) (dk_e (de_bf (bf_repr hr gu) (by rfl) e.z_repr rfl (dp_cons (dk_v 9) dp_nil))) (dk_e (de_bf (bf_repr hr gu) (by rfl) e.z_repr rfl (dp_cons (dk_e (de_l (dl_comp rfl sc__law_right.nd (own := [("_law_cell", 10)]) (di_seq (dk_v 5)) (blkOk_by (N := n__law_right) (sc := defScope s__law_right) (by decide +kernel)) (fun _ _ _ _ _ => (dg_v 10 sc__law_right.nd rfl (by first | exact .inl rfl | exact .inr rfl))) (by decide) (fun _ _ _ _ _ => (ts_nil (W := W0))) (fun _ _ _ _ _ => (de_app (c__law_bank e) hr (by decide) gu takes0 (by rfl) (da_cons (de_v 1) (da_cons (de_v 10) da_nil))))))) dp_nil)))) (dw_or1 (db_not (db_e (de_bf (bf_all rfl) (by rfl) e.z_all rfl (dp_cons (dk_e (de_l (dl_comp rfl sc__law_right.nd (own := [("_law_one", 16)]) (di_seq (dk_v 9)) (blkOk_by (N := n__law_right) (sc := defScope s__law_right) (by decide +kernel)) (fun _ _ _ _ _ => (dg_v 16 sc__law_right.nd rfl (by first | exact .inl rfl | exact .inr rfl))) (by decide) (fun _ _ _ _ _ => (ts_nil (W := W0))) (fun _ _ _ _ _ => (de_b (dv_ch cd_le (cd_lt hr) (dk_e de_int) (dk_v 16) (dk_e (de_op od_mul (dk_v 2) (dk_v 4))))))))) dp_nil))))))) (ds_one (ds_ret de_bl)) ds_nil) (ds_cons (ds_for (passes_of rfl) rfl (di_zip (by rfl) e.z_zip (dk_v 5) (dk_v 9)) (dg_tup rfl (dgs_cons (dg_v 10 sc__law_right.nd rfl (by first | exact .inl rfl | exact .inr rfl)) (dgs_cons (dg_v 11 sc__law_right.nd rfl (by first | exact .inl rfl | exact .inr rfl)) dgs_nil)) rfl) (ds_one (ds_for (passes_of rfl) rfl (di_zip (by rfl) e.z_zip (dk_v 5) (dk_v 9)) (dg_tup rfl (dgs_cons (dg_v 12 sc__law_right.nd rfl (by first | exact .inl rfl | exact .inr rfl)) (dgs_cons (dg_v 13 sc__law_right.nd rfl (by first | exact .inl rfl | exact .inr rfl)) dgs_nil)) rfl) (ds_one (ds_if (db_cm (cd_ne hr) (dk_e (de_b (dv_cm (cd_eq hr) (dk_v 11) (dk_v 13)))) (dk_e (de_app (c__law_is_sum e) hr (by decide) gu (takes_of rfl rfl rfl rfl) (by rfl) (da_cons (de_v 1) (da_cons (de_app (c__law_less e) hr (by decide) gu (takes_of rfl rfl rfl rfl) (by rfl) (da_cons (de_v 12) (da_cons (de_v 10) da_nil))) da_nil))))) (ds_one (ds_ret de_bl)) ds_nil))))) (ds_cons (ds_if (db_cm (cd_gt hr) (dk_e (de_op od_mul (dk_v 2) (dk_v 4))) (dk_e de_int)) (ds_one (ds_ret (de_b (dv_and (dv_cm (cd_eq hr) (dk_e (de_app (c_bank e) hr (by decide) gu (takes_of rfl rfl rfl rfl) (by rfl) (da_cons (de_v 1) (da_cons (de_tup (da_cons de_int (da_cons de_int da_nil))) da_nil)))) (dk_e de_int)) (dv_and (dv_cm (cd_eq hr) (dk_e (de_app (c_bank e) hr (by decide) gu (takes_of rfl rfl rfl rfl) (by rfl) (da_cons (de_v 1) (da_cons (de_tup (da_cons (de_op od_sub (dk_v 2) (dk_e de_int)) (da_cons (de_op od_sub (dk_v 4) (dk_e de_int)) da_nil))) da_nil)))) (dk_e (de_op od_sub (dk_e (de_op od_mul (dk_v 2) (dk_v 4))) (dk_e de_int)))) (dv_one (dv_cm (cd_eq hr) (dk_e (de_app (c_bank e) hr (by decide) gu (takes_of rfl rfl rfl rfl) (by rfl) (da_cons (de_v 1) (da_cons (de_tup (da_cons (de_op od_sub (dk_v 3) (dk_v 2)) (da_cons (de_v 4) da_nil))) da_nil)))) (dk_e de_int)))))))) ds_nil) (ds_cons (ds_own 14 sc__law_right.nd rfl (.inl rfl) (dl_lst da_nil)) (ds_cons (ds_for (passes_of rfl) rfl (di_rg1 (by rfl) e.z_range (de_v 4)) (dg_v 15 sc__law_right.nd rfl (by first | exact .inl rfl | exact .inr rfl)) (ds_one (ds_exp (de_ext 14 (dk_e (de_l (dl_comp rfl sc__law_right.nd (own := [("_law_x", 17)]) (di_rg1 (by rfl) e.z_range (de_v 2)) (blkOk_by (N := n__law_right) (sc := defScope s__law_right) (by decide +kernel)) (fun _ _ _ _ _ => (dg_v 17 sc__law_right.nd rfl (by first | exact .inl rfl | exact .inr rfl))) (by decide) (fun _ _ _ _ _ => (ts_nil (W := W0))) (fun _ _ _ _ _ => (de_app (c_bank e) hr (by decide) gu takes0 (by rfl) (da_cons (de_v 1) (da_cons (de_tup (da_cons (de_v 17) (da_cons (de_v 15) da_nil))) da_nil))))))))))) (ds_one (ds_ret (de_b (dv_cm (cd_eq hr) (dk_v 14) (dk_e (de_l (dl_rg1 rfl (by rfl) e.z_list (by rfl) e.z_range (de_op od_mul (dk_v 2) (dk_v 4))))))))))))))))))))
theorem b__law_right {f : Addr} {fd : FuncData} (F : Fun K "_law_right" "_law_right" s__law_right f fd) : Binds K fd ["_law_pot_here"] [] := F.binds fun _ _ _ _ _ _ us hl => match us, hl with | [_], _ => rfl
theorem c__law_right (e : Fx K mg) : Cal P w K mg base 5 "_law_right" (spQ K mg 0 m__law_right) := by
  obtain ⟨f, fd, F, g⟩ := e.d__law_right
  exact ⟨f, fd, ["_law_pot_here"], f__law_right e F, g, F.kp, b__law_right F⟩
/-! law -/
abbrev s_law : Stmt := topS 26
abbrev n_law : List Str := ["_law_script", "_law_place", "_law_pot_here", "_law_lap"]
theorem sc_law : FnScope n_law ["_law_script"] (defScope s_law) := ⟨rfl, rfl, rfl, by decide +kernel, rfl, by decide +kernel, by decide +kernel⟩
def t_law : SS := (sSeq (sFor (iSeq (kE (eApp 2 m__law_cells (aCons (eV 0) (aCons (eC (.int 5)) aNil))))) (gV 1) (sSeq (sOwn 2 (lApl 2 m__law_pot (aCons (eV 0) (aCons (eV 1) aNil)))) (sIf (bNot (bE (eBf allB (pCons (kE (eL (lComp (iRg1 (eC (.int 3))) (gV 3) bYes (eApo 2 0 m__law_right aNil) [3]))) pNil)))) (sRet (eC (.bool false))) sSkip))) (sRet (eC (.bool true))))
def m_law : PFn := runP 1 4 t_law
theorem r_law (a0 : D) : m_law [a0] = finP (t_law ⟨[.dat a0, .non, .non, .non], []⟩) := rfl
theorem f_law {f : Addr} {fd : FuncData} (e : Fx K mg) (F : Fun K "law" "law" s_law f fd) : FnG P w K mg base (L2.CX P w) 6 f fd ["_law_script"] (spP K mg 1 m_law) :=
  fn_pure F sc_law rfl rfl (fun cdv A outer s H E hr gu => (ds_cons (ds_for (passes_of rfl) rfl (di_seq (dk_e (de_app (c__law_cells e) hr (by decide) gu (takes_of rfl rfl rfl rfl) (by rfl) (da_cons (de_v 0) (da_cons de_int da_nil))))) (dg_v 1 sc_law.nd rfl (by first | exact .inl rfl | exact .inr rfl)) (ds_cons (ds_own 2 sc_law.nd rfl (.inr rfl) (dl_apl (c__law_pot e) hr (by decide) gu (takes_of rfl rfl rfl rfl) (by rfl) (da_cons (de_v 0) (da_cons (de_v 1) da_nil)))) (ds_one (ds_if (db_not (db_e (de_bf (bf_all rfl) (by rfl) e.z_all rfl (dp_cons (dk_e (de_l (dl_comp rfl sc_law.nd (own := [("_law_lap", 3)]) (di_rg1 (by rfl) e.z_range de_int) (blkOk_by (N := n_law) (sc := defScope s_law) (by decide +kernel)) (fun _ _ _ _ _ => (dg_v 3 sc_law.nd rfl (by first | exact .inl rfl | exact .inr rfl))) (by decide) (fun _ _ _ _ _ => (ts_nil (W := W0))) (fun _ _ _ _ _ => (de_apo 2 (c__law_right e) hr (by decide) gu takes0 (by rfl) da_nil))))) dp_nil)))) (ds_one (ds_ret de_bl)) ds_nil)))) (ds_one (ds_ret de_bl))))
theorem b_law {f : Addr} {fd : FuncData} (F : Fun K "law" "law" s_law f fd) : Binds K fd ["_law_script"] [] := F.binds fun _ _ _ _ _ _ us hl => match us, hl with | [_], _ => rfl
theorem c_law (e : Fx K mg) : Cal P w K mg base 6 "law" (spP K mg 1 m_law) := by
  obtain ⟨f, fd, F, g⟩ := e.d_law
  exact ⟨f, fd, ["_law_script"], f_law e F, g, F.kp, b_law F⟩
theorem all_end {h : Heap} {fa : Addr} (_ : K.In h) (e : Fx K mg) (hmg : mg "law" = some (.ref fa)) : ∃ fd : FuncData, (∀ (s : Shared) (u : Value), BindsTo s fd ⟨[u], []⟩ [("_law_script", u)]) ∧ ∀ base : Heap, K.In base → base.Ns mainGlobals mg → FnG P w K mg base (L2.CX P w) 6 fa fd ["_law_script"] (spP K mg 1 m_law) :=
  BD.law_end e.d_law hmg (fun _ _ _ _ _ _ us hl => match us, hl with | [_], _ => rfl) (fun fd F base => f_law e F)
end
end M
end BD

set_option Elab.async false
set_option linter.all false
set_option maxRecDepth 100000
set_option maxHeartbeats 4000000
namespace BD.M
open PySem BD
/-! ### the pot -/
def Gk (n : Nat) (G : List Int) : Prop := ∃ a b c : Int, G = [a, b, c] ∧ Bt 64 b ∧ 0 ≤ c ∧ c ≤ n
theorem Gk.mono {m n : Nat} {G : List Int} (h : Gk m G) (hm : m ≤ n) : Gk n G := let ⟨a, b, c, e, h1, h2, h3⟩ := h; ⟨a, b, c, e, h1, h2, by omega⟩
theorem bt_nat {n : Nat} {i : Int} (h0 : 0 ≤ i) (h : i < (2 ^ n : Nat)) : Bt n i := by
  unfold Bt
  omega
theorem take_spec {G : List Int} {n : Nat} {u : Int} (g : Gk n G) (hn : n < 2 ^ 64) (h1 : 1 ≤ u) (h2 : u < 2 ^ 64) : ∃ d G', m__law_take G [.int u] = .ok (.int d) G' ∧ 0 ≤ d ∧ d < u ∧ Gk (n + 1) G' := by
  obtain ⟨a, b, c, rfl, hb, hc, hcn⟩ := g
  have hu0 : u ≠ 0 := by omega
  have hu : divOk u := divOk_of (n := 64) (bt_nat (by omega) (by omega)) hu0 (by decide)
  by_cases ha : 0 < a
  · refine ⟨a.fmod u, [a.fdiv u, b, c], ?_, fmod_lo _ (by omega), fmod_hi _ (by omega), a.fdiv u, b, c, rfl, hb, hc, by omega⟩
    rw [r__law_take]
    simp [t__law_take, ha, modD, fdivD, hu, hu0]
  · have k0 := fmod_lo (c + 1) (b := 5) (by decide)
    have k1 := fmod_hi (c + 1) (b := 5) (by decide)
    obtain ⟨p, hp1, hp⟩ := atD_of (xs := [PyData.int 2147483647, PyData.int 2147483629, PyData.int 2147483587, PyData.int 2147483579, PyData.int 2147483563]) k0 (by simpa using k1)
    obtain ⟨q, rfl, q0, q1⟩ : ∃ q : Int, p = .int q ∧ 0 < q ∧ q ≤ 2 ^ 31 := by
      simp only [List.mem_cons, List.not_mem_nil, or_false] at hp1
      rcases hp1 with e | e | e | e | e
      · exact ⟨_, e, by decide, by decide⟩
      · exact ⟨_, e, by decide, by decide⟩
      · exact ⟨_, e, by decide, by decide⟩
      · exact ⟨_, e, by decide, by decide⟩
      · exact ⟨_, e, by decide, by decide⟩
    have bc : Bt 65 (c + 1) := bt_nat (by omega) (by omega)
    have bk : Bt 40 98653 := by unfold Bt; decide
    have m1 : mulOk 98653 (c + 1) := mulOk_of bk bc (by decide)
    have m2 : mulOk (98653 * (c + 1)) (c + 1) := mulOk_of (bk.mul bc) bc (by decide)
    have p3 : powOk (b + 98653 * (c + 1) * (c + 1) + 167) 3 := powOk_of ((hb.add ((bk.mul bc).mul bc)).add (show Bt 40 167 by unfold Bt; decide)) (by decide) (by decide)
    have hM : ∀ x : Int, Bt 31 (x.fmod q) := fun x => fmod_Bt q0 (by omega)
    have m4 : mulOk 203 (c + 1) := mulOk_of (show Bt 40 203 by unfold Bt; decide) bc (by decide)
    have m5 : mulOk ((pw (b + 98653 * (c + 1) * (c + 1) + 167) 3).fmod q) (((pw (b + 98653 * (c + 1) * (c + 1) + 167) 3).fmod q).fmod 10385 + 203 * (c + 1)) :=
      mulOk_of (hM _) ((fmod_Bt (n := 40) (by decide) (by decide)).add ((show Bt 40 203 by unfold Bt; decide).mul bc)) (by decide)
    have d1 : divOk 153 := divOk_of (n := 40) (by unfold Bt; decide) (by decide) (by decide)
    have q0' : q ≠ 0 := by omega
    have e : ∃ X : Int, m__law_take [a, b, c] [.int u] = .ok (.int (X.fmod u)) [a, b, c + 1] := by
      rw [r__law_take]
      simp [t__law_take, ha, modD, fdivD, mulD, powD, hu0, hp, m1, m2, p3, m4, m5, d1, q0']
      exact ⟨_, rfl⟩
    obtain ⟨X, e⟩ := e
    exact ⟨_, [a, b, c + 1], e, fmod_lo _ (by omega), fmod_hi _ (by omega), a, b, c + 1, rfl, hb, by omega, by omega⟩

/-! ### the defs ahead -/
theorem rngOk_of {i : Int} (h0 : -(2 ^ 60) ≤ i) (h : i < 2 ^ 60) : rngOk i := ⟨by omega, by omega⟩
theorem cells_spec (ns : List Int) (h : ns.length ≤ 63) : ∃ k : Nat, k ≤ 5 ∧ m__law_cells [scriptD ns, .int 5] = .ok (.list (upto 0 k)) := by
  have e : ∃ z : Int, 0 ≤ z ∧ z ≤ 5 ∧ (if (if (ns.length : Int) < 5 then (ns.length : Int) else 5) > 1 then (if (ns.length : Int) < 5 then (ns.length : Int) else 5) else 1) = z := by
    refine ⟨_, ?_, ?_, rfl⟩ <;> (repeat' split) <;> omega
  obtain ⟨z, h0, h1, e⟩ := e
  refine ⟨z.toNat, by omega, ?_⟩
  have r0 : rngOk 0 := rngOk_of (by decide) (by decide)
  have rz : rngOk z := rngOk_of (by omega) (by omega)
  rw [r__law_cells]
  simp [t__law_cells, e, rg2_int r0 rz, upto_len']
  have : z ≤ (szl : Int) := by unfold szl; omega
  simp [this]
theorem pot_spec (ns : List Int) (h : ns.length ≤ 63) (i : Int) (h0 : 0 ≤ i) (h1 : i < 10) : ∃ a b : Int, m__law_pot [scriptD ns, .int i] = some [.int a, .int b, .int 0] ∧ Bt 64 b := by
  have q1 : Bt 64 363 := by unfold Bt; decide
  have q2 : Bt 64 i := bt_nat h0 (by omega)
  have m1 : mulOk 363 i := mulOk_of q1 q2 (by decide)
  have p1 : powOk 10 60 := powOk_of (n := 4) (by unfold Bt; decide) (by decide) (by decide)
  have b60 : Bt 210 (pw 10 60) := by unfold Bt; decide +kernel
  have p2 : powOk (pw 10 60) 5 := powOk_of b60 (by decide) (by decide)
  have b5 : Bt 1100 (pw (pw 10 60) 5) := by unfold Bt; decide +kernel
  have z5 : 0 < pw (pw 10 60) 5 := by decide +kernel
  have z5' : pw (pw 10 60) 5 ≠ 0 := by omega
  have p3 : powOk 10 18 := powOk_of (n := 4) (by unfold Bt; decide) (by decide) (by decide)
  have m2 : mulOk 7879 i := mulOk_of (show Bt 64 7879 by unfold Bt; decide) q2 (by decide)
  have m3 : mulOk (7879 * i) i := mulOk_of ((show Bt 64 7879 by unfold Bt; decide).mul q2) q2 (by decide)
  have m4 : ∀ c : Int, mulOk (c.fmod 2305843009213693951) 75269 := fun c => mulOk_of (fmod_Bt (n := 64) (by decide) (by decide)) (show Bt 64 75269 by unfold Bt; decide) (by decide)
  have m5 : ∀ (c : Int) (k : Prop) [Decidable k], mulOk (c.fmod (pw (pw 10 60) 5)) (if k then 1 else 0) := fun c k _ => mulOk_of (fmod_Bt (n := 1100) z5 (Int.le_of_lt (by have := b5; unfold Bt at this; omega))) (show Bt 4 _ by split <;> (unfold Bt; decide)) (by decide)
  have e : ∃ a b : Int, m__law_pot [scriptD ns, .int i] = some [.int a, .int (b.fmod 2305843009213693921), .int 0] := by
    unfold m__law_pot runL
    simp only [start, List.length_cons, List.length_nil, List.map_cons, List.map_nil, if_true]
    by_cases hl : i < ns.length
    · obtain ⟨c, h2, h3⟩ := atD_of (xs := ns) h0 hl
      simp [List.replicate, hl, atD_map, h3, modD, mulD_int, powD_int, p1, p2, p3, m2, m3, m4, m5, z5']
      exact ⟨_, rfl⟩
    · simp [List.replicate, hl, modD, mulD_int, powD_int, m1, p1, p2, p3, m2, m3, m4, m5, z5']
      exact ⟨_, rfl⟩
  obtain ⟨a, b, e⟩ := e
  exact ⟨a, _, e, fmod_Bt (by decide) (by decide)⟩
theorem of_spec {G : List Int} {n : Nat} {xs : List D} (g : Gk n G) (hn : n < 2 ^ 64) (h0 : xs ≠ []) (hl : xs.length < 2 ^ 60) : ∃ d G', m__law_of G [.list xs] = .ok d G' ∧ d ∈ xs ∧ Gk (n + 1) G' := by
  have hp : 0 < xs.length := List.length_pos_iff.mpr h0
  obtain ⟨i, G', e1, i0, i1, g'⟩ := take_spec (u := xs.length) g hn (by omega) (by omega)
  obtain ⟨d, d1, d2⟩ := atD_of i0 i1
  refine ⟨d, G', ?_, d1, g'⟩
  rw [r__law_of]
  simp [t__law_of, e1, d2]

theorem drawn_spec {G : List Int} {n : Nat} {u : Int} (g : Gk n G) (hn : n < 2 ^ 60) (h1 : 1 ≤ u) (h2 : u < 2 ^ 60) : ∃ p q r G', m__law_drawn_deal G [.int u] = .ok (.tuple [.int p, .int q, .int r]) G' ∧ 1 ≤ p ∧ p ≤ u ∧ 0 ≤ q ∧ q < p ∧ 1 ≤ r ∧ r ≤ u ∧ Gk (n + 3) G' := by
  obtain ⟨p, G1, e1, a1, b1, g1⟩ := take_spec (u := u) g (by omega) (by omega) (by omega)
  obtain ⟨q, G2, e2, a2, b2, g2⟩ := take_spec (u := 1 + p) g1 (by omega) (by omega) (by omega)
  obtain ⟨r, G3, e3, a3, b3, g3⟩ := take_spec (u := u) g2 (by omega) (by omega) (by omega)
  refine ⟨1 + p, q, 1 + r, G3, ?_, by omega, by omega, a2, b2, by omega, by omega, g3⟩
  rw [r__law_drawn_deal]
  simp [t__law_drawn_deal, e1, e2, e3]
theorem some_deal_spec {G : List Int} {n : Nat} (g : Gk n G) (hn : n < 2 ^ 50) : ∃ p q r G', m__law_some_deal G [] = .ok (.tuple [.int p, .int q, .int r]) G' ∧ 1 ≤ p ∧ p ≤ 10000 ∧ 0 ≤ q ∧ q < p ∧ 1 ≤ r ∧ r ≤ 10000 ∧ Gk (n + 4) G' := by
  obtain ⟨d, G1, e1, hd, g1⟩ := of_spec (xs := [.int 4, .int 8, .int 8, .int 30, .int (pw 10 4)]) g (by omega) (by simp) (by simp)
  obtain ⟨u, rfl, u1, u2⟩ : ∃ u : Int, d = .int u ∧ 1 ≤ u ∧ u ≤ 10000 := by
    have z : pw 10 4 = 10000 := by decide
    rw [z] at hd
    simp only [List.mem_cons, List.not_mem_nil, or_false] at hd
    rcases hd with e | e | e | e | e <;> exact ⟨_, e, by decide, by decide⟩
  obtain ⟨p, q, r, G2, e2, a1, a2, a3, a4, a5, a6, g2⟩ := drawn_spec (u := u) g1 (by omega) (by omega) (by omega)
  have p1 : powOk 10 4 := powOk_of (n := 4) (by unfold Bt; decide) (by decide) (by decide)
  refine ⟨p, q, r, G2, ?_, a1, by omega, a3, a4, a5, by omega, g2⟩
  rw [r__law_some_deal]
  simp [t__law_some_deal, powD_int p1, e1, e2]
theorem far_spec {G : List Int} {n : Nat} (g : Gk n G) (hn : n < 2 ^ 50) : ∃ x y G', m__law_far G [] = .ok (.tuple [.int x, .int y]) G' ∧ -(10 ^ 8) ≤ x ∧ x ≤ 10 ^ 8 ∧ -(10 ^ 8) ≤ y ∧ y ≤ 10 ^ 8 ∧ Gk (n + 3) G' := by
  obtain ⟨d, G1, e1, hd, g1⟩ := of_spec (xs := [.int 3, .int 20, .int 20, .int (pw 10 8)]) g (by omega) (by simp) (by simp)
  obtain ⟨u, rfl, u1, u2⟩ : ∃ u : Int, d = .int u ∧ 1 ≤ u ∧ u ≤ 100000000 := by
    have z : pw 10 8 = 100000000 := by decide
    rw [z] at hd
    simp only [List.mem_cons, List.not_mem_nil, or_false] at hd
    rcases hd with e | e | e | e <;> exact ⟨_, e, by decide, by decide⟩
  have p1 : powOk 10 8 := powOk_of (n := 4) (by unfold Bt; decide) (by decide) (by decide)
  have m1 : mulOk 2 u := mulOk_of (show Bt 4 2 by unfold Bt; decide) (bt_nat (n := 40) (by omega) (by omega)) (by decide)
  obtain ⟨x, G2, e2, a1, a2, g2⟩ := take_spec (u := 2 * u + 1) g1 (by omega) (by omega) (by omega)
  obtain ⟨y, G3, e3, a3, a4, g3⟩ := take_spec (u := 2 * u + 1) g2 (by omega) (by omega) (by omega)
  refine ⟨x - u, y - u, G3, ?_, by omega, by omega, by omega, by omega, g3⟩
  rw [r__law_far]
  simp [t__law_far, powD_int p1, e1, mulD_int m1, e2, e3]
/-! ### the bank of a cell -/
def bk (p q r x y : Int) : Int := (x - q * y.fdiv r).fmod p + p * y.fmod r
structure Dl (p q r : Int) : Prop where
  p1 : 1 ≤ p
  p2 : p ≤ 10000
  q1 : 0 ≤ q
  q2 : q < p
  r1 : 1 ≤ r
  r2 : r ≤ 10000
def Cl (x y : Int) : Prop := Bt 60 x ∧ Bt 60 y
theorem fdiv_Bt {n : Nat} {y r : Int} (h : Bt n y) (hr : 1 ≤ r) : Bt (n + 1) (y.fdiv r) := by
  have e := Int.fmod_def y r
  have l := fmod_lo y (b := r) (by omega)
  have u := fmod_hi y (b := r) (by omega)
  unfold Bt at *
  rw [Nat.pow_succ]
  generalize hz : y.fdiv r = z at *
  rcases Int.le_total 0 z with h0 | h0
  · have : 1 * z ≤ r * z := Int.mul_le_mul_of_nonneg_right hr h0
    omega
  · by_cases h1 : z + 1 ≤ 0
    · have : r * (z + 1) ≤ 1 * (z + 1) := Int.mul_le_mul_of_nonpos_right hr h1
      rw [Int.mul_add, Int.mul_one] at this
      omega
    · omega
section
variable {p q r x y : Int}
theorem Dl.ok (d : Dl p q r) (c : Cl x y) : p ≠ 0 ∧ r ≠ 0 ∧ divOk r ∧ mulOk q (y.fdiv r) ∧ mulOk p (y.fmod r) ∧ mulOk r (y.fdiv r) ∧ mulOk p (y - r * y.fdiv r) ∧ mulOk p r := by
  obtain ⟨p1, p2, q1, q2, r1, r2⟩ := d
  have bp : Bt 20 p := bt_nat (by omega) (by omega)
  have bq : Bt 20 q := bt_nat (by omega) (by omega)
  have br : Bt 20 r := bt_nat (by omega) (by omega)
  have bf := fdiv_Bt c.2 r1
  have bm : Bt 20 (y.fmod r) := fmod_Bt (by omega) (by omega)
  exact ⟨by omega, by omega, divOk_of br (by omega) (by decide), mulOk_of bq bf (by decide), mulOk_of bp bm (by decide), mulOk_of br bf (by decide), mulOk_of bp (c.2.sub (br.mul bf)) (by decide), mulOk_of bp br (by decide)⟩
theorem bank_of_spec (d : Dl p q r) (c : Cl x y) : m_bank_of [.tuple [.int p, .int q, .int r], .tuple [.int x, .int y]] = .ok (.int (bk p q r x y)) := by
  obtain ⟨h1, h2, h3, h4, h5, h6, h7, h8⟩ := d.ok c
  rw [r_bank_of]
  simp [t_bank_of, modD, fdivD, mulD_int, h1, h2, h3, h4, h5, bk]
theorem is_integer_spec (i : Int) : m_is_integer [.int i] = .ok (.bool true) := by
  rw [r_is_integer]
  simp [t_is_integer, isTb]
theorem is_deal_spec (d : Dl p q r) : m_is_deal [.tuple [.int p, .int q, .int r]] = .ok (.bool true) := by
  obtain ⟨p1, p2, q1, q2, r1, r2⟩ := d
  rw [r_is_deal]
  simp [t_is_deal, isTb, compL_cons, is_integer_spec, szl, boolsD, p1, r1, q1, q2]
theorem check_deal_spec (d : Dl p q r) : m_check_deal [.tuple [.int p, .int q, .int r]] = .ok .none := by
  rw [r_check_deal]
  simp [t_check_deal, is_deal_spec d]
theorem is_cell_spec (x y : Int) : m_is_cell [.tuple [.int x, .int y]] = .ok (.bool true) := by
  rw [r_is_cell]
  simp [t_is_cell, isTb, compL_cons, is_integer_spec, szl, boolsD]
theorem check_cell_spec (x y : Int) : m_check_cell [.tuple [.int x, .int y]] = .ok .none := by
  rw [r_check_cell]
  simp [t_check_cell, is_cell_spec]
theorem bank_spec (d : Dl p q r) (c : Cl x y) : m_bank [.tuple [.int p, .int q, .int r], .tuple [.int x, .int y]] = .ok (.int (bk p q r x y)) := by
  rw [r_bank]
  simp [t_bank, check_deal_spec d, check_cell_spec, bank_of_spec d c]
theorem law_bank_spec (d : Dl p q r) (c : Cl x y) : m__law_bank [.tuple [.int p, .int q, .int r], .tuple [.int x, .int y]] = .ok (.int (bk p q r x y)) := by
  obtain ⟨h1, h2, h3, h4, h5, h6, h7, h8⟩ := d.ok c
  have e := Int.fmod_def y r
  rw [r__law_bank]
  simp [t__law_bank, modD, fdivD, mulD_int, h1, h2, h3, h4, h6, h7, bk, e]
theorem moved_spec (x y a b : Int) : m__law_moved [.tuple [.int x, .int y], .tuple [.int a, .int b]] = .ok (.tuple [.int (x + a), .int (y + b)]) := by
  rw [r__law_moved]
  simp [t__law_moved]
theorem less_spec (x y a b : Int) : m__law_less [.tuple [.int x, .int y], .tuple [.int a, .int b]] = .ok (.tuple [.int (x - a), .int (y - b)]) := by
  rw [r__law_less]
  simp [t__law_less]
def isum (p q r x y : Int) : Bool := decide (y.fmod r = 0) && decide ((x - q * y.fdiv r).fmod p = 0)
theorem is_sum_spec (d : Dl p q r) (c : Cl x y) : m__law_is_sum [.tuple [.int p, .int q, .int r], .tuple [.int x, .int y]] = .ok (.bool (isum p q r x y)) := by
  obtain ⟨h1, h2, h3, h4, h5, h6, h7, h8⟩ := d.ok c
  rw [r__law_is_sum]
  by_cases h : y.fmod r = 0
  · simp [t__law_is_sum, modD, fdivD, mulD_int, h1, h2, h3, h4, h, isum, eq_int, ne_int]
  · simp [t__law_is_sum, modD, fdivD, mulD_int, h1, h2, h3, h4, h, isum, eq_int, ne_int]
end
/-! ### the mathematics -/
theorem bk_lo (p q r x y : Int) (hp : 1 ≤ p) (hr : 1 ≤ r) : 0 ≤ bk p q r x y := by
  have h1 := fmod_lo (x - q * y.fdiv r) (b := p) (by omega)
  have h2 := fmod_lo y (b := r) (by omega)
  have := Int.mul_nonneg (show 0 ≤ p by omega) h2
  unfold bk
  omega
theorem bk_hi (p q r x y : Int) (hp : 1 ≤ p) (hr : 1 ≤ r) : bk p q r x y < p * r := by
  have h1 := fmod_hi (x - q * y.fdiv r) (b := p) (by omega)
  have h2 := fmod_hi y (b := r) (by omega)
  have h3 : p * y.fmod r ≤ p * (r - 1) := Int.mul_le_mul_of_nonneg_left (by omega) (by omega)
  rw [Int.mul_sub, Int.mul_one] at h3
  unfold bk
  omega
/-- equal banks: the shift between is a sum of the deal's -/
theorem bk_eq (p q r x y a b : Int) (hp : 1 ≤ p) (hr : 1 ≤ r) : decide (bk p q r x y = bk p q r a b) = isum p q r (a - x) (b - y) := by
  unfold isum
  rw [← Bool.decide_and]
  refine decide_eq_decide.mpr ?_
  unfold bk
  simp only [Int.fmod_eq_emod_of_nonneg _ (show 0 ≤ p by omega), Int.fmod_eq_emod_of_nonneg _ (show 0 ≤ r by omega), Int.fdiv_eq_ediv_of_nonneg _ (show 0 ≤ r by omega)]
  have ey := Int.mul_ediv_add_emod y r
  have eb := Int.mul_ediv_add_emod b r
  have sub : y % r = b % r → (b - y) / r = b / r - y / r := fun h => by
    have : b - y = r * (b / r - y / r) := by rw [Int.mul_sub]; omega
    rw [this, Int.mul_ediv_cancel_left _ (by omega)]
  have arr : a - x - q * (b / r - y / r) = (a - q * (b / r)) - (x - q * (y / r)) := by rw [Int.mul_sub]; omega
  constructor
  · intro h
    have hu : (x - q * (y / r)) % p = (a - q * (b / r)) % p := by
      have := congrArg (· % p) h
      simp only [Int.add_mul_emod_self_left, Int.emod_emod] at this
      exact this
    have hv : y % r = b % r := by
      rw [hu] at h
      exact Int.eq_of_mul_eq_mul_left (show p ≠ 0 by omega) (by omega)
    refine ⟨(Int.emod_eq_emod_iff_emod_sub_eq_zero).mp hv.symm, ?_⟩
    rw [sub hv, arr]
    exact (Int.emod_eq_emod_iff_emod_sub_eq_zero).mp hu.symm
  · rintro ⟨h1, h2⟩
    have hv : y % r = b % r := ((Int.emod_eq_emod_iff_emod_sub_eq_zero).mpr h1).symm
    rw [sub hv, arr] at h2
    rw [(Int.emod_eq_emod_iff_emod_sub_eq_zero).mpr h2, hv]
end BD.M

set_option Elab.async false
set_option linter.all false
set_option maxRecDepth 100000
set_option maxHeartbeats 4000000
namespace BD.M
open PySem BD
def cD (c : Int × Int) : D := .tuple [.int c.1, .int c.2]
def Near (m : Int) (c : Int × Int) : Prop := -m ≤ c.1 ∧ c.1 ≤ m ∧ -m ≤ c.2 ∧ c.2 ≤ m
theorem rg0 {j : Int} (h0 : -(2 ^ 60) ≤ j) (h : j < 2 ^ 60) : rg2 (.int 0) (.int j) = some (upto 0 j.toNat) := by
  rw [rg2_int (rngOk_of (by decide) (by decide)) (rngOk_of h0 h)]
  congr 2
  omega
/-- the far cells -/
theorem fars (L : List Loc) (hL : L = [.pot, a1, a2, a3, a4, a5, .non, a7, a8, a9, a10, a11, a12, a13, a14, a15, a16, a17]) (N : Nat) (hN : N < 2 ^ 40) : ∀ (k : Nat) (lo : Int) (acc : List (Int × Int)) (G : List Int), k ≤ 8 → Gk (N + 3 * (8 - k)) G → (∀ c ∈ acc, Near (10 ^ 8) c) → acc.length + k ≤ 8 →
    ∃ (cs : List (Int × Int)) (G' : List Int), compL (gV 6) bYes (eApq 0 0 m__law_far aNil) [6] (upto lo k) (acc.map cD) ⟨L, G⟩ = .ok (cs.map cD) ⟨L, G'⟩ ∧ (∀ c ∈ cs, Near (10 ^ 8) c) ∧ cs.length = acc.length + k ∧ Gk (N + 24) G'
  | 0, lo, acc, G, _, g, ha, _ => ⟨acc, G, by simp, ha, rfl, g.mono (by omega)⟩
  | k + 1, lo, acc, G, hk, g, ha, hl => by
    subst hL
    obtain ⟨x, y, G1, e1, b1, b2, b3, b4, g1⟩ := far_spec g (by omega)
    obtain ⟨cs, G2, e2, h1, h2, h3⟩ := fars _ rfl N hN k (lo + 1) (acc ++ [(x, y)]) G1 (by omega) (g1.mono (by omega)) (fun c hc => by
      rcases List.mem_append.mp hc with hc | hc
      · exact ha c hc
      · have : c = (x, y) := by simpa using hc
        subst this
        exact ⟨b1, b2, b3, b4⟩) (by simp; omega)
    refine ⟨cs, G2, ?_, h1, by rw [h2]; simp; omega, h3⟩
    rw [upto_succ, compL_cons]
    have hs : acc.length < szl := by unfold szl; omega
    simp [e1, hs]
    simpa [cD] using e2

theorem of_cells {G : List Int} {n : Nat} {cs : List (Int × Int)} (g : Gk n G) (hn : n < 2 ^ 60) (h0 : cs ≠ []) (hl : cs.length < 2 ^ 60) : ∃ c G', m__law_of G [.list (cs.map cD)] = .ok (cD c) G' ∧ c ∈ cs ∧ Gk (n + 1) G' := by
  obtain ⟨d, G', e, hd, g'⟩ := of_spec (xs := cs.map cD) g (by omega) (by simpa using h0) (by simpa using hl)
  obtain ⟨c, hc, rfl⟩ := List.mem_map.mp hd
  exact ⟨c, G', e, hc, g'⟩
noncomputable abbrev lapB : SS := (sSeq (sPar [gV 7, gV 8] (aCons (eOp subD (kE (eApq 0 1 m__law_take (aCons (eC (.int 21)) aNil))) (kE (eC (.int 10)))) (aCons (eOp subD (kE (eApq 0 1 m__law_take (aCons (eC (.int 21)) aNil))) (kE (eC (.int 10)))) aNil))) (sExp (eApd 5 (eApp 2 m__law_moved (aCons (eApqB 0 1 m__law_of (pCons (kV 5) pNil)) (aCons (eTup (aCons (eOp addD (kE (eOp mulD (kV 7) (kV 2))) (kE (eOp mulD (kV 8) (kV 3)))) (aCons (eOp mulD (kV 8) (kV 4)) aNil))) aNil))))))
theorem laps (p q r : Int) (d : Dl p q r) (deal : D) (rest : List Loc) (N : Nat) (hN : N < 2 ^ 40) : ∀ (k : Nat) (lo : Int) (cs : List (Int × Int)) (G : List Int) (l6 l7 l8 : Loc), k ≤ 4 → free (some l6) = true → free (some l7) = true → free (some l8) = true → Gk (N + 3 * (4 - k)) G → (∀ c ∈ cs, Near (10 ^ 8 + 10 ^ 6 * (4 - k)) c) → cs.length + k = 12 →
    ∃ (cs' : List (Int × Int)) (G' : List Int) (l6' l7' l8' : Loc), forL (gV 6) lapB (upto lo k) ⟨.pot :: .dat deal :: .dat (.int p) :: .dat (.int q) :: .dat (.int r) :: .own (cs.map cD) :: l6 :: l7 :: l8 :: rest, G⟩ =
      .ok .nx ⟨.pot :: .dat deal :: .dat (.int p) :: .dat (.int q) :: .dat (.int r) :: .own (cs'.map cD) :: l6' :: l7' :: l8' :: rest, G'⟩ ∧ (∀ c ∈ cs', Near (10 ^ 8 + 10 ^ 6 * 4) c) ∧ cs'.length = 12 ∧ Gk (N + 12) G'
  | 0, lo, cs, G, l6, l7, l8, _, _, _, _, g, hc, hl => ⟨cs, G, l6, l7, l8, by simp, by simpa using hc, by simpa using hl, g.mono (by omega)⟩
  | k + 1, lo, cs, G, l6, l7, l8, hk, f6, f7, f8, g, hc, hl => by
    obtain ⟨i, G1, e1, i1, i2, g1⟩ := take_spec (u := 21) g (by omega) (by decide) (by decide)
    obtain ⟨j, G2, e2, j1, j2, g2⟩ := take_spec (u := 21) g1 (by omega) (by decide) (by decide)
    obtain ⟨c, G3, e3, c1, g3⟩ := of_cells (cs := cs) g2 (by omega) (by intro z; subst z; simp at hl; omega) (by omega)
    obtain ⟨p1, p2, q1, q2, r1, r2⟩ := d
    have bi : Bt 10 (i - 10) := by unfold Bt; omega
    have bj : Bt 10 (j - 10) := by unfold Bt; omega
    have bp : Bt 20 p := bt_nat (by omega) (by omega)
    have bq : Bt 20 q := bt_nat (by omega) (by omega)
    have br : Bt 20 r := bt_nat (by omega) (by omega)
    have m1 : mulOk (i - 10) p := mulOk_of bi bp (by decide)
    have m2 : mulOk (j - 10) q := mulOk_of bj bq (by decide)
    have m3 : mulOk (j - 10) r := mulOk_of bj br (by decide)
    have hs : cs.length < szl := by unfold szl; omega
    have s1 : -(10 ^ 5) ≤ (i - 10) * p ∧ (i - 10) * p ≤ 10 ^ 5 := by
      constructor
      · have := Int.mul_le_mul_of_nonneg_right (show -10 ≤ i - 10 by omega) (show 0 ≤ p by omega); omega
      · have := Int.mul_le_mul_of_nonneg_right (show i - 10 ≤ 10 by omega) (show 0 ≤ p by omega); omega
    have s2 : -(10 ^ 5) ≤ (j - 10) * q ∧ (j - 10) * q ≤ 10 ^ 5 := by
      constructor
      · have := Int.mul_le_mul_of_nonneg_right (show -10 ≤ j - 10 by omega) (show 0 ≤ q by omega); omega
      · have := Int.mul_le_mul_of_nonneg_right (show j - 10 ≤ 10 by omega) (show 0 ≤ q by omega); omega
    have s3 : -(10 ^ 5) ≤ (j - 10) * r ∧ (j - 10) * r ≤ 10 ^ 5 := by
      constructor
      · have := Int.mul_le_mul_of_nonneg_right (show -10 ≤ j - 10 by omega) (show 0 ≤ r by omega); omega
      · have := Int.mul_le_mul_of_nonneg_right (show j - 10 ≤ 10 by omega) (show 0 ≤ r by omega); omega
    obtain ⟨cs', G', l6', l7', l8', e4, h1, h2, h3⟩ := laps p q r ⟨p1, p2, q1, q2, r1, r2⟩ deal rest N hN k (lo + 1) (cs ++ [(c.1 + ((i - 10) * p + (j - 10) * q), c.2 + (j - 10) * r)]) G3 (.dat (.int lo)) (.dat (.int (i - 10))) (.dat (.int (j - 10))) (by omega) rfl rfl rfl (g3.mono (by omega)) (fun z hz => by
      rcases List.mem_append.mp hz with hz | hz
      · obtain ⟨a1, a2, a3, a4⟩ := hc z hz
        exact ⟨by omega, by omega, by omega, by omega⟩
      · have : z = (c.1 + ((i - 10) * p + (j - 10) * q), c.2 + (j - 10) * r) := by simpa using hz
        subst this
        obtain ⟨a1, a2, a3, a4⟩ := hc c c1
        exact ⟨by dsimp only; omega, by dsimp only; omega, by dsimp only; omega, by dsimp only; omega⟩) (by simp; omega)
    refine ⟨cs', G', l6', l7', l8', ?_, h1, h2, h3⟩
    rw [upto_succ, forL_cons]
    have mv := moved_spec c.1 c.2 ((i - 10) * p + (j - 10) * q) ((j - 10) * r)
    simp [f6, f7, f8, e1, e2, e3, cD, mulD_int, m1, m2, m3, mv, hs]
    simpa [cD] using e4
end BD.M

set_option Elab.async false
set_option linter.all false
set_option maxRecDepth 100000
set_option maxHeartbeats 4000000
namespace BD.M
open PySem BD
def bD (p q r : Int) : D → D
  | .tuple [.int x, .int y] => .int (bk p q r x y)
  | _ => .none
def dl (p q r : Int) : D := .tuple [.int p, .int q, .int r]
theorem near_cl {m : Int} {c : Int × Int} (h : Near m c) (hm : m < 2 ^ 60) : Cl c.1 c.2 := by
  obtain ⟨a, b, e, f⟩ := h
  exact ⟨by unfold Bt; omega, by unfold Bt; omega⟩
theorem map_bD (p q r : Int) (cs : List (Int × Int)) : (cs.map cD).map (bD p q r) = (cs.map fun c => bk p q r c.1 c.2).map PyData.int := by
  simp [cD, bD, Function.comp_def]
theorem banks1 (p q r : Int) (d : Dl p q r) (L : List Loc) (G : List Int) (b0 b2 b3 b4 b5 b6 b7 b8 b9 : Loc) (rest : List Loc) (hL : L = b0 :: .dat (dl p q r) :: b2 :: b3 :: b4 :: b5 :: b6 :: b7 :: b8 :: b9 :: .non :: rest) (cs : List (Int × Int)) (hc : ∀ c ∈ cs, Near (2 ^ 50) c) (hl : cs.length ≤ 100) :
    compL (gV 10) bYes (eApp 2 m_bank (aCons (eV 1) (aCons (eV 10) aNil))) [10] (cs.map cD) [] ⟨L, G⟩ = .ok ((cs.map fun c => bk p q r c.1 c.2).map PyData.int) ⟨L, G⟩ := by
  rw [compL_map (f := bD p q r) (s := ⟨L, G⟩) _ _ (fun x hx => ?_) (by simp; unfold szl; omega), map_bD]
  · rfl
  · obtain ⟨c, h1, rfl⟩ := List.mem_map.mp hx
    subst hL
    have := bank_spec d (near_cl (hc c h1) (by decide))
    refine ⟨_, ⟨b0 :: .dat (dl p q r) :: b2 :: b3 :: b4 :: b5 :: b6 :: b7 :: b8 :: b9 :: .dat (cD c) :: rest, G⟩, rfl, ?_, rfl⟩
    simp [cD, dl, this, bD]
theorem banks2 (p q r : Int) (d : Dl p q r) (L : List Loc) (G : List Int) (b0 b2 b3 b4 b5 b6 b7 b8 b9 : Loc) (rest : List Loc) (hL : L = b0 :: .dat (dl p q r) :: b2 :: b3 :: b4 :: b5 :: b6 :: b7 :: b8 :: b9 :: .non :: rest) (cs : List (Int × Int)) (hc : ∀ c ∈ cs, Near (2 ^ 50) c) (hl : cs.length ≤ 100) :
    compL (gV 10) bYes (eApp 2 m__law_bank (aCons (eV 1) (aCons (eV 10) aNil))) [10] (cs.map cD) [] ⟨L, G⟩ = .ok ((cs.map fun c => bk p q r c.1 c.2).map PyData.int) ⟨L, G⟩ := by
  rw [compL_map (f := bD p q r) (s := ⟨L, G⟩) _ _ (fun x hx => ?_) (by simp; unfold szl; omega), map_bD]
  · rfl
  · obtain ⟨c, h1, rfl⟩ := List.mem_map.mp hx
    subst hL
    have := law_bank_spec d (near_cl (hc c h1) (by decide))
    refine ⟨_, ⟨b0 :: .dat (dl p q r) :: b2 :: b3 :: b4 :: b5 :: b6 :: b7 :: b8 :: b9 :: .dat (cD c) :: rest, G⟩, rfl, ?_, rfl⟩
    simp [cD, dl, this, bD]

theorem inside (p q r : Int) (d : Dl p q r) (L : List Loc) (G : List Int) (b0 b1 b3 b5 b6 b7 b8 b9 b10 b11 b12 b13 b14 b15 : Loc) (rest : List Loc) (hL : L = b0 :: b1 :: .dat (.int p) :: b3 :: .dat (.int r) :: b5 :: b6 :: b7 :: b8 :: b9 :: b10 :: b11 :: b12 :: b13 :: b14 :: b15 :: .non :: rest) (bs : List Int) (hb : ∀ b ∈ bs, 0 ≤ b ∧ b < p * r) (hl : bs.length ≤ 100) :
    compL (gV 16) bYes (eB (bCh leD ltD (kE (eC (.int 0))) (kV 16) (kE (eOp mulD (kV 2) (kV 4))))) [16] (bs.map PyData.int) [] ⟨L, G⟩ = .ok ((bs.map fun _ => true).map PyData.bool) ⟨L, G⟩ := by
  rw [compL_map (f := fun _ => .bool true) (s := ⟨L, G⟩) _ _ (fun x hx => ?_) (by simp; unfold szl; omega)]
  · simp [Function.comp_def]
  · obtain ⟨b, h1, rfl⟩ := List.mem_map.mp hx
    obtain ⟨h2, h3⟩ := hb b h1
    subst hL
    obtain ⟨_, _, _, _, _, _, _, m8⟩ := d.ok (x := 0) (y := 0) ⟨by unfold Bt; decide, by unfold Bt; decide⟩
    refine ⟨_, ⟨b0 :: b1 :: .dat (.int p) :: b3 :: .dat (.int r) :: b5 :: b6 :: b7 :: b8 :: b9 :: b10 :: b11 :: b12 :: b13 :: b14 :: b15 :: .dat (.int b) :: rest, G⟩, rfl, ?_, rfl⟩
    simp [mulD_int, m8, h2, h3]
/-! ### the pairs -/
abbrev prD (p q r : Int) (c : Int × Int) : D := .tuple [cD c, .int (bk p q r c.1 c.2)]
theorem zip_pr (p q r : Int) (cs : List (Int × Int)) : zipD (cs.map cD) ((cs.map fun c => bk p q r c.1 c.2).map PyData.int) = cs.map (prD p q r) := by
  unfold zipD
  induction cs with
  | nil => rfl
  | cons c cs ih => simp at ih ⊢; exact ih
noncomputable abbrev inB : SS := (sIf (bCm neD (kE (eB (bCm eqD (kV 11) (kV 13)))) (kE (eApp 2 m__law_is_sum (aCons (eV 1) (aCons (eApp 2 m__law_less (aCons (eV 12) (aCons (eV 10) aNil))) aNil))))) (sRet (eC (.bool false))) sSkip)
theorem inner (p q r : Int) (d : Dl p q r) (c : Int × Int) (hcc : Near (2 ^ 50) c) (b0 b2 b3 b4 b5 b6 b7 b8 b9 : Loc) (rest : List Loc) (G : List Int) : ∀ (cs : List (Int × Int)) (l12 l13 : Loc), (∀ c ∈ cs, Near (2 ^ 50) c) → free (some l12) = true → free (some l13) = true →
    ∃ m12 m13 : Loc, free (some m12) = true ∧ free (some m13) = true ∧ forL (gTup [gV 12, gV 13]) inB (cs.map (prD p q r)) ⟨b0 :: .dat (dl p q r) :: b2 :: b3 :: b4 :: b5 :: b6 :: b7 :: b8 :: b9 :: .dat (cD c) :: .dat (.int (bk p q r c.1 c.2)) :: l12 :: l13 :: rest, G⟩ =
      .ok .nx ⟨b0 :: .dat (dl p q r) :: b2 :: b3 :: b4 :: b5 :: b6 :: b7 :: b8 :: b9 :: .dat (cD c) :: .dat (.int (bk p q r c.1 c.2)) :: m12 :: m13 :: rest, G⟩
  | [], l12, l13, _, f1, f2 => ⟨l12, l13, f1, f2, rfl⟩
  | z :: cs, l12, l13, h, f1, f2 => by
    obtain ⟨m12, m13, g1, g2, e⟩ := inner p q r d c hcc b0 b2 b3 b4 b5 b6 b7 b8 b9 rest G cs (.dat (cD z)) (.dat (.int (bk p q r z.1 z.2))) (fun y hy => h y (List.mem_cons_of_mem _ hy)) rfl rfl
    refine ⟨m12, m13, g1, g2, ?_⟩
    have hz := near_cl (h z (List.mem_cons_self ..)) (by decide)
    have hc := near_cl hcc (by decide)
    have ls := less_spec z.1 z.2 c.1 c.2
    have cl : Cl (z.1 - c.1) (z.2 - c.2) := by
      obtain ⟨a1, a2, a3, a4⟩ := h z (List.mem_cons_self ..)
      obtain ⟨a5, a6, a7, a8⟩ := hcc
      exact ⟨by unfold Bt; omega, by unfold Bt; omega⟩
    have is := is_sum_spec d cl
    have be := bk_eq p q r c.1 c.2 z.1 z.2 d.p1 d.r1
    rw [List.map_cons, forL_cons]
    simp [prD, cD, dl, f1, f2, ls, is, ← be]
    simpa [prD, cD, dl] using e
theorem outer (p q r : Int) (d : Dl p q r) (b0 b2 b3 b4 b6 b7 b8 : Loc) (rest : List Loc) (G : List Int) (all : List (Int × Int)) (ha : ∀ c ∈ all, Near (2 ^ 50) c) : ∀ (cs : List (Int × Int)) (l10 l11 l12 l13 : Loc), (∀ c ∈ cs, Near (2 ^ 50) c) → free (some l10) = true → free (some l11) = true → free (some l12) = true → free (some l13) = true →
    ∃ m10 m11 m12 m13 : Loc, forL (gTup [gV 10, gV 11]) (sFor (iZip (kV 5) (kV 9)) (gTup [gV 12, gV 13]) inB) (cs.map (prD p q r)) ⟨b0 :: .dat (dl p q r) :: b2 :: b3 :: b4 :: .lent (all.map cD) :: b6 :: b7 :: b8 :: .dat (.list ((all.map fun c => bk p q r c.1 c.2).map PyData.int)) :: l10 :: l11 :: l12 :: l13 :: rest, G⟩ =
      .ok .nx ⟨b0 :: .dat (dl p q r) :: b2 :: b3 :: b4 :: .lent (all.map cD) :: b6 :: b7 :: b8 :: .dat (.list ((all.map fun c => bk p q r c.1 c.2).map PyData.int)) :: m10 :: m11 :: m12 :: m13 :: rest, G⟩
  | [], l10, l11, l12, l13, _, _, _, _, _ => ⟨l10, l11, l12, l13, rfl⟩
  | c :: cs, l10, l11, l12, l13, h, f1, f2, f3, f4 => by
    obtain ⟨m12, m13, g1, g2, e⟩ := inner p q r d c (h c (List.mem_cons_self ..)) b0 b2 b3 b4 (.lent (all.map cD)) b6 b7 b8 (.dat (.list ((all.map fun c => bk p q r c.1 c.2).map PyData.int))) rest G all l12 l13 ha f3 f4
    obtain ⟨m10, m11, k12, k13, e2⟩ := outer p q r d b0 b2 b3 b4 b6 b7 b8 rest G all ha cs (.dat (cD c)) (.dat (.int (bk p q r c.1 c.2))) m12 m13 (fun y hy => h y (List.mem_cons_of_mem _ hy)) rfl rfl g1 g2
    refine ⟨m10, m11, k12, k13, ?_⟩
    rw [List.map_cons, forL_cons]
    have zp := zip_pr p q r all
    simp only [List.map_map] at zp e e2 ⊢
    simp [f1, f2, zp, e]
    simpa using e2
end BD.M

set_option Elab.async false
set_option linter.all false
set_option maxRecDepth 100000
set_option maxHeartbeats 4000000
namespace BD.M
open PySem BD
theorem upto_app (lo : Int) (n m : Nat) : upto lo n ++ upto (lo + n) m = upto lo (n + m) := by
  unfold upto
  rw [List.range_add, List.map_append, List.map_map]
  congr 1
  apply List.map_congr_left
  intro i _
  show PyData.int (lo + n + (i : Int)) = .int (lo + ((n + i : Nat) : Int))
  congr 1
  omega
theorem bk_box (p q r x y : Int) (hx0 : 0 ≤ x) (hx : x < p) (hy0 : 0 ≤ y) (hy : y < r) : bk p q r x y = p * y + x := by
  unfold bk
  have e1 : y.fdiv r = 0 := by rw [Int.fdiv_eq_ediv_of_nonneg _ (by omega)]; exact Int.ediv_eq_zero_of_lt hy0 hy
  have e2 : y.fmod r = y := by rw [Int.fmod_eq_emod_of_nonneg _ (by omega)]; exact Int.emod_eq_of_lt hy0 hy
  rw [e1, e2, Int.mul_zero, Int.sub_zero, Int.fmod_eq_emod_of_nonneg _ (by omega), Int.emod_eq_of_lt hx0 hx]
  omega
/-- one row of the box -/
theorem rowB (p q r y : Int) (d : Dl p q r) (hy0 : 0 ≤ y) (hy : y < r) (L : List Loc) (G : List Int) (b0 b2 b3 b4 b5 b6 b7 b8 b9 b10 b11 b12 b13 b14 b16 : Loc) (hL : L = [b0, .dat (dl p q r), b2, b3, b4, b5, b6, b7, b8, b9, b10, b11, b12, b13, b14, .dat (.int y), b16, .non]) :
    compL (gV 17) bYes (eApp 2 m_bank (aCons (eV 1) (aCons (eTup (aCons (eV 17) (aCons (eV 15) aNil))) aNil))) [17] (upto 0 p.toNat) [] ⟨L, G⟩ = .ok (upto (p * y) p.toNat) ⟨L, G⟩ := by
  have hp := d.p1
  have hp2 := d.p2
  have hr2 := d.r2
  rw [compL_map (f := fun x => match x with | .int i => .int (p * y + i) | x => x) (s := ⟨L, G⟩) _ _ (fun x hx => ?_) (by rw [upto_len']; unfold szl; simp; omega)]
  · congr 1
    unfold upto
    simp
  · obtain ⟨i, rfl, i0, i1⟩ := mem_upto hx
    subst hL
    have := bank_spec d (x := i) (y := y) ⟨by unfold Bt; omega, by unfold Bt; omega⟩
    rw [bk_box p q r i y i0 (by omega) hy0 hy] at this
    refine ⟨_, ⟨[b0, .dat (dl p q r), b2, b3, b4, b5, b6, b7, b8, b9, b10, b11, b12, b13, b14, .dat (.int y), b16, .dat (.int i)], G⟩, rfl, ?_, rfl⟩
    simp [dl, this]
noncomputable abbrev boxB : SS := (sExp (eExt 14 (kE (eL (lComp (iRg1 (eV 2)) (gV 17) bYes (eApp 2 m_bank (aCons (eV 1) (aCons (eTup (aCons (eV 17) (aCons (eV 15) aNil))) aNil))) [17])))))
theorem boxes (p q r : Int) (d : Dl p q r) (h64 : p * r ≤ 64) (G : List Int) (b0 b3 b4 b5 b6 b7 b8 b9 b10 b11 b12 b13 b16 : Loc) : ∀ (k : Nat) (y : Int) (l15 : Loc), 0 ≤ y → y + k ≤ r → free (some l15) = true →
    ∃ l15' : Loc, forL (gV 15) boxB (upto y k) ⟨[b0, .dat (dl p q r), .dat (.int p), b3, b4, b5, b6, b7, b8, b9, b10, b11, b12, b13, .own (upto 0 (p * y).toNat), l15, b16, .non], G⟩ =
      .ok .nx ⟨[b0, .dat (dl p q r), .dat (.int p), b3, b4, b5, b6, b7, b8, b9, b10, b11, b12, b13, .own (upto 0 (p * (y + k)).toNat), l15', b16, .non], G⟩
  | 0, y, l15, _, _, _ => ⟨l15, by simp⟩
  | k + 1, y, l15, h0, h1, f => by
    have hp := d.p1
    have hp2 := d.p2
    have hr2 := d.r2
    obtain ⟨m15, e⟩ := boxes p q r d h64 G b0 b3 b4 b5 b6 b7 b8 b9 b10 b11 b12 b13 b16 k (y + 1) (.dat (.int y)) (by omega) (by omega) rfl
    refine ⟨m15, ?_⟩
    have row := rowB p q r y d h0 (by omega) [b0, .dat (dl p q r), .dat (.int p), b3, b4, b5, b6, b7, b8, b9, b10, b11, b12, b13, .own (upto 0 (p * y).toNat), .dat (.int y), b16, .non] G b0 (.dat (.int p)) b3 b4 b5 b6 b7 b8 b9 b10 b11 b12 b13 (.own (upto 0 (p * y).toNat)) b16 rfl
    have rg := rg0 (j := p) (by omega) (by omega)
    have n0 : 0 ≤ p * y := Int.mul_nonneg (by omega) h0
    have n1 : p * y + p ≤ 64 := by
      have a := Int.mul_le_mul_of_nonneg_left (show y + 1 ≤ r by omega) (show 0 ≤ p by omega)
      rw [Int.mul_add, Int.mul_one] at a
      omega
    have e3 : upto 0 (p * y).toNat ++ upto (p * y) p.toNat = upto 0 (p * (y + 1)).toNat := by
      have := upto_app 0 (p * y).toNat p.toNat
      rw [show (0 : Int) + ((p * y).toNat : Int) = p * y by omega] at this
      rw [this, Int.mul_add, Int.mul_one]
      congr 1
      omega
    have sz : (upto 0 (p * y).toNat).length + (upto (p * y) p.toNat).length ≤ szl := by rw [upto_len', upto_len']; unfold szl; omega
    rw [upto_succ, forL_cons]
    simp [f, rg, row, sz, e3]
    have e4 : y + ((k : Int) + 1) = y + 1 + k := by omega
    rw [e4]
    exact e
end BD.M

set_option Elab.async false
set_option linter.all false
set_option maxRecDepth 100000
set_option maxHeartbeats 8000000
namespace BD.M
open PySem BD
theorem right_spec {G : List Int} {n : Nat} (g : Gk n G) (hn : n < 2 ^ 30) : ∃ G', m__law_right G [] = .ok (.bool true) G' ∧ Gk (n + 40) G' := by
  obtain ⟨p, q, r, G1, e1, p1, p2, q1, q2, r1, r2, g1⟩ := some_deal_spec g (by omega)
  have d : Dl p q r := ⟨p1, p2, q1, q2, r1, r2⟩
  obtain ⟨cs, G2, e2, c1, c2, g2⟩ := fars [.pot, .dat (dl p q r), .dat (.int p), .dat (.int q), .dat (.int r), .non, .non, .non, .non, .non, .non, .non, .non, .non, .non, .non, .non, .non] rfl (n + 4) (by omega) 8 0 [] G1 (by omega) (g1.mono (by omega)) (fun c hc => by cases hc) (by simp)
  obtain ⟨cs', G3, l6, l7, l8, e3, c3, c4, g3⟩ := laps p q r d (dl p q r) [.non, .non, .non, .non, .non, .non, .non, .non, .non] (n + 28) (by omega) 4 0 cs G2 .non .non .non (by omega) rfl rfl rfl (g2.mono (by omega)) (fun c hc => by
    obtain ⟨a1, a2, a3, a4⟩ := c1 c hc
    exact ⟨by omega, by omega, by omega, by omega⟩) (by rw [c2]; simp)
  have near : ∀ c ∈ cs', Near (2 ^ 50) c := fun c hc => by
    obtain ⟨a1, a2, a3, a4⟩ := c3 c hc
    exact ⟨by omega, by omega, by omega, by omega⟩
  refine ⟨G3, ?_, g3.mono (by omega)⟩
  have r8 := rg0 (j := 8) (by decide) (by decide)
  have r4 := rg0 (j := 4) (by decide) (by decide)
  rw [r__law_right]
  have eb1 := banks1 p q r d [.pot, .dat (dl p q r), .dat (.int p), .dat (.int q), .dat (.int r), .lent (cs'.map cD), l6, l7, l8, .non, .non, .non, .non, .non, .non, .non, .non, .non] G3 _ _ _ _ _ _ _ _ _ _ rfl cs' near (by omega)
  have eb2 := banks2 p q r d [.pot, .dat (dl p q r), .dat (.int p), .dat (.int q), .dat (.int r), .lent (cs'.map cD), l6, l7, l8, .dat (.list ((cs'.map fun c => bk p q r c.1 c.2).map PyData.int)), .non, .non, .non, .non, .non, .non, .non, .non] G3 _ _ _ _ _ _ _ _ _ _ rfl cs' near (by omega)
  generalize hbs : (cs'.map fun c => bk p q r c.1 c.2) = bs at eb1 eb2
  have bin : ∀ b ∈ bs, 0 ≤ b ∧ b < p * r := fun b hb => by
    subst hbs
    obtain ⟨c, _, rfl⟩ := List.mem_map.mp hb
    exact ⟨bk_lo p q r c.1 c.2 p1 r1, bk_hi p q r c.1 c.2 p1 r1⟩
  have bl : bs.length ≤ 100 := by subst hbs; simp; omega
  have ein := inside p q r d [.pot, .dat (dl p q r), .dat (.int p), .dat (.int q), .dat (.int r), .own (cs'.map cD), l6, l7, l8, .dat (.list (bs.map PyData.int)), .non, .non, .non, .non, .non, .non, .non, .non] G3 _ _ _ _ _ _ _ _ _ _ _ _ _ _ _ rfl bs bin bl
  have pr : p * r ≤ 10000 * 10000 := by
    have a := Int.mul_le_mul_of_nonneg_right p2 (show 0 ≤ r by omega)
    omega
  have rep : ∃ z, reprB [.list (bs.map PyData.int)] = some (.str z) := ⟨_, Sm.repr (h := 1) (k := 100) ((Sm.list (SmAll.of (h := 0) (k := 0) fun x hx => by
    obtain ⟨b, hb, rfl⟩ := List.mem_map.mp hx
    obtain ⟨b1, b2⟩ := bin b hb
    exact Sm.int ((bt_nat (n := 40) b1 (by omega)).mono (by decide)))).mono (by decide) (by simp; omega)) (by decide) (by decide)⟩
  obtain ⟨z, rep⟩ := rep
  obtain ⟨m10, m11, m12, m13, eo⟩ := outer p q r d .pot (.dat (.int p)) (.dat (.int q)) (.dat (.int r)) l6 l7 l8 [.non, .non, .non, .non] G3 cs' near cs' .non .non .non .non near rfl rfl rfl rfl
  have zp := zip_pr p q r cs'
  rw [hbs] at eo zp
  have e1' : m__law_some_deal G [] = .ok (dl p q r) G1 := e1
  have gd : ∀ (gs : List GS) (s : Sx), gTup gs (dl p q r) s = gEach gs [.int p, .int q, .int r] s := fun _ _ => rfl
  have e2' : compL (gV 6) bYes (eApq 0 0 m__law_far aNil) [6] (upto 0 8) [] ⟨[.pot, .dat (dl p q r), .dat (.int p), .dat (.int q), .dat (.int r), .non, .non, .non, .non, .non, .non, .non, .non, .non, .non, .non, .non, .non], G1⟩ = .ok (cs.map cD) ⟨[.pot, .dat (dl p q r), .dat (.int p), .dat (.int q), .dat (.int r), .non, .non, .non, .non, .non, .non, .non, .non, .non, .non, .non, .non, .non], G2⟩ := e2
  obtain ⟨_, _, _, _, _, _, _, m8⟩ := d.ok (x := 0) (y := 0) ⟨by unfold Bt; decide, by unfold Bt; decide⟩
  have t8 : Int.toNat 8 = 8 := rfl
  have t4 : Int.toNat 4 = 4 := rfl
  rw [t8] at r8
  rw [t4] at r4
  by_cases h64 : 64 < p * r
  · have b1 := bank_spec d (x := 0) (y := 0) ⟨by unfold Bt; decide, by unfold Bt; decide⟩
    have b2 := bank_spec d (x := p - 1) (y := r - 1) ⟨by unfold Bt; omega, by unfold Bt; omega⟩
    have b3 := bank_spec d (x := q - p) (y := r) ⟨by unfold Bt; omega, by unfold Bt; omega⟩
    have v1 : bk p q r 0 0 = 0 := by rw [bk_box p q r 0 0 (by omega) (by omega) (by omega) (by omega)]; simp
    have v2 : bk p q r (p - 1) (r - 1) = p * r - 1 := by rw [bk_box p q r _ _ (by omega) (by omega) (by omega) (by omega), Int.mul_sub]; omega
    have v3 : bk p q r (q - p) r = 0 := by
      unfold bk
      rw [Int.fdiv_eq_ediv_of_nonneg _ (by omega), Int.fmod_eq_emod_of_nonneg r (by omega), Int.ediv_self (by omega), Int.emod_self, Int.mul_one, Int.mul_zero, show q - p - q = -p by omega, Int.fmod_eq_emod_of_nonneg _ (by omega)]
      simp
    rw [v1] at b1
    rw [v2] at b2
    rw [v3] at b3
    change m_bank [dl p q r, _] = _ at b1 b2 b3
    simp [-List.map_map, t__law_right, e1', gd, r8, r4, e2', e3, eb1, eb2, ein, rep, zp, eo, h64, mulD_int, m8, b1, b2, b3]
  · have er : ((r.toNat : Nat) : Int) = r := Int.toNat_of_nonneg (by omega)
    obtain ⟨l15, bx⟩ := boxes p q r d (by omega) G3 .pot (.dat (.int q)) (.dat (.int r)) (.own (cs'.map cD)) l6 l7 l8 (.dat (.list (bs.map PyData.int))) m10 m11 m12 m13 .non r.toNat 0 .non (by omega) (by omega) rfl
    rw [er, Int.zero_add, Int.mul_zero, show Int.toNat 0 = 0 from rfl, upto_zero] at bx
    have rr := rg0 (j := r) (by omega) (by omega)
    have rpr := rg0 (j := p * r) (by have := Int.mul_nonneg (show 0 ≤ p by omega) (show 0 ≤ r by omega); omega) (by omega)
    have ul : (upto 0 (p * r).toNat).length ≤ szl := by rw [upto_len']; unfold szl; omega
    have ue : eqD (.list (upto 0 (p * r).toNat)) (.list (upto 0 (p * r).toNat)) = some true := by
      refine Sm.eq (h := 1) (k := 100) ((Sm.list (SmAll.of (h := 0) (k := 0) fun x hx => ?_)).mono (by decide) (by rw [upto_len']; omega)) (by decide)
      obtain ⟨i, rfl, i0, i1⟩ := mem_upto hx
      exact Sm.int (by unfold Bt; omega)
    simp [-List.map_map, t__law_right, e1', gd, r8, r4, e2', e3, eb1, eb2, ein, rep, zp, eo, h64, mulD_int, m8, rr, rpr, bx, ul, ue]
end BD.M

set_option Elab.async false
set_option linter.all false
set_option maxRecDepth 100000
set_option maxHeartbeats 8000000
namespace BD.M
open PySem BD
theorem rights (sc i : D) : ∀ (k : Nat) (lo : Int) (acc : List Bool) (G : List Int) (n : Nat), k ≤ 10 → n + 40 * k < 1000 → Gk n G → (∀ b ∈ acc, b = true) → acc.length + k ≤ 10 →
    ∃ (bs : List Bool) (G' : List Int), compL (gV 3) bYes (eApo 2 0 m__law_right aNil) [3] (upto lo k) (acc.map PyData.bool) ⟨[.dat sc, .dat i, .own (G.map PyData.int), .non], []⟩ = .ok (bs.map PyData.bool) ⟨[.dat sc, .dat i, .own (G'.map PyData.int), .non], []⟩ ∧ ∀ b ∈ bs, b = true
  | 0, lo, acc, G, n, _, _, _, h, _ => ⟨acc, G, by simp, h⟩
  | k + 1, lo, acc, G, n, hk, hn, g, h, hl => by
    obtain ⟨G1, e1, g1⟩ := right_spec g (by omega)
    obtain ⟨bs, G2, e2, h2⟩ := rights sc i k (lo + 1) (acc ++ [true]) G1 (n + 40) (by omega) (by omega) g1 (fun b hb => by
      rcases List.mem_append.mp hb with hb | hb
      · exact h b hb
      · simpa using hb) (by simp; omega)
    refine ⟨bs, G2, ?_, h2⟩
    have hs : acc.length < szl := by unfold szl; omega
    rw [upto_succ, compL_cons]
    simp [e1, hs]
    simpa using e2
noncomputable abbrev placeB : SS := (sSeq (sOwn 2 (lApl 2 m__law_pot (aCons (eV 0) (aCons (eV 1) aNil)))) (sIf (bNot (bE (eBf allB (pCons (kE (eL (lComp (iRg1 (eC (.int 3))) (gV 3) bYes (eApo 2 0 m__law_right aNil) [3]))) pNil)))) (sRet (eC (.bool false))) sSkip))
theorem places (ns : List Int) (hns : ns.length ≤ 63) : ∀ (k : Nat) (lo : Int) (l1 l2 : Loc), 0 ≤ lo → lo + k < 10 → free (some l1) = true → free (some l2) = true →
    ∃ (l1' l2' : Loc), forL (gV 1) placeB (upto lo k) ⟨[.dat (scriptD ns), l1, l2, .non], []⟩ = .ok .nx ⟨[.dat (scriptD ns), l1', l2', .non], []⟩
  | 0, lo, l1, l2, _, _, _, _ => ⟨l1, l2, by simp⟩
  | k + 1, lo, l1, l2, h0, h1, f1, f2 => by
    obtain ⟨a, b, e1, hb⟩ := pot_spec ns hns lo h0 (by omega)
    obtain ⟨bs, G', e2, h2⟩ := rights (scriptD ns) (.int lo) 3 0 [] [a, b, 0] 0 (by omega) (by omega) ⟨a, b, 0, rfl, hb, by omega, by omega⟩ (fun b hb => by cases hb) (by simp)
    obtain ⟨l1', l2', e3⟩ := places ns hns k (lo + 1) (.dat (.int lo)) (.own (G'.map PyData.int)) (by omega) (by omega) rfl rfl
    refine ⟨l1', l2', ?_⟩
    have r3 : rg2 (.int 0) (.int 3) = some (upto 0 3) := rg0 (j := 3) (by decide) (by decide)
    have ab : bs.all id = true := by
      rw [List.all_eq_true]
      exact h2
    rw [upto_succ, forL_cons]
    simp only [List.map_nil, List.map_cons] at e2
    simp [f1, f2, e1, r3, e2, ab]
    exact e3
theorem law_true (ns : List Int) (hns : ns.length ≤ 63) : m_law [scriptD ns] = .ok (.bool true) := by
  obtain ⟨k, hk, e1⟩ := cells_spec ns hns
  obtain ⟨l1, l2, e2⟩ := places ns hns k 0 .non .non (by omega) (by omega) rfl rfl
  rw [r_law]
  simp [t_law, e1, e2]
end BD.M

set_option Elab.async false
set_option linter.all false
set_option maxRecDepth 100000
open PySem PySem.W PyProof.Rows
set_option maxHeartbeats 0 in
theorem PySem.Challenge.cw_beatpatches_k08_whole_banks_of_cells_holds : PySem.Challenge.rw_beatpatches_k08_whole_banks_of_cells.Holds := by
  w_on; o_law; k_head; (case hw => w_witness2)
  k_fill
  refine BD.walk_ofG (l := PySem.Challenge.rw_beatpatches_k08_whole_banks_of_cells) (n := 63) (k := 6) (x := "_law_script") (m := BD.M.m_law) rfl (by decide) rfl ⟨rfl, by decide, by decide⟩ (fun w h Y => PySem.W.kIn_of Y) ?F BD.M.law_true
  case F =>
    intro w mg fa h KX G hmg
    refine' BD.M.all_end KX ?e hmg
    case e =>
      refine ⟨?z_abs, ?z_all, ?z_bool, ?z_int, ?z_isinstance, ?z_len, ?z_list, ?z_max, ?z_min, ?z_range, ?z_repr, ?z_tuple, ?z_zip, ?d__law_cells, ?d__law_pot, ?d__law_take, ?d__law_of, ?d__law_drawn_deal, ?d__law_some_deal, ?d__law_far, ?d_is_integer, ?d_is_deal, ?d_check_deal, ?d_is_cell, ?d_check_cell, ?d_bank_of, ?d_bank, ?d__law_moved, ?d__law_is_sum, ?d__law_bank, ?d__law_less, ?d__law_right, ?d_law⟩
      case z_abs => exact PySem.W.mg_none_of KX G (by k_is)
      case z_all => exact PySem.W.mg_none_of KX G (by k_is)
      case z_bool => exact PySem.W.mg_none_of KX G (by k_is)
      case z_int => exact PySem.W.mg_none_of KX G (by k_is)
      case z_isinstance => exact PySem.W.mg_none_of KX G (by k_is)
      case z_len => exact PySem.W.mg_none_of KX G (by k_is)
      case z_list => exact PySem.W.mg_none_of KX G (by k_is)
      case z_max => exact PySem.W.mg_none_of KX G (by k_is)
      case z_min => exact PySem.W.mg_none_of KX G (by k_is)
      case z_range => exact PySem.W.mg_none_of KX G (by k_is)
      case z_repr => exact PySem.W.mg_none_of KX G (by k_is)
      case z_tuple => exact PySem.W.mg_none_of KX G (by k_is)
      case z_zip => exact PySem.W.mg_none_of KX G (by k_is)
      case d__law_cells => refine' BD.def_mk KX G ?a ?l ?c ?k; (case a => k_is); (case l => k_is); (case c => k_is); (case k => k_is)
      case d__law_pot => refine' BD.def_mk KX G ?a ?l ?c ?k; (case a => k_is); (case l => k_is); (case c => k_is); (case k => k_is)
      case d__law_take => refine' BD.def_mk KX G ?a ?l ?c ?k; (case a => k_is); (case l => k_is); (case c => k_is); (case k => k_is)
      case d__law_of => refine' BD.def_mk KX G ?a ?l ?c ?k; (case a => k_is); (case l => k_is); (case c => k_is); (case k => k_is)
      case d__law_drawn_deal => refine' BD.def_mk KX G ?a ?l ?c ?k; (case a => k_is); (case l => k_is); (case c => k_is); (case k => k_is)
      case d__law_some_deal => refine' BD.def_mk KX G ?a ?l ?c ?k; (case a => k_is); (case l => k_is); (case c => k_is); (case k => k_is)
      case d__law_far => refine' BD.def_mk KX G ?a ?l ?c ?k; (case a => k_is); (case l => k_is); (case c => k_is); (case k => k_is)
      case d_is_integer => refine' BD.def_mk KX G ?a ?l ?c ?k; (case a => k_is); (case l => k_is); (case c => k_is); (case k => k_is)
      case d_is_deal => refine' BD.def_mk KX G ?a ?l ?c ?k; (case a => k_is); (case l => k_is); (case c => k_is); (case k => k_is)
      case d_check_deal => refine' BD.def_mk KX G ?a ?l ?c ?k; (case a => k_is); (case l => k_is); (case c => k_is); (case k => k_is)
      case d_is_cell => refine' BD.def_mk KX G ?a ?l ?c ?k; (case a => k_is); (case l => k_is); (case c => k_is); (case k => k_is)
      case d_check_cell => refine' BD.def_mk KX G ?a ?l ?c ?k; (case a => k_is); (case l => k_is); (case c => k_is); (case k => k_is)
      case d_bank_of => refine' BD.def_mk KX G ?a ?l ?c ?k; (case a => k_is); (case l => k_is); (case c => k_is); (case k => k_is)
      case d_bank => refine' BD.def_mk KX G ?a ?l ?c ?k; (case a => k_is); (case l => k_is); (case c => k_is); (case k => k_is)
      case d__law_moved => refine' BD.def_mk KX G ?a ?l ?c ?k; (case a => k_is); (case l => k_is); (case c => k_is); (case k => k_is)
      case d__law_is_sum => refine' BD.def_mk KX G ?a ?l ?c ?k; (case a => k_is); (case l => k_is); (case c => k_is); (case k => k_is)
      case d__law_bank => refine' BD.def_mk KX G ?a ?l ?c ?k; (case a => k_is); (case l => k_is); (case c => k_is); (case k => k_is)
      case d__law_less => refine' BD.def_mk KX G ?a ?l ?c ?k; (case a => k_is); (case l => k_is); (case c => k_is); (case k => k_is)
      case d__law_right => refine' BD.def_mk KX G ?a ?l ?c ?k; (case a => k_is); (case l => k_is); (case c => k_is); (case k => k_is)
      case d_law => refine' BD.def_mk KX G ?a ?l ?c ?k; (case a => k_is); (case l => k_is); (case c => k_is); (case k => k_is)

