import PyProof.Rows.All
import Wide.All
import OpenK.AllK
import Wide.FinOn
import HandS.ForMost
import KE.SortData
import HandS.Wide
import HandS.TupAny
import HandS.TupMul
import HandS.Deep
import HandS.Style
import KE.KTupSum
import HandS.IsInst
import HandS.Conv
import HandS.Zip
import KE.GoesMore
import HandS.SetFor
import KE.DataMinMax
import PySem.Challenge.RW_magictables_k67_whole_tables_magic_both
set_option Elab.async false
set_option linter.all false
set_option maxRecDepth 100000
namespace PV
open PySem
abbrev D := PyData
/-- the one list that is changed by callees: two whole numbers -/
abbrev Cup := Option (Int × Int)
inductive R (α : Type) where
  | ok (a : α) (c : Cup)
  | err (e : Nat) (c : Cup)
  | no
def M (α : Type) := Cup → R α
section
variable {α β γ : Type}
def ret (a : α) : M α := fun c => .ok a c
def stuck : M α := fun _ => .no
def bnd (m : M α) (k : α → M β) : M β := fun c => match m c with
  | .ok a c' => k a c'
  | .err e c' => .err e c'
  | .no => .no
def lft : Option α → M α
  | some a => ret a
  | none => stuck
theorem bnd_ret (a : α) (k : α → M β) : bnd (ret a) k = k a := rfl
theorem bnd_stuck (k : α → M β) : bnd stuck k = stuck := rfl
theorem ret_app (a : α) (c : Cup) : ret a c = .ok a c := rfl
theorem bnd_app (m : M α) (k : α → M β) (c : Cup) : bnd m k c = match m c with
  | .ok a c' => k a c'
  | .err e c' => .err e c'
  | .no => .no := rfl
theorem bnd_ok {m : M α} {k : α → M β} {a : α} {c c' : Cup} (h : m c = .ok a c') : bnd m k c = k a c' := by rw [bnd_app, h]
theorem bnd_assoc (m : M α) (k : α → M β) (l : β → M γ) : bnd (bnd m k) l = bnd m fun a => bnd (k a) l := by
  funext c
  simp only [bnd_app]
  cases m c <;> rfl
theorem lft_some (a : α) : lft (some a) = ret a := rfl
theorem lft_none : lft (none : Option α) = stuck := rfl
/-- in order over a list, from the left -/
def mapM (f : α → M β) : List α → M (List β)
  | [] => ret []
  | x :: xs => bnd (f x) fun y => bnd (mapM f xs) fun ys => ret (y :: ys)
end

/-- what a name of a def holds: nothing that is known, data that stays, the cup, a borrowed list or dict, an own list (of data; of own lists), an own dict, the script -/
inductive Slot where
  | no
  | sh (d : D)
  | cup
  | bl (ds : List D)
  | bd (ds : List (D × D))
  | ol (ds : List D)
  | oll (ds : List (List D))
  | od (ds : List (D × D))
  | scr (ns : List Int)
abbrev E := List Slot
abbrev ME := E → M D
abbrev MEs := E → M (List D)
/-- how a statement ends: it goes on with the names, it hands back -/
inductive Fl where
  | nx (ρ : E)
  | rt (d : D)
abbrev MS := E → M Fl
def Slot.at (ρ : E) (i : Nat) : Slot := ρ.getD i .no

def eVar (i : Nat) : ME := fun ρ => match Slot.at ρ i with
  | .sh d => ret d
  | _ => stuck
def eBor (i : Nat) : ME := fun ρ => match Slot.at ρ i with
  | .sh d => ret d
  | .bl ds => ret (.list ds)
  | .ol ds => ret (.list ds)
  | .bd ds => ret (.dict ds)
  | .od ds => ret (.dict ds)
  | _ => stuck
def eCon (d : D) : ME := fun _ => ret d
def e1 (f : D → Option D) (a : ME) : ME := fun ρ => bnd (a ρ) fun x => lft (f x)
def e2 (f : D → D → Option D) (a b : ME) : ME := fun ρ => bnd (a ρ) fun x => bnd (b ρ) fun y => lft (f x y)
def toB : D → M Bool
  | .bool b => ret b
  | _ => stuck
def eIf (c a b : ME) : ME := fun ρ => bnd (c ρ) fun t => bnd (toB t) fun k => if k = true then a ρ else b ρ
def eAnd (a b : ME) : ME := fun ρ => bnd (a ρ) fun t => bnd (toB t) fun k => if k = true then b ρ else ret (.bool false)
def eOr (a b : ME) : ME := fun ρ => bnd (a ρ) fun t => bnd (toB t) fun k => if k = true then ret (.bool true) else b ρ
def eNot (a : ME) : ME := fun ρ => bnd (a ρ) fun t => bnd (toB t) fun k => ret (.bool (!k))
def esNil : MEs := fun _ => ret []
def esCons (a : ME) (r : MEs) : MEs := fun ρ => bnd (a ρ) fun x => bnd (r ρ) fun xs => ret (x :: xs)
/-- the most items of a list or tuple -/
abbrev LIM : Nat := 16777216
def mkT (ds : List D) : Option D := if ds.length ≤ LIM then some (.tuple ds) else none
def mkL (ds : List D) : Option D := if ds.length ≤ LIM then some (.list ds) else none
def eTup (es : MEs) : ME := fun ρ => bnd (es ρ) fun ds => lft (mkT ds)
def eLst (es : MEs) : ME := fun ρ => bnd (es ρ) fun ds => lft (mkL ds)
/-- a < b < c -/
def eChain (f g : D → D → Option D) (a b c : ME) : ME := fun ρ => bnd (a ρ) fun x => bnd (b ρ) fun y => bnd (lft (f x y)) fun t => bnd (toB t) fun k =>
  if k = true then bnd (c ρ) fun z => lft (g y z) else ret (.bool false)

def opAdd : D → D → Option D
  | .int i, .int j => some (.int (i + j))
  | .tuple xs, .tuple ys => if xs.length + ys.length ≤ LIM then some (.tuple (xs ++ ys)) else none
  | .list xs, .list ys => if xs.length + ys.length ≤ LIM then some (.list (xs ++ ys)) else none
  | _, _ => none
/-- lists alone: the answer is a new one -/
def opCat : D → D → Option D
  | .list xs, .list ys => if xs.length + ys.length ≤ LIM then some (.list (xs ++ ys)) else none
  | _, _ => none
def opSub : D → D → Option D
  | .int i, .int j => some (.int (i - j))
  | _, _ => none
/-- a list, a tuple so many times -/
def reps (xs : List D) (k : Int) : List D := (List.replicate k.toNat xs).flatten
def opMul : D → D → Option D
  | .int i, .int j => if i.natAbs < 18446744073709551616 ∨ j.natAbs < 18446744073709551616 then some (.int (i * j)) else none
  | .tuple xs, .int k => if 1 ≤ k ∧ k ≤ 1000 ∧ xs.length ≤ 1000 ∧ xs ≠ [] then some (.tuple (reps xs k)) else none
  | .list xs, .int k => if -1000 ≤ k ∧ k ≤ 1000 ∧ xs.length ≤ 1000 then some (.list (reps xs k)) else none
  | _, _ => none
/-- lists alone -/
def opRep : D → D → Option D
  | .list xs, .int k => if -1000 ≤ k ∧ k ≤ 1000 ∧ xs.length ≤ 1000 then some (.list (reps xs k)) else none
  | _, _ => none
def opFdiv : D → D → Option D
  | .int i, .int j => if 0 < j ∧ j.natAbs.log2 < 8000 then some (.int (i / j)) else none
  | _, _ => none
def opMod : D → D → Option D
  | .int i, .int j => if 0 < j then some (.int (i % j)) else none
  | _, _ => none
def opPow : D → D → Option D
  | .int i, .int j => if 0 ≤ j ∧ j ≤ 1000000 ∧ i.natAbs < 18446744073709551616 then some (.int (i ^ j.toNat)) else none
  | _, _ => none
def opShl : D → D → Option D
  | .int i, .int j => if 0 ≤ j ∧ j ≤ 1000000 ∧ i.natAbs < 18446744073709551616 then some (.int (i * 2 ^ j.toNat)) else none
  | _, _ => none
def opShr : D → D → Option D
  | .int i, .int j => if 0 ≤ j then some (.int (i / 2 ^ j.toNat)) else none
  | _, _ => none
def opBand : D → D → Option D
  | .int i, .int j => some (.int (Builtin.bitAnd i j))
  | _, _ => none
def opBor : D → D → Option D
  | .int i, .int j => some (.int (Builtin.bitOr i j))
  | _, _ => none
def opNeg : D → Option D
  | .int i => some (.int (-i))
  | _ => none
def opEq (x y : D) : Option D := if SeqAt.shaped x = true ∧ SeqAt.shaped y = true then some (.bool (PyData.eqv x y)) else none
def opNe (x y : D) : Option D := if SeqAt.shaped x = true ∧ SeqAt.shaped y = true then some (.bool (!PyData.eqv x y)) else none
def opLt : D → D → Option D
  | .int i, .int j => some (.bool (decide (i < j)))
  | .tuple xs, .tuple ys => if SeqAt.shaped (.tuple xs) = true ∧ SeqAt.shaped (.tuple ys) = true ∧ PySem.W.alike (.tuple xs) (.tuple ys) = true then some (.bool (PySem.W.dataLt (.tuple xs) (.tuple ys))) else none
  | _, _ => none
def opLe : D → D → Option D
  | .int i, .int j => some (.bool (decide (i ≤ j)))
  | _, _ => none
def opGt : D → D → Option D
  | .int i, .int j => some (.bool (decide (j < i)))
  | _, _ => none
def opGe : D → D → Option D
  | .int i, .int j => some (.bool (decide (j ≤ i)))
  | _, _ => none
def opIn : D → D → Option D
  | x, .list ys => if SeqAt.shaped x = true ∧ SeqAt.shaped (.list ys) = true then some (.bool (ys.any fun z => PyData.eqv z x)) else none
  | x, .tuple ys => if SeqAt.shaped x = true ∧ SeqAt.shaped (.tuple ys) = true then some (.bool (ys.any fun z => PyData.eqv z x)) else none
  | _, _ => none
def opNotIn : D → D → Option D
  | x, .list ys => if SeqAt.shaped x = true ∧ SeqAt.shaped (.list ys) = true then some (.bool (!ys.any fun z => PyData.eqv z x)) else none
  | x, .tuple ys => if SeqAt.shaped x = true ∧ SeqAt.shaped (.tuple ys) = true then some (.bool (!ys.any fun z => PyData.eqv z x)) else none
  | _, _ => none
/-- x is None, True, False (the right side written) -/
def opIs (c : Option Bool) : D → Option D
  | .none => some (.bool (decide (c = none)))
  | .bool b => some (.bool (decide (c = some b)))
  | _ => some (.bool false)
def opIsNot (c : Option Bool) : D → Option D
  | .none => some (.bool (!decide (c = none)))
  | .bool b => some (.bool (!decide (c = some b)))
  | _ => some (.bool true)
/-- an index of any sign -/
def opIdx : D → D → Option D
  | .list xs, .int i => L2.atI xs i
  | .tuple xs, .int i => L2.atI xs i
  | _, _ => none
def partI : Option D → Option (Option Int)
  | none => some none
  | some (.int i) => some (some i)
  | _ => none
def cutD (xs : List D) (lo hi : Option Int) : List D := (xs.drop (HT.sIx xs.length 0 lo)).take (HT.sIx xs.length xs.length hi - HT.sIx xs.length 0 lo)

/-- a slice's part -/
abbrev MP := E → M (Option Int)
def pNo : MP := fun _ => ret none
def toI : D → Option (Option Int)
  | .int i => some (some i)
  | _ => none
def pSo (a : ME) : MP := fun ρ => bnd (a ρ) fun x => lft (toI x)
def opCut (lo hi : Option Int) : D → Option D
  | .list xs => some (.list (cutD xs lo hi))
  | .tuple xs => some (.tuple (cutD xs lo hi))
  | _ => none
def opCutL (lo hi : Option Int) : D → Option D
  | .list xs => some (.list (cutD xs lo hi))
  | _ => none
def eSl (f : Option Int → Option Int → D → Option D) (a : ME) (lo hi : MP) : ME := fun ρ => bnd (a ρ) fun x => bnd (lo ρ) fun l => bnd (hi ρ) fun u => lft (f l u x)
def opRev : D → Option D
  | .list xs => some (.list xs.reverse)
  | .tuple xs => some (.tuple xs.reverse)
  | _ => none

def intsOf : List D → Option (List Int)
  | [] => some []
  | .int i :: r => (intsOf r).map (i :: ·)
  | _ :: _ => none
def boolsOf : List D → Option (List Bool)
  | [] => some []
  | .bool b :: r => (boolsOf r).map (b :: ·)
  | _ :: _ => none
theorem intsOf_map (ns : List Int) : intsOf (ns.map PyData.int) = some ns := by
  induction ns with
  | nil => rfl
  | cons n r ih => simp [intsOf, ih]
theorem boolsOf_map (ns : List Bool) : boolsOf (ns.map PyData.bool) = some ns := by
  induction ns with
  | nil => rfl
  | cons n r ih => simp [boolsOf, ih]
theorem intsOf_eq : ∀ {ds : List D} {ns : List Int}, intsOf ds = some ns → ds = ns.map PyData.int
  | [], _, h => by cases h; rfl
  | d :: r, ns, h => by
    cases d with
    | int i =>
      obtain ⟨ms, e, rfl⟩ := Option.map_eq_some_iff.mp (show (intsOf r).map (i :: ·) = some ns from h)
      rw [intsOf_eq e]; rfl
    | none => cases h
    | bool _ => cases h
    | str _ => cases h
    | list _ => cases h
    | tuple _ => cases h
    | dict _ => cases h
theorem boolsOf_eq : ∀ {ds : List D} {ns : List Bool}, boolsOf ds = some ns → ds = ns.map PyData.bool
  | [], _, h => by cases h; rfl
  | d :: r, ns, h => by
    cases d with
    | bool i =>
      obtain ⟨ms, e, rfl⟩ := Option.map_eq_some_iff.mp (show (boolsOf r).map (i :: ·) = some ns from h)
      rw [boolsOf_eq e]; rfl
    | none => cases h
    | int _ => cases h
    | str _ => cases h
    | list _ => cases h
    | tuple _ => cases h
    | dict _ => cases h
def fInt : D → Option D
  | .int i => some (.int i)
  | .bool b => some (.int (if b = true then 1 else 0))
  | _ => none
def fAbs : D → Option D
  | .int i => some (.int (if i < 0 then -i else i))
  | _ => none
def fLen : D → Option D
  | .list xs => some (.int xs.length)
  | .tuple xs => some (.int xs.length)
  | _ => none
def fList : D → Option D
  | .list xs => some (.list xs)
  | .tuple xs => some (.list xs)
  | _ => none
def fTuple : D → Option D
  | .list xs => some (.tuple xs)
  | .tuple xs => some (.tuple xs)
  | _ => none
def fSum : D → Option D
  | .list xs => (intsOf xs).map fun ns => .int ns.sum
  | .tuple xs => (intsOf xs).map fun ns => .int ns.sum
  | _ => none
def fAll : D → Option D
  | .list xs => (boolsOf xs).map fun bs => .bool (bs.all id)
  | _ => none
def fAny : D → Option D
  | .list xs => (boolsOf xs).map fun bs => .bool (bs.any id)
  | _ => none
def maxI : List Int → Option Int
  | [] => none
  | n :: r => some (r.foldl (fun a b => if a < b then b else a) n)
def minI : List Int → Option Int
  | [] => none
  | n :: r => some (r.foldl (fun a b => if b < a then b else a) n)
def fMax : D → Option D
  | .list xs => ((intsOf xs).bind maxI).map PyData.int
  | _ => none
def fMin : D → Option D
  | .list xs => ((intsOf xs).bind minI).map PyData.int
  | _ => none
def fMax2 : D → D → Option D
  | .int i, .int j => some (.int (if j > i then j else i))
  | _, _ => none
def fMin2 : D → D → Option D
  | .int i, .int j => some (.int (if j < i then j else i))
  | _, _ => none
/-- what may be sorted: data alike, none of them None -/
def sortOk (ds : List D) : Bool := (ds.all fun d => ds.all fun e => PySem.W.alike d e) && ((ds.all fun d => match d with | .tuple (_ :: _) => true | _ => false) || ds.all fun d => match d with | .none => false | .tuple _ => false | _ => true) &&
  decide (ds.length ≤ LIM) && ds.all fun d => SeqAt.shaped d
def sortD (ds : List D) : List D := ds.mergeSort (PySem.W.dataLe false id)
def fSorted : D → Option D
  | .list xs => if sortOk xs = true then some (.list (sortD xs)) else none
  | .tuple xs => if sortOk xs = true then some (.list (sortD xs)) else none
  | _ => none

inductive Tg where
  | nm (i : Nat)
  | tp (ts : List Tg)
mutual
def Tg.put : Tg → D → E → Option E
  | .nm i, d, ρ => some (ρ.set i (.sh d))
  | .tp ts, .tuple ds, ρ => Tg.puts ts ds ρ
  | .tp _, _, _ => none
def Tg.puts : List Tg → List D → E → Option E
  | [], [], ρ => some ρ
  | t :: ts, d :: ds, ρ => (Tg.put t d ρ).bind fun ρ' => Tg.puts ts ds ρ'
  | _, _, _ => none
end
mutual
def Tg.ix : Tg → List Nat
  | .nm i => [i]
  | .tp ts => Tg.ixs ts
def Tg.ixs : List Tg → List Nat
  | [] => []
  | t :: ts => Tg.ix t ++ Tg.ixs ts
end
abbrev MI := E → M (List D)
def seqOf : D → Option (List D)
  | .list ds => some ds
  | .tuple ds => some ds
  | _ => none
def iSeq (a : ME) : MI := fun ρ => bnd (a ρ) fun d => lft (seqOf d)
/-- lo, lo + 1, .. -/
def upTo (lo : Int) (n : Nat) : List D := (List.range n).map fun k : Nat => .int (lo + (k : Int))
def rng1 : List D → Option (List D)
  | [.int n] => if n ≤ 16777216 ∧ -16777216 ≤ n then some (upTo 0 n.toNat) else none
  | _ => none
def rng2 : List D → Option (List D)
  | [.int a, .int b] => if (-16777216 ≤ a ∧ a ≤ 16777216) ∧ -16777216 ≤ b ∧ b ≤ 16777216 then some (upTo a (b - a).toNat) else none
  | _ => none
def iRng (f : List D → Option (List D)) (es : MEs) : MI := fun ρ => bnd (es ρ) fun ds => lft (f ds)
def wipeE (ρ : E) : List Nat → E
  | [] => ρ
  | v :: vs => (wipeE ρ vs).set v .no
def cYes : E → M Bool := fun _ => ret true
/-- no error leaves -/
def ne {α : Type} (m : M α) : M α := fun c => match m c with
  | .ok a c' => .ok a c'
  | _ => .no
theorem ne_ret {α : Type} (a : α) : ne (ret a) = ret a := rfl
/-- a comprehension's turns: the item at the target, the test, the element -/
def loopC (tg : Tg) (tc : E → M Bool) (te : ME) (ρ : E) : List D → M (List D)
  | [] => ret []
  | d :: r => bnd (lft (tg.put d ρ)) fun ρ2 => bnd (ne (tc ρ2)) fun b =>
    if b = true then bnd (ne (te ρ2)) fun v => bnd (loopC tg tc te ρ r) fun vs => ret (v :: vs) else loopC tg tc te ρ r
def okLen (ds : List D) : Option (List D) := if ds.length ≤ LIM then some ds else none
def eComp (own : List Nat) (mi : MI) (tg : Tg) (tc : E → M Bool) (te : ME) : ME := fun ρ => bnd (mi ρ) fun ds => bnd (loopC tg tc te (wipeE ρ own) ds) fun vs => bnd (lft (okLen vs)) fun vs => ret (.list vs)

def tst (m : ME) : E → M Bool := fun ρ => bnd (m ρ) toB
def sNil : MS := fun ρ => ret (.nx ρ)
def andThen (b : MS) : Fl → M Fl
  | .nx ρ => b ρ
  | .rt d => ret (.rt d)
def sSeq (a b : MS) : MS := fun ρ => bnd (a ρ) (andThen b)
def sRet (e : ME) : MS := fun ρ => bnd (e ρ) fun d => ret (.rt d)
def sRetN : MS := fun _ => ret (.rt .none)
def sIf (c : E → M Bool) (a b : MS) : MS := fun ρ => bnd (c ρ) fun k => if k = true then a ρ else b ρ
def sExpr (e : ME) : MS := fun ρ => bnd (e ρ) fun _ => ret (.nx ρ)
def sAsg (t : Tg) (e : ME) : MS := fun ρ => bnd (e ρ) fun d => bnd (lft (t.put d ρ)) fun ρ' => ret (.nx ρ')
def listsOf : List D → Option (List (List D))
  | [] => some []
  | .list ds :: r => (listsOf r).map (ds :: ·)
  | _ :: _ => none
/-- what a name holds behind a store: by how the value is held -/
inductive Kn where
  | val | frs | ffl | frd
def slotOf : Kn → D → Option Slot
  | .val, d => some (.sh d)
  | .frs, .list ds => some (.ol ds)
  | .ffl, .list ds => (listsOf ds).map .oll
  | .frd, .dict ds => some (.od ds)
  | _, _ => none
def sSet (k : Kn) (i : Nat) (e : ME) : MS := fun ρ => bnd (e ρ) fun d => bnd (lft (slotOf k d)) fun s => ret (.nx (ρ.set i s))
/-- several values, each as it is held -/
abbrev MK := E → M (List Slot)
def kNil : MK := fun _ => ret []
def kCons (k : Kn) (e : ME) (r : MK) : MK := fun ρ => bnd (e ρ) fun d => bnd (lft (slotOf k d)) fun s => bnd (r ρ) fun ss => ret (s :: ss)
def kCup (i : Nat) (r : MK) : MK := fun ρ => match Slot.at ρ i with
  | .cup => bnd (r ρ) fun ss => ret (.cup :: ss)
  | _ => stuck
def setAll : List Nat → List Slot → E → Option E
  | [], [], ρ => some ρ
  | i :: is, s :: ss, ρ => setAll is ss (ρ.set i s)
  | _, _, _ => none
def sPar (is : List Nat) (es : MK) : MS := fun ρ => bnd (es ρ) fun ss => bnd (lft (setAll is ss ρ)) fun ρ' => ret (.nx ρ')
def loopS (t : Tg) (b : MS) : List D → MS
  | [] => fun ρ => ret (.nx ρ)
  | d :: r => fun ρ => bnd (lft (t.put d ρ)) fun ρ1 => bnd (b ρ1) (andThen (loopS t b r))
def sFor (mi : MI) (t : Tg) (b : MS) : MS := fun ρ => bnd (mi ρ) fun ds => loopS t b ds ρ
def sWhile (c : E → M Bool) (b : MS) : Nat → MS
  | 0 => fun _ => stuck
  | n + 1 => fun ρ => bnd (c ρ) fun k => if k = true then bnd (b ρ) (andThen (sWhile c b n)) else ret (.nx ρ)
/-- an own name's object becomes data -/
def frzS : Slot → Slot
  | .ol ds => .sh (.list ds)
  | .oll dss => .sh (.list (dss.map PyData.list))
  | .od ds => .sh (.dict ds)
  | s => s
def frz (i : Nat) (ρ : E) : E := ρ.set i (frzS (Slot.at ρ i))
def sFrz (i : Nat) (b : MS) : MS := fun ρ => b (frz i ρ)
/-- an own name is moved to another -/
def sMove (i j : Nat) : MS := fun ρ => ret (.nx ((ρ.set i (Slot.at ρ j)).set j .no))
/-- a def by its body: n parameters, k more names -/
def body (b : MS) (ρ : E) : M D := bnd (b ρ) fun fl => match fl with
  | .rt d => ret d
  | .nx _ => ret .none
def fn (n k : Nat) (b : MS) : List Slot → M D := fun ss => if ss.length = n then body b (ss ++ List.replicate k .no) else stuck
def eCall (f : List Slot → M D) (es : MK) : ME := fun ρ => bnd (es ρ) f
end PV

namespace PV
open PySem PySem.Spec PyProof.Rows L2

def kD : Key → D
  | .inl i => .int i
  | .inr x => .str x
/-- a dict's keys as data -/
def DicO (o : HO) (kvs : List (D × V)) : Prop :=
  (∃ l : List (Key × V), o = .dK l ∧ kvs = l.map fun p => (kD p.1, p.2)) ∨
  (∃ l : List (List Key × V), o = .dT l ∧ kvs = l.map fun p => (.tuple (p.1.map kD), p.2))
mutual
inductive Rp (K : PySem.W.Frag) (H : Hp) (Z : Addr → Prop) : V → D → Prop
  | non : Rp K H Z .non .none
  | bl (b : Bool) : Rp K H Z (.bl b) (.bool b)
  | int (i : Int) : Rp K H Z (.int i) (.int i)
  | str (x : Str) : Rp K H Z (.str x) (.str x)
  | lst {a : Addr} {xs : List V} {ds : List D} : Z a → H a = some (.lst xs) → RpA K H Z xs ds → Rp K H Z (.ref a) (.list ds)
  | tup {a : Addr} {xs : List V} {ds : List D} : SqT K H a xs → RpA K H Z xs ds → Rp K H Z (.ref a) (.tuple ds)
  | dct {a : Addr} {o : HO} {kvs : List (D × V)} {ds : List (D × D)} : Z a → H a = some o → DicO o kvs → RpK K H Z kvs ds → Rp K H Z (.ref a) (.dict ds)
inductive RpA (K : PySem.W.Frag) (H : Hp) (Z : Addr → Prop) : List V → List D → Prop
  | nil : RpA K H Z [] []
  | cons {x : V} {xs : List V} {d : D} {ds : List D} : Rp K H Z x d → RpA K H Z xs ds → RpA K H Z (x :: xs) (d :: ds)
inductive RpK (K : PySem.W.Frag) (H : Hp) (Z : Addr → Prop) : List (D × V) → List (D × D) → Prop
  | nil : RpK K H Z [] []
  | cons {k : D} {x : V} {xs : List (D × V)} {d : D} {ds : List (D × D)} : Rp K H Z x d → RpK K H Z xs ds → RpK K H Z ((k, x) :: xs) ((k, d) :: ds)
end
/-- from (Z, H) to (Z', H') all that is read stands -/
structure Stay (Z Z' : Addr → Prop) (H H' : Hp) : Prop where
  z : ∀ a, Z a → Z' a
  s : ∀ a o, H a = some o → Z a → H' a = some o
  t : ∀ a xs, H a = some (.tup xs) → H' a = some (.tup xs)
  f : ∀ a o u, H a = some (.frz o u) → H' a = some (.frz o u)
section
variable {K : PySem.W.Frag} {H H' : Hp} {Z Z' : Addr → Prop}
theorem Stay.tp (y : Stay Z Z' H H') {a : Addr} {xs : List V} (h : SqT K H a xs) : SqT K H' a xs := by
  rcases h with (h | ⟨o, h⟩) | h
  · exact .inl (.inl (y.t _ _ h))
  · exact .inl (.inr ⟨o, y.f _ _ _ h⟩)
  · exact .inr h
mutual
theorem Rp.stay (y : Stay Z Z' H H') : ∀ {x : V} {d : D}, Rp K H Z x d → Rp K H' Z' x d
  | _, _, .non => .non
  | _, _, .bl b => .bl b
  | _, _, .int i => .int i
  | _, _, .str x => .str x
  | _, _, .lst z h r => .lst (y.z _ z) (y.s _ _ h z) (RpA.stay y r)
  | _, _, .tup h r => .tup (y.tp h) (RpA.stay y r)
  | _, _, .dct z h q r => .dct (y.z _ z) (y.s _ _ h z) q (RpK.stay y r)
theorem RpA.stay (y : Stay Z Z' H H') : ∀ {xs : List V} {ds : List D}, RpA K H Z xs ds → RpA K H' Z' xs ds
  | _, _, .nil => .nil
  | _, _, .cons h r => .cons (Rp.stay y h) (RpA.stay y r)
theorem RpK.stay (y : Stay Z Z' H H') : ∀ {xs : List (D × V)} {ds : List (D × D)}, RpK K H Z xs ds → RpK K H' Z' xs ds
  | _, _, .nil => .nil
  | _, _, .cons h r => .cons (Rp.stay y h) (RpK.stay y r)
end
theorem RpA.length : ∀ {xs : List V} {ds : List D}, RpA K H Z xs ds → xs.length = ds.length
  | _, _, .nil => rfl
  | _, _, .cons _ r => congrArg (· + 1) (RpA.length r)
theorem RpA.append : ∀ {xs ys : List V} {ds es : List D}, RpA K H Z xs ds → RpA K H Z ys es → RpA K H Z (xs ++ ys) (ds ++ es)
  | _, _, _, _, .nil, s => s
  | _, _, _, _, .cons h r, s => .cons h (RpA.append r s)
theorem RpA.get : ∀ {xs : List V} {ds : List D} {i : Nat} {d : D}, RpA K H Z xs ds → ds[i]? = some d → ∃ x, xs[i]? = some x ∧ Rp K H Z x d
  | _, _, _, _, .nil, e => by simp at e
  | _, _, 0, _, .cons h _, e => by simp at e; subst e; exact ⟨_, rfl, h⟩
  | _, _, i + 1, d, .cons _ r, e => by
    obtain ⟨x, h1, h2⟩ := RpA.get (i := i) (d := d) r (by simpa using e)
    exact ⟨x, by simpa using h1, h2⟩
theorem RpA.getV : ∀ {xs : List V} {ds : List D} {i : Nat} {x : V}, RpA K H Z xs ds → xs[i]? = some x → ∃ d, ds[i]? = some d ∧ Rp K H Z x d
  | _, _, _, _, .nil, e => by simp at e
  | _, _, 0, _, .cons h _, e => by simp at e; subst e; exact ⟨_, rfl, h⟩
  | _, _, i + 1, x, .cons _ r, e => by
    obtain ⟨d, h1, h2⟩ := RpA.getV (i := i) (x := x) r (by simpa using e)
    exact ⟨d, by simpa using h1, h2⟩
theorem RpA.set : ∀ {xs : List V} {ds : List D} (i : Nat) {x : V} {d : D}, Rp K H Z x d → RpA K H Z xs ds → RpA K H Z (xs.set i x) (ds.set i d)
  | _, _, _, _, _, _, .nil => .nil
  | _, _, 0, _, _, h, .cons _ r => .cons h r
  | _, _, i + 1, _, _, h, .cons g r => .cons g (RpA.set i h r)
theorem RpA.take : ∀ {xs : List V} {ds : List D} (n : Nat), RpA K H Z xs ds → RpA K H Z (xs.take n) (ds.take n)
  | _, _, 0, _ => by simpa using .nil
  | _, _, _ + 1, .nil => .nil
  | _, _, n + 1, .cons h r => .cons h (RpA.take n r)
theorem RpA.drop : ∀ {xs : List V} {ds : List D} (n : Nat), RpA K H Z xs ds → RpA K H Z (xs.drop n) (ds.drop n)
  | _, _, 0, r => r
  | _, _, _ + 1, .nil => .nil
  | _, _, n + 1, .cons _ r => RpA.drop n r
theorem RpA.reverse : ∀ {xs : List V} {ds : List D}, RpA K H Z xs ds → RpA K H Z xs.reverse ds.reverse
  | _, _, .nil => .nil
  | _, _, .cons h r => by
    rw [List.reverse_cons, List.reverse_cons]
    exact (RpA.reverse r).append (.cons h .nil)
theorem RpA.ints : ∀ (ns : List Int), RpA K H Z (ns.map V.int) (ns.map PyData.int)
  | [] => .nil
  | n :: r => .cons (.int n) (RpA.ints r)
mutual
theorem Rp.dp : ∀ {x : V} {d : D}, Rp K H Z x d → d.canLay0 = true → Dp K H x d
  | _, _, .non, _ => .non
  | _, _, .bl b, _ => .bl b
  | _, _, .int i, _ => .int i
  | _, _, .str x, _ => .str x
  | _, _, .lst z h r, c => .lst (.inl (.inl h)) (RpA.dp r (by simpa [PyData.canLay0] using c))
  | _, _, .tup h r, c => .tup h (RpA.dp r (by simpa [PyData.canLay0] using c))
  | _, _, .dct _ _ _ _, c => by simp [PyData.canLay0] at c
theorem RpA.dp : ∀ {xs : List V} {ds : List D}, RpA K H Z xs ds → PyData.canLayAll0 ds = true → DpAll K H xs ds
  | _, _, .nil, _ => .nil
  | _, _, .cons h r, c => by
    rw [PyData.canLayAll0, Bool.and_eq_true] at c
    exact .cons (Rp.dp h c.1) (RpA.dp r c.2)
end
end

/-- own lists, each at its place -/
inductive RpL (K : PySem.W.Frag) (H : Hp) (Z : Addr → Prop) : List Addr → List (List D) → Prop
  | nil : RpL K H Z [] []
  | cons {b : Addr} {bs : List Addr} {xs : List V} {ds : List D} {r : List (List D)} : H b = some (.lst xs) → RpA K H Z xs ds → RpL K H Z bs r → RpL K H Z (b :: bs) (ds :: r)
def ScrR (K : PySem.W.Frag) (H : Hp) (B : Addr → Prop) (a : Addr) (xs : List V) : Prop :=
  (B a ∧ Rd H a (.lst xs)) ∨ ∃ (o : Obj) (its : Array Value) (n : Nat), K.lookup a = some o ∧ o.cls = .type "list" ∧ o.dict = none ∧ o.data = .seq its n ∧ its.size ≤ sizeLine ∧ Vals xs its.toList
theorem ScrR.sq {K : PySem.W.Frag} {H : Hp} {B : Addr → Prop} {a : Addr} {xs : List V} (h : ScrR K H B a xs) : SqL K H a xs := h.elim (fun q => .inl q.2) .inr
inductive SlR (K : PySem.W.Frag) (H : Hp) (Z B : Addr → Prop) (κ : Option Addr) : Option V → Slot → List Addr → Prop
  | no {v : Option V} : SlR K H Z B κ v .no []
  | sh {x : V} {d : D} : Rp K H Z x d → SlR K H Z B κ (some x) (.sh d) []
  | cup {a : Addr} : κ = some a → SlR K H Z B κ (some (.ref a)) .cup []
  | bl {a : Addr} {xs : List V} {ds : List D} : B a → H a = some (.lst xs) → RpA K H Z xs ds → SlR K H Z B κ (some (.ref a)) (.bl ds) []
  | scr {a : Addr} {ns : List Int} : ScrR K H B a (ns.map V.int) → SlR K H Z B κ (some (.ref a)) (.scr ns) []
  | bd {a : Addr} {o : HO} {kvs : List (D × V)} {ds : List (D × D)} : B a → H a = some o → DicO o kvs → RpK K H Z kvs ds → SlR K H Z B κ (some (.ref a)) (.bd ds) []
  | ol {a : Addr} {xs : List V} {ds : List D} : H a = some (.lst xs) → RpA K H Z xs ds → SlR K H Z B κ (some (.ref a)) (.ol ds) [a]
  | oll {a : Addr} {bs : List Addr} {dss : List (List D)} : H a = some (.lst (bs.map V.ref)) → RpL K H Z bs dss → SlR K H Z B κ (some (.ref a)) (.oll dss) (a :: bs)
  | od {a : Addr} {o : HO} {kvs : List (D × V)} {ds : List (D × D)} : H a = some o → DicO o kvs → RpK K H Z kvs ds → SlR K H Z B κ (some (.ref a)) (.od ds) [a]
def CupR (κ : Option Addr) (H : Hp) (c : Cup) : Prop := match κ with
  | none => c = none
  | some a => ∃ i j, c = some (i, j) ∧ H a = some (.lst [.int i, .int j])
/-- the ghost: what stays and may be handed on, what stays but may not, the cup, the own places by the slot -/
structure Gh where
  Z : Addr → Prop
  B : Addr → Prop
  κ : Option Addr
  o : Nat → List Addr
structure SR (K : PySem.W.Frag) (g : Gh) (H : Hp) (σ : L2.St) (ρ : E) (c : Cup) : Prop where
  len : σ.length = ρ.length
  sl : ∀ i, SlR K H g.Z g.B g.κ (σ.getD i none) (Slot.at ρ i) (g.o i)
  nd : ∀ i, (g.o i).Nodup
  dj : ∀ i j a, a ∈ g.o i → a ∈ g.o j → i = j
  fr : ∀ i a, a ∈ g.o i → ¬ g.Z a ∧ ¬ g.B a ∧ g.κ ≠ some a
  cup : CupR g.κ H c
  kz : ∀ a, g.κ = some a → ¬ g.Z a ∧ ¬ g.B a
  zh : ∀ a, g.Z a ∨ g.B a → H a ≠ none
def Gh.z (g : Gh) (Z' : Addr → Prop) : Gh := { g with Z := Z' }

/-- behind an expression: all that was tracked stands, but the cup -/
structure Nxt (κ : Option Addr) (Z : Addr → Prop) (H : Hp) (c' : Cup) (Z' : Addr → Prop) (H' : Hp) : Prop where
  keep : ∀ a o, H a = some o → κ ≠ some a → H' a = some o
  cup : CupR κ H' c'
  z : ∀ a, Z a → Z' a
  zn : ∀ a, Z' a → Z a ∨ H a = none
  zh : ∀ a, Z' a → H' a ≠ none
section
variable {K : PySem.W.Frag} {κ : Option Addr} {H H1 H2 : Hp} {c c1 c2 : Cup} {Z Z1 Z2 B : Addr → Prop} {σ : L2.St} {ρ : E} {g : Gh}
theorem CupR.at {a : Addr} (k : κ = some a) (h : CupR κ H c) : ∃ xs, H a = some (.lst xs) := by
  subst k
  obtain ⟨i, j, _, e⟩ := h
  exact ⟨_, e⟩
theorem Nxt.refl (h : CupR κ H c) (zh : ∀ a, Z a → H a ≠ none) : Nxt κ Z H c Z H := ⟨fun _ _ e _ => e, h, fun _ z => z, fun _ z => .inl z, zh⟩
theorem Nxt.trans (a : Nxt κ Z H c1 Z1 H1) (b : Nxt κ Z1 H1 c2 Z2 H2) (kt : ∀ a, κ = some a → H a ≠ none) : Nxt κ Z H c2 Z2 H2 where
  keep := fun p o e n => b.keep p o (a.keep p o e n) n
  cup := b.cup
  z := fun p z => b.z p (a.z p z)
  zn := fun p z => by
    rcases b.zn p z with q | q
    · exact a.zn p q
    · right
      cases e : H p with
      | none => rfl
      | some o =>
        exfalso
        by_cases k : κ = some p
        · obtain ⟨xs, e2⟩ := a.cup.at k
          rw [q] at e2; cases e2
        · rw [a.keep p o e k] at q; cases q
  zh := b.zh
theorem Nxt.stay (n : Nxt κ Z H c1 Z1 H1) (cu : CupR κ H c) (kz : ∀ a, κ = some a → ¬ Z a) : Stay Z Z1 H H1 where
  z := n.z
  s := fun a o e z => n.keep a o e fun k => kz a k z
  t := fun a xs e => n.keep a _ e fun k => by
    obtain ⟨ys, q⟩ := cu.at k
    rw [e] at q; cases q
  f := fun a o u e => n.keep a _ e fun k => by
    obtain ⟨ys, q⟩ := cu.at k
    rw [e] at q; cases q
theorem RpL.stay {H' : Hp} {Z' : Addr → Prop} (y : Stay Z Z' H H') : ∀ {bs : List Addr} {r : List (List D)}, (∀ b ∈ bs, ∀ o, H b = some o → H' b = some o) → RpL K H Z bs r → RpL K H' Z' bs r
  | _, _, _, .nil => .nil
  | _, _, h, .cons e q r => .cons (h _ List.mem_cons_self _ e) (q.stay y) (RpL.stay y (fun b hb => h b (List.mem_cons_of_mem _ hb)) r)
theorem SlR.stay {H' : Hp} {Z' : Addr → Prop} {v : Option V} {s : Slot} {o : List Addr} (y : Stay Z Z' H H') (b : ∀ a u, H a = some u → B a → H' a = some u) (w : ∀ a ∈ o, ∀ u, H a = some u → H' a = some u)
    (h : SlR K H Z B κ v s o) : SlR K H' Z' B κ v s o := by
  cases h with
  | no => exact .no
  | sh r => exact .sh (r.stay y)
  | cup k => exact .cup k
  | bl hb e r => exact .bl hb (b _ _ e hb) (r.stay y)
  | scr hs =>
    refine .scr ?_
    rcases hs with ⟨hb, q | ⟨u, q⟩⟩ | q
    · exact .inl ⟨hb, .inl (b _ _ q hb)⟩
    · exact .inl ⟨hb, .inr ⟨u, b _ _ q hb⟩⟩
    · exact .inr q
  | bd hb e q r => exact .bd hb (b _ _ e hb) q (r.stay y)
  | ol e r => exact .ol (w _ List.mem_cons_self _ e) (r.stay y)
  | oll e r => exact .oll (w _ List.mem_cons_self _ e) (r.stay y fun p hp => w p (List.mem_cons_of_mem _ hp))
  | od e q r => exact .od (w _ List.mem_cons_self _ e) q (r.stay y)
theorem SR.kt (s : SR K g H σ ρ c) : ∀ a, g.κ = some a → H a ≠ none := fun a k q => by
  obtain ⟨xs, e⟩ := s.cup.at k
  rw [q] at e; cases e
theorem SR.stay (s : SR K g H σ ρ c) (n : Nxt g.κ g.Z H c1 Z1 H1) : Stay g.Z Z1 H H1 := n.stay s.cup fun a k => (s.kz a k).1
theorem SlR.there {v : Option V} {s : Slot} {o : List Addr} (h : SlR K H Z B κ v s o) : ∀ a ∈ o, H a ≠ none := by
  have L : ∀ {bs : List Addr} {r : List (List D)}, RpL K H Z bs r → ∀ b ∈ bs, H b ≠ none := by
    intro bs r q
    induction q with
    | nil => intro b hb; cases hb
    | cons e _ _ ih =>
      intro b hb z
      rcases List.mem_cons.mp hb with rfl | hb
      · rw [z] at e; cases e
      · exact ih b hb z
  cases h with
  | no => intro a ha; cases ha
  | sh _ => intro a ha; cases ha
  | cup _ => intro a ha; cases ha
  | bl _ _ _ => intro a ha; cases ha
  | scr _ => intro a ha; cases ha
  | bd _ _ _ _ => intro a ha; cases ha
  | ol e _ => intro a ha z; rcases List.mem_cons.mp ha with rfl | ha; rw [z] at e; cases e; cases ha
  | oll e q =>
    intro a ha z
    rcases List.mem_cons.mp ha with rfl | ha
    · rw [z] at e; cases e
    · exact L q a ha z
  | od e _ _ => intro a ha z; rcases List.mem_cons.mp ha with rfl | ha; rw [z] at e; cases e; cases ha
theorem SR.next (s : SR K g H σ ρ c) (n : Nxt g.κ g.Z H c1 Z1 H1) : SR K (g.z Z1) H1 σ ρ c1 where
  len := s.len
  sl := fun i => (s.sl i).stay (s.stay n) (fun a u e b => n.keep a u e fun k => (s.kz a k).2 b) fun a ha u e => n.keep a u e (s.fr i a ha).2.2
  nd := s.nd
  dj := s.dj
  fr := fun i a ha => ⟨fun z => by
    rcases n.zn a z with q | q
    · exact (s.fr i a ha).1 q
    · exact (s.sl i).there a ha q, (s.fr i a ha).2⟩
  cup := n.cup
  kz := fun a k => ⟨fun z => by
    rcases n.zn a z with q | q
    · exact (s.kz a k).1 q
    · exact s.kt a k q, (s.kz a k).2⟩
  zh := fun a z q => by
    rcases z with z | z
    · exact n.zh a z q
    · cases e : H a with
      | none => exact s.zh a (.inr z) e
      | some o => rw [n.keep a o e fun k => (s.kz a k).2 z] at q; cases q
theorem SR.rf (s : SR K g H σ ρ c) : Nxt g.κ g.Z H c g.Z H := .refl s.cup fun a z => s.zh a (.inl z)
end

/-- data that may be read here and now: also a list or dict that may not be handed on -/
inductive Rb (K : PySem.W.Frag) (H : Hp) (Z : Addr → Prop) (κ : Option Addr) : V → D → Prop
  | v {x : V} {d : D} : Rp K H Z x d → Rb K H Z κ x d
  | l {a : Addr} {xs : List V} {ds : List D} : κ ≠ some a → H a = some (.lst xs) → RpA K H Z xs ds → Rb K H Z κ (.ref a) (.list ds)
  | d {a : Addr} {o : HO} {kvs : List (D × V)} {ds : List (D × D)} : κ ≠ some a → H a = some o → DicO o kvs → RpK K H Z kvs ds → Rb K H Z κ (.ref a) (.dict ds)
/-- how a result is held: to be handed on; here and now; a new list (of data; of new lists); a new dict -/
inductive Fv where
  | val | bor | frs | ffl | frd
def Res (K : PySem.W.Frag) (k : Fv) (κ : Option Addr) (H : Hp) (Z' : Addr → Prop) (H' : Hp) (x : V) (d : D) : Prop := match k with
  | .val => Rp K H' Z' x d
  | .bor => Rb K H' Z' κ x d
  | .frs => ∃ p xs ds, x = .ref p ∧ d = .list ds ∧ H p = none ∧ ¬ Z' p ∧ H' p = some (.lst xs) ∧ RpA K H' Z' xs ds
  | .ffl => ∃ p bs dss, x = .ref p ∧ d = .list (dss.map PyData.list) ∧ H p = none ∧ ¬ Z' p ∧ H' p = some (.lst (bs.map V.ref)) ∧ RpL K H' Z' bs dss ∧ (p :: bs).Nodup ∧ ∀ b ∈ bs, H b = none ∧ ¬ Z' b
  | .frd => ∃ p o kvs ds, x = .ref p ∧ d = .dict ds ∧ H p = none ∧ ¬ Z' p ∧ H' p = some o ∧ DicO o kvs ∧ RpK K H' Z' kvs ds
/-- what is wished for a result: at the ghost g, the heap H. W: the wish of an error by its number -/
def Out (K : PySem.W.Frag) (k : Fv) (W : Nat → Hp → Prop) (g : Gh) (H : Hp) (r : R D) (Q : VK) : Prop := match r with
  | .ok d c' => ∀ x H' Z', Nxt g.κ g.Z H c' Z' H' → Res K k g.κ H Z' H' x d → Q x H'
  | .err e c' => ∀ H' Z', Nxt g.κ g.Z H c' Z' H' → W e H'
  | .no => False
def OutL (K : PySem.W.Frag) (W : Nat → Hp → Prop) (g : Gh) (H : Hp) (r : R (List D)) (Q : List V → Hp → Prop) : Prop := match r with
  | .ok ds c' => ∀ xs H' Z', Nxt g.κ g.Z H c' Z' H' → RpA K H' Z' xs ds → Q xs H'
  | .err e c' => ∀ H' Z', Nxt g.κ g.Z H c' Z' H' → W e H'
  | .no => False
/-- a value -/
def tM (K : PySem.W.Frag) (k : Fv) (W : Nat → Hp → Prop) (m : ME) : TE := fun σ H Q => ∃ g ρ c, SR K g H σ ρ c ∧ Out K k W g H (m ρ c) Q
/-- items -/
def tA (K : PySem.W.Frag) (W : Nat → Hp → Prop) (m : MEs) : TA := fun σ H Q => ∃ g ρ c, SR K g H σ ρ c ∧ OutL K W g H (m ρ c) Q
abbrev PM (X : Cx) (W : Nat → Hp → Prop) (k : Fv) (e : Expr) (m : ME) : Prop := PE X e (tM X.K k W m)
abbrev PMs (X : Cx) (W : Nat → Hp → Prop) (es : List Expr) (m : MEs) : Prop := PA X es (tA X.K W m)
theorem PE.imp {X : Cx} {e : Expr} {t t' : TE} (h : PE X e t) (i : ∀ σ H Q, t' σ H Q → t σ H Q) : PE X e t' := ⟨fun pins s σ H Q I q => h.run pins s σ H Q I (i σ H Q q)⟩
theorem PA.imp {X : Cx} {e : List Expr} {t t' : TA} (h : PA X e t) (i : ∀ σ H Q, t' σ H Q → t σ H Q) : PA X e t' := ⟨fun pos pins s σ H Q I q => h.run pos pins s σ H Q I (i σ H Q q)⟩
theorem PT.imp {X : Cx} {e : Expr} {t t' : TT} (h : PT X e t) (i : ∀ σ H Q, t' σ H Q → t σ H Q) : PT X e t' := ⟨fun pins s σ H Q I q => h.run pins s σ H Q I (i σ H Q q)⟩
section
variable {K : PySem.W.Frag} {k : Fv} {W : Nat → Hp → Prop} {g : Gh} {κ : Option Addr} {H H1 H2 : Hp} {c c1 c2 : Cup} {Z Z1 Z2 B : Addr → Prop} {σ : L2.St} {ρ : E} {x : V} {d : D}
theorem Rb.next (kt : ∀ a, κ = some a → H a ≠ none) (cu : CupR κ H c) (kz : ∀ a, κ = some a → ¬ Z a) (n : Nxt κ Z H c1 Z1 H1) (h : Rb K H Z κ x d) : Rb K H1 Z1 κ x d := by
  have y := n.stay cu kz
  cases h with
  | v r => exact .v (r.stay y)
  | l ne e r => exact .l ne (n.keep _ _ e ne) (r.stay y)
  | d ne e q r => exact .d ne (n.keep _ _ e ne) q (r.stay y)
/-- an own result is one that was made behind H as well -/
theorem Res.back {H0 : Hp} {Z0 : Addr → Prop} (n : Nxt κ Z0 H0 c1 Z H) (kt : ∀ a, κ = some a → H0 a ≠ none) {H' : Hp} {Z' : Addr → Prop} (h : Res K k κ H Z' H' x d) : Res K k κ H0 Z' H' x d := by
  have no : ∀ p, H p = none → κ = some p ∨ H0 p = none := fun p hp => by
    cases e : H0 p with
    | none => exact .inr rfl
    | some o =>
      by_cases q : κ = some p
      · exact .inl q
      · rw [n.keep p o e q] at hp; cases hp
  have no' : ∀ p, H p = none → H0 p = none := fun p hp => by
    rcases no p hp with q | q
    · obtain ⟨xs, e⟩ := n.cup.at q
      rw [hp] at e; cases e
    · exact q
  cases k with
  | val => exact h
  | bor => exact h
  | frs => obtain ⟨p, xs, ds, a, b, c, r⟩ := h; exact ⟨p, xs, ds, a, b, no' p c, r⟩
  | ffl => obtain ⟨p, bs, dss, a, b, c, z, e, q, nd, r⟩ := h; exact ⟨p, bs, dss, a, b, no' p c, z, e, q, nd, fun b hb => ⟨no' b (r b hb).1, (r b hb).2⟩⟩
  | frd => obtain ⟨p, o, kvs, ds, a, b, c, r⟩ := h; exact ⟨p, o, kvs, ds, a, b, no' p c, r⟩
theorem Out.at {r : R D} {Q : VK} (s : SR K g H σ ρ c) (n : Nxt g.κ g.Z H c1 Z1 H1) (h : Out K k W g H r Q) : Out K k W (g.z Z1) H1 r Q := by
  cases r with
  | ok d c' => exact fun x H' Z' n' p => h x H' Z' (n.trans n' s.kt) (Res.back n s.kt p)
  | err e c' => exact fun H' Z' n' => h H' Z' (n.trans n' s.kt)
  | no => exact h
theorem OutL.at {r : R (List D)} {Q : List V → Hp → Prop} (s : SR K g H σ ρ c) (n : Nxt g.κ g.Z H c1 Z1 H1) (h : OutL K W g H r Q) : OutL K W (g.z Z1) H1 r Q := by
  cases r with
  | ok d c' => exact fun x H' Z' n' p => h x H' Z' (n.trans n' s.kt) p
  | err e c' => exact fun H' Z' n' => h H' Z' (n.trans n' s.kt)
  | no => exact h
theorem Out.mono {r : R D} {Q Q' : VK} (h : Out K k W g H r Q) (i : ∀ x H', Q x H' → Q' x H') : Out K k W g H r Q' := by
  cases r with
  | ok d c' => exact fun x H' Z' n p => i _ _ (h x H' Z' n p)
  | err e c' => exact h
  | no => exact h
/-- the first of two steps -/
theorem Out.bnd {k' : Fv} {m : M D} {f : D → M D} {Q : VK} (s : SR K g H σ ρ c) (h : Out K k W g H (PV.bnd m f c) Q) :
    Out K k' W g H (m c) fun x H1 => ∃ Z1 d c1, Nxt g.κ g.Z H c1 Z1 H1 ∧ Res K k' g.κ H Z1 H1 x d ∧ m c = .ok d c1 ∧ Out K k W (g.z Z1) H1 (f d c1) Q := by
  rw [bnd_app] at h
  cases e : m c with
  | ok d c1 =>
    rw [e] at h
    exact fun x H1 Z1 n p => ⟨Z1, d, c1, n, p, rfl, Out.at s n h⟩
  | err e' c1 =>
    rw [e] at h
    exact h
  | no =>
    rw [e] at h
    exact h
theorem Out.bndL {m : M (List D)} {f : List D → M D} {Q : VK} (s : SR K g H σ ρ c) (h : Out K k W g H (PV.bnd m f c) Q) :
    OutL K W g H (m c) fun xs H1 => ∃ Z1 ds c1, Nxt g.κ g.Z H c1 Z1 H1 ∧ RpA K H1 Z1 xs ds ∧ m c = .ok ds c1 ∧ Out K k W (g.z Z1) H1 (f ds c1) Q := by
  rw [bnd_app] at h
  cases e : m c with
  | ok d c1 =>
    rw [e] at h
    exact fun x H1 Z1 n p => ⟨Z1, d, c1, n, p, rfl, Out.at s n h⟩
  | err e' c1 =>
    rw [e] at h
    exact h
  | no =>
    rw [e] at h
    exact h
theorem OutL.bnd {k' : Fv} {m : M D} {f : D → M (List D)} {Q : List V → Hp → Prop} (s : SR K g H σ ρ c) (h : OutL K W g H (PV.bnd m f c) Q) :
    Out K k' W g H (m c) fun x H1 => ∃ Z1 d c1, Nxt g.κ g.Z H c1 Z1 H1 ∧ Res K k' g.κ H Z1 H1 x d ∧ m c = .ok d c1 ∧ OutL K W (g.z Z1) H1 (f d c1) Q := by
  rw [bnd_app] at h
  cases e : m c with
  | ok d c1 =>
    rw [e] at h
    exact fun x H1 Z1 n p => ⟨Z1, d, c1, n, p, rfl, OutL.at s n h⟩
  | err e' c1 =>
    rw [e] at h
    exact h
  | no =>
    rw [e] at h
    exact h
theorem OutL.bndL {m : M (List D)} {f : List D → M (List D)} {Q : List V → Hp → Prop} (s : SR K g H σ ρ c) (h : OutL K W g H (PV.bnd m f c) Q) :
    OutL K W g H (m c) fun xs H1 => ∃ Z1 ds c1, Nxt g.κ g.Z H c1 Z1 H1 ∧ RpA K H1 Z1 xs ds ∧ m c = .ok ds c1 ∧ OutL K W (g.z Z1) H1 (f ds c1) Q := by
  rw [bnd_app] at h
  cases e : m c with
  | ok d c1 =>
    rw [e] at h
    exact fun x H1 Z1 n p => ⟨Z1, d, c1, n, p, rfl, OutL.at s n h⟩
  | err e' c1 =>
    rw [e] at h
    exact h
  | no =>
    rw [e] at h
    exact h
/-- an option's answer -/
theorem Out.lft {o : Option D} {Q : VK} (h : Out K k W g H (PV.lft o c) Q) : ∃ d, o = some d ∧ ∀ x H' Z', Nxt g.κ g.Z H c Z' H' → Res K k g.κ H Z' H' x d → Q x H' := by
  cases o with
  | none => exact h.elim
  | some d => exact ⟨d, rfl, h⟩
theorem Out.ret {d : D} {Q : VK} (h : Out K k W g H (PV.ret d c) Q) : ∀ x H' Z', Nxt g.κ g.Z H c Z' H' → Res K k g.κ H Z' H' x d → Q x H' := h
end
section
variable {X : Cx} {W : Nat → Hp → Prop} {e : Expr} {m : ME}
theorem PM.weak {k k' : Fv} (h : PM X W k e m) (i : ∀ (g : Gh) (H : Hp) (σ : L2.St) (ρ : E) (c c' : Cup) (x : V) (d : D) (H' : Hp) (Z' : Addr → Prop) , SR X.K g H σ ρ c → Nxt g.κ g.Z H c' Z' H' → Res X.K k g.κ H Z' H' x d → ∃ Z'', Nxt g.κ g.Z H c' Z'' H' ∧ Res X.K k' g.κ H Z'' H' x d) : PM X W k' e m := by
  refine PE.imp h fun σ H Q ⟨g, ρ, c, s, o⟩ => ⟨g, ρ, c, s, ?_⟩
  generalize m ρ c = r at o
  cases r with
  | ok d c' =>
    intro x H' Z' n p
    obtain ⟨Z'', n', p'⟩ := i g H σ ρ c c' x d H' Z' s n p
    exact o x H' Z'' n' p'
  | err e c' => exact o
  | no => exact o
theorem PM.b (h : PM X W .val e m) : PM X W .bor e m := h.weak fun g H σ ρ c c' x d H' Z' s n p => ⟨Z', n, .v p⟩
/-- one more place that stays -/
theorem Nxt.add {κ : Option Addr} {Z Z' : Addr → Prop} {H H' : Hp} {c' : Cup} (n : Nxt κ Z H c' Z' H') (F : Addr → Prop) (h1 : ∀ p, F p → H p = none) (h2 : ∀ p, F p → H' p ≠ none) : Nxt κ Z H c' (fun a => Z' a ∨ F a) H' :=
  ⟨n.keep, n.cup, fun a z => .inl (n.z a z), fun a z => z.elim (n.zn a) fun f => .inr (h1 a f), fun a z => z.elim (n.zh a) (h2 a)⟩
theorem Stay.same {Z Z' : Addr → Prop} {H : Hp} (h : ∀ a, Z a → Z' a) : Stay Z Z' H H := ⟨h, fun _ _ e _ => e, fun _ _ e => e, fun _ _ _ e => e⟩
theorem PM.frs (h : PM X W .frs e m) : PM X W .val e m := h.weak fun g H σ ρ c c' x d H' Z' s n p => by
  obtain ⟨p, xs, ds, rfl, rfl, h0, nz, hp, r⟩ := p
  refine ⟨_, n.add (fun a => a = p) (fun q e => by rw [e]; exact h0) fun q e => by rw [e, hp]; simp, .lst (.inr rfl) hp (r.stay (.same fun _ z => .inl z))⟩
theorem RpL.rpA {K : PySem.W.Frag} {H : Hp} {Z : Addr → Prop} : ∀ {bs : List Addr} {dss : List (List D)}, (∀ b ∈ bs, Z b) → RpL K H Z bs dss → RpA K H Z (bs.map V.ref) (dss.map PyData.list)
  | _, _, _, .nil => .nil
  | _, _, h, .cons e q r => .cons (.lst (h _ List.mem_cons_self) e q) (RpL.rpA (fun b hb => h b (List.mem_cons_of_mem _ hb)) r)
theorem RpL.there {K : PySem.W.Frag} {H : Hp} {Z : Addr → Prop} {bs : List Addr} {r : List (List D)} (q : RpL K H Z bs r) : ∀ b ∈ bs, H b ≠ none := by
  induction q with
  | nil => intro b hb; cases hb
  | cons e _ _ ih =>
    intro b hb z
    rcases List.mem_cons.mp hb with rfl | hb
    · rw [z] at e; cases e
    · exact ih b hb z
/-- own lists within become data -/
theorem PM.ffl (h : PM X W .ffl e m) : PM X W .frs e m := h.weak fun g H σ ρ c c' x d H' Z' s n p => by
  obtain ⟨p, bs, dss, rfl, rfl, h0, nz, hp, r, nd, f⟩ := p
  refine ⟨_, n.add (fun a => a ∈ bs) (fun q e => (f q e).1) fun q e => r.there q e, p, _, _, rfl, rfl, h0, fun z => z.elim nz fun hb => (List.nodup_cons.mp nd).1 hb, hp, ?_⟩
  exact RpL.rpA (fun b hb => .inr hb) (r.stay (.same fun _ z => .inl z) fun b hb o e => e)
theorem PM.frd (h : PM X W .frd e m) : PM X W .val e m := h.weak fun g H σ ρ c c' x d H' Z' s n p => by
  obtain ⟨p, o, kvs, ds, rfl, rfl, h0, nz, hp, q, r⟩ := p
  refine ⟨_, n.add (fun a => a = p) (fun q e => by rw [e]; exact h0) fun q e => by rw [e, hp]; simp, .dct (.inr rfl) hp q (r.stay (.same fun _ z => .inl z))⟩
end
end PV

namespace PV
open PySem PySem.Spec PyProof.Rows L2

/-- results that are tests -/
def OutT {α : Type} (K : PySem.W.Frag) (W : Nat → Hp → Prop) (g : Gh) (H : Hp) (r : R α) (Q : α → Hp → Prop) : Prop := match r with
  | .ok b c' => ∀ H' Z', Nxt g.κ g.Z H c' Z' H' → Q b H'
  | .err e c' => ∀ H' Z', Nxt g.κ g.Z H c' Z' H' → W e H'
  | .no => False
def tT (K : PySem.W.Frag) (W : Nat → Hp → Prop) (m : ME) : TT := fun σ H Q => ∃ g ρ c, SR K g H σ ρ c ∧ OutT K W g H (tst m ρ c) Q
abbrev PTm (X : Cx) (W : Nat → Hp → Prop) (e : Expr) (m : ME) : Prop := PT X e (tT X.K W m)
section
variable {K : PySem.W.Frag} {k : Fv} {W : Nat → Hp → Prop} {g : Gh} {H H1 : Hp} {c c1 : Cup} {Z Z1 : Addr → Prop} {σ : L2.St} {ρ : E} {x y : V} {d : D}
theorem OutT.at {α : Type} {r : R α} {Q : α → Hp → Prop} (s : SR K g H σ ρ c) (n : Nxt g.κ g.Z H c1 Z1 H1) (h : OutT K W g H r Q) : OutT K W (g.z Z1) H1 r Q := by
  cases r with
  | ok d c' => exact fun H' Z' n' => h H' Z' (n.trans n' s.kt)
  | err e c' => exact fun H' Z' n' => h H' Z' (n.trans n' s.kt)
  | no => exact h
theorem OutT.bnd {α : Type} {k' : Fv} {m : M D} {f : D → M α} {Q : α → Hp → Prop} (s : SR K g H σ ρ c) (h : OutT K W g H (PV.bnd m f c) Q) :
    Out K k' W g H (m c) fun x H1 => ∃ Z1 d c1, Nxt g.κ g.Z H c1 Z1 H1 ∧ Res K k' g.κ H Z1 H1 x d ∧ m c = .ok d c1 ∧ OutT K W (g.z Z1) H1 (f d c1) Q := by
  rw [bnd_app] at h
  cases e : m c with
  | ok d c1 =>
    rw [e] at h
    exact fun x H1 Z1 n p => ⟨Z1, d, c1, n, p, rfl, OutT.at s n h⟩
  | err e' c1 =>
    rw [e] at h
    exact h
  | no =>
    rw [e] at h
    exact h
/-- the first step is itself a test -/
theorem OutT.bndT {α β : Type} {m : M α} {f : α → M β} {Q : β → Hp → Prop} (s : SR K g H σ ρ c) (h : OutT K W g H (PV.bnd m f c) Q) :
    OutT K W g H (m c) fun b H1 => ∃ Z1 c1, Nxt g.κ g.Z H c1 Z1 H1 ∧ m c = .ok b c1 ∧ OutT K W (g.z Z1) H1 (f b c1) Q := by
  rw [bnd_app] at h
  cases e : m c with
  | ok d c1 =>
    rw [e] at h
    exact fun H1 Z1 n => ⟨Z1, c1, n, rfl, OutT.at s n h⟩
  | err e' c1 =>
    rw [e] at h
    exact h
  | no =>
    rw [e] at h
    exact h
theorem Out.bndT {α : Type} {m : M α} {f : α → M D} {Q : VK} (s : SR K g H σ ρ c) (h : Out K k W g H (PV.bnd m f c) Q) :
    OutT K W g H (m c) fun b H1 => ∃ Z1 c1, Nxt g.κ g.Z H c1 Z1 H1 ∧ m c = .ok b c1 ∧ Out K k W (g.z Z1) H1 (f b c1) Q := by
  rw [bnd_app] at h
  cases e : m c with
  | ok d c1 =>
    rw [e] at h
    exact fun H1 Z1 n => ⟨Z1, c1, n, rfl, Out.at s n h⟩
  | err e' c1 =>
    rw [e] at h
    exact h
  | no =>
    rw [e] at h
    exact h
theorem OutT.mono {α : Type} {r : R α} {Q Q' : α → Hp → Prop} (h : OutT K W g H r Q) (i : ∀ x H', Q x H' → Q' x H') : OutT K W g H r Q' := by
  cases r with
  | ok d c' => exact fun H' Z' n => i _ _ (h H' Z' n)
  | err e c' => exact h
  | no => exact h
theorem OutT.ret {α : Type} {a : α} {Q : α → Hp → Prop} (h : OutT K W g H (PV.ret a c) Q) : ∀ H' Z', Nxt g.κ g.Z H c Z' H' → Q a H' := h
theorem OutT.lft {α : Type} {o : Option α} {Q : α → Hp → Prop} (h : OutT K W g H (PV.lft o c) Q) : ∃ d, o = some d ∧ ∀ H' Z', Nxt g.κ g.Z H c Z' H' → Q d H' := by
  cases o with
  | none => exact h.elim
  | some d => exact ⟨d, rfl, h⟩
theorem OutT.toB {d : D} {Q : Bool → Hp → Prop} (h : OutT K W g H (PV.toB d c) Q) : ∃ b, d = .bool b ∧ ∀ H' Z', Nxt g.κ g.Z H c Z' H' → Q b H' := by
  cases d with
  | bool b => exact ⟨b, rfl, h⟩
  | none => exact h.elim
  | int _ => exact h.elim
  | str _ => exact h.elim
  | list _ => exact h.elim
  | tuple _ => exact h.elim
  | dict _ => exact h.elim
theorem SR.cz (s : SR K g H σ ρ c) : ∀ a, g.κ = some a → ¬ g.Z a := fun a q => (s.kz a q).1
theorem Rb.nxt (s : SR K g H σ ρ c) (n : Nxt g.κ g.Z H c1 Z1 H1) (h : Rb K H g.Z g.κ x d) : Rb K H1 Z1 g.κ x d := Rb.next s.kt s.cup s.cz n h
theorem Rp.nxt (s : SR K g H σ ρ c) (n : Nxt g.κ g.Z H c1 Z1 H1) (h : Rp K H g.Z x d) : Rp K H1 Z1 x d := h.stay (s.stay n)
theorem RpA.nxt {xs : List V} {ds : List D} (s : SR K g H σ ρ c) (n : Nxt g.κ g.Z H c1 Z1 H1) (h : RpA K H g.Z xs ds) : RpA K H1 Z1 xs ds := h.stay (s.stay n)
/-- a new object laid at a free place -/
theorem SR.lay (s : SR K g H σ ρ c) {p : Addr} {o : HO} (hp : H p = none) : Nxt g.κ g.Z H c g.Z (upd H p o) where
  keep := fun a u e _ => by rw [upd_ne (ne_of_none e hp)]; exact e
  cup := by
    have q := s.cup
    revert q
    unfold CupR
    split
    · exact id
    · rename_i a ka
      rintro ⟨i, j, e1, e2⟩
      exact ⟨i, j, e1, by rw [upd_ne (ne_of_none e2 hp)]; exact e2⟩
  z := fun _ z => z
  zn := fun _ z => .inl z
  zh := fun a z q => by
    cases e : H a with
    | none => exact s.zh a (.inl z) e
    | some u => rw [upd_ne (ne_of_none e hp), e] at q; cases q
theorem SR.zno (s : SR K g H σ ρ c) {p : Addr} (hp : H p = none) : ¬ g.Z p := fun z => s.zh p (.inl z) hp
/-- the ways a piece of data may lie -/
theorem Rb.int {i : Int} (h : Rb K H Z g.κ x (.int i)) : x = .int i := by cases h with | v r => cases r; rfl
theorem Rb.list {ds : List D} (s : SR K g H σ ρ c) (h : Rb K H g.Z g.κ x (.list ds)) : ∃ a xs, x = .ref a ∧ g.κ ≠ some a ∧ H a = some (.lst xs) ∧ RpA K H g.Z xs ds := by
  cases h with
  | v r => cases r with | lst z e r => exact ⟨_, _, rfl, fun k => s.cz _ k z, e, r⟩
  | l ne e r => exact ⟨_, _, rfl, ne, e, r⟩
theorem Rb.tup {ds : List D} (h : Rb K H Z g.κ x (.tuple ds)) : ∃ a xs, x = .ref a ∧ SqT K H a xs ∧ RpA K H Z xs ds := by
  cases h with
  | v r => cases r with | tup e r => exact ⟨_, _, rfl, e, r⟩
theorem Rb.bool {b : Bool} (h : Rb K H Z g.κ x (.bool b)) : x = .bl b := by cases h with | v r => cases r; rfl
theorem Rb.str {z : Str} (h : Rb K H Z g.κ x (.str z)) : x = .str z := by cases h with | v r => cases r; rfl
theorem Rb.non (h : Rb K H Z g.κ x .none) : x = .non := by cases h with | v r => cases r; rfl
theorem Rb.dp (h : Rb K H Z g.κ x d) (cl : d.canLay0 = true) : Dp K H x d := by
  cases h with
  | v r => exact r.dp cl
  | l ne e r => exact .lst (.inl (.inl e)) (r.dp (by simpa [PyData.canLay0] using cl))
  | d ne e q r => simp [PyData.canLay0] at cl
end

section
variable {X : Cx} {W : Nat → Hp → Prop} {pos : Pos}
theorem pm_int {i : Int} {j : Nat} : PM X W .val (.Constant (.int i) j pos) (eCon (.int i)) := PE.imp pe_int fun σ H Q ⟨g, ρ, c, s, o⟩ => Out.ret o _ _ _ s.rf (.int i)
theorem pm_bool {b : Bool} {j : Nat} : PM X W .val (.Constant (.bool b) j pos) (eCon (.bool b)) := PE.imp pe_bl fun σ H Q ⟨g, ρ, c, s, o⟩ => Out.ret o _ _ _ s.rf (.bl b)
theorem pm_none {j : Nat} : PM X W .val (.Constant .none j pos) (eCon .none) := PE.imp pe_non fun σ H Q ⟨g, ρ, c, s, o⟩ => Out.ret o _ _ _ s.rf .non
theorem pm_str {z : Str} {j : Nat} : PM X W .val (.Constant (.str z) j pos) (eCon (.str z)) := PE.imp pe_str fun σ H Q ⟨g, ρ, c, s, o⟩ => Out.ret o _ _ _ s.rf (.str z)
theorem getD_some {σ : L2.St} {i : Nat} {x : V} (h : σ.getD i none = some x) : σ[i]? = some (some x) := by
  rw [List.getD_eq_getElem?_getD] at h
  cases e : σ[i]? with
  | none => rw [e] at h; cases h
  | some v => rw [e] at h; exact congrArg some h
theorem pm_var (i : Nat) {z : Str} (hN : X.N[i]? = some z := by rfl) (hv : Vis X.env.scope z := by first | exact Or.inl rfl | exact Or.inr (Or.inl rfl) | exact Or.inr (Or.inr rfl)) (hd : (z == ("__debug__" : Str)) = false := by decide)
    (hcd : (z == ("__classdict__" : Str)) = false := by decide) : PM X W .val (.Name z pos) (eVar i) := PE.imp (pe_var hN hv hd hcd) fun σ H Q ⟨g, ρ, c, s, o⟩ => by
  have q := s.sl i
  unfold eVar at o
  generalize hs : Slot.at ρ i = sl at o q
  cases sl with
  | sh d =>
    generalize hx : σ.getD i none = v at q
    generalize hO : g.o i = oo at q
    cases q with
    | sh r => exact ⟨_, getD_some hx, Out.ret o _ _ _ s.rf r⟩
  | no => exact o.elim
  | cup => exact o.elim
  | bl _ => exact o.elim
  | bd _ => exact o.elim
  | ol _ => exact o.elim
  | oll _ => exact o.elim
  | od _ => exact o.elim
  | scr _ => exact o.elim
theorem pm_bor (i : Nat) {z : Str} (hN : X.N[i]? = some z := by rfl) (hv : Vis X.env.scope z := by first | exact Or.inl rfl | exact Or.inr (Or.inl rfl) | exact Or.inr (Or.inr rfl)) (hd : (z == ("__debug__" : Str)) = false := by decide)
    (hcd : (z == ("__classdict__" : Str)) = false := by decide) : PM X W .bor (.Name z pos) (eBor i) := PE.imp (pe_var hN hv hd hcd) fun σ H Q ⟨g, ρ, c, s, o⟩ => by
  have q := s.sl i
  unfold eBor at o
  generalize hs : Slot.at ρ i = sl at o q
  generalize hx : σ.getD i none = v at q
  generalize hO : g.o i = oo at q
  have fr := s.fr i
  rw [hO] at fr
  cases q with
  | sh r => exact ⟨_, getD_some hx, Out.ret o _ _ _ s.rf (.v r)⟩
  | no => exact o.elim
  | cup _ => exact o.elim
  | scr _ => exact o.elim
  | bl b e r => exact ⟨_, getD_some hx, Out.ret o _ _ _ s.rf (.l (fun k => (s.kz _ k).2 b) e r)⟩
  | bd b e q r => exact ⟨_, getD_some hx, Out.ret o _ _ _ s.rf (.d (fun k => (s.kz _ k).2 b) e q r)⟩
  | ol e r => exact ⟨_, getD_some hx, Out.ret o _ _ _ s.rf (.l (fr _ List.mem_cons_self).2.2 e r)⟩
  | oll _ _ => exact o.elim
  | od e q r => exact ⟨_, getD_some hx, Out.ret o _ _ _ s.rf (.d (fr _ List.mem_cons_self).2.2 e q r)⟩
/-- a module's constant -/
theorem pm_glob {z : Str} {v : V} {u : Value} {d : D} (hg : Gl X z) (hm : X.mg z = some u) (r : RelV v u) (q : ∀ H Z, Rp X.K H Z v d) (hd : (z == ("__debug__" : Str)) = false := by decide) : PM X W .val (.Name z pos) (eCon d) :=
  PE.imp (pe_glob hg hm r hd) fun σ H Q ⟨g, ρ, c, s, o⟩ => Out.ret o _ _ _ s.rf (q _ _)
end

def Op2 (X : Cx) (F : Value → Value → Sem Value) (f : D → D → Option D) (k : Fv) : Prop :=
  OpR X F fun x y H Q => ∃ (g : Gh) (σ : L2.St) (ρ : E) (c : Cup) (d e v : D), SR X.K g H σ ρ c ∧ Rb X.K H g.Z g.κ x d ∧ Rb X.K H g.Z g.κ y e ∧ f d e = some v ∧
    ∀ x' H' Z', Nxt g.κ g.Z H c Z' H' → Res X.K k g.κ H Z' H' x' v → Q x' H'
def Un1 (X : Cx) (F : Value → Sem Value) (f : D → Option D) (k : Fv) : Prop :=
  UnR X F fun x H Q => ∃ (g : Gh) (σ : L2.St) (ρ : E) (c : Cup) (d v : D), SR X.K g H σ ρ c ∧ Rb X.K H g.Z g.κ x d ∧ f d = some v ∧
    ∀ x' H' Z', Nxt g.κ g.Z H c Z' H' → Res X.K k g.κ H Z' H' x' v → Q x' H'
section
variable {X : Cx} {W : Nat → Hp → Prop} {pos : Pos} {k : Fv} {a b : Expr} {ma mb : ME} {f : D → D → Option D}
/-- the reading of two operands and what stands behind them -/
theorem two {σ : L2.St} {H : Hp} {Q : VK} {f : D → D → Option D} (h : tM X.K k W (e2 f ma mb) σ H Q) : tM X.K .bor W ma σ H fun x H1 => tM X.K .bor W mb σ H1 fun y H2 =>
    ∃ (g : Gh) (σ : L2.St) (ρ : E) (c : Cup) (d e v : D), SR X.K g H2 σ ρ c ∧ Rb X.K H2 g.Z g.κ x d ∧ Rb X.K H2 g.Z g.κ y e ∧ f d e = some v ∧ ∀ x' H' Z', Nxt g.κ g.Z H2 c Z' H' → Res X.K k g.κ H2 Z' H' x' v → Q x' H' := by
  obtain ⟨g, ρ, c, s, o⟩ := h
  refine ⟨g, ρ, c, s, Out.mono (Out.bnd s o) fun x H1 ⟨Z1, d, c1, n1, p1, _, o1⟩ => ?_⟩
  have s1 := s.next n1
  refine ⟨g.z Z1, ρ, c1, s1, Out.mono (Out.bnd s1 o1) fun y H2 ⟨Z2, e, c2, n2, p2, _, o2⟩ => ?_⟩
  obtain ⟨v, e3, q⟩ := Out.lft o2
  exact ⟨(g.z Z1).z Z2, σ, ρ, c2, d, e, v, s1.next n2, Rb.nxt (g := g.z Z1) s1 n2 p1, p2, e3, q⟩
theorem pm_bin {op : Operator} (ho : Op2 X (binaryOp op) f k) (ha : PM X W .bor a ma) (hb : PM X W .bor b mb) : PM X W k (.BinOp a op b pos) (e2 f ma mb) := PE.imp (pe_op ho ha hb) fun _ _ _ h => two h
theorem pm_cmp {op : CmpOp} (ho : Op2 X (compareOp op) f k) (ha : PM X W .bor a ma) (hb : PM X W .bor b mb) (hm : behindInMarks op b = false := by rfl) : PM X W k (.Compare a [op] [b] pos) (e2 f ma mb) := PE.imp (pe_cmpR ho ha hb hm) fun _ _ _ h => two h
theorem ptm_cmp {op : CmpOp} (ho : Op2 X (compareOp op) f .val) (ha : PM X W .bor a ma) (hb : PM X W .bor b mb) (hm : behindInMarks op b = false := by rfl) : PTm X W (.Compare a [op] [b] pos) (e2 f ma mb) :=
  PT.imp (pt_cmpR ho ha hb hm) fun σ H Q ⟨g, ρ, c, s, o⟩ => two (W := W) (k := .val) (f := f) (Q := fun x H' => ∃ k, x = .bl k ∧ Q k H') ⟨g, ρ, c, s, Out.mono (OutT.bnd s o) fun x H1 ⟨Z1, d, c1, n1, p1, _, o1⟩ => by
    obtain ⟨b, rfl, q⟩ := OutT.toB o1
    cases p1
    exact ⟨b, rfl, q H1 Z1 (s.next n1).rf⟩⟩
theorem pm_un {op : UnaryOp} {f : D → Option D} (ho : Un1 X (unaryOp op) f k) (ha : PM X W .bor a ma) : PM X W k (.UnaryOp op a pos) (e1 f ma) := PE.imp (pe_un ho ha) fun σ H Q ⟨g, ρ, c, s, o⟩ =>
  ⟨g, ρ, c, s, Out.mono (Out.bnd s o) fun x H1 ⟨Z1, d, c1, n1, p1, _, o1⟩ => by
    obtain ⟨v, e3, q⟩ := Out.lft o1
    exact ⟨g.z Z1, σ, ρ, c1, d, v, s.next n1, p1, e3, q⟩⟩
end
end PV

namespace PV
open PySem PySem.Spec PyProof.Rows L2
theorem split_if {α : Type} {c : Prop} [Decidable c] {a b : α} (h : (if c then some a else none) = some b) : c ∧ a = b := by
  by_cases q : c
  · rw [if_pos q] at h; exact ⟨q, Option.some.inj h⟩
  · rw [if_neg q] at h; cases h
section
variable {X : Cx}
/-- from an answer that is data alone -/
theorem fin_int {K : PySem.W.Frag} {g : Gh} {H : Hp} {σ : L2.St} {ρ : E} {c : Cup} {i : Int} {Q : VK} (s : SR K g H σ ρ c) (q : ∀ x' H' Z', Nxt g.κ g.Z H c Z' H' → Res K .val g.κ H Z' H' x' (.int i) → Q x' H') : Q (.int i) H := q _ _ _ s.rf (.int i)
theorem fin_bool {K : PySem.W.Frag} {g : Gh} {H : Hp} {σ : L2.St} {ρ : E} {c : Cup} {i : Bool} {Q : VK} (s : SR K g H σ ρ c) (q : ∀ x' H' Z', Nxt g.κ g.Z H c Z' H' → Res K .val g.κ H Z' H' x' (.bool i) → Q x' H') : Q (.bl i) H := q _ _ _ s.rf (.bl i)
/-- a new tuple of items that are known -/
theorem fin_tup {K : PySem.W.Frag} {g : Gh} {H : Hp} {σ : L2.St} {ρ : E} {c : Cup} {xs : List V} {ds : List D} {Q : VK} (s : SR K g H σ ρ c) (r : RpA K H g.Z xs ds) (q : ∀ x' H' Z', Nxt g.κ g.Z H c Z' H' → Res K .val g.κ H Z' H' x' (.tuple ds) → Q x' H') :
    ∀ p, H p = none → Q (.ref p) (upd H p (.tup xs)) := fun p hp => by
  have n := s.lay (p := p) (o := .tup xs) hp
  exact q _ _ _ n (.tup (.inl (.inl upd_same)) (r.nxt s n))
/-- a new list -/
theorem fin_frs {K : PySem.W.Frag} {g : Gh} {H : Hp} {σ : L2.St} {ρ : E} {c : Cup} {xs : List V} {ds : List D} {Q : VK} (s : SR K g H σ ρ c) (r : RpA K H g.Z xs ds) (q : ∀ x' H' Z', Nxt g.κ g.Z H c Z' H' → Res K .frs g.κ H Z' H' x' (.list ds) → Q x' H') :
    ∀ p, H p = none → Q (.ref p) (upd H p (.lst xs)) := fun p hp => by
  have n := s.lay (p := p) (o := .lst xs) hp
  exact q _ _ _ n ⟨p, xs, ds, rfl, rfl, hp, s.zno hp, upd_same, r.nxt s n⟩
/-- .. handed on -/
theorem fin_lst {K : PySem.W.Frag} {g : Gh} {H : Hp} {σ : L2.St} {ρ : E} {c : Cup} {xs : List V} {ds : List D} {Q : VK} (s : SR K g H σ ρ c) (r : RpA K H g.Z xs ds) (q : ∀ x' H' Z', Nxt g.κ g.Z H c Z' H' → Res K .val g.κ H Z' H' x' (.list ds) → Q x' H') :
    ∀ p, H p = none → Q (.ref p) (upd H p (.lst xs)) := fun p hp => by
  have n := s.lay (p := p) (o := .lst xs) hp
  have n' := n.add (fun a => a = p) (fun a e => by rw [e]; exact hp) fun a e => by rw [e, upd_same]; simp
  exact q _ _ _ n' (.lst (.inr rfl) upd_same (r.nxt s n'))
theorem RpA.nil_iff {K : PySem.W.Frag} {H : Hp} {Z : Addr → Prop} {xs : List V} {ds : List D} (r : RpA K H Z xs ds) : xs = [] ↔ ds = [] := by
  constructor <;> intro e <;> subst e <;> cases r <;> rfl
theorem o_add : Op2 X (binaryOp .Add) opAdd .val := by
  intro pins s' σ' H x y v u Q I rx ry ⟨g, σ, ρ, c, d, e, w, s, hx, hy, hf, q⟩
  unfold opAdd at hf
  split at hf
  · obtain rfl := hx.int
    obtain rfl := hy.int
    cases hf
    exact op_add pins s' σ' H _ _ v u Q I rx ry ⟨_, _, rfl, rfl, fin_int s q⟩
  · obtain ⟨hz, rfl⟩ := split_if hf
    obtain ⟨a, xs, rfl, ea, ra⟩ := hx.tup
    obtain ⟨b, ys, rfl, eb, rb⟩ := hy.tup
    refine op_catA pins s' σ' H _ _ v u Q I rx ry ⟨a, b, xs, ys, rfl, rfl, ea, eb, by rw [ra.length, rb.length]; exact hz, fun e0 => ?_, fun _ e0 => ?_, fun _ _ => fin_tup s (ra.append rb) q⟩
    · have e1 := ra.nil_iff.mp e0
      subst e1
      exact q _ _ _ s.rf (.tup eb rb)
    · have e1 := rb.nil_iff.mp e0
      subst e1
      rw [List.append_nil] at q
      exact q _ _ _ s.rf (.tup ea ra)
  · obtain ⟨hz, rfl⟩ := split_if hf
    obtain ⟨a, xs, rfl, _, ea, ra⟩ := hx.list s
    obtain ⟨b, ys, rfl, _, eb, rb⟩ := hy.list s
    exact op_cat pins s' σ' H _ _ v u Q I rx ry ⟨a, b, xs, ys, rfl, rfl, ea, eb, by rw [ra.length, rb.length]; exact hz, fin_lst s (ra.append rb) q⟩
  · cases hf
theorem o_cat : Op2 X (binaryOp .Add) opCat .frs := by
  intro pins s' σ' H x y v u Q I rx ry ⟨g, σ, ρ, c, d, e, w, s, hx, hy, hf, q⟩
  unfold opCat at hf
  split at hf
  · obtain ⟨hz, rfl⟩ := split_if hf
    obtain ⟨a, xs, rfl, _, ea, ra⟩ := hx.list s
    obtain ⟨b, ys, rfl, _, eb, rb⟩ := hy.list s
    exact op_cat pins s' σ' H _ _ v u Q I rx ry ⟨a, b, xs, ys, rfl, rfl, ea, eb, by rw [ra.length, rb.length]; exact hz, fin_frs s (ra.append rb) q⟩
  · cases hf
/-- two whole numbers -/
theorem o_ii {F : Value → Value → Sem Value} {C : Int → Int → Prop} {G : Int → Int → Int} {f : D → D → Option D} (ho : OpR X F (rI C fun i j => .int (G i j)))
    (hf : ∀ d e w, f d e = some w → ∃ i j, d = .int i ∧ e = .int j ∧ C i j ∧ w = .int (G i j)) : Op2 X F f .val := by
  intro pins s' σ' H x y v u Q I rx ry ⟨g, σ, ρ, c, d, e, w, s, hx, hy, h, q⟩
  obtain ⟨i, j, rfl, rfl, hc, rfl⟩ := hf d e w h
  obtain rfl := hx.int
  obtain rfl := hy.int
  exact ho pins s' σ' H _ _ v u Q I rx ry ⟨i, j, rfl, rfl, hc, fin_int s q⟩
theorem o_ii0 {F : Value → Value → Sem Value} {G : Int → Int → Int} {f : D → D → Option D} (ho : OpR X F (rI0 fun i j => .int (G i j)))
    (hf : ∀ d e w, f d e = some w → ∃ i j, d = .int i ∧ e = .int j ∧ w = .int (G i j)) : Op2 X F f .val := by
  intro pins s' σ' H x y v u Q I rx ry ⟨g, σ, ρ, c, d, e, w, s, hx, hy, h, q⟩
  obtain ⟨i, j, rfl, rfl, rfl⟩ := hf d e w h
  obtain rfl := hx.int
  obtain rfl := hy.int
  exact ho pins s' σ' H _ _ v u Q I rx ry ⟨i, j, rfl, rfl, fin_int s q⟩
theorem o_ib {F : Value → Value → Sem Value} {G : Int → Int → Bool} {f : D → D → Option D} (ho : OpR X F (rI0 fun i j => .bl (G i j)))
    (hf : ∀ d e w, f d e = some w → ∃ i j, d = .int i ∧ e = .int j ∧ w = .bool (G i j)) : Op2 X F f .val := by
  intro pins s' σ' H x y v u Q I rx ry ⟨g, σ, ρ, c, d, e, w, s, hx, hy, h, q⟩
  obtain ⟨i, j, rfl, rfl, rfl⟩ := hf d e w h
  obtain rfl := hx.int
  obtain rfl := hy.int
  exact ho pins s' σ' H _ _ v u Q I rx ry ⟨i, j, rfl, rfl, fin_bool s q⟩
theorem o_sub : Op2 X (binaryOp .Sub) opSub .val := o_ii0 (G := fun i j => i - j) op_sub fun d e w h => by
  unfold opSub at h
  split at h
  · cases h; exact ⟨_, _, rfl, rfl, rfl⟩
  · cases h
theorem o_mod : Op2 X (binaryOp .Mod) opMod .val := o_ii (C := fun _ j => 0 < j) (G := fun i j => i % j) op_mod fun d e w h => by
  unfold opMod at h
  split at h
  · obtain ⟨hc, rfl⟩ := split_if h; exact ⟨_, _, rfl, rfl, hc, rfl⟩
  · cases h
theorem o_fdiv : Op2 X (binaryOp .FloorDiv) opFdiv .val := o_ii (C := CDivW) (G := fun i j => i / j) op_fdivW fun d e w h => by
  unfold opFdiv at h
  split at h
  · obtain ⟨hc, rfl⟩ := split_if h; exact ⟨_, _, rfl, rfl, ⟨hc.1, by have := hc.2; unfold CDivW at *; omega⟩, rfl⟩
  · cases h
theorem o_pow : Op2 X (binaryOp .Pow) opPow .val := o_ii (C := CPow) (G := fun i j => i ^ j.toNat) op_pow fun d e w h => by
  unfold opPow at h
  split at h
  · obtain ⟨hc, rfl⟩ := split_if h; exact ⟨_, _, rfl, rfl, hc, rfl⟩
  · cases h
theorem o_shl : Op2 X (binaryOp .LShift) opShl .val := o_ii (C := CPow) (G := fun i j => i * 2 ^ j.toNat) op_shl fun d e w h => by
  unfold opShl at h
  split at h
  · obtain ⟨hc, rfl⟩ := split_if h; exact ⟨_, _, rfl, rfl, hc, rfl⟩
  · cases h
theorem o_shr : Op2 X (binaryOp .RShift) opShr .val := o_ii (C := fun _ j => 0 ≤ j) (G := fun i j => i / 2 ^ j.toNat) op_shr fun d e w h => by
  unfold opShr at h
  split at h
  · obtain ⟨hc, rfl⟩ := split_if h; exact ⟨_, _, rfl, rfl, hc, rfl⟩
  · cases h
theorem o_band : Op2 X (binaryOp .BitAnd) opBand .val := o_ii0 (G := fun i j => Builtin.bitAnd i j) op_and fun d e w h => by
  unfold opBand at h
  split at h
  · cases h; exact ⟨_, _, rfl, rfl, rfl⟩
  · cases h
theorem o_bor : Op2 X (binaryOp .BitOr) opBor .val := o_ii0 (G := fun i j => Builtin.bitOr i j) op_or fun d e w h => by
  unfold opBor at h
  split at h
  · cases h; exact ⟨_, _, rfl, rfl, rfl⟩
  · cases h
theorem o_lt (hu : X.A.units + 65 < cLine) : Op2 X (compareOp .Lt) opLt .val := by
  intro pins s' σ' H x y v u Q I rx ry ⟨g, σ, ρ, c, d, e, w, s, hx, hy, h, q⟩
  unfold opLt at h
  split at h
  · obtain rfl := hx.int
    obtain rfl := hy.int
    cases h
    exact op_lt pins s' σ' H _ _ v u Q I rx ry ⟨_, _, rfl, rfl, fin_bool s q⟩
  · obtain ⟨⟨h1, h2, h3⟩, rfl⟩ := split_if h
    obtain ⟨as, r1⟩ := Dp.reads I _ x v (hx.dp (SeqAt.canLay_of_shaped h1)) rx
    obtain ⟨bs, r2⟩ := Dp.reads I _ y u (hy.dp (SeqAt.canLay_of_shaped h2)) ry
    have R := PySem.W.rcLt_alike _ _ X.A s' v u as bs r1 r2 h3 (by simp) (SeqAt.room_of_shaped h1 (by omega))
    have z : wpAny (model X.prog X.w) X.A (compareOp .Lt v u) (EP X pins σ' Q) X.xe s' := R X.prog X.w X.xe (EP X pins σ' Q) ⟨.bl _, H, I, rfl, fin_bool s q⟩
    exact z
  · cases h
theorem o_le : Op2 X (compareOp .LtE) opLe .val := o_ib (G := fun i j => decide (i ≤ j)) op_le fun d e w h => by
  unfold opLe at h
  split at h
  · cases h; exact ⟨_, _, rfl, rfl, rfl⟩
  · cases h
theorem o_gt : Op2 X (compareOp .Gt) opGt .val := o_ib (G := fun i j => decide (j < i)) op_gt fun d e w h => by
  unfold opGt at h
  split at h
  · cases h; exact ⟨_, _, rfl, rfl, rfl⟩
  · cases h
theorem o_ge : Op2 X (compareOp .GtE) opGe .val := o_ib (G := fun i j => decide (j ≤ i)) op_ge fun d e w h => by
  unfold opGe at h
  split at h
  · cases h; exact ⟨_, _, rfl, rfl, rfl⟩
  · cases h
theorem o_neg : Un1 X (unaryOp .USub) opNeg .val := by
  intro pins s' σ' H x v Q I rx ⟨g, σ, ρ, c, d, w, s, hx, hf, q⟩
  unfold opNeg at hf
  split at hf
  · obtain rfl := hx.int
    cases hf
    exact un_neg pins s' σ' H _ v Q I rx ⟨_, rfl, fin_int s q⟩
  · cases hf
/-- == of any data without dicts -/
theorem o_eq (hu : X.A.units + 65 < cLine) : Op2 X (compareOp .Eq) opEq .val := by
  intro pins s' σ' H x y v u Q I rx ry ⟨g, σ, ρ, c, d, e, w, s, hx, hy, hf, q⟩
  obtain ⟨⟨h1, h2⟩, rfl⟩ := split_if hf
  exact op_eqD (by omega) pins s' σ' H _ _ v u Q I rx ry ⟨d, e, hx.dp (SeqAt.canLay_of_shaped h1), hy.dp (SeqAt.canLay_of_shaped h2), h1, h2, fin_bool s q⟩
theorem o_ne (hu : X.A.units + 65 < cLine) : Op2 X (compareOp .NotEq) opNe .val := by
  intro pins s' σ' H x y v u Q I rx ry ⟨g, σ, ρ, c, d, e, w, s, hx, hy, hf, q⟩
  obtain ⟨⟨h1, h2⟩, rfl⟩ := split_if hf
  exact op_neD (by omega) pins s' σ' H _ _ v u Q I rx ry ⟨d, e, hx.dp (SeqAt.canLay_of_shaped h1), hy.dp (SeqAt.canLay_of_shaped h2), h1, h2, fin_bool s q⟩
theorem room_tup {A : Around} {xs : List D} {d : D} (hd : SeqAt.shaped d = true) (hu : A.units + 65 < cLine) : A.units + 1 + min (PyData.depthAll xs) d.depth < cLine := room_in_shaped hd hu
theorem o_in (hu : X.A.units + 65 < cLine) : Op2 X (compareOp .In) opIn .val := by
  intro pins s' σ' H x y v u Q I rx ry ⟨g, σ, ρ, c, d, e, w, s, hx, hy, hf, q⟩
  unfold opIn at hf
  split at hf
  · obtain ⟨⟨h1, h2⟩, rfl⟩ := split_if hf
    exact op_inD hu pins s' σ' H _ _ v u Q I rx ry ⟨d, _, hx.dp (SeqAt.canLay_of_shaped h1), hy.dp (SeqAt.canLay_of_shaped h2), h1, h2, fin_bool s q⟩
  · obtain ⟨⟨h1, h2⟩, rfl⟩ := split_if hf
    obtain ⟨as, r1⟩ := Dp.reads I d x v (hx.dp (SeqAt.canLay_of_shaped h1)) rx
    obtain ⟨bs, r2⟩ := Dp.reads I _ y u (hy.dp (SeqAt.canLay_of_shaped h2)) ry
    exact SeqAt.in_tuple_reads r2 r1 (SeqAt.canLay_of_shaped h2) (SeqAt.canLay_of_shaped h1) (room_tup h1 hu) ⟨.bl _, H, I, rfl, fin_bool s q⟩
  · cases hf
theorem o_notIn (hu : X.A.units + 65 < cLine) : Op2 X (compareOp .NotIn) opNotIn .val := by
  intro pins s' σ' H x y v u Q I rx ry ⟨g, σ, ρ, c, d, e, w, s, hx, hy, hf, q⟩
  unfold opNotIn at hf
  split at hf
  · obtain ⟨⟨h1, h2⟩, rfl⟩ := split_if hf
    exact op_notInD hu pins s' σ' H _ _ v u Q I rx ry ⟨d, _, hx.dp (SeqAt.canLay_of_shaped h1), hy.dp (SeqAt.canLay_of_shaped h2), h1, h2, fin_bool s q⟩
  · obtain ⟨⟨h1, h2⟩, rfl⟩ := split_if hf
    obtain ⟨as, r1⟩ := Dp.reads I d x v (hx.dp (SeqAt.canLay_of_shaped h1)) rx
    obtain ⟨bs, r2⟩ := Dp.reads I _ y u (hy.dp (SeqAt.canLay_of_shaped h2)) ry
    exact SeqAt.notIn_tuple_reads r2 r1 (SeqAt.canLay_of_shaped h2) (SeqAt.canLay_of_shaped h1) (room_tup h1 hu) ⟨.bl _, H, I, rfl, fin_bool s q⟩
  · cases hf
end
end PV

namespace PV
open PySem PySem.Spec PyProof.Rows L2
theorem RpA.flat {K : PySem.W.Frag} {H : Hp} {Z : Addr → Prop} {xs : List V} {ds : List D} (r : RpA K H Z xs ds) : ∀ n : Nat, RpA K H Z (List.replicate n xs).flatten (List.replicate n ds).flatten
  | 0 => by simpa using .nil
  | n + 1 => by
    rw [List.replicate_succ, List.replicate_succ, List.flatten_cons, List.flatten_cons]
    exact r.append (RpA.flat r n)
theorem RpA.cut {K : PySem.W.Frag} {H : Hp} {Z : Addr → Prop} {xs : List V} {ds : List D} (r : RpA K H Z xs ds) (lo hi : Option Int) : RpA K H Z (cutV xs lo hi) (cutD ds lo hi) := by
  unfold cutV cutD
  rw [r.length]
  exact (r.drop _).take _
theorem RpA.atI {K : PySem.W.Frag} {H : Hp} {Z : Addr → Prop} {xs : List V} {ds : List D} {i : Int} {d : D} (r : RpA K H Z xs ds) (h : L2.atI ds i = some d) : ∃ x, L2.atI xs i = some x ∧ Rp K H Z x d := by
  unfold L2.atI at h ⊢
  rw [r.length]
  cases e : ixN ds.length i with
  | none => rw [e] at h; cases h
  | some j =>
    rw [e] at h
    exact r.get h
section
variable {X : Cx} {W : Nat → Hp → Prop} {pos : Pos}
theorem op_isBool {b : Bool} : OpR X (compareOp .Is) fun x y H Q => y = .bl b ∧ Q (.bl (decide (x = .bl b))) H := by
  intro pins s σ H x y v u Q I rx ry h
  obtain ⟨rfl, q⟩ := h
  cases (show u = Value.bool b from ry)
  by_cases e : v = Value.bool b
  · subst e
    have ex : x = .bl b := RelV.inj (u := Value.bool b) rx rfl
    subst ex
    exact wpAny_is_self rfl ⟨.bl true, H, I, rfl, by simpa using q⟩
  · have ex : x ≠ .bl b := fun z => e (by subst z; exact rx)
    exact wpAny_is_other (by cases x <;> first | (cases rx; rfl) | (obtain ⟨t, rfl⟩ := rx; rfl)) e ⟨.bl false, H, I, rfl, by simpa [ex] using q⟩
theorem op_notBool {b : Bool} : OpR X (compareOp .IsNot) fun x y H Q => y = .bl b ∧ Q (.bl (!decide (x = .bl b))) H := by
  intro pins s σ H x y v u Q I rx ry h
  obtain ⟨rfl, q⟩ := h
  cases (show u = Value.bool b from ry)
  by_cases e : v = Value.bool b
  · subst e
    have ex : x = .bl b := RelV.inj (u := Value.bool b) rx rfl
    subst ex
    exact wpAny_isNot_self rfl ⟨.bl false, H, I, rfl, by simpa using q⟩
  · have ex : x ≠ .bl b := fun z => e (by subst z; exact rx)
    exact wpAny_isNot_other (by cases x <;> first | (cases rx; rfl) | (obtain ⟨t, rfl⟩ := rx; rfl)) e ⟨.bl true, H, I, rfl, by simpa [ex] using q⟩
def isNonB : D → Bool
  | .none => true
  | _ => false
def isBlB (b : Bool) : D → Bool
  | .bool a => decide (a = b)
  | _ => false
theorem is_non {K : PySem.W.Frag} {H : Hp} {Z : Addr → Prop} {κ : Option Addr} {x : V} {d : D} (h : Rb K H Z κ x d) : decide (x = .non) = isNonB d := by
  cases h with
  | v r => cases r <;> rfl
  | l _ _ _ => rfl
  | d _ _ _ _ => rfl
theorem is_bl {K : PySem.W.Frag} {H : Hp} {Z : Addr → Prop} {κ : Option Addr} {x : V} {d : D} (b : Bool) (h : Rb K H Z κ x d) : decide (x = .bl b) = isBlB b d := by
  cases h with
  | v r => cases r <;> simp [isBlB]
  | l _ _ _ => simp [isBlB]
  | d _ _ _ _ => simp [isBlB]
def cC : Option Bool → Const
  | none => .none
  | some b => .bool b
theorem one {f : D → Option D} {k : Fv} {σ : L2.St} {H : Hp} {Q : VK} {ma : ME} (h : tM X.K k W (e1 f ma) σ H Q) : tM X.K .bor W ma σ H fun x H1 =>
    ∃ (g : Gh) (ρ : E) (c : Cup) (d v : D), SR X.K g H1 σ ρ c ∧ Rb X.K H1 g.Z g.κ x d ∧ f d = some v ∧ ∀ x' H' Z', Nxt g.κ g.Z H1 c Z' H' → Res X.K k g.κ H1 Z' H' x' v → Q x' H' := by
  obtain ⟨g, ρ, c, s, o⟩ := h
  refine ⟨g, ρ, c, s, Out.mono (Out.bnd s o) fun x H1 ⟨Z1, d, c1, n1, p1, _, o1⟩ => ?_⟩
  obtain ⟨v, e3, q⟩ := Out.lft o1
  exact ⟨g.z Z1, ρ, c1, d, v, s.next n1, p1, e3, q⟩
theorem opIs_non {d v : D} (h : opIs none d = some v) : v = .bool (isNonB d) := by
  cases d <;> (simp [opIs] at h; subst h; rfl)
theorem opIs_bl {b : Bool} {d v : D} (h : opIs (some b) d = some v) : v = .bool (isBlB b d) := by
  cases d with
  | bool a =>
    simp only [opIs, Option.some.injEq] at h
    subst h
    cases a <;> cases b <;> rfl
  | none => simp [opIs] at h; subst h; rfl
  | int _ => simp [opIs] at h; subst h; rfl
  | str _ => simp [opIs] at h; subst h; rfl
  | list _ => simp [opIs] at h; subst h; rfl
  | tuple _ => simp [opIs] at h; subst h; rfl
  | dict _ => simp [opIs] at h; subst h; rfl
theorem opIsNot_eq (b : Option Bool) (d : D) : opIsNot b d = (opIs b d).map fun v => match v with | .bool k => .bool (!k) | v => v := by
  cases d <;> simp [opIs, opIsNot]
variable {a : Expr} {ma : ME}
theorem pm_is (b : Option Bool) {j : Nat} {pos' : Pos} (ha : PM X W .bor a ma) : PM X W .val (.Compare a [.Is] [.Constant (cC b) j pos'] pos) (e1 (opIs b) ma) := by
  cases b with
  | none =>
    refine PE.imp (pe_cmpR op_isN ha pe_non (by rfl)) fun σ H Q h => ?_
    obtain ⟨g0, ρ0, c0, s0, o0⟩ := one h
    refine ⟨g0, ρ0, c0, s0, Out.mono o0 fun x H1 ⟨g, ρ, c, d, v, s, r, e, q⟩ => ⟨rfl, ?_⟩⟩
    rw [is_non r]
    have ev := opIs_non e
    subst ev
    exact fin_bool s q
  | some b =>
    refine PE.imp (pe_cmpR (op_isBool (b := b)) ha pe_bl (by rfl)) fun σ H Q h => ?_
    obtain ⟨g0, ρ0, c0, s0, o0⟩ := one h
    refine ⟨g0, ρ0, c0, s0, Out.mono o0 fun x H1 ⟨g, ρ, c, d, v, s, r, e, q⟩ => ⟨rfl, ?_⟩⟩
    rw [is_bl b r]
    have ev := opIs_bl e
    subst ev
    exact fin_bool s q
theorem pm_isNot (b : Option Bool) {j : Nat} {pos' : Pos} (ha : PM X W .bor a ma) : PM X W .val (.Compare a [.IsNot] [.Constant (cC b) j pos'] pos) (e1 (opIsNot b) ma) := by
  cases b with
  | none =>
    refine PE.imp (pe_cmpR op_notN ha pe_non (by rfl)) fun σ H Q h => ?_
    obtain ⟨g0, ρ0, c0, s0, o0⟩ := one h
    refine ⟨g0, ρ0, c0, s0, Out.mono o0 fun x H1 ⟨g, ρ, c, d, v, s, r, e, q⟩ => ⟨rfl, ?_⟩⟩
    rw [is_non r]
    rw [opIsNot_eq] at e
    obtain ⟨v', e1, e2⟩ := Option.map_eq_some_iff.mp e
    have ev := opIs_non e1
    subst ev
    subst e2
    exact fin_bool s q
  | some b =>
    refine PE.imp (pe_cmpR (op_notBool (b := b)) ha pe_bl (by rfl)) fun σ H Q h => ?_
    obtain ⟨g0, ρ0, c0, s0, o0⟩ := one h
    refine ⟨g0, ρ0, c0, s0, Out.mono o0 fun x H1 ⟨g, ρ, c, d, v, s, r, e, q⟩ => ⟨rfl, ?_⟩⟩
    rw [is_bl b r]
    rw [opIsNot_eq] at e
    obtain ⟨v', e1, e2⟩ := Option.map_eq_some_iff.mp e
    have ev := opIs_bl e1
    subst ev
    subst e2
    exact fin_bool s q
/-- a test by an expression that gives a bool -/
theorem fin_tst {σ : L2.St} {H : Hp} {Q : Bool → Hp → Prop} (h : tT X.K W ma σ H Q) : tM X.K .bor W ma σ H fun x H' => ∃ k, x = .bl k ∧ Q k H' := by
  obtain ⟨g, ρ, c, s, o⟩ := h
  refine ⟨g, ρ, c, s, Out.mono (OutT.bnd s o) fun x H1 ⟨Z1, d, c1, n1, p1, _, o1⟩ => ?_⟩
  obtain ⟨b, rfl, q⟩ := OutT.toB o1
  cases p1 with
  | v r => cases r; exact ⟨b, rfl, q H1 Z1 (s.next n1).rf⟩
theorem ptm_is (b : Option Bool) {j : Nat} {pos' : Pos} (ha : PM X W .bor a ma) : PTm X W (.Compare a [.Is] [.Constant (cC b) j pos'] pos) (e1 (opIs b) ma) := by
  cases b with
  | none =>
    refine PT.imp (pt_cmpR op_isN ha pe_non (by rfl)) fun σ H Q h => ?_
    obtain ⟨g0, ρ0, c0, s0, o0⟩ := one (fin_tst h)
    refine ⟨g0, ρ0, c0, s0, Out.mono o0 fun x H1 ⟨g, ρ, c, d, v, s, r, e, q⟩ => ⟨rfl, ?_⟩⟩
    rw [is_non r]
    have ev := opIs_non e
    subst ev
    exact q _ _ _ s.rf (.v (.bl _))
  | some b =>
    refine PT.imp (pt_cmpR (op_isBool (b := b)) ha pe_bl (by rfl)) fun σ H Q h => ?_
    obtain ⟨g0, ρ0, c0, s0, o0⟩ := one (fin_tst h)
    refine ⟨g0, ρ0, c0, s0, Out.mono o0 fun x H1 ⟨g, ρ, c, d, v, s, r, e, q⟩ => ⟨rfl, ?_⟩⟩
    rw [is_bl b r]
    have ev := opIs_bl e
    subst ev
    exact q _ _ _ s.rf (.v (.bl _))
theorem ptm_isNot (b : Option Bool) {j : Nat} {pos' : Pos} (ha : PM X W .bor a ma) : PTm X W (.Compare a [.IsNot] [.Constant (cC b) j pos'] pos) (e1 (opIsNot b) ma) := by
  cases b with
  | none =>
    refine PT.imp (pt_cmpR op_notN ha pe_non (by rfl)) fun σ H Q h => ?_
    obtain ⟨g0, ρ0, c0, s0, o0⟩ := one (fin_tst h)
    refine ⟨g0, ρ0, c0, s0, Out.mono o0 fun x H1 ⟨g, ρ, c, d, v, s, r, e, q⟩ => ⟨rfl, ?_⟩⟩
    rw [is_non r]
    rw [opIsNot_eq] at e
    obtain ⟨v', e1, e2⟩ := Option.map_eq_some_iff.mp e
    have ev := opIs_non e1
    subst ev
    subst e2
    exact q _ _ _ s.rf (.v (.bl _))
  | some b =>
    refine PT.imp (pt_cmpR (op_notBool (b := b)) ha pe_bl (by rfl)) fun σ H Q h => ?_
    obtain ⟨g0, ρ0, c0, s0, o0⟩ := one (fin_tst h)
    refine ⟨g0, ρ0, c0, s0, Out.mono o0 fun x H1 ⟨g, ρ, c, d, v, s, r, e, q⟩ => ⟨rfl, ?_⟩⟩
    rw [is_bl b r]
    rw [opIsNot_eq] at e
    obtain ⟨v', e1, e2⟩ := Option.map_eq_some_iff.mp e
    have ev := opIs_bl e1
    subst ev
    subst e2
    exact q _ _ _ s.rf (.v (.bl _))
theorem ptm_val (ha : PM X W .bor a ma) (he : ∀ whole, isTrue a X.env whole = (do let v ← whole; standAt a.pos; holding [v] (truthy v)) := by intro _; rfl) : PTm X W a ma := PT.imp (pt_val ha he) fun _ _ _ h => fin_tst h
variable {b : Expr} {rest : List Expr} {mb mr : ME}
abbrev PWm (X : Cx) (W : Nat → Hp → Prop) (e : Expr) (m : ME) : Prop := PW X e (tT X.K W m)
theorem PW.imp {X : Cx} {e : Expr} {t t' : TT} (h : PW X e t) (i : ∀ σ H Q, t' σ H Q → t σ H Q) : PW X e t' := ⟨fun wh pins s σ H Q I q => h.run wh pins s σ H Q I (i σ H Q q)⟩
theorem pwm_and1 (ha : PTm X W a ma) : PWm X W (.BoolOp .And [a] pos) ma := pw_and1 ha
theorem pwm_or1 (ha : PTm X W a ma) : PWm X W (.BoolOp .Or [a] pos) ma := pw_or1 ha
theorem ptm_w (h : PWm X W a ma) : PTm X W a ma := h.pt
/-- the first test and what stands behind -/
theorem tst_bnd {f : Bool → ME} {σ : L2.St} {H : Hp} {Q : Bool → Hp → Prop} (h : tT X.K W (fun ρ => bnd (ma ρ) fun t => bnd (toB t) fun k => f k ρ) σ H Q) :
    tT X.K W ma σ H fun k H1 => tT X.K W (f k) σ H1 Q := by
  obtain ⟨g, ρ, c, s, o⟩ := h
  have e : tst (fun ρ => bnd (ma ρ) fun t => bnd (toB t) fun k => f k ρ) ρ = bnd (tst ma ρ) fun k => tst (f k) ρ := by
    unfold tst
    rw [bnd_assoc, bnd_assoc]
    congr 1
    funext t
    rw [bnd_assoc]
  rw [e] at o
  exact ⟨g, ρ, c, s, OutT.mono (OutT.bndT s o) fun k H1 ⟨Z1, c1, n1, _, o1⟩ => ⟨g.z Z1, ρ, c1, s.next n1, o1⟩⟩
theorem tst_con {k : Bool} {σ : L2.St} {H : Hp} {Q : Bool → Hp → Prop} (h : tT X.K W (fun _ => ret (.bool k)) σ H Q) : Q k H := by
  obtain ⟨g, ρ, c, s, o⟩ := h
  exact o H g.Z s.rf
theorem pwm_and (ha : PTm X W a ma) (hb : PWm X W (.BoolOp .And (b :: rest) pos) mr) : PWm X W (.BoolOp .And (a :: b :: rest) pos) (eAnd ma mr) := PW.imp (pw_and ha hb) fun σ H Q h => by
  obtain ⟨g, ρ, c, s, o⟩ := tst_bnd (f := fun k ρ => if k = true then mr ρ else ret (.bool false)) h
  refine ⟨g, ρ, c, s, OutT.mono o fun k H1 q => ?_⟩
  cases k with
  | true => exact q
  | false => exact tst_con q
theorem pwm_or (ha : PTm X W a ma) (hb : PWm X W (.BoolOp .Or (b :: rest) pos) mr) : PWm X W (.BoolOp .Or (a :: b :: rest) pos) (eOr ma mr) := PW.imp (pw_or ha hb) fun σ H Q h => by
  obtain ⟨g, ρ, c, s, o⟩ := tst_bnd (f := fun k ρ => if k = true then ret (.bool true) else mr ρ) h
  refine ⟨g, ρ, c, s, OutT.mono o fun k H1 q => ?_⟩
  cases k with
  | true => exact tst_con q
  | false => exact q
theorem ptm_not (ha : PTm X W a ma) : PTm X W (.UnaryOp .Not a pos) (eNot ma) := PT.imp (pt_not ha) fun σ H Q h => by
  obtain ⟨g, ρ, c, s, o⟩ := tst_bnd (f := fun k ρ => ret (.bool (!k))) h
  exact ⟨g, ρ, c, s, OutT.mono o fun k H1 q => tst_con q⟩
theorem val_bnd {k : Fv} {f : Bool → ME} {σ : L2.St} {H : Hp} {Q : VK} (h : tM X.K k W (fun ρ => bnd (ma ρ) fun t => bnd (toB t) fun k => f k ρ) σ H Q) :
    tT X.K W ma σ H fun b H1 => tM X.K k W (f b) σ H1 Q := by
  obtain ⟨g, ρ, c, s, o⟩ := h
  have e : (bnd (ma ρ) fun t => bnd (toB t) fun k => f k ρ) = bnd (tst ma ρ) fun k => f k ρ := by
    unfold tst
    rw [bnd_assoc]
  change Out X.K k W g H ((bnd (ma ρ) fun t => bnd (toB t) fun k => f k ρ) c) Q at o
  rw [e] at o
  exact ⟨g, ρ, c, s, OutT.mono (Out.bndT s o) fun k H1 ⟨Z1, c1, n1, _, o1⟩ => ⟨g.z Z1, ρ, c1, s.next n1, o1⟩⟩
theorem pm_one {k : Fv} {op : BoolOp} (ha : PM X W k a ma) : PM X W k (.BoolOp op [a] pos) ma := pe_one ha
theorem val_con {b : Bool} {σ : L2.St} {H : Hp} {Q : VK} (h : tM X.K .val W (fun _ => ret (.bool b)) σ H Q) : Q (.bl b) H := by
  obtain ⟨g, ρ, c, s, o⟩ := h
  exact o _ H g.Z s.rf (.bl b)
theorem pm_and (ha : PM X W .bor a ma) (hb : PM X W .val (.BoolOp .And (b :: rest) pos) mr) : PM X W .val (.BoolOp .And (a :: b :: rest) pos) (eAnd ma mr) := PE.imp (pe_and ha hb) fun σ H Q h => by
  obtain ⟨g, ρ, c, s, o⟩ := fin_tst (val_bnd (f := fun k ρ => if k = true then mr ρ else ret (.bool false)) h)
  refine ⟨g, ρ, c, s, Out.mono o fun x H1 ⟨k, e, q⟩ => ⟨k, e, ?_⟩⟩
  cases k with
  | true => exact q
  | false => exact val_con q
theorem pm_or (ha : PM X W .bor a ma) (hb : PM X W .val (.BoolOp .Or (b :: rest) pos) mr) : PM X W .val (.BoolOp .Or (a :: b :: rest) pos) (eOr ma mr) := PE.imp (pe_or ha hb) fun σ H Q h => by
  obtain ⟨g, ρ, c, s, o⟩ := fin_tst (val_bnd (f := fun k ρ => if k = true then ret (.bool true) else mr ρ) h)
  refine ⟨g, ρ, c, s, Out.mono o fun x H1 ⟨k, e, q⟩ => ⟨k, e, ?_⟩⟩
  cases k with
  | true => exact val_con q
  | false => exact q
theorem pm_not (ha : PM X W .bor a ma) : PM X W .val (.UnaryOp .Not a pos) (eNot ma) := PE.imp (pe_not ha) fun σ H Q h => by
  obtain ⟨g, ρ, c, s, o⟩ := fin_tst (val_bnd (f := fun k ρ => ret (.bool (!k))) h)
  exact ⟨g, ρ, c, s, Out.mono o fun x H1 ⟨k, e, q⟩ => ⟨k, e, val_con q⟩⟩
theorem pm_ife {k : Fv} {t : Expr} {mt : ME} (ht : PTm X W t mt) (ha : PM X W k a ma) (hb : PM X W k b mb) : PM X W k (.IfExp t a b pos) (eIf mt ma mb) := PE.imp (pe_ifExp ht ha hb) fun σ H Q h => by
  obtain ⟨g, ρ, c, s, o⟩ := val_bnd (f := fun k ρ => if k = true then ma ρ else mb ρ) h
  refine ⟨g, ρ, c, s, OutT.mono o fun k H1 q => ?_⟩
  cases k with
  | true => exact iteT q
  | false => exact iteF q
end
end PV

namespace PV
open PySem PySem.Spec PyProof.Rows L2
section
variable {X : Cx} {W : Nat → Hp → Prop} {pos : Pos} {k : Fv} {a b c' : Expr} {ma mb mc : ME} {es : List Expr} {ms : MEs}
theorem OutL.ret {K : PySem.W.Frag} {g : Gh} {H : Hp} {c : Cup} {ds : List D} {Q : List V → Hp → Prop} (h : OutL K W g H (PV.ret ds c) Q) : ∀ xs H' Z', Nxt g.κ g.Z H c Z' H' → RpA K H' Z' xs ds → Q xs H' := h
theorem OutL.mono {K : PySem.W.Frag} {g : Gh} {H : Hp} {r : R (List D)} {Q Q' : List V → Hp → Prop} (h : OutL K W g H r Q) (i : ∀ x H', Q x H' → Q' x H') : OutL K W g H r Q' := by
  cases r with
  | ok d c' => exact fun x H' Z' n p => i _ _ (h x H' Z' n p)
  | err e c' => exact h
  | no => exact h
theorem pms_nil : PMs X W [] esNil := PA.imp pa_nil fun σ H Q ⟨g, ρ, c, s, o⟩ => OutL.ret o _ _ _ s.rf .nil
theorem pms_cons (ha : PM X W .val a ma) (hr : PMs X W es ms) (hs : starEach (a :: es) X.env = (false, eval a X.env) :: starEach es X.env := by rfl) : PMs X W (a :: es) (esCons ma ms) := PA.imp (pa_cons ha hr hs) fun σ H Q h => by
  obtain ⟨g, ρ, c, s, o⟩ := h
  refine ⟨g, ρ, c, s, Out.mono (OutL.bnd s o) fun x H1 ⟨Z1, d, c1, n1, p1, _, o1⟩ => ?_⟩
  have s1 := s.next n1
  refine ⟨g.z Z1, ρ, c1, s1, OutL.mono (OutL.bndL s1 o1) fun xs H2 ⟨Z2, ds, c2, n2, p2, _, o2⟩ => ?_⟩
  have s2 := s1.next n2
  exact OutL.ret o2 (x :: xs) H2 Z2 s2.rf (.cons (Rp.nxt (g := g.z Z1) s1 n2 p1) p2)
theorem pm_tup {j : Nat} (h : PMs X W es ms) : PM X W .val (.Tuple es j pos) (eTup ms) := PE.imp (pe_tup h) fun σ H Q h => by
  obtain ⟨g, ρ, c, s, o⟩ := h
  refine ⟨g, ρ, c, s, OutL.mono (Out.bndL s o) fun xs H1 ⟨Z1, ds, c1, n1, p1, _, o1⟩ => ?_⟩
  obtain ⟨v, e, q⟩ := Out.lft o1
  obtain ⟨hz, rfl⟩ := split_if e
  exact ⟨by rw [p1.length]; exact hz, fin_tup (s.next n1) p1 q⟩
/-- a list display: a new list -/
theorem pm_lst (h : PMs X W es ms) : PM X W .frs (.List es pos) (eLst ms) := PE.imp (pe_lst h) fun σ H Q h => by
  obtain ⟨g, ρ, c, s, o⟩ := h
  refine ⟨g, ρ, c, s, OutL.mono (Out.bndL s o) fun xs H1 ⟨Z1, ds, c1, n1, p1, _, o1⟩ => ?_⟩
  obtain ⟨v, e, q⟩ := Out.lft o1
  obtain ⟨hz, rfl⟩ := split_if e
  exact ⟨by rw [p1.length]; exact hz, fin_frs (s.next n1) p1 q⟩
theorem ix_any : IxR X fun x y H Q => ∃ (g : Gh) (σ : L2.St) (ρ : E) (c : Cup) (d e v : D), SR X.K g H σ ρ c ∧ Rb X.K H g.Z g.κ x d ∧ Rb X.K H g.Z g.κ y e ∧ opIdx d e = some v ∧
    ∀ x' H' Z', Nxt g.κ g.Z H c Z' H' → Res X.K .val g.κ H Z' H' x' v → Q x' H' := by
  intro value slice pins s' σ' H x y v u Q I rx ry ⟨g, σ, ρ, c, d, e, w, s, hx, hy, hf, q⟩ hs
  unfold opIdx at hf
  split at hf
  · obtain rfl := hy.int
    obtain ⟨a, xs, rfl, _, ea, ra⟩ := hx.list s
    obtain ⟨z, e1, r1⟩ := ra.atI hf
    exact ix_list value slice pins s' σ' H _ _ v u Q I rx ry ⟨a, xs, _, z, rfl, rfl, .inl (.inl ea), e1, q z H g.Z s.rf r1⟩ hs
  · obtain rfl := hy.int
    obtain ⟨a, xs, rfl, ea, ra⟩ := hx.tup
    obtain ⟨z, e1, r1⟩ := ra.atI hf
    exact ix_tup value slice pins s' σ' H _ _ v u Q I rx ry ⟨a, xs, _, z, rfl, rfl, ea, e1, q z H g.Z s.rf r1⟩ hs
  · cases hf
theorem pm_idx (ha : PM X W .bor a ma) (hb : PM X W .bor b mb) (hs : PlainIx b := by intro _ _; rfl) : PM X W .val (.Subscript a b pos) (e2 opIdx ma mb) := PE.imp (pe_ix ix_any ha hb hs) fun _ _ _ h => two h
abbrev POm (X : Cx) (W : Nat → Hp → Prop) (e : Option Expr) (m : MP) : Prop := PO X e fun σ H Q => ∃ g ρ c, SR X.K g H σ ρ c ∧ OutT X.K W g H (m ρ c) Q
theorem PO.imp {e : Option Expr} {t t' : TO} (h : PO X e t) (i : ∀ σ H Q, t' σ H Q → t σ H Q) : PO X e t' := ⟨fun pins s σ H Q I q => h.run pins s σ H Q I (i σ H Q q)⟩
theorem pom_no : POm X W none pNo := PO.imp po_none fun σ H Q ⟨g, ρ, c, s, o⟩ => o H g.Z s.rf
theorem pom_so (ha : PM X W .bor a ma) : POm X W (some a) (pSo ma) := PO.imp (po_some ha) fun σ H Q ⟨g, ρ, c, s, o⟩ => by
  refine ⟨g, ρ, c, s, Out.mono (OutT.bnd s o) fun x H1 ⟨Z1, d, c1, n1, p1, _, o1⟩ => ?_⟩
  obtain ⟨v, e, q⟩ := OutT.lft o1
  unfold toI at e
  split at e
  · cases e
    exact ⟨_, p1.int (g := g), q H1 Z1 (s.next n1).rf⟩
  · cases e
variable {f : Option Int → Option Int → D → Option D} {lo hi : Option Expr} {ml mh : MP} {p2 : Pos}
def Sl1 (X : Cx) (f : Option Int → Option Int → D → Option D) (k : Fv) : Prop :=
  L2.SlR X fun x lo hi H Q => ∃ (g : Gh) (σ : L2.St) (ρ : E) (c : Cup) (d v : D), SR X.K g H σ ρ c ∧ Rb X.K H g.Z g.κ x d ∧ f lo hi d = some v ∧
    ∀ x' H' Z', Nxt g.κ g.Z H c Z' H' → Res X.K k g.κ H Z' H' x' v → Q x' H'
theorem pm_slice (hr : Sl1 X f k) (he : PM X W .bor a ma) (hl : POm X W lo ml) (hu : POm X W hi mh) : PM X W k (.Subscript a (.Slice lo hi none p2) pos) (eSl f ma ml mh) := PE.imp (pe_slice hr he hl hu) fun σ H Q h => by
  obtain ⟨g, ρ, c, s, o⟩ := h
  refine ⟨g, ρ, c, s, Out.mono (Out.bnd s o) fun x H1 ⟨Z1, d, c1, n1, p1, _, o1⟩ => ?_⟩
  have s1 := s.next n1
  refine ⟨g.z Z1, ρ, c1, s1, OutT.mono (Out.bndT s1 o1) fun l H2 ⟨Z2, c2, n2, _, o2⟩ => ?_⟩
  have s2 := s1.next n2
  refine ⟨(g.z Z1).z Z2, ρ, c2, s2, OutT.mono (Out.bndT s2 o2) fun u H3 ⟨Z3, c3, n3, _, o3⟩ => ?_⟩
  have s3 := s2.next n3
  obtain ⟨v, e, q⟩ := Out.lft o3
  exact ⟨((g.z Z1).z Z2).z Z3, σ, ρ, c3, d, v, s3, Rb.nxt (g := (g.z Z1).z Z2) s2 n3 (Rb.nxt (g := g.z Z1) s1 n2 p1), e, q⟩
theorem sl_any : Sl1 X opCut .val := by
  intro pins s' σ' H x v vl vu lo hi sl Q I rx hs pl pu ⟨g, σ, ρ, c, d, w, s, hx, hf, q⟩
  unfold opCut at hf
  split at hf
  · cases hf
    obtain ⟨a, xs, rfl, _, ea, ra⟩ := hx.list s
    exact sl_list pins s' σ' H _ v vl vu lo hi sl Q I rx hs pl pu ⟨a, xs, rfl, .inl (.inl ea), fin_lst s (ra.cut lo hi) q⟩
  · cases hf
    obtain ⟨a, xs, rfl, ea, ra⟩ := hx.tup
    refine sl_tupA pins s' σ' H _ v vl vu lo hi sl Q I rx hs pl pu ⟨a, xs, rfl, ea, fun ⟨h1, h2⟩ => ?_, fun _ => fin_tup s (ra.cut lo hi) q⟩
    have e : ∀ {α : Type} (zs : List α), zs.length = xs.length → (zs.drop (HT.sIx zs.length 0 lo)).take (HT.sIx zs.length zs.length hi - HT.sIx zs.length 0 lo) = zs := fun zs hz => by
      rw [hz, h1, h2, List.drop_zero, Nat.sub_zero, ← hz, List.take_length]
    unfold cutD at q
    rw [e _ ra.length.symm] at q
    exact q _ _ _ s.rf (.tup ea ra)
  · cases hf
theorem sl_lst : Sl1 X opCutL .frs := by
  intro pins s' σ' H x v vl vu lo hi sl Q I rx hs pl pu ⟨g, σ, ρ, c, d, w, s, hx, hf, q⟩
  unfold opCutL at hf
  split at hf
  · cases hf
    obtain ⟨a, xs, rfl, _, ea, ra⟩ := hx.list s
    exact sl_list pins s' σ' H _ v vl vu lo hi sl Q I rx hs pl pu ⟨a, xs, rfl, .inl (.inl ea), fin_frs s (ra.cut lo hi) q⟩
  · cases hf
variable {f1 f2 : D → D → Option D}
/-- the reading of a chain -/
theorem chained {σ : L2.St} {H : Hp} {Q : VK} (h : tM X.K .val W (eChain f1 f2 ma mb mc) σ H Q) : tM X.K .bor W ma σ H fun x H1 => tM X.K .bor W mb σ H1 fun y H2 =>
    ∃ (g : Gh) (σ' : L2.St) (ρ : E) (c : Cup) (d e v : D), SR X.K g H2 σ' ρ c ∧ Rb X.K H2 g.Z g.κ x d ∧ Rb X.K H2 g.Z g.κ y e ∧ f1 d e = some v ∧ ∀ z H3 Z3, Nxt g.κ g.Z H2 c Z3 H3 → Res X.K .val g.κ H2 Z3 H3 z v → ∃ k, z = .bl k ∧
      (if k = true then tM X.K .bor W mc σ H3 fun w' H4 => ∃ (g : Gh) (σ : L2.St) (ρ : E) (c : Cup) (d e v : D), SR X.K g H4 σ ρ c ∧ Rb X.K H4 g.Z g.κ y d ∧ Rb X.K H4 g.Z g.κ w' e ∧ f2 d e = some v ∧
        ∀ x' H' Z', Nxt g.κ g.Z H4 c Z' H' → Res X.K .val g.κ H4 Z' H' x' v → Q x' H' else Q (.bl false) H3) := by
  obtain ⟨g, ρ, c, s, o⟩ := h
  refine ⟨g, ρ, c, s, Out.mono (Out.bnd s o) fun x H1 ⟨Z1, d, c1, n1, p1, _, o1⟩ => ?_⟩
  have s1 := s.next n1
  refine ⟨g.z Z1, ρ, c1, s1, Out.mono (Out.bnd s1 o1) fun y H2 ⟨Z2, e, c2, n2, p2, _, o2⟩ => ?_⟩
  have s2 := s1.next n2
  cases hv : f1 d e with
  | none => rw [hv] at o2; exact o2.elim
  | some v =>
    refine ⟨(g.z Z1).z Z2, σ, ρ, c2, d, e, v, s2, Rb.nxt (g := g.z Z1) s1 n2 p1, p2, hv, fun z H3 Z3 n3 r3 => ?_⟩
    rw [hv] at o2
    have o3 : Out X.K .val W ((g.z Z1).z Z2) H2 (bnd (toB v) (fun k => if k = true then bnd (mc ρ) fun z => lft (f2 e z) else ret (.bool false)) c2) Q := o2
    cases v with
    | bool k =>
      cases r3
      refine ⟨k, rfl, ?_⟩
      have s3 := s2.next n3
      have o4 := Out.at s2 n3 o3
      have cup3 := s3
      -- the cup did not turn between
      have ec : ∀ {c3 : Cup}, True := fun {_} => trivial
      cases k with
      | true =>
        refine iteT ?_
        have o5 : Out X.K .bor W (((g.z Z1).z Z2).z Z3) H3 (mc ρ c2) _ := Out.bnd s3 (show Out X.K .val W (((g.z Z1).z Z2).z Z3) H3 (bnd (mc ρ) (fun z => lft (f2 e z)) c2) Q from o4)
        refine ⟨((g.z Z1).z Z2).z Z3, ρ, c2, s3, Out.mono o5 fun w' H4 ⟨Z4, e', c4, n4, p4, _, o6⟩ => ?_⟩
        obtain ⟨v', e6, q⟩ := Out.lft o6
        exact ⟨(((g.z Z1).z Z2).z Z3).z Z4, σ, ρ, c4, e, e', v', s3.next n4, Rb.nxt (g := ((g.z Z1).z Z2).z Z3) s3 n4 (Rb.nxt (g := (g.z Z1).z Z2) s2 n3 p2), p4, e6, q⟩
      | false =>
        refine iteF ?_
        exact o4 (.bl false) H3 Z3 s3.rf (.bl false)
    | none => exact o3.elim
    | int _ => exact o3.elim
    | str _ => exact o3.elim
    | list _ => exact o3.elim
    | tuple _ => exact o3.elim
    | dict _ => exact o3.elim
theorem pm_chain {op op' : CmpOp} (ho : Op2 X (compareOp op) f1 .val) (ho' : Op2 X (compareOp op') f2 .val) (ha : PM X W .bor a ma) (hb : PM X W .bor b mb) (hc : PM X W .bor c' mc)
    (hm : lastMarks [op, op'] [b, c'] = false := by with_unfolding_all rfl) : PM X W .val (.Compare a [op, op'] [b, c'] pos) (eChain f1 f2 ma mb mc) := PE.imp (pe_chain ho ho' ha hb hc hm) fun _ _ _ h => chained h
theorem ptm_chain {op op' : CmpOp} (ho : Op2 X (compareOp op) f1 .val) (ho' : Op2 X (compareOp op') f2 .val) (ha : PM X W .bor a ma) (hb : PM X W .bor b mb) (hc : PM X W .bor c' mc)
    (hm : lastMarks [op, op'] [b, c'] = false := by with_unfolding_all rfl) : PTm X W (.Compare a [op, op'] [b, c'] pos) (eChain f1 f2 ma mb mc) := PT.imp (pt_chain ho ho' ha hb hc hm) fun σ H Q ⟨g, ρ, c, s, o⟩ =>
  chained (Q := fun x H' => ∃ k, x = .bl k ∧ Q k H') ⟨g, ρ, c, s, Out.mono (OutT.bnd (k' := .val) s o) fun x H1 ⟨Z1, d, c1, n1, p1, _, o1⟩ => by
    obtain ⟨b, rfl, q⟩ := OutT.toB o1
    cases p1
    exact ⟨b, rfl, q H1 Z1 (s.next n1).rf⟩⟩
end
end PV

namespace PV
open PySem PySem.Spec PyProof.Rows L2
theorem tuple_mul_same (l : Addr) (items : Array Value) (n : Nat) (dd : Option Addr) (sl : Array (Option Value)) (x : Int) (u : Tok) (c0 : (decide (x < -(2 ^ 63)) || decide (x ≥ 2 ^ 63)) = false) (c1 : (items.isEmpty || x == 1) = true) :
    Meets (Builtin.«tuple.__mul__» ⟨[.ref l, .int x u], []⟩) (fun _ R s => s.heap.get? l = some { cls := .type "tuple", dict := dd, data := .seq items n, slots := sl } ∧
      R (.ok (.ret (Value.ref l))) s) :=
  .of_wp fun prog w A R s h => by
    obtain ⟨hp, g, d, tk, os⟩ := s
    obtain ⟨hl, h⟩ := h
    have f1 := AutoSeq1.idx_int
    wp_walk using wpAny_loadPart' hl
    repeat (first
      | (refine wpAny_ite_false (decide_eq_false (by rw [c0]; exact Bool.false_ne_true)) ?_; wp_walk using wpAny_loadPart' hl)
      | (refine wpAny_ite_true (decide_eq_true (by rw [c1])) ?_; wp_walk using wpAny_loadPart' hl))
    exact ⟨_, rfl, h⟩
section
variable {X : Cx} {W : Nat → Hp → Prop} {pos : Pos}
/-- a tuple once: itself -/
theorem op_repT1 : OpR X (binaryOp .Mult) fun x y H Q => ∃ l xs, x = .ref l ∧ y = .int 1 ∧ SqT X.K H l xs ∧ Q (.ref l) H := by
  intro pins s σ H x y v u Q I rx ry h
  obtain ⟨l, xs, rfl, rfl, hT, q⟩ := h
  cases rx
  obtain ⟨t, rfl⟩ := ry
  obtain ⟨its, r, ⟨⟨cls, dd, data, sl⟩, ho, hc, n, hd⟩, hs⟩ := I.tuple hT
  simp only at hc hd
  subst hc hd
  refine wpAny_binaryOp_repeat_ref (T := "tuple") (U := "int") (by decide) ⟨_, ho, rfl⟩ (fun s' => typeIs_int s' 1 t) noFill_tuple_mul F.fills_int_mul F.slot_int_rmul repeat_tuple F.slot_int_index.lookup
    (call_meets F.slot_int_rmul (typeIs_int s 1 t) F.entry_int_rmul (F.args_int_rmul_2 _ _) (int_rmul_tuple 1 t l its.toArray n dd sl)
      ⟨ho, rfl, ⟨_, ho, rfl⟩, call_meets F.slot_tuple_mul ⟨_, ho, rfl⟩ F.entry_tuple_mul (F.args_tuple_mul_2 _ _) (tuple_mul_same l its.toArray n dd sl 1 t (by decide) (by simp)) ⟨ho, ?_⟩⟩)
  exact ⟨.ref l, H, I, rfl, q⟩
theorem o_mul : Op2 X (binaryOp .Mult) opMul .val := by
  intro pins s' σ' H x y v u Q I rx ry ⟨g, σ, ρ, c, d, e, w, s, hx, hy, hf, q⟩
  unfold opMul at hf
  split at hf
  · obtain ⟨hc, rfl⟩ := split_if hf
    obtain rfl := hx.int
    obtain rfl := hy.int
    exact op_mul pins s' σ' H _ _ v u Q I rx ry ⟨_, _, rfl, rfl, by unfold CMul; omega, fin_int s q⟩
  · obtain ⟨⟨h1, h2, h3, h4⟩, rfl⟩ := split_if hf
    obtain rfl := hy.int
    obtain ⟨a, xs, rfl, ea, ra⟩ := hx.tup
    rename_i ds k
    by_cases hk : k = 1
    · subst hk
      refine op_repT1 pins s' σ' H _ _ v u Q I rx ry ⟨a, xs, rfl, rfl, ea, ?_⟩
      have e : reps ds 1 = ds := by simp [reps]
      rw [e] at q
      exact q _ _ _ s.rf (.tup ea ra)
    · exact op_repT pins s' σ' H _ _ v u Q I rx ry ⟨a, k, xs, rfl, rfl, ea, fun z => h4 (ra.nil_iff.mp z), by omega, h2, by rw [ra.length]; exact h3, fin_tup s (ra.flat _) q⟩
  · obtain ⟨⟨h1, h2, h3⟩, rfl⟩ := split_if hf
    obtain rfl := hy.int
    obtain ⟨a, xs, rfl, nk, ea, ra⟩ := hx.list s
    rename_i ds k
    refine op_rep pins s' σ' H _ _ v u Q I rx ry ⟨a, k, xs, rfl, rfl, ea, by omega, by omega, ?_, fin_lst s (ra.flat _) q⟩
    rw [ra.length, sizeLine_eq]
    have : ds.length * k.toNat ≤ 1000 * 1000 := Nat.mul_le_mul h3 (by omega)
    omega
  · cases hf
theorem o_rep : Op2 X (binaryOp .Mult) opRep .frs := by
  intro pins s' σ' H x y v u Q I rx ry ⟨g, σ, ρ, c, d, e, w, s, hx, hy, hf, q⟩
  unfold opRep at hf
  split at hf
  · obtain ⟨⟨h1, h2, h3⟩, rfl⟩ := split_if hf
    obtain rfl := hy.int
    obtain ⟨a, xs, rfl, nk, ea, ra⟩ := hx.list s
    rename_i ds k
    refine op_rep pins s' σ' H _ _ v u Q I rx ry ⟨a, k, xs, rfl, rfl, ea, by omega, by omega, ?_, fin_frs s (ra.flat _) q⟩
    rw [ra.length, sizeLine_eq]
    have : ds.length * k.toNat ≤ 1000 * 1000 := Nat.mul_le_mul h3 (by omega)
    omega
  · cases hf

def Ca1 (X : Cx) (F : Value) (f : D → Option D) (k : Fv) : Prop :=
  CallR X F fun xs H Q => ∃ (x : V) (g : Gh) (σ : L2.St) (ρ : E) (c : Cup) (d v : D), xs = [x] ∧ SR X.K g H σ ρ c ∧ Rb X.K H g.Z g.κ x d ∧ f d = some v ∧
    ∀ x' H' Z', Nxt g.κ g.Z H c Z' H' → Res X.K k g.κ H Z' H' x' v → Q x' H'
def Ca2 (X : Cx) (F : Value) (f : D → D → Option D) (k : Fv) : Prop :=
  CallR X F fun xs H Q => ∃ (x y : V) (g : Gh) (σ : L2.St) (ρ : E) (c : Cup) (d e v : D), xs = [x, y] ∧ SR X.K g H σ ρ c ∧ Rb X.K H g.Z g.κ x d ∧ Rb X.K H g.Z g.κ y e ∧ f d e = some v ∧
    ∀ x' H' Z', Nxt g.κ g.Z H c Z' H' → Res X.K k g.κ H Z' H' x' v → Q x' H'
variable {k : Fv} {a b : Expr} {ma mb : ME} {z : Str} {p : Pos} {id T : String}
theorem pm_callB {f : D → Option D} (hc : Ca1 X (.builtin id) f k) (hg : Gl X z) (hm : X.mg z = none) (hv : bootBuiltins z = some (.builtin id)) (ha : PM X W .bor a ma) (hn : z ≠ "__name__" := by decide) (hdb : (z == ("__debug__" : Str)) = false := by decide)
    (he : starEach [a] X.env = (false, eval a X.env) :: starEach [] X.env := by rfl) : PM X W k (.Call (.Name z p) [a] [] pos) (e1 f ma) := PE.imp (pe_callB hc hg hm hv (pa_cons ha pa_nil he) hn hdb he) fun σ H Q h => by
  obtain ⟨g0, ρ0, c0, s0, o0⟩ := one h
  exact ⟨g0, ρ0, c0, s0, Out.mono o0 fun x H1 ⟨g, ρ, c, d, v, s, r, e, q⟩ => ⟨x, g, σ, ρ, c, d, v, rfl, s, r, e, q⟩⟩
theorem pm_callTy {f : D → Option D} (hc : Ca1 X (.type T) f k) (hg : Gl X z) (hm : X.mg z = none) (hv : bootBuiltins z = some (.type T)) (ha : PM X W .bor a ma) (hn : z ≠ "__name__" := by decide) (hdb : (z == ("__debug__" : Str)) = false := by decide)
    (he : starEach [a] X.env = (false, eval a X.env) :: starEach [] X.env := by rfl) : PM X W k (.Call (.Name z p) [a] [] pos) (e1 f ma) := PE.imp (pe_callTy hc hg hm hv (pa_cons ha pa_nil he) hn hdb he) fun σ H Q h => by
  obtain ⟨g0, ρ0, c0, s0, o0⟩ := one h
  exact ⟨g0, ρ0, c0, s0, Out.mono o0 fun x H1 ⟨g, ρ, c, d, v, s, r, e, q⟩ => ⟨x, g, σ, ρ, c, d, v, rfl, s, r, e, q⟩⟩
theorem pm_callB2 {f : D → D → Option D} (hc : Ca2 X (.builtin id) f k) (hg : Gl X z) (hm : X.mg z = none) (hv : bootBuiltins z = some (.builtin id)) (ha : PM X W .bor a ma) (hb : PM X W .bor b mb) (hn : z ≠ "__name__" := by decide) (hdb : (z == ("__debug__" : Str)) = false := by decide)
    (he : starEach [a, b] X.env = (false, eval a X.env) :: starEach [b] X.env := by rfl) (he2 : starEach [b] X.env = (false, eval b X.env) :: starEach [] X.env := by rfl) (hpl : (backTo pos (starEach [b] X.env)).any (·.1) = false := by rfl) :
    PM X W k (.Call (.Name z p) [a, b] [] pos) (e2 f ma mb) := PE.imp (pe_callB hc hg hm hv (pa_cons ha (pa_cons hb pa_nil he2) he) hn hdb he hpl) fun σ H Q h => by
  obtain ⟨g0, ρ0, c0, s0, o0⟩ := two h
  refine ⟨g0, ρ0, c0, s0, Out.mono o0 fun x H1 ⟨g1, ρ1, c1, s1, o1⟩ => ⟨g1, ρ1, c1, s1, Out.mono o1 fun y H2 ⟨g, σ', ρ, c, d, e, v, s, r, r2, ee, q⟩ => ?_⟩⟩
  exact ⟨x, y, g, σ', ρ, c, d, e, v, rfl, s, r, r2, ee, q⟩
theorem c_int : Ca1 X (.type "int") fInt .val := by
  intro pins s' σ' H xs us Q I r h
  obtain ⟨x, g, σ, ρ, c, d, w, rfl, s, hx, hf, q⟩ := h
  unfold fInt at hf
  split at hf
  · obtain rfl := hx.int
    cases hf
    exact call_int1 pins s' σ' H _ us Q I r (.inl ⟨_, rfl, fin_int s q⟩)
  · obtain rfl := hx.bool
    cases hf
    exact call_int1 pins s' σ' H _ us Q I r (.inr ⟨_, rfl, fin_int s q⟩)
  · cases hf
theorem c_abs : Ca1 X (.builtin "abs") fAbs .val := by
  intro pins s' σ' H xs us Q I r h
  obtain ⟨x, g, σ, ρ, c, d, w, rfl, s, hx, hf, q⟩ := h
  unfold fAbs at hf
  split at hf
  · obtain rfl := hx.int
    cases hf
    exact call_abs pins s' σ' H _ us Q I r ⟨_, rfl, fin_int s q⟩
  · cases hf
theorem c_len : Ca1 X (.builtin "len") fLen .val := by
  intro pins s' σ' H xs us Q I r h
  obtain ⟨x, g, σ, ρ, c, d, w, rfl, s, hx, hf, q⟩ := h
  unfold fLen at hf
  split at hf
  · obtain ⟨a, ys, rfl, _, ea, ra⟩ := hx.list s
    cases hf
    exact call_len_seq pins s' σ' H _ us Q I r ⟨a, ys, rfl, .inl (.inl (.inl ea)), by rw [ra.length]; exact fin_int s q⟩
  · obtain ⟨a, ys, rfl, ea, ra⟩ := hx.tup
    cases hf
    exact call_len_seq pins s' σ' H _ us Q I r ⟨a, ys, rfl, .inr ea, by rw [ra.length]; exact fin_int s q⟩
  · cases hf
theorem c_list : Ca1 X (.type "list") fList .frs := by
  intro pins s' σ' H xs us Q I r h
  obtain ⟨x, g, σ, ρ, c, d, w, rfl, s, hx, hf, q⟩ := h
  unfold fList at hf
  split at hf
  · obtain ⟨a, ys, rfl, _, ea, ra⟩ := hx.list s
    cases hf
    exact call_list_of pins s' σ' H _ us Q I r ⟨a, ys, rfl, .inl (.inl (.inl ea)), fin_frs s ra q⟩
  · obtain ⟨a, ys, rfl, ea, ra⟩ := hx.tup
    cases hf
    exact call_list_of pins s' σ' H _ us Q I r ⟨a, ys, rfl, .inr ea, fin_frs s ra q⟩
  · cases hf
theorem c_tuple : Ca1 X (.type "tuple") fTuple .val := by
  intro pins s' σ' H xs us Q I r h
  obtain ⟨x, g, σ, ρ, c, d, w, rfl, s, hx, hf, q⟩ := h
  unfold fTuple at hf
  split at hf
  · obtain ⟨a, ys, rfl, _, ea, ra⟩ := hx.list s
    cases hf
    exact call_tuple_of pins s' σ' H _ us Q I r ⟨a, ys, rfl, .inl ⟨.inl (.inl ea), fin_tup s ra q⟩⟩
  · obtain ⟨a, ys, rfl, ea, ra⟩ := hx.tup
    cases hf
    exact call_tuple_of pins s' σ' H _ us Q I r ⟨a, ys, rfl, .inr ⟨ea, q _ _ _ s.rf (.tup ea ra)⟩⟩
  · cases hf
theorem RpA.vints {K : PySem.W.Frag} {H : Hp} {Z : Addr → Prop} : ∀ {xs : List V} {ns : List Int}, RpA K H Z xs (ns.map PyData.int) → xs = ns.map V.int
  | [], [], .nil => rfl
  | _ :: _, _ :: _, .cons h r => by
    cases h
    rw [List.map_cons, RpA.vints r]
theorem RpA.vbools {K : PySem.W.Frag} {H : Hp} {Z : Addr → Prop} : ∀ {xs : List V} {ns : List Bool}, RpA K H Z xs (ns.map PyData.bool) → xs = ns.map V.bl
  | [], [], .nil => rfl
  | _ :: _, _ :: _, .cons h r => by
    cases h
    rw [List.map_cons, RpA.vbools r]
theorem sum_tup {pins : List (Addr × Obj)} {s : Shared} {σ : L2.St} {H : Hp} {Q : VK} {a : Addr} {ns : List Int} (hc : X.calm = true) (I : Inv X pins σ H s) (hT : SqT X.K H a (ns.map V.int)) (q : Q (.int ns.sum) H) :
    wpAny (model X.prog X.w) X.A (call (.builtin "sum") [.ref a]) (EP X pins σ Q) X.xe s := by
  obtain ⟨its, r, ht, hs⟩ := I.tuple hT
  have hi : IntsAre its ns := r.ints
  obtain ⟨xs, e⟩ := hi.allInts.items
  have hn : numsOf (intItems xs).toList = ns := by rw [← e]; exact hi.numsOf
  rw [nums_intItems] at hn
  rw [e] at ht
  refine PySem.W.ktm_sumG (I.ok.hd hc) (show s.heap.IsTuple a (intItems xs) from ht) fun h' tk t' hk => ?_
  rw [preSum_eq, List.take_of_length_le (by simp), hn]
  exact ⟨.int _, H, I.kept hk, ⟨_, rfl⟩, q⟩
theorem c_sum (hc : X.calm = true) : Ca1 X (.builtin "sum") fSum .val := by
  intro pins s' σ' H xs us Q I r h
  obtain ⟨x, g, σ, ρ, c, d, w, rfl, s, hx, hf, q⟩ := h
  unfold fSum at hf
  split at hf
  · obtain ⟨a, ys, rfl, _, ea, ra⟩ := hx.list s
    obtain ⟨ns, e, rfl⟩ := Option.map_eq_some_iff.mp hf
    rw [intsOf_eq e] at ra
    obtain rfl := ra.vints
    exact cr_sum hc pins s' σ' H _ us Q I r ⟨a, ns, rfl, .inl (.inl ea), fin_int s q⟩
  · obtain ⟨a, ys, rfl, ea, ra⟩ := hx.tup
    obtain ⟨ns, e, rfl⟩ := Option.map_eq_some_iff.mp hf
    rw [intsOf_eq e] at ra
    obtain rfl := ra.vints
    rw [Vals.ref1 r]
    exact sum_tup hc I ea (fin_int s q)
  · cases hf
theorem c_all (hc : X.calm = true) : Ca1 X (.builtin "all") fAll .val := by
  intro pins s' σ' H xs us Q I r h
  obtain ⟨x, g, σ, ρ, c, d, w, rfl, s, hx, hf, q⟩ := h
  unfold fAll at hf
  split at hf
  · obtain ⟨a, ys, rfl, _, ea, ra⟩ := hx.list s
    obtain ⟨ns, e, rfl⟩ := Option.map_eq_some_iff.mp hf
    rw [boolsOf_eq e] at ra
    obtain rfl := ra.vbools
    exact cr_all hc pins s' σ' H _ us Q I r ⟨a, ns, rfl, .inl (.inl ea), fin_bool s q⟩
  · cases hf
theorem c_any (hc : X.calm = true) : Ca1 X (.builtin "any") fAny .val := by
  intro pins s' σ' H xs us Q I r h
  obtain ⟨x, g, σ, ρ, c, d, w, rfl, s, hx, hf, q⟩ := h
  unfold fAny at hf
  split at hf
  · obtain ⟨a, ys, rfl, _, ea, ra⟩ := hx.list s
    obtain ⟨ns, e, rfl⟩ := Option.map_eq_some_iff.mp hf
    rw [boolsOf_eq e] at ra
    obtain rfl := ra.vbools
    exact cr_any hc pins s' σ' H _ us Q I r ⟨a, ns, rfl, .inl (.inl ea), fin_bool s q⟩
  · cases hf
theorem fold_max : ∀ (r : List Int) (n : Int), n ≤ r.foldl (fun a b => if a < b then b else a) n ∧ (∀ y ∈ r, y ≤ r.foldl (fun a b => if a < b then b else a) n) ∧ (r.foldl (fun a b => if a < b then b else a) n = n ∨ r.foldl (fun a b => if a < b then b else a) n ∈ r)
  | [], n => ⟨Int.le_refl _, fun _ h => (nomatch h), .inl rfl⟩
  | m :: r, n => by
    obtain ⟨h1, h2, h3⟩ := fold_max r (if n < m then m else n)
    have k1 : n ≤ (if n < m then m else n) ∧ m ≤ (if n < m then m else n) := by split <;> omega
    rw [List.foldl_cons]
    refine ⟨Int.le_trans k1.1 h1, fun y hy => ?_, ?_⟩
    · rcases List.mem_cons.mp hy with rfl | hy
      · exact Int.le_trans k1.2 h1
      · exact h2 y hy
    · rcases h3 with h3 | h3
      · rw [h3]
        split
        · exact .inr List.mem_cons_self
        · exact .inl rfl
      · exact .inr (List.mem_cons_of_mem _ h3)
theorem fold_min : ∀ (r : List Int) (n : Int), r.foldl (fun a b => if b < a then b else a) n ≤ n ∧ (∀ y ∈ r, r.foldl (fun a b => if b < a then b else a) n ≤ y) ∧ (r.foldl (fun a b => if b < a then b else a) n = n ∨ r.foldl (fun a b => if b < a then b else a) n ∈ r)
  | [], n => ⟨Int.le_refl _, fun _ h => (nomatch h), .inl rfl⟩
  | m :: r, n => by
    obtain ⟨h1, h2, h3⟩ := fold_min r (if m < n then m else n)
    have k1 : (if m < n then m else n) ≤ n ∧ (if m < n then m else n) ≤ m := by split <;> omega
    rw [List.foldl_cons]
    refine ⟨Int.le_trans h1 k1.1, fun y hy => ?_, ?_⟩
    · rcases List.mem_cons.mp hy with rfl | hy
      · exact Int.le_trans h1 k1.2
      · exact h2 y hy
    · rcases h3 with h3 | h3
      · rw [h3]
        split
        · exact .inr List.mem_cons_self
        · exact .inl rfl
      · exact .inr (List.mem_cons_of_mem _ h3)
theorem maxI_is {ns : List Int} {m : Int} (h : maxI ns = some m) : m ∈ ns ∧ ∀ y ∈ ns, y ≤ m := by
  cases ns with
  | nil => cases h
  | cons n r =>
    cases h
    obtain ⟨h1, h2, h3⟩ := fold_max r n
    exact ⟨by rcases h3 with h3 | h3; rw [h3]; exact List.mem_cons_self; exact List.mem_cons_of_mem _ h3, fun y hy => (List.mem_cons.mp hy).elim (fun e => e ▸ h1) (h2 y)⟩
theorem minI_is {ns : List Int} {m : Int} (h : minI ns = some m) : m ∈ ns ∧ ∀ y ∈ ns, m ≤ y := by
  cases ns with
  | nil => cases h
  | cons n r =>
    cases h
    obtain ⟨h1, h2, h3⟩ := fold_min r n
    exact ⟨by rcases h3 with h3 | h3; rw [h3]; exact List.mem_cons_self; exact List.mem_cons_of_mem _ h3, fun y hy => (List.mem_cons.mp hy).elim (fun e => e ▸ h1) (h2 y)⟩
theorem c_max (hc : X.calm = true) : Ca1 X (.builtin "max") fMax .val := by
  intro pins s' σ' H xs us Q I r h
  obtain ⟨x, g, σ, ρ, c, d, w, rfl, s, hx, hf, q⟩ := h
  unfold fMax at hf
  split at hf
  · obtain ⟨a, ys, rfl, _, ea, ra⟩ := hx.list s
    obtain ⟨m, e, rfl⟩ := Option.map_eq_some_iff.mp hf
    obtain ⟨ns, e1, e2⟩ := Option.bind_eq_some_iff.mp e
    rw [intsOf_eq e1] at ra
    obtain rfl := ra.vints
    obtain ⟨h1, h2⟩ := maxI_is e2
    refine cr_max hc pins s' σ' H _ us Q I r ⟨a, ns, rfl, .inl (.inl ea), List.length_pos_of_mem h1, fun m' h3 h4 => ?_⟩
    have e3 : m' = m := Int.le_antisymm (h2 m' h3) (h4 m h1)
    subst e3
    exact fin_int s q
  · cases hf
theorem c_min (hc : X.calm = true) : Ca1 X (.builtin "min") fMin .val := by
  intro pins s' σ' H xs us Q I r h
  obtain ⟨x, g, σ, ρ, c, d, w, rfl, s, hx, hf, q⟩ := h
  unfold fMin at hf
  split at hf
  · obtain ⟨a, ys, rfl, _, ea, ra⟩ := hx.list s
    obtain ⟨m, e, rfl⟩ := Option.map_eq_some_iff.mp hf
    obtain ⟨ns, e1, e2⟩ := Option.bind_eq_some_iff.mp e
    rw [intsOf_eq e1] at ra
    obtain rfl := ra.vints
    obtain ⟨h1, h2⟩ := minI_is e2
    refine cr_min hc pins s' σ' H _ us Q I r ⟨a, ns, rfl, .inl (.inl ea), List.length_pos_of_mem h1, fun m' h3 h4 => ?_⟩
    have e3 : m' = m := Int.le_antisymm (h4 m h1) (h2 m' h3)
    subst e3
    exact fin_int s q
  · cases hf
theorem c_max2 (hc : X.calm = true) : Ca2 X (.builtin "max") fMax2 .val := by
  intro pins s' σ' H xs us Q I r h
  obtain ⟨x, y, g, σ, ρ, c, d, e, w, rfl, s, hx, hy, hf, q⟩ := h
  unfold fMax2 at hf
  split at hf
  · obtain rfl := hx.int
    obtain rfl := hy.int
    cases hf
    exact call_max2 hc pins s' σ' H _ us Q I r ⟨_, _, rfl, fin_int s q⟩
  · cases hf
theorem c_min2 (hc : X.calm = true) : Ca2 X (.builtin "min") fMin2 .val := by
  intro pins s' σ' H xs us Q I r h
  obtain ⟨x, y, g, σ, ρ, c, d, e, w, rfl, s, hx, hy, hf, q⟩ := h
  unfold fMin2 at hf
  split at hf
  · obtain rfl := hx.int
    obtain rfl := hy.int
    cases hf
    exact call_min2 hc pins s' σ' H _ us Q I r ⟨_, _, rfl, fin_int s q⟩
  · cases hf
end
end PV

namespace PV
open PySem PySem.Spec PyProof.Rows L2
def OutG {α : Type} (W : Nat → Hp → Prop) (κ : Option Addr) (Z : Addr → Prop) (H : Hp) (r : R α) (Q : α → Cup → (Addr → Prop) → Hp → Prop) : Prop := match r with
  | .ok a c' => ∀ H' Z', Nxt κ Z H c' Z' H' → Q a c' Z' H'
  | .err e c' => ∀ H' Z', Nxt κ Z H c' Z' H' → W e H'
  | .no => False
section
variable {K : PySem.W.Frag} {k : Fv} {W : Nat → Hp → Prop} {g g' : Gh} {κ : Option Addr} {H H1 : Hp} {c c0 c1 : Cup} {Z Z1 : Addr → Prop} {σ σ' : L2.St} {ρ ρ' : E} {x y : V} {d : D}
/-- a step from a later state, its result back at the elder one -/
theorem OutG.stepT {α β : Type} {m : M α} {f : α → M β} {Q : β → Cup → (Addr → Prop) → Hp → Prop} (s : SR K g H σ ρ c0) (n : Nxt g.κ g.Z H c Z1 H1) (e : g'.κ = g.κ) (ez : g'.Z = Z1) (h : OutG W g.κ g.Z H (PV.bnd m f c) Q) :
    OutT K W g' H1 (m c) fun a H2 => ∃ Z2 c2, Nxt g.κ Z1 H1 c2 Z2 H2 ∧ m c = .ok a c2 ∧ OutG W g.κ g.Z H (f a c2) Q := by
  rw [bnd_app] at h
  cases q : m c with
  | ok a c2 =>
    rw [q] at h
    intro H2 Z2 n2
    rw [e, ez] at n2
    exact ⟨Z2, c2, n2, rfl, h⟩
  | err e' c2 =>
    rw [q] at h
    intro H2 Z2 n2
    rw [e, ez] at n2
    exact h H2 Z2 (n.trans n2 s.kt)
  | no => rw [q] at h; exact h
theorem OutG.stepM {β : Type} {k' : Fv} {m : M D} {f : D → M β} {Q : β → Cup → (Addr → Prop) → Hp → Prop} (s : SR K g H σ ρ c0) (n : Nxt g.κ g.Z H c Z1 H1) (e : g'.κ = g.κ) (ez : g'.Z = Z1) (h : OutG W g.κ g.Z H (PV.bnd m f c) Q) :
    Out K k' W g' H1 (m c) fun x H2 => ∃ Z2 d c2, Nxt g.κ Z1 H1 c2 Z2 H2 ∧ Res K k' g.κ H1 Z2 H2 x d ∧ m c = .ok d c2 ∧ OutG W g.κ g.Z H (f d c2) Q := by
  rw [bnd_app] at h
  cases q : m c with
  | ok a c2 =>
    rw [q] at h
    intro x H2 Z2 n2 r
    rw [e, ez] at n2
    rw [e] at r
    exact ⟨Z2, a, c2, n2, r, rfl, h⟩
  | err e' c2 =>
    rw [q] at h
    intro H2 Z2 n2
    rw [e, ez] at n2
    exact h H2 Z2 (n.trans n2 s.kt)
  | no => rw [q] at h; exact h
theorem OutG.lft {α : Type} {o : Option α} {Q : α → Cup → (Addr → Prop) → Hp → Prop} (h : OutG W κ Z H (PV.lft o c) Q) : ∃ a, o = some a ∧ ∀ H' Z', Nxt κ Z H c Z' H' → Q a c Z' H' := by
  cases o with
  | none => exact h.elim
  | some a => exact ⟨a, rfl, h⟩

def tG (K : PySem.W.Frag) (tg : Tg) : TG := fun v σ H Q => ∃ g ρ c d ρ2, SR K g H σ ρ c ∧ Rp K H g.Z v d ∧ tg.put d ρ = some ρ2 ∧
  ∀ σ2 g2, SR K g2 H σ2 ρ2 c → g2.Z = g.Z → g2.B = g.B → g2.κ = g.κ → (∀ i a, a ∈ g2.o i → a ∈ g.o i) → σ2.length = σ.length → (∀ j, j ∉ tg.ix → σ2[j]? = σ[j]?) → Q σ2 H
def tGs (K : PySem.W.Frag) (ts : List Tg) : TGs := fun vs σ H Q => ∃ g ρ c ds ρ2, SR K g H σ ρ c ∧ RpA K H g.Z vs ds ∧ Tg.puts ts ds ρ = some ρ2 ∧
  ∀ σ2 g2, SR K g2 H σ2 ρ2 c → g2.Z = g.Z → g2.B = g.B → g2.κ = g.κ → (∀ i a, a ∈ g2.o i → a ∈ g.o i) → σ2.length = σ.length → (∀ j, j ∉ Tg.ixs ts → σ2[j]? = σ[j]?) → Q σ2 H
/-- a slot is stored -/
theorem SR.put (s : SR K g H σ ρ c) {i : Nat} {v : Option V} {sl : Slot} {oo : List Addr} (hi : i < ρ.length) (r : SlR K H g.Z g.B g.κ v sl oo) (nd : oo.Nodup)
    (dj : ∀ j a, j ≠ i → a ∈ oo → a ∉ g.o j) (fr : ∀ a, a ∈ oo → ¬ g.Z a ∧ ¬ g.B a ∧ g.κ ≠ some a) : SR K { g with o := fun j => if j = i then oo else g.o j } H (σ.set i v) (ρ.set i sl) c where
  len := by rw [List.length_set, List.length_set]; exact s.len
  sl := fun j => by
    show SlR K H g.Z g.B g.κ ((σ.set i v).getD j none) ((ρ.set i sl).getD j .no) (if j = i then oo else g.o j)
    by_cases e : j = i
    · subst e
      rw [if_pos rfl, List.getD_eq_getElem?_getD, List.getD_eq_getElem?_getD, List.getElem?_set_self hi, List.getElem?_set_self (by rw [s.len]; exact hi)]
      exact r
    · rw [if_neg e, List.getD_eq_getElem?_getD, List.getD_eq_getElem?_getD, List.getElem?_set_ne (Ne.symm e), List.getElem?_set_ne (Ne.symm e), ← List.getD_eq_getElem?_getD, ← List.getD_eq_getElem?_getD]
      exact s.sl j
  nd := fun j => by
    show (if j = i then oo else g.o j).Nodup
    split
    · exact nd
    · exact s.nd j
  dj := fun j l a h1 h2 => by
    have h1 : a ∈ (if j = i then oo else g.o j) := h1
    have h2 : a ∈ (if l = i then oo else g.o l) := h2
    by_cases e1 : j = i
    · rw [if_pos e1] at h1
      by_cases e2 : l = i
      · exact e1.trans e2.symm
      · rw [if_neg e2] at h2
        exact absurd h2 (dj l a e2 h1)
    · rw [if_neg e1] at h1
      by_cases e2 : l = i
      · rw [if_pos e2] at h2
        exact absurd h1 (dj j a e1 h2)
      · rw [if_neg e2] at h2
        exact s.dj j l a h1 h2
  fr := fun j a h => by
    have h : a ∈ (if j = i then oo else g.o j) := h
    by_cases e : j = i
    · rw [if_pos e] at h; exact fr a h
    · rw [if_neg e] at h; exact s.fr j a h
  cup := s.cup
  kz := s.kz
  zh := s.zh
theorem set_ge {α : Type} : ∀ (l : List α) (i : Nat) (x : α), l.length ≤ i → l.set i x = l
  | [], _, _, _ => rfl
  | a :: r, 0, x, h => by simp at h
  | a :: r, i + 1, x, h => by rw [List.set_cons_succ, set_ge r i x (by simpa using h)]
theorem SR.put0 (s : SR K g H σ ρ c) {i : Nat} {v : Option V} {sl : Slot} (r : SlR K H g.Z g.B g.κ v sl []) : ∃ g2, SR K g2 H (σ.set i v) (ρ.set i sl) c ∧ g2.Z = g.Z ∧ g2.B = g.B ∧ g2.κ = g.κ ∧ ∀ i a, a ∈ g2.o i → a ∈ g.o i := by
  by_cases hi : i < ρ.length
  · refine ⟨_, s.put hi r List.nodup_nil (fun _ _ _ h => nomatch h) (fun _ h => nomatch h), rfl, rfl, rfl, fun j a h => ?_⟩
    have h : a ∈ (if j = i then [] else g.o j) := h
    split at h
    · cases h
    · exact h
  · have hl := s.len
    rw [set_ge _ _ _ (by omega), set_ge _ _ _ (by omega)]
    exact ⟨g, s, rfl, rfl, rfl, fun _ _ h => h⟩
end
section
variable {X : Cx} {W : Nat → Hp → Prop} {pos : Pos}
abbrev PGm (X : Cx) (e : Expr) (t : Tg) : Prop := PG X e (tG X.K t)
abbrev PGms (X : Cx) (es : List Expr) (ts : List Tg) : Prop := PGs X es (tGs X.K ts)
theorem PG.imp {X : Cx} {e : Expr} {t t' : TG} (h : PG X e t) (i : ∀ v σ H Q, t' v σ H Q → t v σ H Q) : PG X e t' := ⟨fun pins s σ H v u Q I r q => h.run pins s σ H v u Q I r (i v σ H Q q)⟩
theorem PGs.imp {X : Cx} {e : List Expr} {t t' : TGs} (h : PGs X e t) (i : ∀ v σ H Q, t' v σ H Q → t v σ H Q) : PGs X e t' := ⟨fun pins s σ H v u Q I r q => h.run pins s σ H v u Q I r (i v σ H Q q)⟩
theorem pgm_nm (i : Nat) {z : Str} (hN : X.N.Nodup) (hi : X.N[i]? = some z := by rfl) (hx : Loc X.env.scope z := by first | exact Or.inl rfl | exact Or.inr rfl) (hf : X.fn z = true ∨ X.env.scope.names.lookup z = some .local := by first | exact .inl rfl | exact .inr rfl | assumption) :
    PGm X (.Name z pos) (.nm i) := PG.imp (pg_name hN hi hx hf) fun v σ H Q ⟨g, ρ, c, d, ρ2, s, r, e, q⟩ => by
  simp only [Tg.put, Option.some.injEq] at e
  subst e
  obtain ⟨g2, s2, e1, e2, e3, e4⟩ := s.put0 (i := i) (v := some v) (sl := .sh d) (.sh r)
  exact q _ g2 s2 e1 e2 e3 e4 List.length_set fun j hj => List.getElem?_set_ne (fun z => hj (by simp [Tg.ix, z]))
theorem pgms_nil : PGms X [] [] := PGs.imp pgs_nil fun v σ H Q ⟨g, ρ, c, ds, ρ2, s, r, e, q⟩ => by
  cases r with
  | nil =>
    simp only [Tg.puts, Option.some.injEq] at e
    subst e
    exact ⟨rfl, q σ g s rfl rfl rfl (fun _ _ h => h) rfl fun _ _ => rfl⟩
  | cons _ _ => simp [Tg.puts] at e
theorem pgms_cons {e : Expr} {es : List Expr} {t : Tg} {ts : List Tg} (h1 : PGm X e t) (h2 : PGms X es ts)
    (hs : (assignEach (e :: es) X.env).map (·.2) = assign e X.env :: (assignEach es X.env).map (·.2) := by rfl) : PGms X (e :: es) (t :: ts) := PGs.imp (pgs_cons h1 h2 hs) fun v σ H Q ⟨g, ρ, c, ds, ρ2, s, r, e, q⟩ => by
  cases r with
  | nil => simp [Tg.puts] at e
  | cons r1 r2 =>
    simp only [Tg.puts] at e
    obtain ⟨ρ1, e1, e2⟩ := Option.bind_eq_some_iff.mp e
    refine ⟨_, _, rfl, g, ρ, c, _, ρ1, s, r1, e1, fun σ1 g1 s1 z1 b1 k1 o1 l1 a1 => ?_⟩
    refine ⟨g1, ρ1, c, _, ρ2, s1, by rw [z1]; exact r2, e2, fun σ2 g2 s2 z2 b2 k2 o2 l2 a2 => ?_⟩
    refine q σ2 g2 s2 (z2.trans z1) (b2.trans b1) (k2.trans k1) (fun i a h => o1 i a (o2 i a h)) (l2.trans l1) fun j hj => ?_
    simp only [Tg.ixs, List.mem_append, not_or] at hj
    exact (a2 j hj.2).trans (a1 j hj.1)
theorem pgm_tp {es : List Expr} {ts : List Tg} {j : Nat} (hc : X.calm = true) (h : PGms X es ts) (hn : (assignEach es X.env).length = ts.length := by rfl) (hst : (assignEach es X.env).findIdx? (·.1) = none := by rfl) :
    PGm X (.Tuple es j pos) (.tp ts) := PG.imp (pg_tup hc h hn hst) fun v σ H Q ⟨g, ρ, c, d, ρ2, s, r, e, q⟩ => by
  cases d with
  | tuple ds =>
    cases r with
    | tup e1 r1 =>
      simp only [Tg.put] at e
      have hl : ∀ (ts : List Tg) (ds : List D) (ρ ρ2 : E), Tg.puts ts ds ρ = some ρ2 → ds.length = ts.length := by
        intro ts
        induction ts with
        | nil =>
          intro ds ρ ρ2 h
          cases ds with
          | nil => rfl
          | cons _ _ => simp [Tg.puts] at h
        | cons t ts ih =>
          intro ds ρ ρ2 h
          cases ds with
          | nil => simp [Tg.puts] at h
          | cons d ds =>
            simp only [Tg.puts] at h
            obtain ⟨ρ1, _, e2⟩ := Option.bind_eq_some_iff.mp h
            rw [List.length_cons, List.length_cons, ih _ _ _ e2]
      exact ⟨_, _, rfl, e1, by rw [r1.length, hl _ _ _ _ e], g, ρ, c, ds, ρ2, s, r1, e, q⟩
  | none => simp [Tg.put] at e
  | bool _ => simp [Tg.put] at e
  | int _ => simp [Tg.put] at e
  | str _ => simp [Tg.put] at e
  | list _ => simp [Tg.put] at e
  | dict _ => simp [Tg.put] at e
end

structure StayG (G Z Z' : Addr → Prop) (H H' : Hp) : Prop where
  st : Stay Z Z' H H'
  g : ∀ a o, H a = some o → G a → H' a = some o
structure ItOk (K : PySem.W.Frag) (G : Addr → Prop) (Z1 : Addr → Prop) (H1 : Hp) (J : It) (ds : List D) : Prop where
  go : ∀ Z2 H2, StayG G Z1 Z2 H1 H2 → ∀ i d, ds[i]? = some d → J.go i H2 ∧ ∀ x H3, J.yld i H2 x H3 → (H3 = H2 ∨ ∃ p xs, H2 p = none ∧ H3 = upd H2 p (.tup xs)) ∧ Rp K H3 Z2 x d
  stop : ∀ Z2 H2, StayG G Z1 Z2 H1 H2 → ∀ i, ds.length ≤ i → J.stop i H2
/-- kf: .val, its lists stay for good; .bor, here and now -/
def tI (K : PySem.W.Frag) (kf : Fv) (W : Nat → Hp → Prop) (mi : MI) : TI := fun σ H R => ∃ g ρ c, SR K g H σ ρ c ∧ OutG W g.κ g.Z H (mi ρ c) fun ds c' Z' H' =>
  ∀ J G, (∀ a, G a → g.κ ≠ some a ∧ (match kf with | .val => Z' a | _ => True)) → ItOk K G Z' H' J ds → R J H'
abbrev PIm (X : Cx) (W : Nat → Hp → Prop) (kf : Fv) (tg iter : Expr) (mi : MI) : Prop := PI X tg iter (tI X.K kf W mi)
theorem PI.imp {X : Cx} {tg e : Expr} {t t' : TI} (h : PI X tg e t) (i : ∀ σ H R, t' σ H R → t σ H R) : PI X tg e t' := ⟨fun pins s σ H R I q => h.run pins s σ H R I (i σ H R q)⟩
section
variable {X : Cx} {W : Nat → Hp → Prop} {tg : Expr}
theorem pi_any {l : Expr} {tl : TE} (hl : PE X l tl) : PI X tg l (fun σ H R => tl σ H fun x H1 => ∃ a, x = .ref a ∧ (((∃ xs, SqL X.K H1 a xs) ∧ R (Itl X.K a) H1) ∨ ((∃ xs, SqT X.K H1 a xs) ∧ R (Itt X.K a) H1))) := by
  refine ⟨fun pins s σ H R I h => ?_⟩
  refine thn (hl.run pins s σ H _ I h) fun v s1 ⟨x, H1, I1, r1, q1⟩ => ?_
  obtain ⟨a, e, q⟩ := q1
  subst e
  cases r1
  rcases q with ⟨⟨xs, hq⟩, q⟩ | ⟨⟨xs, hq⟩, q⟩
  · obtain ⟨its, rv, p, hz⟩ := I1.list hq
    refine wpAny_pyIter_list p.isList ?_
    refine ⟨s1.heap.objs.size, [s1.heap.objs.size], _, _, H1, rfl, I1.kept (t' := s1.toks) fun b o e => Heap.get?_push_of_some _ e, turn_list a _, ⟨_, Heap.get?_push_size _ rfl, rfl, rfl⟩, fun b hb => ?_, q⟩
    have e : b = s1.heap.objs.size := by simpa using hb
    subst e
    exact I1.fpOk (Nat.le_refl _) (I1.hok.fresh (Nat.le_refl _))
  · obtain ⟨its, rv, p, hz⟩ := I1.tuple hq
    refine wpAny_pyIter_tuple (show s1.heap.IsTuple a its.toArray from p) ?_
    refine ⟨s1.heap.objs.size, [s1.heap.objs.size], _, _, H1, rfl, I1.kept (t' := s1.toks) fun b o e => Heap.get?_push_of_some _ e, turn_tuple a _, ⟨_, Heap.get?_push_size _ rfl, rfl, rfl⟩, fun b hb => ?_, q⟩
    have e : b = s1.heap.objs.size := by simpa using hb
    subst e
    exact I1.fpOk (Nat.le_refl _) (I1.hok.fresh (Nat.le_refl _))
theorem itl_ok {K : PySem.W.Frag} {Z1 : Addr → Prop} {H1 : Hp} {a : Addr} {xs : List V} {ds : List D} (e : H1 a = some (.lst xs)) (r : RpA K H1 Z1 xs ds) : ItOk K (fun b => b = a) Z1 H1 (Itl K a) ds where
  go := fun Z2 H2 y i d hd => by
    have e2 : SqL K H2 a xs := .inl (.inl (y.g a _ e rfl))
    obtain ⟨x, hx, rx⟩ := r.get hd
    refine ⟨⟨xs, x, e2, hx⟩, fun x' H3 ⟨e3, hy⟩ => ?_⟩
    subst e3
    have := hy xs e2
    rw [hx] at this
    cases this
    exact ⟨.inl rfl, rx.stay y.st⟩
  stop := fun Z2 H2 y i hi => ⟨xs, .inl (.inl (y.g a _ e rfl)), by rw [r.length]; exact hi⟩
theorem itt_ok {K : PySem.W.Frag} {Z1 : Addr → Prop} {H1 : Hp} {a : Addr} {xs : List V} {ds : List D} (e : SqT K H1 a xs) (r : RpA K H1 Z1 xs ds) : ItOk K (fun _ => False) Z1 H1 (Itt K a) ds where
  go := fun Z2 H2 y i d hd => by
    have e2 : SqT K H2 a xs := y.st.tp e
    obtain ⟨x, hx, rx⟩ := r.get hd
    refine ⟨⟨xs, x, e2, hx⟩, fun x' H3 ⟨e3, hy⟩ => ?_⟩
    subst e3
    have := hy xs e2
    rw [hx] at this
    cases this
    exact ⟨.inl rfl, rx.stay y.st⟩
  stop := fun Z2 H2 y i hi => ⟨xs, y.st.tp e, by rw [r.length]; exact hi⟩
theorem itr_ok {K : PySem.W.Frag} {Z1 : Addr → Prop} {H1 : Hp} {lo : Int} {n : Nat} : ItOk K (fun _ => False) Z1 H1 (Itr lo n) (upTo lo n) where
  go := fun Z2 H2 y i d hd => by
    unfold upTo at hd
    rw [List.getElem?_map] at hd
    have hi : i < n := by
      by_cases q : i < n
      · exact q
      · rw [List.getElem?_eq_none (by simpa using q)] at hd; cases hd
    rw [List.getElem?_range hi] at hd
    cases hd
    exact ⟨hi, fun x H3 ⟨e3, hy⟩ => ⟨.inl e3, by rw [hy]; exact .int _⟩⟩
  stop := fun Z2 H2 y i hi => by
    have : n ≤ i := by simpa [upTo] using hi
    exact this
variable {a : Expr} {ma : ME} {es : List Expr} {ms : MEs} {kf : Fv}
theorem pim_seq (hk : kf = .val ∨ kf = .bor) (ha : PM X W kf a ma) : PIm X W kf tg a (iSeq ma) := PI.imp (pi_any ha) fun σ H R ⟨g, ρ, c, s, o⟩ => by
  have o : OutG W g.κ g.Z H (bnd (ma ρ) (fun d => lft (seqOf d)) c) _ := o
  refine ⟨g, ρ, c, s, Out.mono (OutG.stepM (k' := kf) s s.rf rfl rfl o) fun x H1 ⟨Z1, d, c1, n1, p1, _, o1⟩ => ?_⟩
  obtain ⟨ds, e, q⟩ := OutG.lft o1
  have q := q H1 Z1 n1
  have s1 := s.next n1
  have main : ∀ (_ : Rb X.K H1 Z1 g.κ x d) (_ : kf = .val → Rp X.K H1 Z1 x d), ∃ a, x = .ref a ∧ (((∃ xs, SqL X.K H1 a xs) ∧ R (Itl X.K a) H1) ∨ ((∃ xs, SqT X.K H1 a xs) ∧ R (Itt X.K a) H1)) := fun rb hv => by
    unfold seqOf at e
    split at e
    · cases e
      obtain ⟨a, xs, rfl, nk, e1, r⟩ := Rb.list s1 rb
      refine ⟨a, rfl, .inl ⟨⟨xs, .inl (.inl e1)⟩, q _ (fun b => b = a) (fun b hb => ?_) (itl_ok e1 r)⟩⟩
      subst hb
      refine ⟨nk, ?_⟩
      rcases hk with hk | hk
      · subst hk
        cases hv rfl with
        | lst z _ _ => exact z
      · subst hk; trivial
    · cases e
      obtain ⟨a, xs, rfl, e1, r⟩ := Rb.tup (g := g) rb
      exact ⟨a, rfl, .inr ⟨⟨xs, e1⟩, q _ (fun _ => False) (fun b hb => hb.elim) (itt_ok e1 r)⟩⟩
    · cases e
  rcases hk with hk | hk
  · subst hk; exact main (.v p1) fun _ => p1
  · subst hk; exact main p1 fun z => nomatch z
end
section
variable {X : Cx} {W : Nat → Hp → Prop} {tg : Expr} {a b : Expr} {ma mb : ME} {es : List Expr} {ms : MEs} {kf : Fv}
theorem OutG.stepL {K : PySem.W.Frag} {g : Gh} {H : Hp} {c : Cup} {σ : L2.St} {ρ : E} {β : Type} {m : M (List D)} {f : List D → M β} {Q : β → Cup → (Addr → Prop) → Hp → Prop} (s : SR K g H σ ρ c) (h : OutG W g.κ g.Z H (PV.bnd m f c) Q) :
    OutL K W g H (m c) fun xs H2 => ∃ Z2 ds c2, Nxt g.κ g.Z H c2 Z2 H2 ∧ RpA K H2 Z2 xs ds ∧ OutG W g.κ g.Z H (f ds c2) Q := by
  rw [bnd_app] at h
  cases q : m c with
  | ok a c2 =>
    rw [q] at h
    exact fun x H2 Z2 n2 r => ⟨Z2, a, c2, n2, r, h⟩
  | err e' c2 =>
    rw [q] at h
    exact fun H2 Z2 n2 => h H2 Z2 n2
  | no => rw [q] at h; exact h
theorem pim_rng1 {p pos : Pos} (hg : Gl X "range") (hm : X.mg "range" = none) (ha : PMs X W [a] ms) (hs : starEach [a] X.env = [(false, eval a X.env)] := by rfl) : PIm X W kf tg (.Call (.Name "range" p) [a] [] pos) (iRng rng1 ms) := PI.imp (pi_range1 hg hm ha hs) fun σ H R ⟨g, ρ, c, s, o⟩ => by
  have o : OutG W g.κ g.Z H (bnd (ms ρ) (fun d => lft (rng1 d)) c) _ := o
  refine ⟨g, ρ, c, s, OutL.mono (OutG.stepL s o) fun xs H1 ⟨Z1, ds, c1, n1, p1, o1⟩ => ?_⟩
  obtain ⟨es, e, q⟩ := OutG.lft o1
  have q := q H1 Z1 n1
  unfold rng1 at e
  split at e
  · rename_i n
    obtain ⟨⟨h1, h2⟩, rfl⟩ := split_if e
    cases p1 with
    | cons r1 r2 =>
      cases r2
      cases r1
      exact ⟨n, rfl, by omega, by omega, q _ (fun _ => False) (fun b hb => hb.elim) itr_ok⟩
  · cases e
theorem pim_rng2 {p pos : Pos} (hg : Gl X "range") (hm : X.mg "range" = none) (ha : PMs X W [a, b] ms) (hs : starEach [a, b] X.env = [(false, eval a X.env), (false, eval b X.env)] := by rfl) (hs2 : starEach [b] X.env = [(false, eval b X.env)] := by rfl) :
    PIm X W kf tg (.Call (.Name "range" p) [a, b] [] pos) (iRng rng2 ms) := PI.imp (pi_range2 hg hm ha hs hs2) fun σ H R ⟨g, ρ, c, s, o⟩ => by
  have o : OutG W g.κ g.Z H (bnd (ms ρ) (fun d => lft (rng2 d)) c) _ := o
  refine ⟨g, ρ, c, s, OutL.mono (OutG.stepL s o) fun xs H1 ⟨Z1, ds, c1, n1, p1, o1⟩ => ?_⟩
  obtain ⟨es, e, q⟩ := OutG.lft o1
  have q := q H1 Z1 n1
  unfold rng2 at e
  split at e
  · rename_i i j
    obtain ⟨⟨⟨h1, h2⟩, h3, h4⟩, rfl⟩ := split_if e
    cases p1 with
    | cons r1 r2 =>
      cases r2 with
      | cons r2 r3 =>
        cases r3
        cases r1
        cases r2
        exact ⟨i, j, rfl, by omega, q _ (fun _ => False) (fun b hb => hb.elim) itr_ok⟩
  · cases e
end
end PV

namespace PV
open PySem PySem.Spec PyProof.Rows L2
theorem ne_ok {α : Type} {m : M α} {c : Cup} {a : α} {c' : Cup} (h : ne m c = .ok a c') : m c = .ok a c' := by
  unfold ne at h
  cases e : m c with
  | ok b c2 => rw [e] at h; exact h
  | err _ _ => rw [e] at h; cases h
  | no => rw [e] at h; cases h
theorem bnd_inv {α β : Type} {m : M α} {f : α → M β} {c c' : Cup} {b : β} (h : bnd m f c = .ok b c') : ∃ a c1, m c = .ok a c1 ∧ f a c1 = .ok b c' := by
  rw [bnd_app] at h
  cases e : m c with
  | ok a c2 => rw [e] at h; exact ⟨a, c2, rfl, h⟩
  | err _ _ => rw [e] at h; cases h
  | no => rw [e] at h; cases h
theorem lft_inv {α : Type} {o : Option α} {c c' : Cup} {a : α} (h : lft o c = .ok a c') : o = some a ∧ c' = c := by
  cases o with
  | none => cases h
  | some b => cases h; exact ⟨rfl, rfl⟩
theorem ret_inv {α : Type} {c c' : Cup} {a b : α} (h : ret a c = .ok b c') : b = a ∧ c' = c := by cases h; exact ⟨rfl, rfl⟩
theorem ne_err {α : Type} {m : M α} {c c' : Cup} {e : Nat} (h : ne m c = .err e c') : False := by
  unfold ne at h
  cases q : m c <;> (rw [q] at h; cases h)
theorem lft_err {α : Type} {o : Option α} {c c' : Cup} {e : Nat} (h : lft o c = .err e c') : False := by cases o <;> cases h
theorem bnd_err {α β : Type} {m : M α} {f : α → M β} {c c' : Cup} {e : Nat} (h : bnd m f c = .err e c') : m c = .err e c' ∨ ∃ a c1, m c = .ok a c1 ∧ f a c1 = .err e c' := by
  rw [bnd_app] at h
  cases q : m c with
  | ok a c2 => rw [q] at h; exact .inr ⟨a, c2, rfl, h⟩
  | err _ _ => rw [q] at h; cases h; exact .inl rfl
  | no => rw [q] at h; cases h
/-- the turns let no error out -/
theorem loopC_err {tg : Tg} {tc : E → M Bool} {te : ME} {ρ : E} : ∀ {ds : List D} {c c' : Cup} {e : Nat}, loopC tg tc te ρ ds c = .err e c' → False
  | [], _, _, _, h => by cases h
  | d :: r, c, c', e, h => by
    unfold loopC at h
    rcases bnd_err h with h | ⟨ρ2, c1, _, h⟩
    · exact lft_err h
    · rcases bnd_err h with h | ⟨b, c2, _, h⟩
      · exact ne_err h
      · cases b with
        | true =>
          rcases bnd_err h with h | ⟨v, c3, _, h⟩
          · exact ne_err h
          · rcases bnd_err h with h | ⟨vs, c4, _, h⟩
            · exact loopC_err h
            · cases h
        | false => exact loopC_err h
theorem wipe_get (σ : L2.St) (j : Nat) : ∀ vs : List Nat, (wipe σ vs)[j]? = if j ∈ vs then (σ[j]?).map fun _ => none else σ[j]?
  | [] => by simp [wipe]
  | v :: vs => by
    unfold wipe
    by_cases e : v = j
    · subst e
      rw [if_pos List.mem_cons_self]
      by_cases h : v < σ.length
      · rw [List.getElem?_set_self (by rw [wipe_length]; exact h), List.getElem?_eq_getElem h]; rfl
      · rw [List.getElem?_eq_none (by rw [List.length_set, wipe_length]; omega), List.getElem?_eq_none (by omega)]; rfl
    · rw [List.getElem?_set_ne e, wipe_get σ j vs]
      by_cases h : j ∈ vs
      · rw [if_pos h, if_pos (List.mem_cons_of_mem _ h)]
      · rw [if_neg h, if_neg (fun q => (List.mem_cons.mp q).elim (fun z => e z.symm) h)]
theorem wipe_again {σ σ2 : L2.St} {vs ix : List Nat} (hl : σ2.length = (wipe σ vs).length) (ha : ∀ j, j ∉ ix → σ2[j]? = (wipe σ vs)[j]?) (hi : ∀ j ∈ ix, j ∈ vs) : wipe σ2 vs = wipe σ vs := by
  refine List.ext_getElem? fun j => ?_
  rw [wipe_get σ2 j vs, wipe_get σ j vs]
  rw [wipe_length] at hl
  by_cases h : j ∈ vs
  · rw [if_pos h, if_pos h]
    by_cases q : j < σ.length
    · rw [List.getElem?_eq_getElem q, List.getElem?_eq_getElem (by omega)]; rfl
    · rw [List.getElem?_eq_none (by omega), List.getElem?_eq_none (by omega)]
  · rw [if_neg h, if_neg h, ha j fun z => h (hi j z), wipe_get, if_neg h]
theorem SR.wipe {K : PySem.W.Frag} {g : Gh} {H : Hp} {σ : L2.St} {ρ : E} {c : Cup} (s : SR K g H σ ρ c) : ∀ vs : List Nat, ∃ g2, SR K g2 H (L2.wipe σ vs) (wipeE ρ vs) c ∧ g2.Z = g.Z ∧ g2.B = g.B ∧ g2.κ = g.κ ∧ ∀ i a, a ∈ g2.o i → a ∈ g.o i
  | [] => ⟨g, s, rfl, rfl, rfl, fun _ _ h => h⟩
  | v :: vs => by
    obtain ⟨g1, s1, a1, b1, c1, d1⟩ := SR.wipe s vs
    obtain ⟨g2, s2, a2, b2, c2, d2⟩ := s1.put0 (i := v) (v := none) (sl := .no) .no
    exact ⟨g2, s2, a2.trans a1, b2.trans b1, c2.trans c1, fun i a h => d1 i a (d2 i a h)⟩
abbrev W0 : Nat → Hp → Prop := fun _ _ => False
def tTs (K : PySem.W.Frag) (W : Nat → Hp → Prop) (tc : E → M Bool) : TT := fun σ H Q => ∃ g ρ c, SR K g H σ ρ c ∧ OutT K W g H (tc ρ c) Q
abbrev PTsm (X : Cx) (W : Nat → Hp → Prop) (ifs : List Expr) (tc : E → M Bool) : Prop := PTs X ifs (tTs X.K W tc)
section
variable {X : Cx} {W : Nat → Hp → Prop} {pos : Pos}
theorem PTs.imp {ifs : List Expr} {t t' : TT} (h : PTs X ifs t) (i : ∀ σ H Q, t' σ H Q → t σ H Q) : PTs X ifs t' := ⟨fun pins s σ H Q I q => h.run pins s σ H Q I (i σ H Q q)⟩
theorem ptsm_nil : PTsm X W [] cYes := PTs.imp pts_nil fun σ H Q ⟨g, ρ, c, s, o⟩ => o H g.Z s.rf
theorem ptsm_one {e : Expr} {m : ME} (h : PTm X W e m) : PTsm X W [e] (tst m) := pts_one h
/-- the reading of a comprehension -/
theorem lc_read {K : PySem.W.Frag} {kf : Fv} {vs : List Nat} {mi : MI} {tg : Tg} {tc : E → M Bool} {te : ME} {σ : L2.St} {H : Hp} {Q : VK} (hk : kf = .val ∨ kf = .bor) (hi : ∀ j ∈ tg.ix, j ∈ vs)
    (h : tM K .frs W (eComp vs mi tg tc te) σ H Q) : tLc (tI K kf W mi) (tG K tg) (tTs K W0 tc) (tM K .val W0 te) vs σ H Q := by
  obtain ⟨g, ρ, c, s, o⟩ := h
  refine ⟨g, ρ, c, s, ?_⟩
  unfold eComp at o
  rw [bnd_app] at o
  cases em : mi ρ c with
  | no => rw [em] at o; exact o.elim
  | err e c1 => rw [em] at o; exact o
  | ok ds c1 =>
    rw [em] at o
    intro H1 Z1 n1 J G hG it D hD
    have s1 := s.next n1
    have o1 := Out.at s n1 o
    -- all turns end
    obtain ⟨vs', c', hl, hz, fin⟩ : ∃ vs' c', loopC tg tc te (wipeE ρ vs) ds c1 = .ok vs' c' ∧ vs'.length ≤ LIM ∧ ∀ x H' Z', Nxt g.κ Z1 H1 c' Z' H' → Res K .frs g.κ H1 Z' H' x (.list vs') → Q x H' := by
      change Out K .frs W (g.z Z1) H1 (bnd (loopC tg tc te (wipeE ρ vs) ds) (fun vs => bnd (lft (okLen vs)) fun vs => ret (.list vs)) c1) Q at o1
      rw [bnd_app] at o1
      cases el : loopC tg tc te (wipeE ρ vs) ds c1 with
      | no => rw [el] at o1; exact o1.elim
      | err e c2 => exact (loopC_err el).elim
      | ok vs' c2 =>
        rw [el] at o1
        have o2 : Out K .frs W (g.z Z1) H1 (bnd (lft (okLen vs')) (fun vs => ret (.list vs)) c2) Q := o1
        unfold okLen at o2
        by_cases hz : vs'.length ≤ LIM
        · rw [if_pos hz] at o2
          exact ⟨vs', c2, rfl, hz, o2⟩
        · rw [if_neg hz] at o2; exact o2.elim
    have hDk : g.κ ≠ some D := fun k => s1.kt D k hD
    refine ⟨fun i m H2 => m = ds.length - i ∧ i ≤ ds.length ∧ ∃ Z2 c2 acc xs rest, Nxt g.κ Z1 H1 c2 Z2 H2 ∧ ¬ Z2 D ∧ H2 D = some (.lst xs) ∧ RpA K H2 Z2 xs acc ∧ loopC tg tc te (wipeE ρ vs) (ds.drop i) c2 = .ok rest c' ∧ vs' = acc ++ rest,
      ⟨ds.length, by simp, Nat.zero_le _, Z1, c1, [], [], vs', s1.lay hD, s1.zno hD, upd_same, .nil, by simpa using hl, rfl⟩, ?_⟩
    rintro i m H2 ⟨rfl, hi', Z2, c2, acc, xs, rest, n2, zD, hD2, rx, hr, hv⟩
    have s2 : SR K ((g.z Z1).z Z2) H2 σ ρ c2 := s1.next n2
    have sg : StayG G Z1 Z2 H1 H2 := ⟨s1.stay n2, fun a u e ga => n2.keep a u e (hG a ga).1⟩
    by_cases hlt : i < ds.length
    · have hd : ds[i]? = some ds[i] := List.getElem?_eq_getElem hlt
      obtain ⟨hgo, hy⟩ := it.go Z2 H2 sg i _ hd
      refine .inr ⟨hgo, fun H' => ∃ Z2 c2 acc xs rest, Nxt g.κ Z1 H1 c2 Z2 H' ∧ ¬ Z2 D ∧ H' D = some (.lst xs) ∧ RpA K H' Z2 xs acc ∧ loopC tg tc te (wipeE ρ vs) (ds.drop (i + 1)) c2 = .ok rest c' ∧ vs' = acc ++ rest,
        fun H' q => ⟨ds.length - (i + 1), by omega, rfl, hlt, q⟩, fun x H3 y3 => ?_⟩
      obtain ⟨h3, rp⟩ := hy x H3 y3
      have n3 : Nxt g.κ Z2 H2 c2 Z2 H3 := by
        rcases h3 with h3 | ⟨p, ys, hp, h3⟩
        · subst h3; exact s2.rf
        · subst h3; exact s2.lay hp
      have s3 : SR K (((g.z Z1).z Z2).z Z2) H3 σ ρ c2 := s2.next n3
      have hD3 : H3 D = some (.lst xs) := n3.keep D _ hD2 hDk
      have rx3 : RpA K H3 Z2 xs acc := RpA.nxt s2 n3 rx
      obtain ⟨g4, s4, z4, b4, k4, o4⟩ := s3.wipe vs
      have z4 : g4.Z = Z2 := z4
      have k4 : g4.κ = g.κ := k4
      -- the turn, as it was reckoned
      rw [List.drop_eq_getElem_cons hlt] at hr
      unfold loopC at hr
      obtain ⟨ρ2, c4, e10, hr1⟩ := bnd_inv hr
      clear hr
      obtain ⟨e1, hc4⟩ := lft_inv e10
      rw [hc4] at hr1
      obtain ⟨b, c5, e20, hr2⟩ := bnd_inv hr1
      have e2 := ne_ok e20
      refine ⟨g4, wipeE ρ vs, c2, ds[i], ρ2, s4, by rw [z4]; exact rp, e1, fun σ2 g5 s5 z5 b5 k5 o5 l5 a5 => ⟨wipe_again l5 a5 hi, ?_⟩⟩
      have z5 : g5.Z = Z2 := z5.trans z4
      have k5 : g5.κ = g.κ := k5.trans k4
      refine ⟨g5, ρ2, c2, s5, ?_⟩
      rw [e2]
      intro H4 Z4 n4
      rw [z5, k5] at n4
      have n14 : Nxt g.κ Z1 H1 c5 Z4 H4 := (n2.trans n3 s1.kt).trans n4 s1.kt
      have hD4 : H4 D = some (.lst xs) := n4.keep D _ hD3 hDk
      have zD4 : ¬ Z4 D := fun z => by
        rcases n4.zn D z with q | q
        · exact zD q
        · rw [hD3] at q; cases q
      have rx4 : RpA K H4 Z4 xs acc := RpA.nxt s3 n4 rx3
      cases b with
      | false =>
        rw [if_neg (by simp)] at hr2 ⊢
        exact ⟨Z4, c5, acc, xs, rest, n14, zD4, hD4, rx4, hr2, hv⟩
      | true =>
        rw [if_pos rfl] at hr2 ⊢
        obtain ⟨v, c6, e30, hr3⟩ := bnd_inv hr2
        have e3 := ne_ok e30
        obtain ⟨rest', c7, e4, hr4⟩ := bnd_inv hr3
        obtain ⟨hrest, hc7⟩ := ret_inv hr4
        rw [hrest] at hv
        rw [← hc7] at e4
        have s6 : SR K (g5.z Z4) H4 σ2 ρ2 c5 := s5.next (by rw [z5, k5]; exact n4)
        refine ⟨g5.z Z4, ρ2, c5, s6, ?_⟩
        rw [e3]
        intro y H5 Z5 n5 ry
        have n5 : Nxt g.κ Z4 H4 c6 Z5 H5 := by
          have q : Nxt g5.κ Z4 H4 c6 Z5 H5 := n5
          rw [k5] at q; exact q
        have hD5 : H5 D = some (.lst xs) := n5.keep D _ hD4 hDk
        have zD5 : ¬ Z5 D := fun z => by
          rcases n5.zn D z with q | q
          · exact zD4 q
          · rw [hD4] at q; cases q
        have s4' : SR K (((g.z Z1).z Z2).z Z4) H4 σ ρ c5 := s3.next n4
        have rx5 : RpA K H5 Z5 xs acc := RpA.nxt s4' n5 rx4
        have n15 : Nxt g.κ Z1 H1 c6 Z5 H5 := n14.trans n5 s1.kt
        have hx : xs.length = acc.length := rx5.length
        refine ⟨xs, hD5, ?_, Z5, c6, acc ++ [v], xs ++ [y], rest', ⟨fun a u e k => ?_, ?_, n15.z, n15.zn, fun a z => ?_⟩, zD5, upd_same, ?_, e4, by rw [hv]; simp⟩
        · have hz2 : acc.length + (rest'.length + 1) ≤ LIM := by
            have := hz
            rw [hv, List.length_append, List.length_cons] at this
            exact this
          rw [hx]
          show acc.length < 16777216
          have : LIM = 16777216 := rfl
          omega
        · rw [upd_ne (ne_of_none e hD)]; exact n15.keep a u e k
        · have q := n15.cup
          revert q
          unfold CupR
          split
          · exact id
          · rename_i a ka
            rintro ⟨i', j', q1, q2⟩
            refine ⟨i', j', q1, ?_⟩
            rw [upd_ne (fun z => hDk (by rw [ka, z]))]
            exact q2
        · by_cases q : a = D
          · rw [q, upd_same]; simp
          · rw [upd_ne q]; exact n15.zh a z
        · have y5 : Stay Z5 Z5 H5 (upd H5 D (.lst (xs ++ [y]))) := ⟨fun _ z => z, fun a u e z => by rw [upd_ne (fun q : a = D => zD5 (by rw [← q]; exact z))]; exact e, fun a zs e => by rw [upd_ne (ne_of e hD5 (by simp))]; exact e, fun a u w e => by rw [upd_ne (ne_of e hD5 (by simp))]; exact e⟩
          exact (rx5.stay y5).append (.cons (Rp.stay y5 ry) .nil)
    · have e : i = ds.length := by omega
      subst e
      rw [List.drop_length] at hr
      obtain ⟨rfl, rfl⟩ := ret_inv hr
      rw [List.append_nil] at hv
      subst hv
      exact .inl ⟨it.stop Z2 H2 sg _ (Nat.le_refl _), fin _ H2 Z2 n2 ⟨D, xs, _, rfl, rfl, hD, zD, hD2, rx⟩⟩
variable {elt tg iter : Expr} {ifs : List Expr} {scope : Scope} {own : List (Str × Nat)} {kf : Fv} {mi : MI} {t : Tg} {tc : E → M Bool} {te : ME}
/-- [elt for tg in iter if ..] -/
theorem pm_lc (hc : X.calm = true) (hN : X.N.Nodup) (hk : kf = .val ∨ kf = .bor) (hi : PIm X W kf tg iter mi) (ok : BlkOk X.N X.env.scope scope own) (hix : ∀ j ∈ t.ix, j ∈ own.map (·.2))
    (hg : ∀ (s : Shared) (H : Hp) (C : Addr) (cl : List (Str × Addr)) (fp : List Addr), PGm (X.blk s H scope (compEnvC scope cl C X.env) fp) tg t)
    (ht : ∀ (s : Shared) (H : Hp) (C : Addr) (cl : List (Str × Addr)) (fp : List Addr), PTsm (X.blk s H scope (compEnvC scope cl C X.env) fp) W0 ifs tc)
    (he : ∀ (s : Shared) (H : Hp) (C : Addr) (cl : List (Str × Addr)) (fp : List Addr), PM (X.blk s H scope (compEnvC scope cl C X.env) fp) W0 .val elt te) (hs : ∀ x, foldedSetIterable iter X.env x = pure x := by intro _; rfl) :
    PM X W .frs (.ListComp elt [⟨tg, iter, ifs, 0⟩] scope pos) (eComp (own.map (·.2)) mi t tc te) :=
  PE.imp (pe_lc hc hN hi ok hg ht he hs) fun _ _ _ h => lc_read hk hix h
end
end PV

namespace PV
open PySem PySem.Spec PyProof.Rows L2
/-- behind a statement -/
structure NxS (g : Gh) (H : Hp) (g' : Gh) (H' : Hp) : Prop where
  keep : ∀ a o, H a = some o → g.κ ≠ some a → (∀ i, a ∉ g.o i) → H' a = some o
  κ : g'.κ = g.κ
  B : g'.B = g.B
  z : ∀ a, g.Z a → g'.Z a
  zn : ∀ a, g'.Z a → g.Z a ∨ H a = none ∨ ∃ i, a ∈ g.o i
  on : ∀ i a, a ∈ g'.o i → H a = none ∨ ∃ j, a ∈ g.o j
/-- behind a def's end -/
structure NxR (g : Gh) (H : Hp) (c' : Cup) (Z' : Addr → Prop) (H' : Hp) : Prop where
  keep : ∀ a o, H a = some o → g.κ ≠ some a → (∀ i, a ∉ g.o i) → H' a = some o
  cup : CupR g.κ H' c'
  z : ∀ a, g.Z a → Z' a
  zn : ∀ a, Z' a → g.Z a ∨ H a = none ∨ ∃ i, a ∈ g.o i
  zh : ∀ a, Z' a → H' a ≠ none
def ResR (K : PySem.W.Frag) (kr : Kn) (g : Gh) (H : Hp) (Z' : Addr → Prop) (H' : Hp) (x : V) (d : D) : Prop := match kr with
  | .val => Rp K H' Z' x d
  | .frs => ∃ p xs ds, x = .ref p ∧ d = .list ds ∧ (H p = none ∨ ∃ i, p ∈ g.o i) ∧ ¬ Z' p ∧ H' p = some (.lst xs) ∧ RpA K H' Z' xs ds
  | _ => False
def OutS (K : PySem.W.Frag) (kr : Kn) (W : Nat → Hp → Prop) (g : Gh) (H : Hp) (r : R Fl) (D : Ends) : Prop := match r with
  | .ok (.nx ρ') c' => ∀ σ' H' g', NxS g H g' H' → SR K g' H' σ' ρ' c' → D.nx σ' H'
  | .ok (.rt d) c' => ∀ x H' Z', NxR g H c' Z' H' → ResR K kr g H Z' H' x d → D.rt x H'
  | .err e c' => ∀ H' Z', NxR g H c' Z' H' → W e H'
  | .no => False
def tS (K : PySem.W.Frag) (kr : Kn) (W : Nat → Hp → Prop) (ms : MS) : TS := fun D σ H => ∃ g ρ c, SR K g H σ ρ c ∧ OutS K kr W g H (ms ρ c) D
abbrev PSm (X : Cx) (kr : Kn) (W : Nat → Hp → Prop) (st : Stmt) (ms : MS) : Prop := PS X st (tS X.K kr W ms)
abbrev PSsm (X : Cx) (kr : Kn) (W : Nat → Hp → Prop) (st : List Stmt) (ms : MS) : Prop := PSs X st (tS X.K kr W ms)
theorem PS.imp {X : Cx} {e : Stmt} {t t' : TS} (h : PS X e t) (i : ∀ D σ H, t' D σ H → t D σ H) : PS X e t' := ⟨fun pins s σ H D I q => h.run pins s σ H D I (i D σ H q)⟩
theorem PSs.imp {X : Cx} {e : List Stmt} {t t' : TS} (h : PSs X e t) (i : ∀ D σ H, t' D σ H → t D σ H) : PSs X e t' := ⟨fun pins s σ H D I q => h.run pins s σ H D I (i D σ H q)⟩
section
variable {K : PySem.W.Frag} {kr : Kn} {W : Nat → Hp → Prop} {g g1 g2 : Gh} {H H1 H2 : Hp} {c c1 c2 : Cup} {Z Z1 Z2 : Addr → Prop} {σ σ1 : L2.St} {ρ ρ1 : E} {x : V} {d : D}
theorem SR.nxS (s : SR K g H σ ρ c) (n : Nxt g.κ g.Z H c1 Z1 H1) : NxS g H (g.z Z1) H1 :=
  ⟨fun a o e k _ => n.keep a o e k, rfl, rfl, n.z, fun a z => (n.zn a z).elim .inl fun q => .inr (.inl q), fun i a h => .inr ⟨i, h⟩⟩
theorem SR.nxR (s : SR K g H σ ρ c) (n : Nxt g.κ g.Z H c1 Z1 H1) : NxR g H c1 Z1 H1 :=
  ⟨fun a o e k _ => n.keep a o e k, n.cup, n.z, fun a z => (n.zn a z).elim .inl fun q => .inr (.inl q), n.zh⟩
theorem NxS.no (n : NxS g H g1 H1) (kt : ∀ a, g1.κ = some a → H1 a ≠ none) {a : Addr} (h : H1 a = none) : H a = none ∨ ∃ i, a ∈ g.o i := by
  cases e : H a with
  | none => exact .inl rfl
  | some o =>
    by_cases q : ∃ i, a ∈ g.o i
    · exact .inr q
    · by_cases k : g.κ = some a
      · exact absurd h (kt a (n.κ.trans k))
      · rw [n.keep a o e k fun i hi => q ⟨i, hi⟩] at h; cases h
theorem NxS.out (n : NxS g H g1 H1) {a : Addr} {o : HO} (e : H a = some o) (k : ∀ i, a ∉ g.o i) : ∀ i, a ∉ g1.o i := fun i h => by
  rcases n.on i a h with q | ⟨j, q⟩
  · rw [e] at q; cases q
  · exact k j q
theorem NxS.trans (n : NxS g H g1 H1) (m : NxS g1 H1 g2 H2) (kt : ∀ a, g1.κ = some a → H1 a ≠ none) : NxS g H g2 H2 where
  keep := fun a o e k h => m.keep a o (n.keep a o e k h) (by rw [n.κ]; exact k) (n.out e h)
  κ := m.κ.trans n.κ
  B := m.B.trans n.B
  z := fun a z => m.z a (n.z a z)
  zn := fun a z => by
    rcases m.zn a z with q | q | ⟨i, q⟩
    · exact n.zn a q
    · exact .inr (n.no kt q)
    · exact .inr (n.on i a q)
  on := fun i a h => by
    rcases m.on i a h with q | ⟨j, q⟩
    · exact n.no kt q
    · exact n.on j a q
theorem NxS.r (n : NxS g H g1 H1) (m : NxR g1 H1 c2 Z2 H2) (kt : ∀ a, g1.κ = some a → H1 a ≠ none) : NxR g H c2 Z2 H2 where
  keep := fun a o e k h => m.keep a o (n.keep a o e k h) (by rw [n.κ]; exact k) (n.out e h)
  cup := by rw [← n.κ]; exact m.cup
  z := fun a z => m.z a (n.z a z)
  zn := fun a z => by
    rcases m.zn a z with q | q | ⟨i, q⟩
    · exact n.zn a q
    · exact .inr (n.no kt q)
    · exact .inr (n.on i a q)
  zh := m.zh
theorem ResR.back (n : NxS g H g1 H1) (kt : ∀ a, g1.κ = some a → H1 a ≠ none) (h : ResR K kr g1 H1 Z2 H2 x d) : ResR K kr g H Z2 H2 x d := by
  cases kr with
  | val => exact h
  | frs =>
    obtain ⟨p, xs, ds, e1, e2, e3, r⟩ := h
    refine ⟨p, xs, ds, e1, e2, ?_, r⟩
    rcases e3 with q | ⟨i, q⟩
    · exact n.no kt q
    · exact n.on i p q
  | ffl => exact h
  | frd => exact h
theorem OutS.at {r : R Fl} {D : Ends} (s : SR K g1 H1 σ1 ρ1 c1) (n : NxS g H g1 H1) (h : OutS K kr W g H r D) : OutS K kr W g1 H1 r D := by
  cases r with
  | ok f c' =>
    cases f with
    | nx ρ' => exact fun σ' H' g' m q => h σ' H' g' (n.trans m s.kt) q
    | rt d => exact fun x H' Z' m q => h x H' Z' (n.r m s.kt) (q.back n s.kt)
  | err e c' => exact fun H' Z' m => h H' Z' (n.r m s.kt)
  | no => exact h
/-- a value, then the rest -/
theorem OutS.bnd {k : Fv} {m : M D} {f : D → M Fl} {D' : Ends} (s : SR K g H σ ρ c) (h : OutS K kr W g H (PV.bnd m f c) D') :
    Out K k W g H (m c) fun x H1 => ∃ Z1 d c1, Nxt g.κ g.Z H c1 Z1 H1 ∧ Res K k g.κ H Z1 H1 x d ∧ m c = .ok d c1 ∧ OutS K kr W (g.z Z1) H1 (f d c1) D' := by
  rw [bnd_app] at h
  cases e : m c with
  | ok d c1 =>
    rw [e] at h
    exact fun x H1 Z1 n p => ⟨Z1, d, c1, n, p, rfl, OutS.at (s.next n) (s.nxS n) h⟩
  | err e' c1 =>
    rw [e] at h
    exact fun H1 Z1 n => h H1 Z1 (s.nxR n)
  | no => rw [e] at h; exact h
theorem OutS.bndT {α : Type} {m : M α} {f : α → M Fl} {D' : Ends} (s : SR K g H σ ρ c) (h : OutS K kr W g H (PV.bnd m f c) D') :
    OutT K W g H (m c) fun b H1 => ∃ Z1 c1, Nxt g.κ g.Z H c1 Z1 H1 ∧ m c = .ok b c1 ∧ OutS K kr W (g.z Z1) H1 (f b c1) D' := by
  rw [bnd_app] at h
  cases e : m c with
  | ok d c1 =>
    rw [e] at h
    exact fun H1 Z1 n => ⟨Z1, c1, n, rfl, OutS.at (s.next n) (s.nxS n) h⟩
  | err e' c1 =>
    rw [e] at h
    exact fun H1 Z1 n => h H1 Z1 (s.nxR n)
  | no => rw [e] at h; exact h
theorem OutS.lft {α : Type} {o : Option α} {f : α → M Fl} {D' : Ends} (h : OutS K kr W g H (PV.bnd (PV.lft o) f c) D') : ∃ a, o = some a ∧ OutS K kr W g H (f a c) D' := by
  cases o with
  | none => exact h.elim
  | some a => exact ⟨a, rfl, h⟩
theorem NxS.refl : NxS g H g H := ⟨fun _ _ e _ _ => e, rfl, rfl, fun _ z => z, fun _ z => .inl z, fun i a h => .inr ⟨i, h⟩⟩
theorem OutS.nx {D' : Ends} (s : SR K g H σ ρ c) (h : OutS K kr W g H (ret (.nx ρ) c) D') : D'.nx σ H := h σ H g .refl s
end
section
variable {X : Cx} {kr : Kn} {W : Nat → Hp → Prop} {pos : Pos} {st : Stmt} {rest b1 b2 : List Stmt} {ma mb : MS} {e : Expr} {me : ME}
theorem pssm_nil : PSsm X kr W [] sNil := PSs.imp pss_nil fun D σ H ⟨g, ρ, c, s, o⟩ => OutS.nx s o
theorem seq_read {K : PySem.W.Frag} {D : Ends} {σ : L2.St} {H : Hp} (h : tS K kr W (sSeq ma mb) D σ H) : tS K kr W ma { D with nx := tS K kr W mb D } σ H := by
  obtain ⟨g, ρ, c, s, o⟩ := h
  refine ⟨g, ρ, c, s, ?_⟩
  change OutS K kr W g H (bnd (ma ρ) (andThen mb) c) D at o
  rw [bnd_app] at o
  cases q : ma ρ c with
  | ok f c1 =>
    rw [q] at o
    cases f with
    | nx ρ' => exact fun σ' H' g' n s' => ⟨g', ρ', c1, s', OutS.at s' n o⟩
    | rt d => exact o
  | err e c1 => rw [q] at o; exact o
  | no => rw [q] at o; exact o
theorem pssm_cons (h1 : PSm X kr W st ma) (h2 : PSsm X kr W rest mb) : PSsm X kr W (st :: rest) (sSeq ma mb) := PSs.imp (pss_cons h1 h2) fun D σ H h => seq_read h
theorem pssm_one (h1 : PSm X kr W st ma) : PSsm X kr W [st] ma := pss_one h1
theorem psm_if (hc : PTm X W e me) (ha : PSsm X kr W b1 ma) (hb : PSsm X kr W b2 mb) : PSm X kr W (.If e b1 b2 pos) (sIf (tst me) ma mb) := PS.imp (ps_if hc ha hb) fun D σ H ⟨g, ρ, c, s, o⟩ => by
  change OutS X.K kr W g H (bnd (tst me ρ) (fun k => if k = true then ma ρ else mb ρ) c) D at o
  refine ⟨g, ρ, c, s, OutT.mono (OutS.bndT s o) fun k H1 ⟨Z1, c1, n1, _, o1⟩ => ?_⟩
  cases k with
  | true => exact iteT ⟨_, ρ, c1, s.next n1, o1⟩
  | false => exact iteF ⟨_, ρ, c1, s.next n1, o1⟩
def Kn.fv : Kn → Fv
  | .val => .val
  | .frs => .frs
  | .ffl => .ffl
  | .frd => .frd
theorem ret_read {K : PySem.W.Frag} {D : Ends} {σ : L2.St} {H : Hp} (hk : kr = .val ∨ kr = .frs) (h : tS K kr W (sRet me) D σ H) : tM K kr.fv W me σ H D.rt := by
  obtain ⟨g, ρ, c, s, o⟩ := h
  change OutS K kr W g H (bnd (me ρ) (fun d => ret (.rt d)) c) D at o
  refine ⟨g, ρ, c, s, ?_⟩
  rw [bnd_app] at o
  cases q : me ρ c with
  | ok d c1 =>
    rw [q] at o
    intro x H' Z' n p
    refine o x H' Z' (s.nxR n) ?_
    rcases hk with rfl | rfl
    · exact p
    · obtain ⟨a, xs, ds, e1, e2, e3, r⟩ := p
      exact ⟨a, xs, ds, e1, e2, .inl e3, r⟩
  | err e c1 => rw [q] at o; exact fun H' Z' n => o H' Z' (s.nxR n)
  | no => rw [q] at o; exact o
theorem psm_ret (he : PM X W .val e me) : PSm X .val W (.Return (some e) pos) (sRet me) := PS.imp (ps_ret he) fun D σ H h => ret_read (.inl rfl) h
theorem psm_retF (he : PM X W .frs e me) : PSm X .frs W (.Return (some e) pos) (sRet me) := PS.imp (ps_ret he) fun D σ H h => ret_read (.inr rfl) h
theorem psm_retN : PSm X .val W (.Return none pos) sRetN := PS.imp ps_retN fun D σ H ⟨g, ρ, c, s, o⟩ => o .non H g.Z (s.nxR s.rf) .non
theorem psm_expr {k : Fv} (he : PM X W k e me) (hs : swapsWith e none pos.line X.env = pure false := by rfl) : PSm X kr W (.Expr e pos) (sExpr me) := PS.imp (ps_expr he hs) fun D σ H ⟨g, ρ, c, s, o⟩ => by
  change OutS X.K kr W g H (bnd (me ρ) (fun _ => ret (.nx ρ)) c) D at o
  exact ⟨g, ρ, c, s, Out.mono (OutS.bnd s o) fun x H1 ⟨Z1, d, c1, n1, p1, _, o1⟩ => OutS.nx (s.next n1) o1⟩
theorem psm_pass : PSm X kr W (.Pass pos) sNil := PS.imp ps_pass fun D σ H ⟨g, ρ, c, s, o⟩ => OutS.nx s o
theorem psm_never : PSm X kr W st (fun _ => stuck) := PS.imp ps_never fun D σ H ⟨g, ρ, c, s, o⟩ => o.elim

/-- a target's store ends -/
theorem asg_read {K : PySem.W.Frag} {D : Ends} {t : Tg} {σ : L2.St} {H : Hp} (h : tS K kr W (sAsg t me) D σ H) : tM K .val W me σ H fun x H1 => tG K t x σ H1 D.nx := by
  obtain ⟨g, ρ, c, s, o⟩ := h
  change OutS K kr W g H (bnd (me ρ) (fun d => bnd (lft (t.put d ρ)) fun ρ' => ret (.nx ρ')) c) D at o
  refine ⟨g, ρ, c, s, Out.mono (OutS.bnd s o) fun x H1 ⟨Z1, d, c1, n1, p1, _, o1⟩ => ?_⟩
  obtain ⟨ρ2, e2, o2⟩ := OutS.lft o1
  have s1 := s.next n1
  refine ⟨g.z Z1, ρ, c1, d, ρ2, s1, p1, e2, fun σ2 g2 s2 z2 b2 k2 oo _ _ => o2 σ2 H1 g2 ⟨fun _ _ e _ _ => e, k2, b2, fun a z => by rw [z2]; exact z, fun a z => by rw [z2] at z; exact .inl z, fun i a h => .inr ⟨i, oo i a h⟩⟩ s2⟩
variable {tg : Expr} {t : Tg}
theorem psm_asg (he : PM X W .val e me) (hg : PGm X tg t) (hs : swapsWithSole [tg] e pos.line X.env = pure false := by rfl) (hw : swappedStores [tg] e X.env = pure none := by rfl)
    (h1 : (assignEach [tg] X.env).map (·.2) = [assign tg X.env] := by rfl) : PSm X kr W (.Assign [tg] e pos) (sAsg t me) := PS.imp (ps_asg he hg hs hw h1) fun D σ H h => asg_read h
theorem listsOf_map : ∀ dss : List (List D), listsOf (dss.map PyData.list) = some dss
  | [] => rfl
  | ds :: r => by simp [listsOf, listsOf_map r]
/-- what a held value makes of a slot -/
theorem slot_rep {K : PySem.W.Frag} {k : Kn} {κ : Option Addr} {B : Addr → Prop} {H H' : Hp} {Z' : Addr → Prop} {x : V} {d : D} {sl : Slot} (r : Res K k.fv κ H Z' H' x d) (e : slotOf k d = some sl) :
    ∃ o, SlR K H' Z' B κ (some x) sl o ∧ o.Nodup ∧ ∀ a ∈ o, H a = none ∧ ¬ Z' a := by
  cases k with
  | val => cases e; exact ⟨[], .sh r, List.nodup_nil, fun _ h => nomatch h⟩
  | frs =>
    obtain ⟨p, xs, ds, rfl, rfl, h0, nz, hp, ra⟩ := r
    cases e
    exact ⟨[p], .ol hp ra, by simp, fun a h => by rw [List.mem_singleton.mp h]; exact ⟨h0, nz⟩⟩
  | ffl =>
    obtain ⟨p, bs, dss, rfl, rfl, h0, nz, hp, ra, nd, f⟩ := r
    simp only [slotOf, listsOf_map, Option.map_some, Option.some.injEq] at e
    subst e
    exact ⟨p :: bs, .oll hp ra, nd, fun a h => (List.mem_cons.mp h).elim (fun q => by rw [q]; exact ⟨h0, nz⟩) (f a)⟩
  | frd =>
    obtain ⟨p, o, kvs, ds, rfl, rfl, h0, nz, hp, dc, ra⟩ := r
    cases e
    exact ⟨[p], .od hp dc ra, by simp, fun a h => by rw [List.mem_singleton.mp h]; exact ⟨h0, nz⟩⟩
theorem SR.zb {K : PySem.W.Frag} {g : Gh} {H : Hp} {σ : L2.St} {ρ : E} {c : Cup} (s : SR K g H σ ρ c) {a : Addr} (h : H a = none) : ¬ g.B a ∧ g.κ ≠ some a ∧ ∀ j, a ∉ g.o j :=
  ⟨fun z => s.zh a (.inr z) h, fun k => s.kt a k h, fun j q => (s.sl j).there a q h⟩
/-- the slot is in range, or nothing is stored -/
theorem SR.store {K : PySem.W.Frag} {g : Gh} {H H1 : Hp} {σ : L2.St} {ρ : E} {c c1 : Cup} {Z1 : Addr → Prop} (s : SR K g H σ ρ c) (n : Nxt g.κ g.Z H c1 Z1 H1) {i : Nat} {x : V} {sl : Slot} {oo : List Addr}
    (r : SlR K H1 Z1 g.B g.κ (some x) sl oo) (nd : oo.Nodup) (f : ∀ a ∈ oo, H a = none ∧ ¬ Z1 a) : ∃ g2, SR K g2 H1 (σ.set i (some x)) (ρ.set i sl) c1 ∧ NxS g H g2 H1 := by
  have s1 := s.next n
  have ns := s.nxS n
  by_cases hi : i < ρ.length
  · refine ⟨_, s1.put hi r nd (fun j a _ h q => (s.zb (f a h).1).2.2 j q) (fun a h => ⟨(f a h).2, (s.zb (f a h).1).1, (s.zb (f a h).1).2.1⟩), ⟨ns.keep, rfl, rfl, ns.z, ns.zn, fun j a h => ?_⟩⟩
    have h : a ∈ (if j = i then oo else g.o j) := h
    split at h
    · exact .inl (f a h).1
    · exact .inr ⟨j, h⟩
  · have hl := s.len
    rw [set_ge _ _ _ (by omega), set_ge _ _ _ (by omega)]
    exact ⟨g.z Z1, s1, ns⟩
theorem set_read {K : PySem.W.Frag} {D : Ends} {k : Kn} {i : Nat} {σ : L2.St} {H : Hp} (h : tS K kr W (sSet k i me) D σ H) : tM K k.fv W me σ H fun x H1 => gName i x σ H1 D.nx := by
  obtain ⟨g, ρ, c, s, o⟩ := h
  change OutS K kr W g H (bnd (me ρ) (fun d => bnd (lft (slotOf k d)) fun s => ret (.nx (ρ.set i s))) c) D at o
  refine ⟨g, ρ, c, s, ?_⟩
  rw [bnd_app] at o
  cases q : me ρ c with
  | no => rw [q] at o; exact o
  | err e c1 => rw [q] at o; exact fun H1 Z1 n => o H1 Z1 (s.nxR n)
  | ok d c1 =>
    rw [q] at o
    intro x H1 Z1 n r
    obtain ⟨sl, e, o1⟩ := OutS.lft o
    obtain ⟨oo, sr, nd, f⟩ := slot_rep (B := g.B) r e
    obtain ⟨g2, s2, n2⟩ := s.store n sr nd f (i := i)
    exact o1 _ H1 g2 n2 s2
theorem psm_set {k : Kn} (i : Nat) {z : Str} {pos' : Pos} (hN : X.N.Nodup) (he : PM X W k.fv e me) (hi : X.N[i]? = some z := by rfl) (hx : Loc X.env.scope z := by first | exact Or.inl rfl | exact Or.inr rfl) (hs : swapsWith e (some (.Name z pos')) pos.line X.env = pure false := by rfl)
    (hf : X.fn z = true ∨ X.env.scope.names.lookup z = some .local := by first | exact .inl rfl | exact .inr rfl | assumption) : PSm X kr W (.Assign [.Name z pos'] e pos) (sSet k i me) := PS.imp (ps_set hN hi hx he hs hf) fun D σ H h => set_read h
variable {elt tg' iter : Expr} {ifs : List Expr} {scope : Scope} {own : List (Str × Nat)} {kf : Fv} {mi : MI} {tc : E → M Bool} {te : ME} {lpos : Pos}
/-- y = [..] on one line, y a local: held as a new list -/
theorem psm_setLc (i : Nat) {y : Str} {py : Pos} (hc : X.calm = true) (hN : X.N.Nodup) (hk : kf = .val ∨ kf = .bor) (hi : PIm X W kf tg' iter mi) (ok : BlkOk X.N X.env.scope scope own) (hix : ∀ j ∈ t.ix, j ∈ own.map (·.2))
    (hg : ∀ (s : Shared) (H : Hp) (C : Addr) (cl : List (Str × Addr)) (fp : List Addr), PGm (X.blk s H scope (compEnvC scope cl C X.env) fp) tg' t)
    (ht : ∀ (s : Shared) (H : Hp) (C : Addr) (cl : List (Str × Addr)) (fp : List Addr), PTsm (X.blk s H scope (compEnvC scope cl C X.env) fp) W0 ifs tc)
    (he : ∀ (s : Shared) (H : Hp) (C : Addr) (cl : List (Str × Addr)) (fp : List Addr), PM (X.blk s H scope (compEnvC scope cl C X.env) fp) W0 .val elt te)
    (hsw : swapsWith (.ListComp elt [⟨tg', iter, ifs, 0⟩] scope lpos) (some (.Name y py)) pos.line X.env = pure true := by exact sw_true rfl rfl rfl (by decide +kernel)) (hy : X.N[i]? = some y := by rfl) (hyl : X.env.scope.names.lookup y = some .local := by rfl)
    (hs : ∀ x, foldedSetIterable iter X.env x = pure x := by intro _; rfl) :
    PSm X kr W (.Assign [.Name y py] (.ListComp elt [⟨tg', iter, ifs, 0⟩] scope lpos) pos) (sSet .frs i (eComp (own.map (·.2)) mi t tc te)) :=
  PS.imp (ps_setLc hc hN hy hyl hsw hi ok hg ht he hs) fun D σ H h => lc_read hk hix (set_read h)
/-- .. held as data -/
theorem psm_setLcV (i : Nat) {y : Str} {py : Pos} (hc : X.calm = true) (hN : X.N.Nodup) (hk : kf = .val ∨ kf = .bor) (hi : PIm X W kf tg' iter mi) (ok : BlkOk X.N X.env.scope scope own) (hix : ∀ j ∈ t.ix, j ∈ own.map (·.2))
    (hg : ∀ (s : Shared) (H : Hp) (C : Addr) (cl : List (Str × Addr)) (fp : List Addr), PGm (X.blk s H scope (compEnvC scope cl C X.env) fp) tg' t)
    (ht : ∀ (s : Shared) (H : Hp) (C : Addr) (cl : List (Str × Addr)) (fp : List Addr), PTsm (X.blk s H scope (compEnvC scope cl C X.env) fp) W0 ifs tc)
    (he : ∀ (s : Shared) (H : Hp) (C : Addr) (cl : List (Str × Addr)) (fp : List Addr), PM (X.blk s H scope (compEnvC scope cl C X.env) fp) W0 .val elt te)
    (hsw : swapsWith (.ListComp elt [⟨tg', iter, ifs, 0⟩] scope lpos) (some (.Name y py)) pos.line X.env = pure true := by exact sw_true rfl rfl rfl (by decide +kernel)) (hy : X.N[i]? = some y := by rfl) (hyl : X.env.scope.names.lookup y = some .local := by rfl)
    (hs : ∀ x, foldedSetIterable iter X.env x = pure x := by intro _; rfl) :
    PSm X kr W (.Assign [.Name y py] (.ListComp elt [⟨tg', iter, ifs, 0⟩] scope lpos) pos) (sSet .val i (eComp (own.map (·.2)) mi t tc te)) :=
  PS.imp (ps_setLc hc hN hy hyl hsw hi ok hg ht he hs) fun D σ H h => lc_read hk hix (by
    obtain ⟨g, ρ, c, s, o⟩ := set_read h
    refine ⟨g, ρ, c, s, ?_⟩
    generalize eComp (own.map (·.2)) mi t tc te ρ c = r at o
    cases r with
    | ok d c1 =>
      intro x H' Z' n p
      obtain ⟨p, xs, ds, rfl, rfl, h0, nz, hp, r⟩ := p
      exact o _ H' _ (n.add (fun a => a = p) (fun q e => by rw [e]; exact h0) fun q e => by rw [e, hp]; simp) (.lst (.inr rfl) hp (r.stay (.same fun _ z => .inl z)))
    | err e c1 => exact o
    | no => exact o)
end
end PV

namespace PV
open PySem PySem.Spec PyProof.Rows L2
/-- values as slots, each with its own places -/
inductive SlA (K : PySem.W.Frag) (B : Addr → Prop) (κ : Option Addr) (H : Hp) (Z' : Addr → Prop) (H' : Hp) : List V → List Slot → List Addr → Prop
  | nil : SlA K B κ H Z' H' [] [] []
  | cons {x : V} {s : Slot} {o : List Addr} {xs : List V} {ss : List Slot} {O : List Addr} : SlR K H' Z' B κ (some x) s o → o.Nodup → (∀ a ∈ o, a ∉ O) → (∀ a ∈ o, H a = none ∧ ¬ Z' a) → SlA K B κ H Z' H' xs ss O → SlA K B κ H Z' H' (x :: xs) (s :: ss) (o ++ O)
def OutK (K : PySem.W.Frag) (B : Hp → Addr → Prop) (W : Nat → Hp → Prop) (g : Gh) (H : Hp) (r : R (List Slot)) (Q : List V → Hp → Prop) : Prop := match r with
  | .ok ss c' => ∀ xs H' Z' O, Nxt g.κ g.Z H c' Z' H' → SlA K (B H') g.κ H Z' H' xs ss O → Q xs H'
  | .err e c' => ∀ H' Z', Nxt g.κ g.Z H c' Z' H' → W e H'
  | .no => False
/-- B: which places are borrowed -/
def tK (K : PySem.W.Frag) (B : Gh → Hp → Addr → Prop) (W : Nat → Hp → Prop) (m : MK) : TA := fun σ H Q => ∃ g ρ c, SR K g H σ ρ c ∧ OutK K (B g) W g H (m ρ c) Q
abbrev PKm (X : Cx) (B : Gh → Hp → Addr → Prop) (W : Nat → Hp → Prop) (es : List Expr) (m : MK) : Prop := PA X es (tK X.K B W m)
section
variable {K : PySem.W.Frag} {B : Addr → Prop} {κ : Option Addr} {H H1 H2 : Hp} {Z1 Z2 : Addr → Prop} {g : Gh} {c c1 c2 : Cup} {σ : L2.St} {ρ : E}
theorem SlA.fresh {xs : List V} {ss : List Slot} {O : List Addr} (h : SlA K B κ H Z1 H1 xs ss O) : ∀ a ∈ O, H a = none ∧ ¬ Z1 a := by
  induction h with
  | nil => intro a h; cases h
  | cons _ _ _ f _ ih => intro a h; exact (List.mem_append.mp h).elim (f a) (ih a)
theorem SlA.length {xs : List V} {ss : List Slot} {O : List Addr} (h : SlA K B κ H Z1 H1 xs ss O) : xs.length = ss.length := by
  induction h with
  | nil => rfl
  | cons _ _ _ _ _ ih => simp [ih]
/-- seen from a state ahead -/
theorem SlA.back {Z : Addr → Prop} (s : SR K g H σ ρ c) (n : Nxt g.κ g.Z H c1 Z1 H1) {xs : List V} {ss : List Slot} {O : List Addr} (h : SlA K B κ H1 Z2 H2 xs ss O) : SlA K B κ H Z2 H2 xs ss O := by
  have no : ∀ a, H1 a = none → H a = none := fun a h => by
    cases e : H a with
    | none => rfl
    | some o =>
      by_cases k : g.κ = some a
      · exact absurd h ((s.next n).kt a k)
      · rw [n.keep a o e k] at h; cases h
  induction h with
  | nil => exact .nil
  | cons r nd dj f _ ih => exact .cons r nd dj (fun a h => ⟨no a (f a h).1, (f a h).2⟩) ih
end
section
variable {X : Cx} {kr : Kn} {W : Nat → Hp → Prop} {Bf : Gh → Hp → Addr → Prop} {pos : Pos} {a : Expr} {es : List Expr} {ma : ME} {mk : MK}
theorem pkm_nil : PKm X Bf W [] kNil := PA.imp pa_nil fun σ H Q ⟨g, ρ, c, s, o⟩ => o [] H g.Z [] s.rf .nil
/-- Bf must not shrink behind a step -/
def BfOk (Bf : Gh → Hp → Addr → Prop) : Prop := ∀ (g : Gh) (H H' : Hp) (Z' : Addr → Prop), (∀ a o, H a = some o → g.κ ≠ some a → ∃ o', H' a = some o') → ∀ a, Bf g H a → g.κ ≠ some a → Bf (g.z Z') H' a
abbrev bOwn : Gh → Hp → Addr → Prop := fun g _ a => g.B a
/-- for a callee: all that stands but the cup -/
abbrev bAll : Gh → Hp → Addr → Prop := fun g H a => H a ≠ none ∧ g.κ ≠ some a
theorem kcons_read {K : PySem.W.Frag} {k : Kn} {σ : L2.St} {H : Hp} {Q : List V → Hp → Prop} (hB : ∀ g H Z' a, Bf (g.z Z') H a = Bf g H a) (h : tK K Bf W (kCons k ma mk) σ H Q) :
    tM K k.fv W ma σ H fun x H1 => tK K Bf W mk σ H1 fun xs H2 => Q (x :: xs) H2 := by
  obtain ⟨g, ρ, c, s, o⟩ := h
  change OutK K (Bf g) W g H (bnd (ma ρ) (fun d => bnd (lft (slotOf k d)) fun s => bnd (mk ρ) fun ss => ret (s :: ss)) c) Q at o
  refine ⟨g, ρ, c, s, ?_⟩
  rw [bnd_app] at o
  cases q : ma ρ c with
  | no => rw [q] at o; exact o
  | err e c1 => rw [q] at o; exact o
  | ok d c1 =>
    rw [q] at o
    intro x H1 Z1 n1 r1
    have s1 := s.next n1
    refine ⟨g.z Z1, ρ, c1, s1, ?_⟩
    change OutK K (Bf g) W g H (bnd (lft (slotOf k d)) (fun s => bnd (mk ρ) fun ss => ret (s :: ss)) c1) Q at o
    cases e : slotOf k d with
    | none => rw [e] at o; exact o.elim
    | some sl =>
      rw [e] at o
      change OutK K (Bf g) W g H (bnd (mk ρ) (fun ss => ret (sl :: ss)) c1) Q at o
      rw [bnd_app] at o
      cases q2 : mk ρ c1 with
      | no => rw [q2] at o; exact o
      | err e c2 => rw [q2] at o; exact fun H2 Z2 n2 => o H2 Z2 (n1.trans n2 s.kt)
      | ok ss c2 =>
        rw [q2] at o
        intro xs H2 Z2 O n2 r2
        obtain ⟨oo, sr, nd, f⟩ := slot_rep (B := Bf g H2) r1 e
        have st := s1.stay n2
        have none1 : ∀ a, a ∈ oo → H1 a ≠ none := fun a ha => sr.there a ha
        have rr : SlA K (Bf g H2) g.κ H1 Z2 H2 xs ss O := by
          have e2 : Bf (g.z Z1) H2 = Bf g H2 := funext fun a => hB g H2 Z1 a
          rw [e2] at r2
          exact r2
        refine o (x :: xs) H2 Z2 (oo ++ O) (n1.trans n2 s.kt) (.cons ?_ nd (fun a ha hO => ?_) (fun a ha => ⟨(f a ha).1, fun z => ?_⟩) (rr.back (Z := g.Z) s n1))
        · have hk : ∀ a ∈ oo, ∀ u, H1 a = some u → H2 a = some u := fun a ha u e => n2.keep a u e fun k => s.kt a k (f a ha).1
          cases k with
          | val => cases e; cases sr with | sh r => exact .sh (r.stay st)
          | frs =>
            obtain ⟨p, zs, ds, rfl, rfl, h0, nz, hp, ra⟩ := r1
            cases e
            cases sr with | ol e1 r => exact .ol (hk _ List.mem_cons_self _ e1) (r.stay st)
          | ffl =>
            obtain ⟨p, bs, dss, rfl, rfl, h0, nz, hp, ra, nd', f'⟩ := r1
            simp only [slotOf, listsOf_map, Option.map_some, Option.some.injEq] at e
            subst e
            cases sr with
            | oll e1 r => exact .oll (hk _ List.mem_cons_self _ e1) (r.stay st fun b hb => hk b (List.mem_cons_of_mem _ hb))
          | frd =>
            obtain ⟨p, u, kvs, ds, rfl, rfl, h0, nz, hp, dc, ra⟩ := r1
            cases e
            cases sr with | od e1 q r => exact .od (hk _ List.mem_cons_self _ e1) q (r.stay st)
        · exact none1 a ha (rr.fresh a hO).1
        · rcases n2.zn a z with q3 | q3
          · exact (f a ha).2 q3
          · exact none1 a ha q3
theorem pkm_cons {k : Kn} (hB : ∀ g H Z' a, Bf (g.z Z') H a = Bf g H a := by intros; rfl) (ha : PM X W k.fv a ma) (hr : PKm X Bf W es mk) (hs : starEach (a :: es) X.env = (false, eval a X.env) :: starEach es X.env := by rfl) : PKm X Bf W (a :: es) (kCons k ma mk) :=
  PA.imp (pa_cons ha hr hs) fun σ H Q h => kcons_read hB h
/-- the cup, as an argument -/
theorem pkm_cup (i : Nat) {z : Str} {p : Pos} (hB : ∀ g H Z' a, Bf (g.z Z') H a = Bf g H a := by intros; rfl) (hr : PKm X Bf W es mk) (hN : X.N[i]? = some z := by rfl) (hv : Vis X.env.scope z := by first | exact Or.inl rfl | exact Or.inr (Or.inl rfl) | exact Or.inr (Or.inr rfl)) (hd : (z == ("__debug__" : Str)) = false := by decide)
    (hcd : (z == ("__classdict__" : Str)) = false := by decide) (hs : starEach (.Name z p :: es) X.env = (false, eval (.Name z p) X.env) :: starEach es X.env := by rfl) : PKm X Bf W (.Name z p :: es) (kCup i mk) :=
  PA.imp (pa_cons (pe_var hN hv hd hcd) hr hs) fun σ H Q ⟨g, ρ, c, s, o⟩ => by
  have q := s.sl i
  unfold kCup at o
  generalize hs' : Slot.at ρ i = sl at o q
  generalize hx : σ.getD i none = v at q
  generalize hO : g.o i = oo at q
  cases q with
  | cup k =>
    refine ⟨_, getD_some hx, g, ρ, c, s, ?_⟩
    have o : OutK X.K (Bf g) W g H (bnd (mk ρ) (fun ss => ret (.cup :: ss)) c) Q := o
    rw [bnd_app] at o
    cases q2 : mk ρ c with
    | no => rw [q2] at o; exact o
    | err e c2 => rw [q2] at o; exact o
    | ok ss c2 =>
      rw [q2] at o
      intro xs H2 Z2 O n2 r2
      exact o (_ :: xs) H2 Z2 ([] ++ O) n2 (.cons (.cup k) List.nodup_nil (fun _ h => nomatch h) (fun _ h => nomatch h) r2)
  | no => exact o.elim
  | sh _ => exact o.elim
  | scr _ => exact o.elim
  | bl _ _ _ => exact o.elim
  | bd _ _ _ _ => exact o.elim
  | ol _ _ => exact o.elim
  | oll _ _ => exact o.elim
  | od _ _ _ => exact o.elim
theorem nodup_app {o O : List Addr} (h1 : o.Nodup) (h2 : O.Nodup) (dj : ∀ a ∈ o, a ∉ O) : (o ++ O).Nodup := List.nodup_append.mpr ⟨h1, h2, fun a ha b hb e => dj a ha (e ▸ hb)⟩
/-- all are stored -/
theorem setAll_ok {K : PySem.W.Frag} {g : Gh} {H H1 : Hp} {Z1 : Addr → Prop} {c1 : Cup} (n : Nxt g.κ g.Z H c1 Z1 H1) (no : ∀ a, H a = none → ¬ g.B a ∧ g.κ ≠ some a ∧ ∀ j, a ∉ g.o j) : ∀ {is : List Nat} {xs : List V} {ss : List Slot} {O : List Addr} {g1 : Gh} {σ : L2.St} {ρ ρ2 : E},
    SlA K g.B g.κ H Z1 H1 xs ss O → setAll is ss ρ = some ρ2 → SR K g1 H1 σ ρ c1 → g1.Z = Z1 → g1.B = g.B → g1.κ = g.κ → (∀ i a, a ∈ g1.o i → a ∉ O ∧ (H a = none ∨ ∃ j, a ∈ g.o j)) →
    ∃ g2, SR K g2 H1 ((is.zip xs).foldl (fun s p => s.set p.1 (some p.2)) σ) ρ2 c1 ∧ g2.Z = Z1 ∧ g2.B = g.B ∧ g2.κ = g.κ ∧ ∀ i a, a ∈ g2.o i → H a = none ∨ ∃ j, a ∈ g.o j
  | [], _, _, _, g1, σ, ρ, ρ2, .nil, e, s, ez, eb, ek, f => by
    simp only [setAll, Option.some.injEq] at e
    subst e
    exact ⟨g1, s, ez, eb, ek, fun i a h => (f i a h).2⟩
  | [], _, _, _, g1, σ, ρ, ρ2, .cons _ _ _ _ _, e, s, ez, eb, ek, f => by simp [setAll] at e
  | _ :: _, _, _, _, g1, σ, ρ, ρ2, .nil, e, s, ez, eb, ek, f => by simp [setAll] at e
  | i :: is, _, _, _, g1, σ, ρ, ρ2, .cons (x := x) (s := sl) (o := oo) (xs := xs) (ss := ss) (O := O) r nd dj fr rest, e, s, ez, eb, ek, f => by
    simp only [setAll] at e
    have r' : SlR K H1 g1.Z g1.B g1.κ (some x) sl oo := by rw [ez, eb, ek]; exact r
    by_cases hi : i < ρ.length
    · have s2 := s.put (i := i) hi r' nd (fun j a _ h q => (f j a q).1 (List.mem_append_left _ h)) (fun a h => ⟨by rw [ez]; exact (fr a h).2, by rw [eb]; exact (no a (fr a h).1).1, by rw [ek]; exact (no a (fr a h).1).2.1⟩)
      have key := setAll_ok (is := is) (xs := xs) n no rest e s2 ez eb ek fun j a h => by
        have h : a ∈ (if j = i then oo else g1.o j) := h
        split at h
        · exact ⟨dj a h, .inl (fr a h).1⟩
        · exact ⟨fun q => (f j a h).1 (List.mem_append_right _ q), (f j a h).2⟩
      exact key
    · have hl := s.len
      rw [set_ge _ _ _ (by omega)] at e
      have := setAll_ok n no rest e s ez eb ek fun j a h => ⟨fun q => (f j a h).1 (List.mem_append_right _ q), (f j a h).2⟩
      rw [List.zip_cons_cons, List.foldl_cons, set_ge _ _ _ (by show σ.length ≤ i; omega)]
      exact this
theorem par_read {K : PySem.W.Frag} {D : Ends} {is : List Nat} {σ : L2.St} {H : Hp} (h : tS K kr W (sPar is mk) D σ H) :
    tK K bOwn W mk σ H fun vs H1 => vs.length = is.length ∧ D.nx ((is.zip vs).foldl (fun s p => s.set p.1 (some p.2)) σ) H1 := by
  obtain ⟨g, ρ, c, s, o⟩ := h
  change OutS K kr W g H (bnd (mk ρ) (fun ss => bnd (lft (setAll is ss ρ)) fun ρ' => ret (.nx ρ')) c) D at o
  refine ⟨g, ρ, c, s, ?_⟩
  rw [bnd_app] at o
  cases q : mk ρ c with
  | no => rw [q] at o; exact o
  | err e c1 => rw [q] at o; exact fun H1 Z1 n => o H1 Z1 (s.nxR n)
  | ok ss c1 =>
    rw [q] at o
    intro xs H1 Z1 O n r
    obtain ⟨ρ2, e, o1⟩ := OutS.lft o
    have hl : ∀ (is : List Nat) (ss : List Slot) (ρ ρ2 : E), setAll is ss ρ = some ρ2 → ss.length = is.length := by
      intro is
      induction is with
      | nil => intro ss ρ ρ2 h; cases ss with | nil => rfl | cons _ _ => simp [setAll] at h
      | cons i is ih => intro ss ρ ρ2 h; cases ss with | nil => simp [setAll] at h | cons _ _ => simp only [setAll] at h; rw [List.length_cons, List.length_cons, ih _ _ _ h]
    obtain ⟨g2, s2, z2, b2, k2, f2⟩ := setAll_ok n (fun a h => s.zb h) r e (s.next n) rfl rfl rfl fun i a h => ⟨fun q => (s.zb (r.fresh a q).1).2.2 i h, .inr ⟨i, h⟩⟩
    refine ⟨by rw [r.length, hl _ _ _ _ e], o1 _ H1 g2 ⟨fun a u e k _ => n.keep a u e k, k2, b2, fun a z => by rw [z2]; exact n.z a z, fun a z => by rw [z2] at z; exact (n.zn a z).elim .inl fun q => .inr (.inl q), f2⟩ s2⟩
/-- two local names -/
theorem psm_par2 (i j : Nat) {x y : Str} {b : Expr} {px py pt : Pos} {kt k2 pt2} (hc : X.calm = true) (hN : X.N.Nodup) (ha : PKm X bOwn W [a, b] mk) (hi : X.N[i]? = some x := by rfl) (hj : X.N[j]? = some y := by rfl) (hij : i ≠ j := by decide)
    (hx : X.env.scope.names.lookup x = some .local := by rfl) (hy : X.env.scope.names.lookup y = some .local := by rfl)
    (hw : swappedStores [.Tuple [.Name x px, .Name y py] kt pt] (.Tuple [a, b] k2 pt2) X.env = pure (some [x, y]) := by rfl)
    (hs : swapsWithSole [.Tuple [.Name x px, .Name y py] kt pt] (.Tuple [a, b] k2 pt2) pos.line X.env = pure false := by rfl) :
    PSm X kr W (.Assign [.Tuple [.Name x px, .Name y py] kt pt] (.Tuple [a, b] k2 pt2) pos) (sPar [i, j] mk) := PS.imp (ps_par hc hN hi hj hij hx hy ha hw hs) fun D σ H h => by
  obtain ⟨g, ρ, c, s, o⟩ := par_read h
  refine ⟨g, ρ, c, s, ?_⟩
  generalize mk ρ c = r at o
  cases r with
  | ok ss c' =>
    intro xs H' Z' O n p
    obtain ⟨hl, q⟩ := o xs H' Z' O n p
    match xs, hl with
    | [v, w], _ => exact ⟨v, w, rfl, q⟩
  | err e c' => exact o
  | no => exact o
theorem psm_par3 (i j l : Nat) {x y z : Str} {b d : Expr} {px py pz pt : Pos} {kt k2 pt2} (hc : X.calm = true) (hN : X.N.Nodup) (ha : PKm X bOwn W [a, b, d] mk) (hi : X.N[i]? = some x := by rfl) (hj : X.N[j]? = some y := by rfl) (hl : X.N[l]? = some z := by rfl) (hij : i ≠ j := by decide) (hil : i ≠ l := by decide) (hjl : j ≠ l := by decide)
    (hx : X.env.scope.names.lookup x = some .local := by rfl) (hy : X.env.scope.names.lookup y = some .local := by rfl) (hz : X.env.scope.names.lookup z = some .local := by rfl)
    (hw : swappedStores [.Tuple [.Name x px, .Name y py, .Name z pz] kt pt] (.Tuple [a, b, d] k2 pt2) X.env = pure (some [x, y, z]) := by rfl)
    (hs : swapsWithSole [.Tuple [.Name x px, .Name y py, .Name z pz] kt pt] (.Tuple [a, b, d] k2 pt2) pos.line X.env = pure false := by rfl) :
    PSm X kr W (.Assign [.Tuple [.Name x px, .Name y py, .Name z pz] kt pt] (.Tuple [a, b, d] k2 pt2) pos) (sPar [i, j, l] mk) := PS.imp (ps_par3 hc hN hi hj hl hij hil hjl hx hy hz ha hw hs) fun D σ H h => by
  obtain ⟨g, ρ, c, s, o⟩ := par_read h
  refine ⟨g, ρ, c, s, ?_⟩
  generalize mk ρ c = r at o
  cases r with
  | ok ss c' =>
    intro xs H' Z' O n p
    obtain ⟨hl, q⟩ := o xs H' Z' O n p
    match xs, hl with
    | [v, w, u], _ => exact ⟨v, w, u, rfl, q⟩
  | err e c' => exact o
  | no => exact o
end
end PV

namespace PV
open PySem PySem.Spec PyProof.Rows L2
section
variable {K : PySem.W.Frag} {kr : Kn} {W : Nat → Hp → Prop} {g g' : Gh} {H H' : Hp} {c c' : Cup} {σ : L2.St} {ρ : E} {Z B : Addr → Prop} {κ : Option Addr}
theorem RpL.kind {bs : List Addr} {r : List (List D)} (q : RpL K H Z bs r) : ∀ b ∈ bs, ∃ xs, H b = some (.lst xs) := by
  induction q with
  | nil => intro b hb; cases hb
  | cons e _ _ ih =>
    intro b hb
    rcases List.mem_cons.mp hb with rfl | hb
    · exact ⟨_, e⟩
    · exact ih b hb
theorem SlR.own {v : Option V} {sl : Slot} {o : List Addr} (h : SlR K H Z B κ v sl o) : ∀ a ∈ o, (∃ xs, H a = some (.lst xs)) ∨ (∃ l, H a = some (.dK l)) ∨ ∃ l, H a = some (.dT l) := by
  cases h with
  | no => intro a ha; cases ha
  | sh _ => intro a ha; cases ha
  | cup _ => intro a ha; cases ha
  | bl _ _ _ => intro a ha; cases ha
  | scr _ => intro a ha; cases ha
  | bd _ _ _ _ => intro a ha; cases ha
  | ol e _ => intro a ha; rcases List.mem_cons.mp ha with rfl | ha; exact .inl ⟨_, e⟩; cases ha
  | oll e q =>
    intro a ha
    rcases List.mem_cons.mp ha with rfl | ha
    · exact .inl ⟨_, e⟩
    · exact .inl (q.kind a ha)
  | od e q _ =>
    intro a ha
    rcases List.mem_cons.mp ha with rfl | ha
    · rcases q with ⟨l, rfl, _⟩ | ⟨l, rfl, _⟩
      · exact .inr (.inl ⟨_, e⟩)
      · exact .inr (.inr ⟨_, e⟩)
    · cases ha
theorem NxS.stay (s : SR K g H σ ρ c) (n : NxS g H g' H') : Stay g.Z g'.Z H H' where
  z := n.z
  s := fun a o e z => n.keep a o e (fun k => (s.kz a k).1 z) fun i h => (s.fr i a h).1 z
  t := fun a xs e => n.keep a _ e (fun k => by obtain ⟨ys, q⟩ := s.cup.at k; rw [e] at q; cases q) fun i h => by
    rcases (s.sl i).own a h with ⟨_, q⟩ | ⟨_, q⟩ | ⟨_, q⟩
    · rw [e] at q; cases q
    · rw [e] at q; cases q
    · rw [e] at q; cases q
  f := fun a o u e => n.keep a _ e (fun k => by obtain ⟨ys, q⟩ := s.cup.at k; rw [e] at q; cases q) fun i h => by
    rcases (s.sl i).own a h with ⟨_, q⟩ | ⟨_, q⟩ | ⟨_, q⟩
    · rw [e] at q; cases q
    · rw [e] at q; cases q
    · rw [e] at q; cases q
theorem for_read {mi : MI} {t : Tg} {mb : MS} {D : Ends} (h : tS K kr W (sFor mi t mb) D σ H) : tFor (tI K .val W mi) (tG K t) (tS K kr W mb) D σ H := by
  obtain ⟨g, ρ, c, s, o⟩ := h
  change OutS K kr W g H (bnd (mi ρ) (fun ds => loopS t mb ds ρ) c) D at o
  refine ⟨g, ρ, c, s, ?_⟩
  rw [bnd_app] at o
  cases q : mi ρ c with
  | no => rw [q] at o; exact o
  | err e c1 => rw [q] at o; exact fun H1 Z1 n => o H1 Z1 (s.nxR n)
  | ok ds c1 =>
    rw [q] at o
    intro H1 Z1 n1 J G hG it
    have s1 := s.next n1
    have o1 : OutS K kr W (g.z Z1) H1 (loopS t mb ds ρ c1) D := OutS.at s1 (s.nxS n1) o
    refine ⟨fun i m σ2 H2 => m = ds.length - i ∧ i ≤ ds.length ∧ ∃ g2 ρ2 c2, SR K g2 H2 σ2 ρ2 c2 ∧ NxS (g.z Z1) H1 g2 H2 ∧ OutS K kr W g2 H2 (loopS t mb (ds.drop i) ρ2 c2) D, ⟨ds.length, by simp, Nat.zero_le _, g.z Z1, ρ, c1, s1, .refl, by simpa using o1⟩, ?_⟩
    rintro i m σ2 H2 ⟨rfl, hi, g2, ρ2, c2, s2, n2, o2⟩
    have sg : StayG G Z1 g2.Z H1 H2 := ⟨n2.stay s1, fun a u e ga => n2.keep a u e (hG a ga).1 fun j h => (s1.fr j a h).1 (hG a ga).2⟩
    by_cases hlt : i < ds.length
    · obtain ⟨hgo, hy⟩ := it.go g2.Z H2 sg i _ (List.getElem?_eq_getElem hlt)
      rw [List.drop_eq_getElem_cons hlt] at o2
      change OutS K kr W g2 H2 (bnd (lft (t.put ds[i] ρ2)) (fun ρ1 => bnd (mb ρ1) (andThen (loopS t mb (ds.drop (i + 1))))) c2) D at o2
      obtain ⟨ρ3, e3, o3⟩ := OutS.lft o2
      refine .inr ⟨hgo, fun σ' H' => ∃ g2 ρ2 c2, SR K g2 H' σ' ρ2 c2 ∧ NxS (g.z Z1) H1 g2 H' ∧ OutS K kr W g2 H' (loopS t mb (ds.drop (i + 1)) ρ2 c2) D, fun σ' H' q => ⟨ds.length - (i + 1), by omega, rfl, hlt, q⟩, fun x H3 y3 => ?_⟩
      obtain ⟨h3, rp⟩ := hy x H3 y3
      have n3 : Nxt g2.κ g2.Z H2 c2 g2.Z H3 := by
        rcases h3 with h3 | ⟨p, ys, hp, h3⟩
        · subst h3; exact s2.rf
        · subst h3; exact s2.lay hp
      have s3 := s2.next n3
      refine ⟨g2.z g2.Z, ρ2, c2, ds[i], ρ3, s3, rp, e3, fun σ4 g4 s4 z4 b4 k4 o4 _ _ => ?_⟩
      have n4 : NxS g2 H2 g4 H3 := ⟨fun a u e k _ => n3.keep a u e k, k4, b4, fun a z => by rw [z4]; exact z, fun a z => by rw [z4] at z; exact .inl z, fun i a h => .inr ⟨i, o4 i a h⟩⟩
      have o5 : OutS K kr W g4 H3 (bnd (mb ρ3) (andThen (loopS t mb (ds.drop (i + 1)))) c2) D := OutS.at s4 n4 o3
      have n14 := n2.trans n4 s2.kt
      refine ⟨g4, ρ3, c2, s4, ?_⟩
      rw [bnd_app] at o5
      cases q5 : mb ρ3 c2 with
      | no => rw [q5] at o5; exact o5
      | err e c5 => rw [q5] at o5; exact o5
      | ok f c5 =>
        rw [q5] at o5
        cases f with
        | rt d => exact o5
        | nx ρ5 => exact fun σ5 H5 g5 n5 s5 => ⟨g5, ρ5, c5, s5, n14.trans n5 s4.kt, OutS.at s5 n5 o5⟩
    · have e : i = ds.length := by omega
      subst e
      rw [List.drop_length] at o2
      exact .inl ⟨it.stop g2.Z H2 sg _ (Nat.le_refl _), OutS.nx s2 o2⟩
theorem SR.frz (s : SR K g H σ ρ c) (i : Nat) : SR K { g with Z := fun a => g.Z a ∨ a ∈ g.o i, o := fun j => if j = i then [] else g.o j } H σ (PV.frz i ρ) c where
  len := by unfold PV.frz; rw [List.length_set]; exact s.len
  sl := fun j => by
    show SlR K H (fun a => g.Z a ∨ a ∈ g.o i) g.B g.κ (σ.getD j none) (Slot.at (PV.frz i ρ) j) (if j = i then [] else g.o j)
    have st : Stay g.Z (fun a => g.Z a ∨ a ∈ g.o i) H H := .same fun _ z => .inl z
    by_cases e : j = i
    · subst e
      rw [if_pos rfl]
      have hq : Slot.at (PV.frz j ρ) j = frzS (Slot.at ρ j) := by
        unfold PV.frz
        by_cases h : j < ρ.length
        · show (ρ.set j (frzS (Slot.at ρ j))).getD j .no = _
          rw [List.getD_eq_getElem?_getD, List.getElem?_set_self h]; rfl
        · rw [set_ge _ _ _ (by omega)]
          have : Slot.at ρ j = .no := by
            show ρ.getD j .no = _
            rw [List.getD_eq_getElem?_getD, List.getElem?_eq_none (by omega)]; rfl
          rw [this]; rfl
      rw [hq]
      have q := s.sl j
      generalize Slot.at ρ j = sl at q
      generalize σ.getD j none = v at q
      generalize g.o j = oo at q st ⊢
      cases q with
      | no => exact .no
      | sh r => exact .sh (r.stay st)
      | cup k => exact .cup k
      | bl hb e r => exact .bl hb e (r.stay st)
      | scr h => exact .scr h
      | bd hb e q r => exact .bd hb e q (r.stay st)
      | ol e r => exact .sh (.lst (.inr List.mem_cons_self) e (r.stay st))
      | oll e r => exact .sh (.lst (.inr List.mem_cons_self) e (RpL.rpA (fun b hb => .inr (List.mem_cons_of_mem _ hb)) (r.stay st fun b hb o e => e)))
      | od e q r => exact .sh (.dct (.inr List.mem_cons_self) e q (r.stay st))
    · rw [if_neg e]
      have hq : Slot.at (PV.frz i ρ) j = Slot.at ρ j := by
        show (ρ.set i (frzS (Slot.at ρ i))).getD j .no = ρ.getD j .no
        rw [List.getD_eq_getElem?_getD, List.getElem?_set_ne (fun z => e z.symm), ← List.getD_eq_getElem?_getD]
      rw [hq]
      exact (s.sl j).stay st (fun _ _ e _ => e) fun _ _ _ e => e
  nd := fun j => by
    show (if j = i then [] else g.o j).Nodup
    split
    · exact List.nodup_nil
    · exact s.nd j
  dj := fun j l a h1 h2 => by
    have h1 : a ∈ (if j = i then [] else g.o j) := h1
    have h2 : a ∈ (if l = i then [] else g.o l) := h2
    split at h1
    · cases h1
    · split at h2
      · cases h2
      · exact s.dj j l a h1 h2
  fr := fun j a h => by
    have h : a ∈ (if j = i then [] else g.o j) := h
    split at h
    · cases h
    · rename_i e
      exact ⟨fun z => z.elim (s.fr j a h).1 fun q => e (s.dj j i a h q), (s.fr j a h).2⟩
  cup := s.cup
  kz := fun a k => ⟨fun z => z.elim (s.kz a k).1 fun q => (s.fr i a q).2.2 k, (s.kz a k).2⟩
  zh := fun a z => by
    rcases z with (z | z) | z
    · exact s.zh a (.inl z)
    · exact (s.sl i).there a z
    · exact s.zh a (.inr z)
theorem frz_read {i : Nat} {mb : MS} {D : Ends} (h : tS K kr W (sFrz i mb) D σ H) : tS K kr W mb D σ H := by
  obtain ⟨g, ρ, c, s, o⟩ := h
  have s' := s.frz i
  have n : NxS g H { g with Z := fun a => g.Z a ∨ a ∈ g.o i, o := fun j => if j = i then [] else g.o j } H := ⟨fun a u e _ _ => e, rfl, rfl, fun a z => .inl z, fun a z => Or.elim z .inl fun q => .inr (.inr ⟨i, q⟩), fun j a h => .inr ⟨j, by
    have h : a ∈ (if j = i then [] else g.o j) := h
    split at h
    · cases h
    · exact h⟩⟩
  exact ⟨_, _, c, s', OutS.at s' n o⟩
end
section
variable {X : Cx} {kr : Kn} {W : Nat → Hp → Prop} {pos : Pos} {iter tg e : Expr} {body rest : List Stmt} {mi : MI} {t : Tg} {mb : MS} {me : ME}
theorem psm_for (hp : PassesOwn (model X.prog X.w) X.A X.env X.xe) (hc : X.calm = true) (hi : PIm X W .val tg iter mi) (hg : PGm X tg t) (hb : PSsm X kr W body mb) (hs : ∀ x, foldedSetIterable iter X.env x = pure x := by intro _; rfl) :
    PSm X kr W (.For tg iter body [] pos) (sFor mi t mb) := PS.imp (ps_for hp hc hi hg hb hs) fun D σ H h => for_read h
theorem pssm_frz (i : Nat) (h : PSsm X kr W rest mb) : PSsm X kr W rest (sFrz i mb) := PSs.imp h fun D σ H h => frz_read h
/-- no more than n turns -/
theorem psm_while (n : Nat) (hp : PassesOwn (model X.prog X.w) X.A X.env X.xe) (hc : PTm X W e me) (hb : PSsm X kr W body mb) : PSm X kr W (.While e body [] pos) (sWhile (tst me) mb n) := PS.imp (ps_while hp hc hb) fun D σ H h => by
  refine ⟨fun m σ H => tS X.K kr W (sWhile (tst me) mb m) D σ H, ⟨n, h⟩, fun m σ H h => ?_⟩
  obtain ⟨g, ρ, c, s, o⟩ := h
  cases m with
  | zero => exact o.elim
  | succ m =>
    change OutS X.K kr W g H (bnd (tst me ρ) (fun k => if k = true then bnd (mb ρ) (andThen (sWhile (tst me) mb m)) else ret (.nx ρ)) c) D at o
    refine ⟨g, ρ, c, s, OutT.mono (OutS.bndT s o) fun k H1 ⟨Z1, c1, n1, _, o1⟩ => ?_⟩
    cases k with
    | false => exact iteF (OutS.nx (s.next n1) o1)
    | true =>
      refine iteT ⟨tS X.K kr W (sWhile (tst me) mb m) D, fun σ' H' q => ⟨m, Nat.lt_succ_self m, q⟩, ?_⟩
      have o1 : OutS X.K kr W (g.z Z1) H1 (bnd (mb ρ) (andThen (sWhile (tst me) mb m)) c1) D := o1
      exact seq_read (mb := sWhile (tst me) mb m) ⟨_, ρ, c1, s.next n1, o1⟩
end
end PV

namespace PV
open PySem PySem.Spec PyProof.Rows L2
def Slot.arg : Slot → Bool
  | .sh _ => true
  | .cup => true
  | .bl _ => true
  | .bd _ => true
  | .scr _ => true
  | _ => false
def bodyF (b : MS) (ρ : E) : M D := bnd (b ρ) fun fl => match fl with
  | .rt d => ret d
  | .nx _ => stuck
/-- a def that hands back data -/
def fnV (n k : Nat) (b : MS) : List Slot → M D := fun ss => if ss.length = n ∧ ss.all Slot.arg = true then body b (ss ++ List.replicate k Slot.no) else stuck
/-- a def that hands back a new list -/
def fnF (n k : Nat) (b : MS) : List Slot → M D := fun ss => if ss.length = n ∧ ss.all Slot.arg = true then bodyF b (ss ++ List.replicate k Slot.no) else stuck
def kBor (i : Nat) (r : MK) : MK := fun ρ => match Slot.at ρ i with
  | .sh d => bnd (r ρ) fun ss => ret (.sh d :: ss)
  | .bl ds => bnd (r ρ) fun ss => ret (.bl ds :: ss)
  | .ol ds => bnd (r ρ) fun ss => ret (.bl ds :: ss)
  | .bd ds => bnd (r ρ) fun ss => ret (.bd ds :: ss)
  | .od ds => bnd (r ρ) fun ss => ret (.bd ds :: ss)
  | _ => stuck
inductive ArgR (K : PySem.W.Frag) (H : Hp) (Z B : Addr → Prop) (κ : Option Addr) : List V → List Slot → Prop
  | nil : ArgR K H Z B κ [] []
  | cons {v : V} {sl : Slot} {vs : List V} {ss : List Slot} : SlR K H Z B κ (some v) sl [] → ArgR K H Z B κ vs ss → ArgR K H Z B κ (v :: vs) (sl :: ss)
/-- a def's promise: kr how it hands back, n parameters -/
def spM (K : PySem.W.Frag) (kr : Kn) (n : Nat) (f : List Slot → M D) : Sp := fun vs H Q _ => vs.length = n ∧ ∃ g ss c, ArgR K H g.Z g.B g.κ vs ss ∧ CupR g.κ H c ∧ (∀ a, g.κ = some a → ¬ g.Z a ∧ ¬ g.B a) ∧ (∀ a, g.Z a ∨ g.B a → H a ≠ none) ∧ Out K kr.fv W0 g H (f ss c) Q
section
variable {K : PySem.W.Frag} {H : Hp} {Z B : Addr → Prop} {κ : Option Addr}
theorem ArgR.length {vs : List V} {ss : List Slot} (h : ArgR K H Z B κ vs ss) : vs.length = ss.length := by
  induction h with
  | nil => rfl
  | cons _ _ ih => rw [List.length_cons, List.length_cons, ih]
theorem getD_rep {α : Type} (k i : Nat) (x : α) : (List.replicate k x).getD i x = x := by
  rw [List.getD_eq_getElem?_getD, List.getElem?_replicate]
  split <;> rfl
theorem ArgR.at {vs : List V} {ss : List Slot} (k : Nat) (h : ArgR K H Z B κ vs ss) : ∀ i, SlR K H Z B κ ((vs.map some ++ List.replicate k none).getD i none) ((ss ++ List.replicate k Slot.no).getD i .no) [] := by
  induction h with
  | nil =>
    intro i
    show SlR K H Z B κ ((List.replicate k none).getD i none) ((List.replicate k Slot.no).getD i .no) []
    rw [getD_rep, getD_rep]
    exact .no
  | cons a r ih =>
    intro i
    cases i with
    | zero => exact a
    | succ i => exact ih i
theorem SR.start {g : Gh} {c : Cup} {vs : List V} {ss : List Slot} {N : List Str} {k : Nat} (h : ArgR K H g.Z g.B g.κ vs ss) (hk : N.length - vs.length = k) (cu : CupR g.κ H c) (kz : ∀ a, g.κ = some a → ¬ g.Z a ∧ ¬ g.B a) (zh : ∀ a, g.Z a ∨ g.B a → H a ≠ none) :
    SR K { g with o := fun _ => [] } H (L2.start N vs) (ss ++ List.replicate k Slot.no) c where
  len := by unfold L2.start; rw [hk, List.length_append, List.length_append, List.length_map, h.length, List.length_replicate, List.length_replicate]
  sl := fun i => by unfold L2.start; rw [hk]; exact h.at k i
  nd := fun _ => List.nodup_nil
  dj := fun _ _ _ h => nomatch h
  fr := fun _ _ h => nomatch h
  cup := cu
  kz := kz
  zh := zh
end
section
variable {P : Program} {w : World} {K : PySem.W.Frag} {mg : Str → Option Value} {base : Heap}
theorem NxR.nxt {g : Gh} {H H' : Hp} {c' : Cup} {Z' : Addr → Prop} (n : NxR { g with o := fun _ => [] } H c' Z' H') : Nxt g.κ g.Z H c' Z' H' :=
  ⟨fun a o e k => n.keep a o e k fun _ h => (nomatch h), n.cup, n.z, fun a z => (n.zn a z).elim .inl fun q => q.elim .inr fun ⟨_, h⟩ => (nomatch h), n.zh⟩
/-- THE RULE for a def -/
theorem ok_fnV {x : Str} {st : Stmt} {f : Addr} {fd : FuncData} {N ps : List Str} {k n j : Nat} {mb : MS} (F : L2.Fun K x x st f fd) (S : FnScope N ps (L2.defScope st)) (hn : ps.length = n) (hj : N.length - n = j)
    (hb : ∀ (cdv : Value) (A : Around) (outer : List Env) (s : Shared) (H : Hp) (E : XK), Room k (A.deeper (envOfC x (L2.defScope st) s.heap.objs.size f cdv)) → PSsm (cxOf L2.CX0 P w K mg base N x (L2.defScope st) f cdv A outer s H E).nox .val W0 (L2.defBody st) mb) :
    FnOk P w K mg base L2.CX0 (k + 1) f fd ps (spM K .val n (fnV n j mb)) := by
  refine F.ok S (fun vs H Q E h => h.1.trans hn.symm) fun cdv A outer s H vs Q E hr h => ?_
  obtain ⟨hl, g, ss, c, ha, cu, kz, zh, o⟩ := h
  refine ⟨_, hb cdv A outer s H E hr, ?_⟩
  refine ⟨{ g with o := fun _ => [] }, ss ++ List.replicate j Slot.no, c, SR.start ha (by rw [hl]; exact hj) cu kz zh, ?_⟩
  have o1 : Out K .val W0 g H (body mb (ss ++ List.replicate j Slot.no) c) Q := by
    unfold fnV at o
    by_cases q : ss.length = n ∧ ss.all Slot.arg = true
    · rw [if_pos q] at o; exact o
    · rw [if_neg q] at o; exact o.elim
  unfold body at o1
  rw [bnd_app] at o1
  cases q : mb (ss ++ List.replicate j Slot.no) c with
  | no => rw [q] at o1; exact o1
  | err e c1 => rw [q] at o1; exact fun H' Z' n => o1 H' Z' n.nxt
  | ok fl c1 =>
    rw [q] at o1
    cases fl with
    | rt d => exact fun x H' Z' n r => o1 x H' Z' n.nxt r
    | nx ρ' => exact fun σ' H' g' n s' => o1 .non H' g'.Z ⟨fun a o e k => n.keep a o e k fun _ h => (nomatch h), by have := s'.cup; rw [n.κ] at this; exact this, n.z, fun a z => (n.zn a z).elim .inl fun q => q.elim .inr fun ⟨_, h⟩ => (nomatch h), fun a z => s'.zh a (.inl z)⟩ .non
theorem ok_fnF {x : Str} {st : Stmt} {f : Addr} {fd : FuncData} {N ps : List Str} {k n j : Nat} {mb : MS} (F : L2.Fun K x x st f fd) (S : FnScope N ps (L2.defScope st)) (hn : ps.length = n) (hj : N.length - n = j)
    (hb : ∀ (cdv : Value) (A : Around) (outer : List Env) (s : Shared) (H : Hp) (E : XK), Room k (A.deeper (envOfC x (L2.defScope st) s.heap.objs.size f cdv)) → PSsm (cxOf L2.CX0 P w K mg base N x (L2.defScope st) f cdv A outer s H E).nox .frs W0 (L2.defBody st) mb) :
    FnOk P w K mg base L2.CX0 (k + 1) f fd ps (spM K .frs n (fnF n j mb)) := by
  refine F.ok S (fun vs H Q E h => h.1.trans hn.symm) fun cdv A outer s H vs Q E hr h => ?_
  obtain ⟨hl, g, ss, c, ha, cu, kz, zh, o⟩ := h
  refine ⟨_, hb cdv A outer s H E hr, ?_⟩
  refine ⟨{ g with o := fun _ => [] }, ss ++ List.replicate j Slot.no, c, SR.start ha (by rw [hl]; exact hj) cu kz zh, ?_⟩
  have o1 : Out K .frs W0 g H (bodyF mb (ss ++ List.replicate j Slot.no) c) Q := by
    unfold fnF at o
    by_cases q : ss.length = n ∧ ss.all Slot.arg = true
    · rw [if_pos q] at o; exact o
    · rw [if_neg q] at o; exact o.elim
  unfold bodyF at o1
  rw [bnd_app] at o1
  cases q : mb (ss ++ List.replicate j Slot.no) c with
  | no => rw [q] at o1; exact o1
  | err e c1 => rw [q] at o1; exact fun H' Z' n => o1 H' Z' n.nxt
  | ok fl c1 =>
    rw [q] at o1
    cases fl with
    | rt d => exact fun x H' Z' n r => o1 x H' Z' n.nxt (by
        obtain ⟨p, xs, ds, e1, e2, e3, r⟩ := r
        exact ⟨p, xs, ds, e1, e2, e3.elim id fun ⟨_, h⟩ => (nomatch h), r⟩)
    | nx ρ' => exact o1.elim
/-- a def that may be called by its name -/
structure Cl (P : Program) (w : World) (K : PySem.W.Frag) (mg : Str → Option Value) (base : Heap) (k : Nat) (x : Str) (kr : Kn) (n : Nat) (f : List Slot → M D) : Prop where
  ex : ∃ (a : Addr) (fd : FuncData) (ps : List Str), FnOk P w K mg base L2.CX0 k a fd ps (spM K kr n f) ∧ mg x = some (.ref a) ∧ PySem.W.keepIn K (.ref a) = true ∧ Binds K fd ps []
end
theorem SlA.args {K : PySem.W.Frag} {B : Addr → Prop} {κ : Option Addr} {H H' : Hp} {Z' : Addr → Prop} {xs : List V} {ss : List Slot} {O : List Addr} (h : SlA K B κ H Z' H' xs ss O) (a : ss.all Slot.arg = true) : ArgR K H' Z' B κ xs ss := by
  induction h with
  | nil => exact .nil
  | cons r nd dj f _ ih =>
    rw [List.all_cons, Bool.and_eq_true] at a
    refine .cons ?_ (ih a.2)
    cases r with
    | no => exact .no
    | sh r => exact .sh r
    | cup k => exact .cup k
    | bl hb e r => exact .bl hb e r
    | scr h => exact .scr h
    | bd hb e q r => exact .bd hb e q r
    | ol _ _ => exact absurd a.1 (by simp [Slot.arg])
    | oll _ _ => exact absurd a.1 (by simp [Slot.arg])
    | od _ _ _ => exact absurd a.1 (by simp [Slot.arg])
section
variable {X : Cx} {kr : Kn} {k j n : Nat} {x : Str} {f : List Slot → M D} {p pos : Pos} {a : Expr} {es : List Expr} {mk : MK}
/-- a function that asks for arguments alone -/
structure ArgF (n : Nat) (f : List Slot → M D) : Prop where
  a : ∀ ss, ss.all Slot.arg = false → f ss = stuck
  n : ∀ ss, ss.length ≠ n → f ss = stuck
theorem argF_V {n k : Nat} {b : MS} : ArgF n (fnV n k b) := ⟨fun ss h => by unfold fnV; rw [if_neg (by rw [h]; simp)], fun ss h => by unfold fnV; rw [if_neg (by simp [h])]⟩
theorem argF_F {n k : Nat} {b : MS} : ArgF n (fnF n k b) := ⟨fun ss h => by unfold fnF; rw [if_neg (by rw [h]; simp)], fun ss h => by unfold fnF; rw [if_neg (by simp [h])]⟩
theorem call_read {K : PySem.W.Frag} {σ : L2.St} {H : Hp} {Q : VK} {E : XK} (af : ArgF n f) (h : tM K kr.fv W0 (eCall f mk) σ H Q) : tK K bAll W0 mk σ H fun vs H1 => spM K kr n f (vs ++ []) H1 Q E := by
  obtain ⟨g, ρ, c, s, o⟩ := h
  refine ⟨g, ρ, c, s, ?_⟩
  change Out K kr.fv W0 g H (bnd (mk ρ) f c) Q at o
  rw [bnd_app] at o
  cases q : mk ρ c with
  | no => rw [q] at o; exact o
  | err e c1 => rw [q] at o; exact o
  | ok ss c1 =>
    rw [q] at o
    intro xs H1 Z1 O n1 r
    have s1 := s.next n1
    have o : Out K kr.fv W0 g H (f ss c1) Q := o
    have ha : ss.all Slot.arg = true := by
      cases e : ss.all Slot.arg with
      | true => rfl
      | false => rw [af.a ss e] at o; exact o.elim
    have hn : ss.length = n := by
      by_cases e : ss.length = n
      · exact e
      · rw [af.n ss e] at o; exact o.elim
    rw [List.append_nil]
    refine ⟨r.length.trans hn, ⟨Z1, bAll g H1, g.κ, fun _ => []⟩, ss, c1, r.args ha, n1.cup, fun a k => ⟨(s1.kz a k).1, fun z => z.2 k⟩, fun a z => z.elim (fun z => n1.zh a z) fun z => z.1, ?_⟩
    exact Out.at s n1 o
theorem pm_call (F : Cl X.prog X.w X.K X.mg X.base k x kr n f) (af : ArgF n f) (hr : Room j X.A) (hk : k ≤ j) (hg : Gl X x) (ha : PKm X bAll W0 (a :: es) mk)
    (hdb : (x == ("__debug__" : Str)) = false := by decide) (he : starEach (a :: es) X.env = (false, eval a X.env) :: starEach es X.env := by rfl) (hpl : (backTo pos (starEach es X.env)).any (·.1) = false := by rfl) :
    PM X W0 kr.fv (.Call (.Name x p) (a :: es) [] pos) (eCall f mk) := by
  obtain ⟨fa, fd, ps, F, hm, kp, b⟩ := F.ex
  exact PE.imp (pe_call (E := L2.E0) F (hr.mono hk) hg hm kp b .nil L2.pass0 ha hdb he hpl) fun σ H Q h => call_read af h
theorem pm_call0 (F : Cl X.prog X.w X.K X.mg X.base k x kr n f) (af : ArgF n f) (hr : Room j X.A) (hk : k ≤ j) (hg : Gl X x)
    (hdb : (x == ("__debug__" : Str)) = false := by decide) :
    PM X W0 kr.fv (.Call (.Name x p) [] [] pos) (eCall f kNil) := by
  obtain ⟨fa, fd, ps, F, hm, kp, b⟩ := F.ex
  refine PE.imp (pe_call0 (E := L2.E0) F (hr.mono hk) hg hm kp b .nil L2.pass0 hdb) fun σ H Q h => ?_
  obtain ⟨g, ρ, c, s, o⟩ := call_read (E := L2.E0) af h
  exact o [] H g.Z [] s.rf .nil
/-- an argument that is lent -/
theorem pkm_bor (i : Nat) {z : Str} {p : Pos} (hr : PKm X bAll W0 es mk) (hN : X.N[i]? = some z := by rfl) (hv : Vis X.env.scope z := by first | exact Or.inl rfl | exact Or.inr (Or.inl rfl) | exact Or.inr (Or.inr rfl)) (hd : (z == ("__debug__" : Str)) = false := by decide)
    (hcd : (z == ("__classdict__" : Str)) = false := by decide) (hs : starEach (.Name z p :: es) X.env = (false, eval (.Name z p) X.env) :: starEach es X.env := by rfl) : PKm X bAll W0 (.Name z p :: es) (kBor i mk) :=
  PA.imp (pa_cons (pe_var hN hv hd hcd) hr hs) fun σ H Q ⟨g, ρ, c, s, o⟩ => by
  have q := s.sl i
  have fr := s.fr i
  unfold kBor at o
  generalize hs' : Slot.at ρ i = sl at o q
  generalize hx : σ.getD i none = v at q
  generalize hO : g.o i = oo at q fr
  have main : ∀ (x : V) (s2 : Slot), v = some x → (∀ H2 Z2 c2, Nxt g.κ g.Z H c2 Z2 H2 → SlR X.K H2 Z2 (bAll g H2) g.κ (some x) s2 []) → OutK X.K (bAll g) W0 g H (bnd (mk ρ) (fun ss => ret (s2 :: ss)) c) Q →
      ∃ v, σ[i]? = some (some v) ∧ tK X.K bAll W0 mk σ H fun xs H2 => Q (v :: xs) H2 := fun x s2 hv h2 o => by
    subst hv
    refine ⟨x, getD_some hx, g, ρ, c, s, ?_⟩
    rw [bnd_app] at o
    cases q2 : mk ρ c with
    | no => rw [q2] at o; exact o
    | err e c2 => rw [q2] at o; exact o
    | ok ss c2 =>
      rw [q2] at o
      intro xs H2 Z2 O n2 r2
      exact o (_ :: xs) H2 Z2 ([] ++ O) n2 (.cons (h2 H2 Z2 c2 n2) List.nodup_nil (fun _ h => nomatch h) (fun _ h => nomatch h) r2)
  cases q with
  | cup k => exact o.elim
  | no => exact o.elim
  | sh r => exact main _ (.sh _) rfl (fun H2 Z2 c2 n2 => .sh (r.stay (s.stay n2))) o
  | scr _ => exact o.elim
  | bl hb e r => exact main _ (.bl _) rfl (fun H2 Z2 c2 n2 => by
      have k : g.κ ≠ some _ := fun k => (s.kz _ k).2 hb
      have e2 := n2.keep _ _ e k
      exact .bl ⟨by rw [e2]; simp, k⟩ e2 (r.stay (s.stay n2))) o
  | bd hb e q r => exact main _ (.bd _) rfl (fun H2 Z2 c2 n2 => by
      have k : g.κ ≠ some _ := fun k => (s.kz _ k).2 hb
      have e2 := n2.keep _ _ e k
      exact .bd ⟨by rw [e2]; simp, k⟩ e2 q (r.stay (s.stay n2))) o
  | ol e r => exact main _ (.bl _) rfl (fun H2 Z2 c2 n2 => by
      have k := (fr _ List.mem_cons_self).2.2
      have e2 := n2.keep _ _ e k
      exact .bl ⟨by rw [e2]; simp, k⟩ e2 (r.stay (s.stay n2))) o
  | oll _ _ => exact o.elim
  | od e q r => exact main _ (.bd _) rfl (fun H2 Z2 c2 n2 => by
      have k := (fr _ List.mem_cons_self).2.2
      have e2 := n2.keep _ _ e k
      exact .bd ⟨by rw [e2]; simp, k⟩ e2 q (r.stay (s.stay n2))) o
end
end PV

namespace PySem
open Sem (wp)
open AutoSeq1 (wpAny_loadPart')
set_option maxHeartbeats 1000000 in
theorem pv_meets_enumerate_newT (l : Addr) (items : Array Value) (n : Nat) (dct : Option Addr) (sl : Array (Option Value)) :
    Meets (Builtin.«enumerate.__new__» ⟨[.type "enumerate", .ref l], []⟩) (fun _ R s => s.heap.get? l = some { cls := .type "tuple", dict := dct, data := .seq items n, slots := sl } ∧
      R (.ok (.ret (.ref (s.heap.push { cls := .type "tuple_iterator", data := .fields #[.ref l, .int 0 0] }).objs.size)))
        { s with heap := (s.heap.push { cls := .type "tuple_iterator", data := .fields #[.ref l, .int 0 0] }).push { cls := .type "enumerate", data := .fields #[.none, .bool false, .ref s.heap.objs.size, rawInt 0, .none, .none] } }) :=
  .of_wp fun prog w A R s h => by
    obtain ⟨hp, g, d, tk, os⟩ := s; obtain ⟨hl, h⟩ := h
    have hsub := sub_enumerate
    have hL : Heap.IsTuple (Shared.heap ⟨hp, g, d, tk, os⟩) l items := ⟨_, hl, rfl, n, rfl⟩
    wp_walk using wpAny_loadPart' hl
    refine wpAny_stack_any fun st => wpAny_pure ?_
    split
    · rename_i c _ _ _ _ _
      cases (c == Value.type "enumerate")
      · wp_walk using wpAny_loadPart' hl, wpAny_pyIter_tuple hL
        exact ⟨_, rfl, h⟩
      · wp_walk using wpAny_loadPart' hl, wpAny_pyIter_tuple hL
        exact ⟨_, rfl, h⟩
    · wp_walk using wpAny_loadPart' hl, wpAny_pyIter_tuple hL
      exact ⟨_, rfl, h⟩
theorem pv_call_enumerate_tuple {prog : Program} {w : World} {A : Around} {E : Value → Shared → Prop} {s : Shared} {l : Addr} {items : Array Value} {Q : Value → Shared → Prop} (hL : s.heap.IsTuple l items)
    (h : ∀ h', IsEnum h' (s.heap.objs.size + 1) s.heap.objs.size 0 .none → h'.IsTupleIter s.heap.objs.size l 0 → h'.objs.size = s.heap.objs.size + 2 →
      (∀ b o, s.heap.get? b = some o → h'.get? b = some o) → Q (.ref (s.heap.objs.size + 1)) { s with heap := h' }) :
    wpAny (model prog w) A (call (.type "enumerate") [.ref l]) Q E s := by
  obtain ⟨⟨c, dct, dt, sl⟩, hl, hc, n, hd⟩ := hL
  replace hc : c = .type "tuple" := hc
  replace hd : dt = .seq items n := hd
  subst hc hd
  refine callType_new F.called_enumerate (by decide) (F.typeCall_enumerate_1 _) (F.newCall_enumerate_1 _) (fun obj => F.args_object_init_2 obj _) F.entry_enumerate_new
    (pv_meets_enumerate_newT l items n dct sl) ⟨hl, ?_⟩
  have hz : (s.heap.push { cls := .type "tuple_iterator", data := .fields #[.ref l, .int 0 0] }).objs.size = s.heap.objs.size + 1 := Heap.size_push ..
  show _ ∧ _
  rw [hz]
  have he : IsEnum ((s.heap.push { cls := .type "tuple_iterator", data := .fields #[.ref l, .int 0 0] }).push
      { cls := .type "enumerate", data := .fields #[.none, .bool false, .ref s.heap.objs.size, rawInt 0, .none, .none] }) (s.heap.objs.size + 1) s.heap.objs.size 0 .none := by
    have := Heap.get?_push_size (s.heap.push { cls := .type "tuple_iterator", data := .fields #[.ref l, .int 0 0] })
      (o := { cls := .type "enumerate", data := .fields #[.none, .bool false, .ref s.heap.objs.size, rawInt 0, .none, .none] }) rfl
    rw [hz] at this; exact this
  refine ⟨⟨_, he, rfl⟩, h _ he ⟨_, Heap.get?_push_of_some _ (Heap.get?_push_size _ rfl), rfl, rfl⟩ (by rw [Heap.size_push, hz]) fun b o x => Heap.get?_push_of_some _ (Heap.get?_push_of_some _ x)⟩
end PySem
namespace PV
open PySem PySem.Spec PyProof.Rows L2 RZ
/-- the tuple at a, each item in a new pair -/
def IteT (K : PySem.W.Frag) (a : Addr) : It :=
  ⟨fun i H => ∃ (xs : List V) (x : V), SqT K H a xs ∧ xs[i]? = some x, fun i H v H' => ∃ T x, v = .ref T ∧ H T = none ∧ H' = upd H T (.tup [.int (i : Nat), x]) ∧ ∀ xs, SqT K H a xs → xs[i]? = some x, fun i H => ∃ xs : List V, SqT K H a xs ∧ xs.length ≤ i⟩
theorem turn_enumT {P : Program} {w : World} {K : PySem.W.Frag} {elts : List Expr} {kk : Nat} {tpos : Pos} (a e it : Addr) :
    Turn P w K (.Tuple elts kk tpos) (IteT K a) [e, it] e (fun i h => (∃ old, IsEnum h e it ((i : Nat) : Int) old) ∧ h.IsTupleIter it a i ∧ e ≠ it ∧ a ≠ it ∧ a ≠ e) where
  mem := by simp
  obj := fun i h st b hb => by
    obtain ⟨⟨old, he⟩, ⟨o, ho, hc, hd⟩, _⟩ := st
    have e' : b = e ∨ b = it := by simpa using hb
    rcases e' with z | z
    · rw [z]; exact ⟨_, he, fun v q => nomatch q⟩
    · rw [z]; exact ⟨o, ho, fun v q => by rw [hd] at q; cases q⟩
  keep := fun i h h' st k => let ⟨⟨old, he⟩, hi, hne⟩ := st; ⟨⟨old, k e (by simp) _ he⟩, hi.at fun o q => k it (by simp) o q, hne⟩
  item := by
    intro X hP hw hK hc i pins s σ H E I hf st hg
    subst hP hw hK
    obtain ⟨⟨old, he⟩, hit, hne, hai, hae⟩ := st
    obtain ⟨xs, x, hq, hx⟩ := hg
    obtain ⟨its, rv, p, hz⟩ := I.tuple hq
    obtain ⟨u, hu, ru⟩ := rv.get hx
    have hel : e < s.heap.objs.size := Heap.lt_size he
    have hil : it < s.heap.objs.size := by obtain ⟨_, q, _⟩ := hit; exact Heap.lt_size q
    have hlt : i < its.toArray.size := by
      have := (List.getElem?_eq_some_iff.mp hu).1
      simpa using this
    refine wpAny_pyNext_enum_itemD (Draws.tuple (prog := X.prog) (w := X.w) (A := X.A.in1) (show X.A.in1.handled = none from I.ok.hd hc) it a hai its.toArray) he ⟨hit, show s.heap.IsTuple a its.toArray from p⟩ hlt hne (by simp [hne, Ne.symm hae]) fun x' h' tk hP ho hs' hT hsz hk => ?_
    have hx' : x' = u := by
      have hP : its.toArray[i]? = some x' := hP
      have : its[i]? = some x' := by simpa using hP
      rw [hu] at this
      exact (Option.some.inj this).symm
    subst hx'
    refine ⟨_, rfl, wpAny_letOwnedTupleGo_enum (s := { s with heap := h', toks := tk + 1 }) ho fun h'' he' sb => ?_⟩
    have hT2 : h''.get? s.heap.objs.size = some { cls := .type "tuple", data := .seq #[.int i tk, x'] } := (sb.2 _ (Nat.ne_of_gt hel)).trans hT
    have new : ObjOk X.prog X.w (upd H s.heap.objs.size (.tup [.int (i : Nat), x])) h'' s.heap.objs.size (.tup [.int (i : Nat), x]) :=
      ⟨by show 2 ≤ sizeLine; decide, [.int i tk, x'], .cons ⟨_, rfl⟩ (.cons ru .nil), ⟨_, hT2, rfl, _, rfl⟩⟩
    have I1 : Inv X pins σ (upd H s.heap.objs.size (.tup [.int (i : Nat), x])) { s with heap := h'', toks := tk + 1 } :=
      I.turnedNew (ch := [e, it]) (fun b ob hb q => (sb.2 b (fun z => hb (by simp [z]))).trans (hk b ob (fun z => hb (by simp [z])) (fun z => hb (by simp [z])) q)) hf (Nat.le_refl _) new
    refine ⟨.ref s.heap.objs.size, _, I1, rfl, ⟨_, x, rfl, I.hok.fresh (Nat.le_refl _), rfl, fun ys hy => by rw [I.tuple_inj hy hq]; exact hx⟩, ⟨⟨x', ?_⟩, hs'.1.at fun o q => (sb.2 it (Ne.symm hne)).trans q, hne, hai, hae⟩, fun b hb => ?_⟩
    · have e1 : ((i + 1 : Nat) : Int) = (i : Int) + 1 := by omega
      rw [e1]; exact he'
    · have hb' : b < s.heap.objs.size := by
        have e' : b = e ∨ b = it := by simpa using hb
        rcases e' with z | z
        · rw [z]; exact hel
        · rw [z]; exact hil
      rw [upd_ne (Nat.ne_of_lt hb')]
      exact (hf b hb).1
  done := by
    intro X hP hw hK hc i pins s σ H E I hf st hg
    subst hP hw hK
    obtain ⟨⟨old, he⟩, hit, hne, hai, hae⟩ := st
    obtain ⟨xs, hq, hx⟩ := hg
    obtain ⟨its, rv, p, hz⟩ := I.tuple hq
    obtain ⟨f0, f1, f2, f3, f4, f5⟩ := hf it (by simp)
    have hl := rv.length
    refine PySem.wpAny_pyNext_enum_endD (n := 0) (fp := [it, a]) (P := fun _ _ => True) (St := fun _ h => h.IsTupleIter it a i ∧ h.IsTuple a its.toArray) ⟨fun _ _ st => let ⟨o, ho, _⟩ := st.1; ⟨o, ho⟩, fun j h h' st k => ⟨st.1.at fun o e => k it (by simp) o e, st.2.at fun o e => k a (by simp) o e⟩, fun j s Q E h => absurd h (Nat.not_lt_zero _), fun s' Q E st hE => wpAny_nextOf_tuple_end (show X.A.in1.handled = none from I.ok.hd hc) st.1 st.2 (by simp; omega) hE⟩ he ⟨hit, show s.heap.IsTuple a its.toArray from p⟩ fun h' eb => ⟨rfl, I.turned (t' := s.toks) (fun b o hb q => eb b o hb q) f0 f1 f3 f4 f5⟩
  self := fun A i s Q E st h => let ⟨⟨_, he⟩, _⟩ := st; wpAny_pyIter_enum he h
def iEnumA (K : PySem.W.Frag) (ta : TA) : TI := fun σ H R => ta σ H fun vs H1 => ∃ a xs, vs = [.ref a] ∧ ((SqL K H1 a xs ∧ R (Ite K a) H1) ∨ (SqT K H1 a xs ∧ R (IteT K a) H1))
theorem pi_enumA {X : Cx} {e : Expr} {ta : TA} {p pos tpos : Pos} {elts : List Expr} {kk : Nat} (hg : Gl X "enumerate") (hm : X.mg "enumerate" = none) (ha : PA X [e] ta) (hs : starEach [e] X.env = [(false, eval e X.env)] := by rfl) :
    PI X (.Tuple elts kk tpos) (.Call (.Name "enumerate" p) [e] [] pos) (iEnumA X.K ta) := by
  refine ⟨fun pins s σ H R I h => ?_⟩
  refine Call_ (ld_blt I hg hm boot_enumerate (PyProof.Rows.callWith_type1 (thn (ha.run pos pins s σ H _ I h) fun us s1 ⟨vs, H1, I1, r1, q1⟩ => ?_) hs rfl))
  obtain ⟨a, xs, ex, q⟩ := q1
  subst ex
  cases r1 with
  | cons r rr =>
    cases rr
    cases r
    have fin : ∀ b ∈ [s1.heap.objs.size + 1, s1.heap.objs.size], FpOk X pins H1 b := fun b hb => by
      have e' : b = s1.heap.objs.size + 1 ∨ b = s1.heap.objs.size := by simpa using hb
      have hle : s1.heap.objs.size ≤ b := by
        rcases e' with z | z
        · rw [z]; exact Nat.le_add_right _ _
        · rw [z]; exact Nat.le_refl _
      exact I1.fpOk hle (I1.hok.fresh hle)
    rcases q with ⟨hq, q⟩ | ⟨hq, q⟩
    · obtain ⟨its, rv, p', hz⟩ := I1.list hq
      refine call_enumerate_list p'.isList fun h' he hit hsz hk => wpAny_pyIter_enum he ?_
      have I2 : Inv X pins σ H1 { s1 with heap := h' } := I1.kept (t' := s1.toks) hk
      exact ⟨s1.heap.objs.size + 1, [s1.heap.objs.size + 1, s1.heap.objs.size], _, _, H1, rfl, I2, turn_enum a (s1.heap.objs.size + 1) s1.heap.objs.size, ⟨⟨.none, he⟩, hit, Nat.succ_ne_self _⟩, fin, q⟩
    · obtain ⟨its, rv, p', hz⟩ := I1.tuple hq
      have ha : a < s1.heap.objs.size := by obtain ⟨_, e, _⟩ := id p'; exact Heap.lt_size e
      refine pv_call_enumerate_tuple (show s1.heap.IsTuple a its.toArray from p') fun h' he hit hsz hk => wpAny_pyIter_enum he ?_
      have I2 : Inv X pins σ H1 { s1 with heap := h' } := I1.kept (t' := s1.toks) hk
      exact ⟨s1.heap.objs.size + 1, [s1.heap.objs.size + 1, s1.heap.objs.size], _, _, H1, rfl, I2, turn_enumT a (s1.heap.objs.size + 1) s1.heap.objs.size, ⟨⟨.none, he⟩, hit, Nat.succ_ne_self _, Nat.ne_of_lt ha, Nat.ne_of_lt (Nat.lt_succ_of_lt ha)⟩, fin, q⟩
def enumFrom (i : Nat) : List D → List D
  | [] => []
  | d :: r => .tuple [.int i, d] :: enumFrom (i + 1) r
theorem enumFrom_get : ∀ (ds : List D) (k i : Nat), (enumFrom k ds)[i]? = ds[i]?.map fun d => PyData.tuple [.int ((k + i : Nat) : Int), d]
  | [], k, i => by simp [enumFrom]
  | d :: r, k, 0 => by simp [enumFrom]
  | d :: r, k, i + 1 => by
    rw [enumFrom, List.getElem?_cons_succ, enumFrom_get r (k + 1) i, List.getElem?_cons_succ]
    have e : k + 1 + i = k + (i + 1) := by omega
    rw [e]
theorem enumFrom_length : ∀ (ds : List D) (k : Nat), (enumFrom k ds).length = ds.length
  | [], _ => rfl
  | d :: r, k => by simp [enumFrom, enumFrom_length r]
def enum1 : List D → Option (List D)
  | [d] => (seqOf d).map (enumFrom 0)
  | _ => none
def zipT : List D → List D → List D
  | a :: r, b :: q => .tuple [a, b] :: zipT r q
  | _, _ => []
theorem zipT_get : ∀ (xs ys : List D) (i : Nat) (d : D), (zipT xs ys)[i]? = some d → ∃ x y, xs[i]? = some x ∧ ys[i]? = some y ∧ d = .tuple [x, y]
  | [], _, _, _, h => by simp [zipT] at h
  | _ :: _, [], _, _, h => by simp [zipT] at h
  | a :: r, b :: q, 0, d, h => by simp [zipT] at h; exact ⟨a, b, rfl, rfl, h.symm⟩
  | a :: r, b :: q, i + 1, d, h => by
    rw [zipT, List.getElem?_cons_succ] at h
    exact zipT_get r q i d h
theorem zipT_length : ∀ (xs ys : List D), (zipT xs ys).length = min xs.length ys.length
  | [], _ => by simp [zipT]
  | _ :: _, [] => by simp [zipT]
  | a :: r, b :: q => by simp [zipT, zipT_length r q]
def zip2 : List D → Option (List D)
  | [.list xs, .list ys] => some (zipT xs ys)
  | [.tuple xs, .tuple ys] => some (zipT xs ys)
  | _ => none
theorem stay_lay {Z : Addr → Prop} {H : Hp} {T : Addr} {o : HO} (hT : H T = none) : Stay Z Z H (upd H T o) :=
  ⟨fun _ z => z, fun a u e _ => by rw [upd_ne (ne_of_none e hT)]; exact e, fun a zs e => by rw [upd_ne (ne_of_none e hT)]; exact e, fun a u w e => by rw [upd_ne (ne_of_none e hT)]; exact e⟩
theorem ite_ok {K : PySem.W.Frag} {Z1 : Addr → Prop} {H1 : Hp} {a : Addr} {xs : List V} {ds : List D} (e : H1 a = some (.lst xs)) (r : RpA K H1 Z1 xs ds) : ItOk K (fun b => b = a) Z1 H1 (Ite K a) (enumFrom 0 ds) where
  go := fun Z2 H2 y i d hd => by
    rw [enumFrom_get] at hd
    obtain ⟨d0, hd0, rfl⟩ := Option.map_eq_some_iff.mp hd
    have e2 : SqL K H2 a xs := .inl (.inl (y.g a _ e rfl))
    obtain ⟨x, hx, rx⟩ := r.get hd0
    refine ⟨⟨xs, x, e2, hx⟩, fun x' H3 ⟨T, x2, e3, hT, e4, hy⟩ => ?_⟩
    subst e3
    subst e4
    have := hy xs e2
    rw [hx] at this
    cases this
    refine ⟨.inr ⟨T, _, hT, rfl⟩, .tup (.inl (.inl upd_same)) ?_⟩
    rw [Nat.zero_add]
    exact .cons (.int _) (.cons ((rx.stay y.st).stay (stay_lay hT)) .nil)
  stop := fun Z2 H2 y i hi => ⟨xs, .inl (.inl (y.g a _ e rfl)), by rw [r.length]; rw [enumFrom_length] at hi; exact hi⟩
theorem iteT_ok {K : PySem.W.Frag} {Z1 : Addr → Prop} {H1 : Hp} {a : Addr} {xs : List V} {ds : List D} (e : SqT K H1 a xs) (r : RpA K H1 Z1 xs ds) : ItOk K (fun _ => False) Z1 H1 (IteT K a) (enumFrom 0 ds) where
  go := fun Z2 H2 y i d hd => by
    rw [enumFrom_get] at hd
    obtain ⟨d0, hd0, rfl⟩ := Option.map_eq_some_iff.mp hd
    have e2 : SqT K H2 a xs := y.st.tp e
    obtain ⟨x, hx, rx⟩ := r.get hd0
    refine ⟨⟨xs, x, e2, hx⟩, fun x' H3 ⟨T, x2, e3, hT, e4, hy⟩ => ?_⟩
    subst e3
    subst e4
    have := hy xs e2
    rw [hx] at this
    cases this
    refine ⟨.inr ⟨T, _, hT, rfl⟩, .tup (.inl (.inl upd_same)) ?_⟩
    rw [Nat.zero_add]
    exact .cons (.int _) (.cons ((rx.stay y.st).stay (stay_lay hT)) .nil)
  stop := fun Z2 H2 y i hi => ⟨xs, y.st.tp e, by rw [r.length]; rw [enumFrom_length] at hi; exact hi⟩
theorem zip_end {Z : Addr → Prop} {K : PySem.W.Frag} {H : Hp} {xs ys : List V} {ds es : List D} (r1 : RpA K H Z xs ds) (r2 : RpA K H Z ys es) {i : Nat} (hi : (zipT ds es).length ≤ i) : xs.length ≤ i ∨ ys.length ≤ i := by
  rw [zipT_length] at hi
  rw [r1.length, r2.length]
  omega
theorem itz_ok {K : PySem.W.Frag} {Z1 : Addr → Prop} {H1 : Hp} {a b : Addr} {xs ys : List V} {ds es : List D} (e : H1 a = some (.lst xs)) (e' : H1 b = some (.lst ys)) (r : RpA K H1 Z1 xs ds) (r' : RpA K H1 Z1 ys es) :
    ItOk K (fun c => c = a ∨ c = b) Z1 H1 (Itz K a b) (zipT ds es) where
  go := fun Z2 H2 y i d hd => by
    obtain ⟨d1, d2, h1, h2, rfl⟩ := zipT_get _ _ _ _ hd
    have e2 : SqL K H2 a xs := .inl (.inl (y.g a _ e (.inl rfl)))
    have e2' : SqL K H2 b ys := .inl (.inl (y.g b _ e' (.inr rfl)))
    obtain ⟨x, hx, rx⟩ := r.get h1
    obtain ⟨x', hx', rx'⟩ := r'.get h2
    refine ⟨⟨xs, ys, x, x', e2, e2', hx, hx'⟩, fun v H3 ⟨T, x2, x3, e3, hT, e4, hy, hy'⟩ => ?_⟩
    subst e3
    subst e4
    have t1 := hy xs e2
    have t2 := hy' ys e2'
    rw [hx] at t1
    rw [hx'] at t2
    cases t1
    cases t2
    exact ⟨.inr ⟨T, _, hT, rfl⟩, .tup (.inl (.inl upd_same)) (.cons ((rx.stay y.st).stay (stay_lay hT)) (.cons ((rx'.stay y.st).stay (stay_lay hT)) .nil))⟩
  stop := fun Z2 H2 y i hi => ⟨xs, ys, .inl (.inl (y.g a _ e (.inl rfl))), .inl (.inl (y.g b _ e' (.inr rfl))), zip_end r r' hi⟩
theorem itzT_ok {K : PySem.W.Frag} {Z1 : Addr → Prop} {H1 : Hp} {a b : Addr} {xs ys : List V} {ds es : List D} (e : SqT K H1 a xs) (e' : SqT K H1 b ys) (r : RpA K H1 Z1 xs ds) (r' : RpA K H1 Z1 ys es) :
    ItOk K (fun _ => False) Z1 H1 (ItzT K a b) (zipT ds es) where
  go := fun Z2 H2 y i d hd => by
    obtain ⟨d1, d2, h1, h2, rfl⟩ := zipT_get _ _ _ _ hd
    have e2 : SqT K H2 a xs := y.st.tp e
    have e2' : SqT K H2 b ys := y.st.tp e'
    obtain ⟨x, hx, rx⟩ := r.get h1
    obtain ⟨x', hx', rx'⟩ := r'.get h2
    refine ⟨⟨xs, ys, x, x', e2, e2', hx, hx'⟩, fun v H3 ⟨T, x2, x3, e3, hT, e4, hy, hy'⟩ => ?_⟩
    subst e3
    subst e4
    have t1 := hy xs e2
    have t2 := hy' ys e2'
    rw [hx] at t1
    rw [hx'] at t2
    cases t1
    cases t2
    exact ⟨.inr ⟨T, _, hT, rfl⟩, .tup (.inl (.inl upd_same)) (.cons ((rx.stay y.st).stay (stay_lay hT)) (.cons ((rx'.stay y.st).stay (stay_lay hT)) .nil))⟩
  stop := fun Z2 H2 y i hi => ⟨xs, ys, y.st.tp e, y.st.tp e', zip_end r r' hi⟩
section
variable {X : Cx} {W : Nat → Hp → Prop} {a b : Expr} {ms : MEs} {kf : Fv} {elts : List Expr} {kk : Nat} {tpos p pos : Pos}
theorem pim_enum (hg : Gl X "enumerate") (hm : X.mg "enumerate" = none) (ha : PMs X W [a] ms) (hs : starEach [a] X.env = [(false, eval a X.env)] := by rfl) : PIm X W kf (.Tuple elts kk tpos) (.Call (.Name "enumerate" p) [a] [] pos) (iRng enum1 ms) := PI.imp (pi_enumA hg hm ha hs) fun σ H R ⟨g, ρ, c, s, o⟩ => by
  have o : OutG W g.κ g.Z H (bnd (ms ρ) (fun d => lft (enum1 d)) c) _ := o
  refine ⟨g, ρ, c, s, OutL.mono (OutG.stepL s o) fun xs H1 ⟨Z1, ds, c1, n1, p1, o1⟩ => ?_⟩
  obtain ⟨es, e, q⟩ := OutG.lft o1
  have q := q H1 Z1 n1
  have s1 := s.next n1
  unfold enum1 at e
  split at e
  · rename_i d
    obtain ⟨ds', e, e5⟩ := Option.map_eq_some_iff.mp e
    cases p1 with
    | cons r1 r2 =>
      cases r2
      unfold seqOf at e
      split at e
      · cases e
        subst e5
        cases r1 with
        | lst z e1 r => exact ⟨_, _, rfl, .inl ⟨.inl (.inl e1), q _ (fun b => b = _) (fun b hb => ⟨fun k => (s1.kz b k).1 (by rw [hb]; exact z), by subst hb; cases kf <;> first | exact z | trivial⟩) (ite_ok e1 r)⟩⟩
      · cases e
        subst e5
        cases r1 with
        | tup e1 r => exact ⟨_, _, rfl, .inr ⟨e1, q _ (fun _ => False) (fun b hb => hb.elim) (iteT_ok e1 r)⟩⟩
      · cases e
  · cases e
theorem pim_zip (hg : Gl X "zip") (hm : X.mg "zip" = none) (ha : PMs X W [a, b] ms) (hs : starEach [a, b] X.env = (false, eval a X.env) :: starEach [b] X.env := by rfl) (hpl : (backTo pos (starEach [b] X.env)).any (·.1) = false := by rfl) :
    PIm X W kf (.Tuple elts kk tpos) (.Call (.Name "zip" p) [a, b] [] pos) (iRng zip2 ms) := PI.imp (pi_zipA hg hm ha hs hpl) fun σ H R ⟨g, ρ, c, s, o⟩ => by
  have o : OutG W g.κ g.Z H (bnd (ms ρ) (fun d => lft (zip2 d)) c) _ := o
  refine ⟨g, ρ, c, s, OutL.mono (OutG.stepL s o) fun xs H1 ⟨Z1, ds, c1, n1, p1, o1⟩ => ?_⟩
  obtain ⟨es, e, q⟩ := OutG.lft o1
  have q := q H1 Z1 n1
  have s1 := s.next n1
  unfold zip2 at e
  split at e
  · cases e
    cases p1 with
    | cons r1 r2 =>
      cases r2 with
      | cons r2 r3 =>
        cases r3
        cases r1 with
        | lst z e1 r1 =>
          cases r2 with
          | lst z' e2 r2 =>
            refine ⟨_, _, _, _, rfl, .inl ⟨.inl (.inl e1), .inl (.inl e2), q _ (fun c => c = _ ∨ c = _) (fun b hb => ⟨fun k => (s1.kz b k).1 ?_, ?_⟩) (itz_ok e1 e2 r1 r2)⟩⟩
            · rcases hb with rfl | rfl
              · exact z
              · exact z'
            · rcases hb with rfl | rfl
              · cases kf <;> first | exact z | trivial
              · cases kf <;> first | exact z' | trivial
  · cases e
    cases p1 with
    | cons r1 r2 =>
      cases r2 with
      | cons r2 r3 =>
        cases r3
        cases r1 with
        | tup e1 r1 =>
          cases r2 with
          | tup e2 r2 => exact ⟨_, _, _, _, rfl, .inr ⟨e1, e2, q _ (fun _ => False) (fun b hb => hb.elim) (itzT_ok e1 e2 r1 r2)⟩⟩
  · cases e
end
end PV

namespace PV
open PySem PySem.Spec PyProof.Rows L2
section
variable {K : PySem.W.Frag} {g : Gh} {H : Hp} {σ : L2.St} {ρ : E} {c c' : Cup}
theorem Stay.poke (s : SR K g H σ ρ c) {i : Nat} {p : Addr} {o' : HO} (hp : p ∈ g.o i) : Stay g.Z g.Z H (upd H p o') := by
  have nt : ∀ a o, H a = some o → (∀ xs, o ≠ .lst xs) → (∀ l, o ≠ .dK l) → (∀ l, o ≠ .dT l) → a ≠ p := fun a o e h1 h2 h3 q => by
    subst q
    rcases (s.sl i).own a hp with ⟨x, e2⟩ | ⟨x, e2⟩ | ⟨x, e2⟩
    · rw [e] at e2; cases e2; exact h1 x rfl
    · rw [e] at e2; cases e2; exact h2 x rfl
    · rw [e] at e2; cases e2; exact h3 x rfl
  exact ⟨fun _ z => z, fun a u e z => by rw [upd_ne (fun q : a = p => (s.fr i p hp).1 (by rw [← q]; exact z))]; exact e,
    fun a zs e => by rw [upd_ne (nt a _ e (fun _ q => nomatch q) (fun _ q => nomatch q) fun _ q => nomatch q)]; exact e,
    fun a u w e => by rw [upd_ne (nt a _ e (fun _ q => nomatch q) (fun _ q => nomatch q) fun _ q => nomatch q)]; exact e⟩
theorem at_len {i : Nat} (h : Slot.at ρ i ≠ .no) : i < ρ.length := by
  by_cases q : i < ρ.length
  · exact q
  · exfalso
    apply h
    show ρ.getD i .no = _
    rw [List.getD_eq_getElem?_getD, List.getElem?_eq_none (by omega)]; rfl
theorem at_set {i : Nat} {sl : Slot} (h : i < ρ.length) : Slot.at (ρ.set i sl) i = sl := by
  show (ρ.set i sl).getD i .no = _
  rw [List.getD_eq_getElem?_getD, List.getElem?_set_self h]; rfl
theorem at_set_ne {i j : Nat} {sl : Slot} (h : j ≠ i) : Slot.at (ρ.set i sl) j = Slot.at ρ j := by
  show (ρ.set i sl).getD j .no = ρ.getD j .no
  rw [List.getD_eq_getElem?_getD, List.getElem?_set_ne (Ne.symm h), ← List.getD_eq_getElem?_getD]
/-- an own object is changed -/
theorem SR.poke (s : SR K g H σ ρ c) {i : Nat} {p : Addr} {o' : HO} {sl : Slot} (hp : p ∈ g.o i) (hi : i < ρ.length) (r : SlR K (upd H p o') g.Z g.B g.κ (σ.getD i none) sl (g.o i)) : SR K g (upd H p o') σ (ρ.set i sl) c ∧ NxS g H g (upd H p o') := by
  have y := Stay.poke (o' := o') s hp
  have f := s.fr i p hp
  refine ⟨⟨by rw [List.length_set]; exact s.len, fun j => ?_, s.nd, s.dj, s.fr, ?_, s.kz, fun a z => ?_⟩, ⟨fun a u e k h => by rw [upd_ne (fun q : a = p => h i (by rw [q]; exact hp))]; exact e, rfl, rfl, fun _ z => z, fun _ z => .inl z, fun j a h => .inr ⟨j, h⟩⟩⟩
  · by_cases e : j = i
    · subst e
      rw [at_set hi]
      exact r
    · rw [at_set_ne e]
      exact (s.sl j).stay y (fun a u e1 b => by rw [upd_ne (fun q : a = p => f.2.1 (by rw [← q]; exact b))]; exact e1) fun a ha u e1 => by rw [upd_ne (fun q : a = p => e (s.dj j i p (by rw [← q]; exact ha) hp))]; exact e1
  · have q := s.cup
    unfold CupR at q ⊢
    split
    · rename_i k; rw [k] at q; exact q
    · rename_i a k
      rw [k] at q
      obtain ⟨x, y, q1, q2⟩ := q
      exact ⟨x, y, q1, by rw [upd_ne (fun z : a = p => f.2.2 (by rw [k, z]))]; exact q2⟩
  · by_cases q : a = p
    · rw [q, upd_same]; simp
    · rw [upd_ne q]; exact s.zh a z
/-- the cup is changed -/
theorem SR.pour (s : SR K g H σ ρ c) {p : Addr} {x y : Int} (k : g.κ = some p) : SR K g (upd H p (.lst [.int x, .int y])) σ ρ (some (x, y)) ∧ NxS g H g (upd H p (.lst [.int x, .int y])) := by
  have f := s.kz p k
  obtain ⟨zs, ep⟩ := s.cup.at k
  have y' : Stay g.Z g.Z H (upd H p (.lst [.int x, .int y])) := ⟨fun _ z => z, fun a u e z => by rw [upd_ne (fun q : a = p => f.1 (by rw [← q]; exact z))]; exact e,
    fun a zs e => by rw [upd_ne (ne_of e ep (by simp))]; exact e, fun a u w e => by rw [upd_ne (ne_of e ep (by simp))]; exact e⟩
  refine ⟨⟨s.len, fun j => (s.sl j).stay y' (fun a u e1 b => by rw [upd_ne (fun q : a = p => f.2 (by rw [← q]; exact b))]; exact e1) fun a ha u e1 => by rw [upd_ne (fun q : a = p => (s.fr j a ha).2.2 (by rw [k, q]))]; exact e1, s.nd, s.dj, s.fr, ?_, s.kz, fun a z => ?_⟩, ⟨fun a u e h _ => by rw [upd_ne (fun q : a = p => h (by rw [k, q]))]; exact e, rfl, rfl, fun _ z => z, fun _ z => .inl z, fun j a h => .inr ⟨j, h⟩⟩⟩
  · show CupR g.κ _ _
    rw [k]
    exact ⟨x, y, rfl, upd_same⟩
  · by_cases q : a = p
    · rw [q, upd_same]; simp
    · rw [upd_ne q]; exact s.zh a z
end
def app1 (i : Nat) (ρ : E) (ds : List D) (d : D) : M Fl := if ds.length < LIM then ret (.nx (ρ.set i (.ol (ds ++ [d])))) else stuck
def sApp (i : Nat) (e : ME) : MS := fun ρ => match Slot.at ρ i with
  | .ol ds => bnd (e ρ) (app1 i ρ ds)
  | _ => stuck
/-- cup[k]: k 0 or 1 -/
def eCup (i : Nat) (k : Nat) : ME := fun ρ => match Slot.at ρ i with
  | .cup => fun c => match c with
    | some (x, y) => .ok (.int (if k = 0 then x else y)) c
    | none => .no
  | _ => stuck
def pour (k : Nat) (ρ : E) : D → M Fl
  | .int v => fun c => match c with
    | some (x, y) => .ok (.nx ρ) (some (if k = 0 then (v, y) else (x, v)))
    | none => .no
  | _ => stuck
def sCup (i : Nat) (k : Nat) (e : ME) : MS := fun ρ => match Slot.at ρ i with
  | .cup => bnd (e ρ) (pour k ρ)
  | _ => stuck
section
variable {X : Cx} {kr : Kn} {W : Nat → Hp → Prop} {pos cpos apos p : Pos} {e : Expr} {me : ME} {z : Str}
theorem psm_app (i : Nat) (he : PM X W .val e me) (hN : X.N[i]? = some z := by rfl) (hv : Vis X.env.scope z := by first | exact Or.inl rfl | exact Or.inr (Or.inl rfl) | exact Or.inr (Or.inr rfl)) (hd : (z == ("__debug__" : Str)) = false := by decide) (hcd : (z == ("__classdict__" : Str)) = false := by decide)
    (hs : swapsWith (.Call (.Attribute (.Name z p) ("append" : Str) apos) [e] [] cpos) none pos.line X.env = pure false := by rfl)
    (hbase : attributeBase (.Name z p) ("append" : Str) X.env (eval (.Name z p) X.env) = eval (.Name z p) X.env := by rfl)
    (hfew : ((backTo cpos (starEach [e] X.env)).all (fun x => !x.1) && (backToKw cpos (keywordEach [] X.env)).all (fun x => x.1.isSome)
      && decide ([e].length + ([] : List Keyword).length + (if ([] : List Keyword).isEmpty then 0 else 1) < 30)) = true := by rfl)
    (hline : (apos.endLine == cpos.line) = true := by rfl) (hst : starEach [e] X.env = (false, eval e X.env) :: starEach [] X.env := by rfl) :
    PSm X kr W (.Expr (.Call (.Attribute (.Name z p) ("append" : Str) apos) [e] [] cpos) pos) (sApp i me) :=
  PS.imp (ps_expr (pe_bm (to := tVar i) PySem.F.plainAttrs_list PySem.F.slot_list_append PySem.F.type_list_append mt_append (pe_var hN hv hd hcd) (pa_cons he pa_nil hst) hbase hfew hline hst) hs) fun D σ H ⟨g, ρ, c, s, o⟩ => by
    have q := s.sl i
    have hl := at_len (ρ := ρ) (i := i)
    have mem := fun p (h : p ∈ g.o i) => h
    unfold sApp at o
    generalize hO : g.o i = oo at q
    generalize hx : σ.getD i none = vv at q
    generalize hsl : Slot.at ρ i = sl at q o hl
    cases q with
    | no => exact o.elim
    | cup k => exact o.elim
    | sh r => exact o.elim
    | scr _ => exact o.elim
    | bl hb e r => exact o.elim
    | bd hb e q r => exact o.elim
    | oll _ _ => exact o.elim
    | od e q r => exact o.elim
    | @ol a xs ds ea ra =>
      have o : OutS X.K kr W g H (bnd (me ρ) (app1 i ρ ds) c) D := o
      refine ⟨_, getD_some hx, .inl ⟨rfl, xs, .inl (.inl ea)⟩, g, ρ, c, s, Out.mono (OutS.bnd s o) fun x H1 ⟨Z1, d, c1, n1, p1, _, o1⟩ => ?_⟩
      have pa : a ∈ g.o i := by rw [hO]; exact List.mem_cons_self
      have s1 := s.next n1
      have ea1 : H1 a = some (.lst xs) := n1.keep _ _ ea (s.fr i a pa).2.2
      have ra1 : RpA X.K H1 Z1 xs ds := ra.stay (s.stay n1)
      unfold app1 at o1
      by_cases q : ds.length < LIM
      · rw [if_pos q] at o1
        refine ⟨a, xs, x, rfl, rfl, ea1, by rw [ra.length]; exact q, ?_⟩
        have y := Stay.poke (o' := .lst (xs ++ [x])) s1 (i := i) pa
        have r : SlR X.K (upd H1 a (.lst (xs ++ [x]))) (g.z Z1).Z (g.z Z1).B (g.z Z1).κ (σ.getD i none) (.ol (ds ++ [d])) ((g.z Z1).o i) := by
          show SlR X.K _ _ _ _ _ _ (g.o i)
          rw [hO, hx]
          exact .ol upd_same ((ra1.stay y).append (.cons (Rp.stay y p1) .nil))
        obtain ⟨s2, n2⟩ := s1.poke (o' := .lst (xs ++ [x])) (p := a) (sl := .ol (ds ++ [d])) pa (hl (by simp)) r
        exact o1 σ _ _ n2 s2
      · rw [if_neg q] at o1; exact o1.elim
theorem pm_cup (i : Nat) (k : Nat) {j : Nat} (hk : k = 0 ∨ k = 1 := by first | exact .inl rfl | exact .inr rfl) (hN : X.N[i]? = some z := by rfl) (hv : Vis X.env.scope z := by first | exact Or.inl rfl | exact Or.inr (Or.inl rfl) | exact Or.inr (Or.inr rfl)) (hd : (z == ("__debug__" : Str)) = false := by decide) (hcd : (z == ("__classdict__" : Str)) = false := by decide)
    (hs : PlainIx (.Constant (.int (k : Int)) j p) := by intro _ _; rfl) : PM X W .val (.Subscript (.Name z apos) (.Constant (.int (k : Int)) j p) pos) (eCup i k) := PE.imp (pe_ix ix_list (pe_var hN hv hd hcd) pe_int hs) fun σ H Q ⟨g, ρ, c, s, o⟩ => by
  have q := s.sl i
  unfold eCup at o
  generalize hx : σ.getD i none = vv at q
  generalize hO : g.o i = oo at q
  generalize hsl : Slot.at ρ i = sl at q o
  cases q with
  | cup kk =>
    have cu := s.cup
    have rf := s.rf
    unfold CupR at cu
    rw [kk] at cu
    obtain ⟨x, y, rfl, e⟩ := cu
    have o : Out X.K .val W g H (.ok (.int (if k = 0 then x else y)) (some (x, y))) Q := o
    refine ⟨_, getD_some hx, _, [.int x, .int y], (k : Int), .int (if k = 0 then x else y), rfl, rfl, .inl (.inl e), ?_, o _ _ _ rf (.int _)⟩
    rcases hk with rfl | rfl <;> rfl
  | no => exact o.elim
  | sh r => exact o.elim
  | scr _ => exact o.elim
  | bl hb e r => exact o.elim
  | bd hb e q r => exact o.elim
  | oll _ _ => exact o.elim
  | od e q r => exact o.elim
  | ol _ _ => exact o.elim
theorem psm_cup (i : Nat) (k : Nat) {j : Nat} (he : PM X W .val e me) (hk : k = 0 ∨ k = 1 := by first | exact .inl rfl | exact .inr rfl) (hN : X.N[i]? = some z := by rfl) (hv : Vis X.env.scope z := by first | exact Or.inl rfl | exact Or.inr (Or.inl rfl) | exact Or.inr (Or.inr rfl)) (hd : (z == ("__debug__" : Str)) = false := by decide) (hcd : (z == ("__classdict__" : Str)) = false := by decide)
    (ha : ∀ v, assign (.Subscript (.Name z apos) (.Constant (.int (k : Int)) j p) cpos) X.env v = (do
      let ov ← holding [v] (eval (.Name z apos) X.env)
      let iv ← holding [v, ov] (eval (.Constant (.int (k : Int)) j p) X.env)
      standAt cpos
      holding [v, ov, iv] (setItem ov iv v)
      release [v, ov, iv] []) := by intro _; rfl)
    (hs : swapsWithSole [.Subscript (.Name z apos) (.Constant (.int (k : Int)) j p) cpos] e pos.line X.env = pure false := by rfl) (hw : swappedStores [.Subscript (.Name z apos) (.Constant (.int (k : Int)) j p) cpos] e X.env = pure none := by rfl)
    (h1 : (assignEach [.Subscript (.Name z apos) (.Constant (.int (k : Int)) j p) cpos] X.env).map (·.2) = [assign (.Subscript (.Name z apos) (.Constant (.int (k : Int)) j p) cpos) X.env] := by rfl) :
    PSm X kr W (.Assign [.Subscript (.Name z apos) (.Constant (.int (k : Int)) j p) cpos] e pos) (sCup i k me) :=
  PS.imp (ps_asg he (pg_sub (pe_var hN hv hd hcd) pe_int set_list ha) hs hw h1) fun D σ H ⟨g, ρ, c, s, o⟩ => by
    have q := s.sl i
    unfold sCup at o
    generalize hx : σ.getD i none = vv at q
    generalize hO : g.o i = oo at q
    generalize hsl : Slot.at ρ i = sl at q o
    cases q with
    | no => exact o.elim
    | sh r => exact o.elim
    | scr _ => exact o.elim
    | bl hb e r => exact o.elim
    | bd hb e q r => exact o.elim
    | oll _ _ => exact o.elim
    | od e q r => exact o.elim
    | ol _ _ => exact o.elim
    | cup kk =>
      have o : OutS X.K kr W g H (bnd (me ρ) (pour k ρ) c) D := o
      refine ⟨g, ρ, c, s, Out.mono (OutS.bnd s o) fun x H1 ⟨Z1, d, c1, n1, p1, _, o1⟩ => ?_⟩
      have s1 := s.next n1
      cases d with
      | int v =>
        cases p1
        have cu := s1.cup
        unfold CupR at cu
        rw [show (g.z Z1).κ = _ from kk] at cu
        obtain ⟨x, y, rfl, e⟩ := cu
        refine ⟨_, getD_some hx, _, [.int x, .int y], (k : Int), k, rfl, rfl, e, by rcases hk with rfl | rfl <;> rfl, ?_⟩
        have o1 : OutS X.K kr W (g.z Z1) H1 (.ok (.nx ρ) (some (if k = 0 then (v, y) else (x, v)))) D := o1
        rcases hk with rfl | rfl
        · obtain ⟨s2, n2⟩ := s1.pour (x := v) (y := y) kk
          exact o1 σ _ _ n2 s2
        · obtain ⟨s2, n2⟩ := s1.pour (x := x) (y := v) kk
          exact o1 σ _ _ n2 s2
      | none => exact o1.elim
      | bool _ => exact o1.elim
      | str _ => exact o1.elim
      | list _ => exact o1.elim
      | tuple _ => exact o1.elim
      | dict _ => exact o1.elim
end
def tyN : D → String
  | .none => "NoneType"
  | .bool _ => "bool"
  | .int _ => "int"
  | .str _ => "str"
  | .list _ => "list"
  | .tuple _ => "tuple"
  | .dict _ => "dict"
def fIsi (T : String) (d : D) : Option D := (kitB (tyN d) T).map PyData.bool
theorem sqT_ty {K : PySem.W.Frag} {H : Hp} {a : Addr} {xs : List V} (h : SqT K H a xs) : TyX K H (.ref a) (.type "tuple") := by
  rcases h with (h | ⟨o, h⟩) | h
  · exact .base (.tup h)
  · exact .fTuple h
  · obtain ⟨o, _, _, h1, h2, _⟩ := h
    exact .kTuple h1 h2
theorem Rb.ty {K : PySem.W.Frag} {H : Hp} {Z : Addr → Prop} {κ : Option Addr} {x : V} {d : D} (h : Rb K H Z κ x d) : TyX K H x (.type (tyN d)) := by
  have dc : ∀ {o : HO} {kvs : List (D × V)} {a : Addr}, H a = some o → DicO o kvs → TyX K H (.ref a) (.type "dict") := fun e q => by
    rcases q with ⟨l, rfl, _⟩ | ⟨l, rfl, _⟩
    · exact .base (.dK e)
    · exact .base (.dT e)
  cases h with
  | v r =>
    cases r with
    | non => exact .base .non
    | bl b => exact .base (.bl b)
    | int i => exact .base (.int i)
    | str s => exact .base (.str s)
    | lst _ e _ => exact .base (.lst e)
    | tup e _ => exact sqT_ty e
    | dct _ e q _ => exact dc e q
  | l _ e _ => exact .base (.lst e)
  | d _ e q _ => exact dc e q
section
variable {X : Cx} {W : Nat → Hp → Prop} {pos p tp : Pos} {a : Expr} {ma : ME}
theorem pm_isi {T : Str} {T' : String} (hg : Gl X "isinstance") (hm : X.mg "isinstance" = none) (hgT : Gl X T) (hmT : X.mg T = none) (hT : bootBuiltins T = some (.type T')) (ha : PM X W .bor a ma) (hn : T ≠ "__name__" := by decide) (hdb : (T == ("__debug__" : Str)) = false := by decide)
    (he : starEach [a, .Name T tp] X.env = (false, eval a X.env) :: starEach [.Name T tp] X.env := by rfl) (he2 : starEach [.Name T tp] X.env = (false, eval (.Name T tp) X.env) :: starEach [] X.env := by rfl) (hpl : (backTo pos (starEach [.Name T tp] X.env)).any (·.1) = false := by rfl) :
    PM X W .val (.Call (.Name "isinstance" p) [a, .Name T tp] [] pos) (e1 (fIsi T') ma) :=
  PE.imp (pe_callB call_isi hg hm PyProof.Rows.boot_isinstance (pa_cons ha (pa_cons (pe_bltn (v := .ty T') hgT hmT hT rfl hn hdb) pa_nil he2) he) (by decide) (by decide) he hpl) fun σ H Q ⟨g, ρ, c, s, o⟩ => by
  have o : Out X.K .val W g H (bnd (ma ρ) (fun d => lft (fIsi T' d)) c) Q := o
  refine ⟨g, ρ, c, s, Out.mono (Out.bnd s o) fun x H1 ⟨Z1, d, c1, n1, p1, _, o1⟩ => ?_⟩
  obtain ⟨v, e, q⟩ := Out.lft o1
  obtain ⟨b, e1, rfl⟩ := Option.map_eq_some_iff.mp e
  exact ⟨x, .ty T', _, _, b, rfl, .ty T', Rb.ty p1, kit_ty e1, q _ H1 Z1 (s.next n1).rf (.bl b)⟩
end
end PV

namespace PV
open PySem PySem.Spec PyProof.Rows L2 RZ
/-- each once, in order -/
def onceI (ns : List Int) : List Int := ns.foldl step_dedup []
def fLenSet : D → Option D
  | .list xs => (intsOf xs).bind fun ns => if ns.length ≤ 4000 then some (.int ((onceI ns).length : Nat)) else none
  | .tuple xs => (intsOf xs).bind fun ns => if ns.length ≤ 4000 then some (.int ((onceI ns).length : Nat)) else none
  | _ => none
theorem once_go : ∀ (ns σ : List Int), σ.Nodup → (ns.foldl step_dedup σ).Nodup ∧ ∀ k, k ∈ ns.foldl step_dedup σ ↔ k ∈ σ ∨ k ∈ ns
  | [], σ, h => ⟨h, fun k => by simp⟩
  | n :: r, σ, h => by
    have hs : (step_dedup σ n).Nodup ∧ ∀ k, k ∈ step_dedup σ n ↔ k ∈ σ ∨ k = n := by
      unfold step_dedup
      by_cases q : σ.any (· == n) = true
      · rw [if_pos q]
        obtain ⟨x, hx, e⟩ := List.any_eq_true.mp q
        have e : x = n := eq_of_beq e
        subst e
        exact ⟨h, fun k => ⟨.inl, fun z => z.elim id fun z => z ▸ hx⟩⟩
      · rw [if_neg q]
        have nm : n ∉ σ := fun hm => q (List.any_eq_true.mpr ⟨n, hm, beq_self_eq_true n⟩)
        refine ⟨List.nodup_append.mpr ⟨h, by simp, fun a ha b hb e => ?_⟩, fun k => by simp⟩
        simp at hb
        exact nm (by rw [← hb, ← e]; exact ha)
    obtain ⟨h1, h2⟩ := once_go r (step_dedup σ n) hs.1
    refine ⟨h1, fun k => ?_⟩
    rw [List.foldl_cons, h2 k, hs.2 k, List.mem_cons]
    constructor
    · rintro ((h | h) | h)
      · exact .inl h
      · exact .inr (.inl h)
      · exact .inr (.inr h)
    · rintro (h | h | h)
      · exact .inl (.inl h)
      · exact .inl (.inr h)
      · exact .inr h
theorem once_nodup (ns : List Int) : (onceI ns).Nodup := (once_go ns [] List.nodup_nil).1
theorem once_mem (ns : List Int) (k : Int) : k ∈ onceI ns ↔ k ∈ ns := by
  have := (once_go ns [] List.nodup_nil).2 k
  exact this.trans ⟨fun h => h.elim (fun z => nomatch z) id, .inr⟩
theorem firstMet_once (ns : List Int) : firstMet (fun i => ns.getD i 0) ns.length = onceI ns := by
  unfold firstMet onceI
  have e : (List.range ns.length).map (fun i => ns.getD i 0) = ns := by
    refine List.ext_getElem (by simp) fun i h1 h2 => ?_
    rw [List.getElem_map, List.getElem_range, List.getD_eq_getElem?_getD, List.getElem?_eq_getElem h2]; rfl
  rw [e]
def tLenSetA (K : PySem.W.Frag) (ta : TE) : TE := fun σ H Q => ta σ H fun x H1 => ∃ (l : Addr) (ns : List Int), x = .ref l ∧ (SqL K H1 l (ns.map V.int) ∨ SqT K H1 l (ns.map V.int)) ∧ ns.length ≤ 4000 ∧ Q (.int ((onceI ns).length : Nat)) H1
theorem pe_lenSetA {X : Cx} {a : Expr} {ta : TE} {p p2 q pos : Pos} (hg : Gl X "len") (hm : X.mg "len" = none) (hg2 : Gl X "set") (hm2 : X.mg "set" = none) (ha : PE X a ta) (hc : X.calm = true)
    (na : starEach [a] X.env = (false, eval a X.env) :: starEach [] X.env := by rfl) : PE X (.Call (.Name "len" p) [.Call (.Name "set" p2) [a] [] q] [] pos) (tLenSetA X.K ta) := by
  refine ⟨fun pins s σ H Q I h => ?_⟩
  refine Call_ (ld_blt I hg hm PySem.boot_len ?_)
  refine PyProof.Rows.callWith_builtin1 (PyProof.Rows.args_cons ?_ rfl) rfl rfl
  refine Call_ (ld_blt I hg2 hm2 PyProof.Rows.boot_set ?_)
  refine PyProof.Rows.callWith_type1 (PyProof.Rows.args_cons (thn (ha.run pins s σ H _ I h) fun v s1 ⟨x, H1, I1, r1, q1⟩ => PyProof.Rows.args_nil ?_) na) na rfl
  obtain ⟨l, ns, rfl, hq, hl, q1⟩ := q1
  cases r1
  have hsz : (onceI ns).length ≤ ns.length := by
    rw [← firstMet_once]
    exact firstMet_length_le _ _
  rcases hq with hq | hq
  · obtain ⟨its, r, pl, hz⟩ := I1.list hq
    have hlen : its.toArray.size = ns.length := by rw [List.size_toArray, ← r.length, List.length_map]
    refine call_set_list (I1.ok.hd hc) pl.isList (ns := ns) (by simpa using intsAre_vals r) (by rw [hlen]; unfold scanBound; omega) fun h' tk hS hk => ?_
    refine PyProof.Rows.args_nil ?_
    rw [hlen, firstMet_once] at hS
    obtain ⟨o, es, ep, t, ho, hex, hd, _, _, _, hf, hn⟩ := hS
    have I2 : Inv X pins σ H1 { s1 with heap := h', toks := tk } := I1.kept fun b o e => hk b o (Heap.lt_size e) e
    exact call_len_set ho hex hd hf (by rw [hn] <;> omega) ⟨.int ((onceI ns).length : Nat), H1, I2.tok _, ⟨_, by rw [hn]⟩, q1⟩
  · obtain ⟨its, r, pl, hz⟩ := I1.tuple hq
    refine call_set_tupI ns (I1.ok.hd hc) (show s1.heap.IsTuple l its.toArray from pl) (by simpa using intsAre_vals r) (by unfold scanBound; omega) fun h' tk c R1 hcn k => ?_
    refine PyProof.Rows.args_nil ?_
    obtain ⟨o, es, ep, t, ho, hex, hdt, g, nd, hm2, hb, hf, hn, hr, hl2⟩ := R1
    have I2 : Inv X pins σ H1 { s1 with heap := h', toks := tk } := I1.kept k
    have e : es.size = (onceI ns).length := by
      have pm : (es.toList.map keyOf).Perm (onceI ns) := (List.perm_ext_iff_of_nodup nd (once_nodup ns)).mpr fun k => by
        rw [once_mem, ← hm2 k, decide_eq_true_eq]
      have := pm.length_eq
      rw [List.length_map, Array.length_toList] at this
      exact this
    exact call_len_set ho hex hdt hf (by rw [e] <;> omega) ⟨.int ((onceI ns).length : Nat), H1, I2.tok _, ⟨_, by rw [e]⟩, q1⟩
theorem pm_lenSet {X : Cx} {W : Nat → Hp → Prop} {a : Expr} {ma : ME} {p p2 q pos : Pos} (hg : Gl X "len") (hm : X.mg "len" = none) (hg2 : Gl X "set") (hm2 : X.mg "set" = none) (ha : PM X W .bor a ma) (hc : X.calm = true)
    (na : starEach [a] X.env = (false, eval a X.env) :: starEach [] X.env := by rfl) : PM X W .val (.Call (.Name "len" p) [.Call (.Name "set" p2) [a] [] q] [] pos) (e1 fLenSet ma) :=
  PE.imp (pe_lenSetA hg hm hg2 hm2 ha hc na) fun σ H Q ⟨g, ρ, c, s, o⟩ => by
  have o : Out X.K .val W g H (bnd (ma ρ) (fun d => lft (fLenSet d)) c) Q := o
  refine ⟨g, ρ, c, s, Out.mono (Out.bnd s o) fun x H1 ⟨Z1, d, c1, n1, p1, _, o1⟩ => ?_⟩
  obtain ⟨v, e, q⟩ := Out.lft o1
  have s1 := s.next n1
  unfold fLenSet at e
  split at e
  · obtain ⟨ns, e1, e2⟩ := Option.bind_eq_some_iff.mp e
    obtain ⟨h1, rfl⟩ := split_if e2
    obtain ⟨a, ys, rfl, _, ea, ra⟩ := p1.list s1
    rw [intsOf_eq e1] at ra
    obtain rfl := ra.vints
    exact ⟨a, ns, rfl, .inl (.inl (.inl ea)), h1, q _ H1 Z1 s1.rf (.int _)⟩
  · obtain ⟨ns, e1, e2⟩ := Option.bind_eq_some_iff.mp e
    obtain ⟨h1, rfl⟩ := split_if e2
    obtain ⟨a, ys, rfl, ea, ra⟩ := Rb.tup (g := g) p1
    rw [intsOf_eq e1] at ra
    obtain rfl := ra.vints
    exact ⟨a, ns, rfl, .inr ea, h1, q _ H1 Z1 s1.rf (.int _)⟩
  · cases e
def fMaxA : D → Option D
  | .list xs => ((intsOf xs).bind maxI).map PyData.int
  | .tuple xs => ((intsOf xs).bind maxI).map PyData.int
  | _ => none
def fMinA : D → Option D
  | .list xs => ((intsOf xs).bind minI).map PyData.int
  | .tuple xs => ((intsOf xs).bind minI).map PyData.int
  | _ => none
theorem min_fun : (fun a b : Int => if b < a then b else a) = min := by
  funext a b
  rw [Int.min_def]
  split <;> split <;> omega
theorem max_fun : (fun a b : Int => if a < b then b else a) = max := by
  funext a b
  rw [Int.max_def]
  split <;> split <;> omega
theorem depth_ints : ∀ ns : List Int, PyData.depthAll (ns.map PyData.int) = 0
  | [] => rfl
  | n :: r => by rw [List.map_cons, PyData.depthAll, depth_ints r]; rfl
section
variable {X : Cx}
theorem c_maxA (hc : X.calm = true) (hu : X.A.units + 65 < cLine) : Ca1 X (.builtin "max") fMaxA .val := by
  intro pins s' σ' H xs us Q I r h
  have h0 := h
  obtain ⟨x, g, σ, ρ, c, d, w, rfl, s, hx, hf, q⟩ := h
  unfold fMaxA at hf
  split at hf
  · exact c_max hc pins s' σ' H _ us Q I r ⟨x, g, σ, ρ, c, _, w, rfl, s, hx, hf, q⟩
  · obtain ⟨a, ys, rfl, ea, ra⟩ := hx.tup
    obtain ⟨m, e, rfl⟩ := Option.map_eq_some_iff.mp hf
    obtain ⟨ns, e1, e2⟩ := Option.bind_eq_some_iff.mp e
    rw [intsOf_eq e1] at ra
    cases ns with
    | nil => cases e2
    | cons n ns =>
      rw [Vals.ref1 r]
      obtain ⟨its, rv, pt, hz⟩ := I.tuple ea
      have hl : PyData.canLayAll0 ((n :: ns).map PyData.int) = true := by
        generalize n :: ns = l
        induction l with
        | nil => rfl
        | cons n r ih => rw [List.map_cons, PyData.canLayAll0, ih]; rfl
      obtain ⟨as, hr⟩ := Dp.readsAll I _ _ its (RpA.dp ra hl) rv
      refine PySem.W.max_tuple_data (xs := ns.map PyData.int) (I.ok.hd hc) (show s'.heap.IsTuple a its.toArray from pt) (by simpa using hr) ⟨fun x hx y hy => ?_, fun x hx => ?_⟩ (by rw [← List.map_cons, depth_ints]; omega) fun i v h' tk bs _ rr hk => ?_
      · obtain ⟨_, _, rfl⟩ := List.mem_map.mp (List.map_cons .. ▸ hx : x ∈ (n :: ns).map PyData.int)
        obtain ⟨_, _, rfl⟩ := List.mem_map.mp (List.map_cons .. ▸ hy : y ∈ (n :: ns).map PyData.int)
        rfl
      · obtain ⟨_, _, rfl⟩ := List.mem_map.mp (List.map_cons .. ▸ hx : x ∈ (n :: ns).map PyData.int)
        simp
      · rw [PySem.W.maxD_ints] at rr
        cases rr
        have e3 : ns.foldl max n = m := by
          have e2 : some (ns.foldl (fun a b => if a < b then b else a) n) = some m := e2
          rw [max_fun] at e2
          exact Option.some.inj e2
        exact ⟨.int m, H, I.kept hk, ⟨_, by rw [e3]⟩, q _ H g.Z s.rf (.int m)⟩
  · cases hf
theorem c_minA (hc : X.calm = true) (hu : X.A.units + 65 < cLine) : Ca1 X (.builtin "min") fMinA .val := by
  intro pins s' σ' H xs us Q I r h
  obtain ⟨x, g, σ, ρ, c, d, w, rfl, s, hx, hf, q⟩ := h
  unfold fMinA at hf
  split at hf
  · exact c_min hc pins s' σ' H _ us Q I r ⟨x, g, σ, ρ, c, _, w, rfl, s, hx, hf, q⟩
  · obtain ⟨a, ys, rfl, ea, ra⟩ := hx.tup
    obtain ⟨m, e, rfl⟩ := Option.map_eq_some_iff.mp hf
    obtain ⟨ns, e1, e2⟩ := Option.bind_eq_some_iff.mp e
    rw [intsOf_eq e1] at ra
    cases ns with
    | nil => cases e2
    | cons n ns =>
      rw [Vals.ref1 r]
      obtain ⟨its, rv, pt, hz⟩ := I.tuple ea
      have hl : PyData.canLayAll0 ((n :: ns).map PyData.int) = true := by
        generalize n :: ns = l
        induction l with
        | nil => rfl
        | cons n r ih => rw [List.map_cons, PyData.canLayAll0, ih]; rfl
      obtain ⟨as, hr⟩ := Dp.readsAll I _ _ its (RpA.dp ra hl) rv
      refine PySem.W.min_tuple_data (xs := ns.map PyData.int) (I.ok.hd hc) (show s'.heap.IsTuple a its.toArray from pt) (by simpa using hr) ⟨fun x hx y hy => ?_, fun x hx => ?_⟩ (by rw [← List.map_cons, depth_ints]; omega) fun i v h' tk bs _ rr hk => ?_
      · obtain ⟨_, _, rfl⟩ := List.mem_map.mp (List.map_cons .. ▸ hx : x ∈ (n :: ns).map PyData.int)
        obtain ⟨_, _, rfl⟩ := List.mem_map.mp (List.map_cons .. ▸ hy : y ∈ (n :: ns).map PyData.int)
        rfl
      · obtain ⟨_, _, rfl⟩ := List.mem_map.mp (List.map_cons .. ▸ hx : x ∈ (n :: ns).map PyData.int)
        simp
      · rw [PySem.W.minD_ints] at rr
        cases rr
        have e3 : ns.foldl min n = m := by
          have e2 : some (ns.foldl (fun a b => if b < a then b else a) n) = some m := e2
          rw [min_fun] at e2
          exact Option.some.inj e2
        exact ⟨.int m, H, I.kept hk, ⟨_, by rw [e3]⟩, q _ H g.Z s.rf (.int m)⟩
  · cases hf
end
end PV

namespace PV
open PySem PySem.Spec PyProof.Rows L2
structure AccR (K : PySem.W.Frag) (κ : Option Addr) (Z1 : Addr → Prop) (H1 : Hp) (D : Addr) (c : Cup) (Z : Addr → Prop) (H : Hp) (acc : List PV.D) : Prop where
  n : Nxt κ Z1 H1 c Z H
  z : ¬ Z D
  ex : ∃ xs, H D = some (.lst xs) ∧ RpA K H Z xs acc
section
variable {K : PySem.W.Frag} {κ : Option Addr} {Z1 Z Z' : Addr → Prop} {H1 H H' : Hp} {D : Addr} {c c' c0 : Cup} {acc : List PV.D} {g : Gh} {σ : L2.St} {ρ : E}
theorem AccR.next (a : AccR K κ Z1 H1 D c Z H acc) (s : SR K g H σ ρ c0) (ez : g.Z = Z) (ek : g.κ = κ) (hk : κ ≠ some D) (kt : ∀ a, κ = some a → H1 a ≠ none) (n : Nxt κ Z H c' Z' H') : AccR K κ Z1 H1 D c' Z' H' acc := by
  obtain ⟨n0, z0, xs, e0, r0⟩ := a
  refine ⟨n0.trans n kt, fun z => ?_, xs, n.keep D _ e0 hk, ?_⟩
  · rcases n.zn D z with q | q
    · exact z0 q
    · rw [e0] at q; cases q
  · subst ez; subst ek
    exact RpA.nxt s n r0
theorem upd_stay {a : Addr} {xs ys : List V} (z : ¬ Z a) (e : H a = some (.lst xs)) : Stay Z Z H (upd H a (.lst ys)) :=
  ⟨fun _ z => z, fun b u e1 z1 => by rw [upd_ne (fun q : b = a => z (by rw [← q]; exact z1))]; exact e1, fun b zs e1 => by rw [upd_ne (ne_of e1 e (by simp))]; exact e1, fun b u w e1 => by rw [upd_ne (ne_of e1 e (by simp))]; exact e1⟩
theorem AccR.push {xs : List V} {y : V} {v : PV.D} (a : AccR K κ Z1 H1 D c Z H acc) (hD : H1 D = none) (hk : κ ≠ some D) (e : H D = some (.lst xs)) (r : Rp K H Z y v) : AccR K κ Z1 H1 D c Z (upd H D (.lst (xs ++ [y]))) (acc ++ [v]) := by
  obtain ⟨n, z, xs', e0, r0⟩ := a
  rw [e] at e0
  cases e0
  have st := upd_stay (ys := xs ++ [y]) z e
  refine ⟨⟨fun a u e k => ?_, ?_, n.z, n.zn, fun a z => ?_⟩, z, _, upd_same, (r0.stay st).append (.cons (r.stay st) .nil)⟩
  · rw [upd_ne (ne_of_none e hD)]; exact n.keep a u e k
  · have q := n.cup
    revert q
    unfold CupR
    split
    · exact id
    · rename_i a ka
      rintro ⟨i', j', q1, q2⟩
      exact ⟨i', j', q1, by rw [upd_ne (fun z => hk (by rw [z]))]; exact q2⟩
  · by_cases q : a = D
    · rw [q, upd_same]; simp
    · rw [upd_ne q]; exact n.zh a z
/-- a list beside is changed -/
theorem SR.other {xs ys : List V} {p : Addr} (s : SR K g H σ ρ c) (e : H p = some (.lst xs)) (z : ¬ g.Z p) (b : ¬ g.B p) (k : g.κ ≠ some p) (o : ∀ i, p ∉ g.o i) : SR K g (upd H p (.lst ys)) σ ρ c := by
  have st := upd_stay (ys := ys) z e
  refine ⟨s.len, fun j => (s.sl j).stay st (fun a u e1 bb => by rw [upd_ne (fun q : a = p => b (by rw [← q]; exact bb))]; exact e1) fun a ha u e1 => by rw [upd_ne (fun q : a = p => o j (by rw [← q]; exact ha))]; exact e1, s.nd, s.dj, s.fr, ?_, s.kz, fun a z => ?_⟩
  · have q := s.cup
    revert q
    unfold CupR
    split
    · exact id
    · rename_i a ka
      rintro ⟨i', j', q1, q2⟩
      exact ⟨i', j', q1, by rw [upd_ne (fun z : a = p => k (by rw [ka, z]))]; exact q2⟩
  · by_cases q : a = p
    · rw [q, upd_same]; simp
    · rw [upd_ne q]; exact s.zh a z
theorem StayG.next {G : Addr → Prop} {Z4 : Addr → Prop} {H4 : Hp} (y : StayG G Z4 Z H4 H) (hG : ∀ a, G a → κ ≠ some a) (s : SR K g H σ ρ c0) (ez : g.Z = Z) (ek : g.κ = κ) (n : Nxt κ Z H c' Z' H') : StayG G Z4 Z' H4 H' := by
  subst ez; subst ek
  have st := s.stay n
  exact ⟨⟨fun a z => st.z a (y.st.z a z), fun a o e z => st.s a o (y.st.s a o e z) (y.st.z a z), fun a xs e => st.t a xs (y.st.t a xs e), fun a o u e => st.f a o u (y.st.f a o u e)⟩, fun a o e ga => n.keep a o (y.g a o e ga) (hG a ga)⟩
theorem StayG.upd {G : Addr → Prop} {Z4 : Addr → Prop} {H4 : Hp} {xs ys : List V} (y : StayG G Z4 Z H4 H) (hG : ∀ a, G a → Z4 a) (e : H D = some (.lst xs)) (z : ¬ Z D) : StayG G Z4 Z H4 (L2.upd H D (.lst ys)) := by
  have st := upd_stay (ys := ys) z e
  exact ⟨⟨y.st.z, fun a o e z => st.s a o (y.st.s a o e z) (y.st.z a z), fun a xs e => st.t a xs (y.st.t a xs e), fun a o u e => st.f a o u (y.st.f a o u e)⟩, fun a o e ga => st.s a o (y.g a o e ga) (y.st.z a (hG a ga))⟩
theorem inner_turns {t1 : Tg} {tc1 : E → M Bool} {te : ME} {vs1 : List Nat} {G : Addr → Prop} {J : It} {ds1 vr : List PV.D} {c4 c6 : Cup} {Z4 : Addr → Prop} {H4 : Hp} {Nx : Hp → Prop} (hD : H1 D = none) (hk : κ ≠ some D) (kt : ∀ a, κ = some a → H1 a ≠ none)
    (s5 : SR K g H4 σ ρ c4) (ez : g.Z = Z4) (ek : g.κ = κ) (hB : ¬ g.B D) (ho : ∀ i, D ∉ g.o i) (a0 : AccR K κ Z1 H1 D c4 Z4 H4 acc) (hG : ∀ a, G a → κ ≠ some a ∧ Z4 a) (it : ItOk K G Z4 H4 J ds1) (hi : ∀ j ∈ t1.ix, j ∈ vs1)
    (hr : loopC t1 tc1 te (wipeE ρ vs1) ds1 c4 = .ok vr c6) (hl : acc.length + vr.length ≤ LIM) (fin : ∀ Z H, AccR K κ Z1 H1 D c6 Z H (acc ++ vr) → Nx H) :
    ∃ W1 : Nat → Nat → Hp → Prop, (∃ m, W1 0 m H4) ∧ ∀ j k H, W1 j k H → (J.stop j H ∧ Nx H) ∨ (J.go j H ∧ ∃ Nx1 : Hp → Prop, (∀ H', Nx1 H' → ∃ k', k' < k ∧ W1 (j + 1) k' H') ∧ ∀ x H', J.yld j H x H' → tG K t1 x (wipe σ vs1) H' fun σ3 H5 => wipe σ3 vs1 = wipe σ vs1 ∧ tTs K W0 tc1 σ3 H5 fun b H6 =>
        if b = true then tM K .val W0 te σ3 H6 fun y H7 => ∃ acc, H7 D = some (.lst acc) ∧ acc.length < sizeLine ∧ Nx1 (upd H7 D (.lst (acc ++ [y]))) else Nx1 H6) := by
  refine ⟨fun j k H => k = ds1.length - j ∧ j ≤ ds1.length ∧ ∃ Z2 c2 ac rest, AccR K κ Z1 H1 D c2 Z2 H ac ∧ SR K (g.z Z2) H σ ρ c2 ∧ StayG G Z4 Z2 H4 H ∧ loopC t1 tc1 te (wipeE ρ vs1) (ds1.drop j) c2 = .ok rest c6 ∧ acc ++ vr = ac ++ rest,
    ⟨ds1.length, by simp, Nat.zero_le _, Z4, c4, acc, vr, a0, by subst ez; exact s5, ⟨⟨fun _ z => z, fun _ _ e _ => e, fun _ _ e => e, fun _ _ _ e => e⟩, fun _ _ e _ => e⟩, by simpa using hr, rfl⟩, ?_⟩
  rintro j k H2 ⟨rfl, hj, Z2, c2, ac, rest, a2, s2, y2, hr2, hv⟩
  by_cases hlt : j < ds1.length
  · have hd : ds1[j]? = some ds1[j] := List.getElem?_eq_getElem hlt
    obtain ⟨hgo, hy⟩ := it.go Z2 H2 y2 j _ hd
    refine .inr ⟨hgo, fun H => ∃ Z2 c2 ac rest, AccR K κ Z1 H1 D c2 Z2 H ac ∧ SR K (g.z Z2) H σ ρ c2 ∧ StayG G Z4 Z2 H4 H ∧ loopC t1 tc1 te (wipeE ρ vs1) (ds1.drop (j + 1)) c2 = .ok rest c6 ∧ acc ++ vr = ac ++ rest,
      fun H' q => ⟨ds1.length - (j + 1), by omega, rfl, hlt, q⟩, fun x H3 y3 => ?_⟩
    obtain ⟨h3, rp⟩ := hy x H3 y3
    have n3 : Nxt κ Z2 H2 c2 Z2 H3 := by
      subst ek
      rcases h3 with h3 | ⟨p, ys, hp, h3⟩
      · subst h3; exact s2.rf
      · subst h3; exact s2.lay hp
    have s3 : SR K (g.z Z2) H3 σ ρ c2 := by subst ek; exact s2.next n3
    have a3 : AccR K κ Z1 H1 D c2 Z2 H3 ac := a2.next s2 rfl ek hk kt n3
    have y3' : StayG G Z4 Z2 H4 H3 := y2.next (fun a ga => (hG a ga).1) s2 rfl ek n3
    obtain ⟨g4, s4, z4, b4, k4, o4⟩ := s3.wipe vs1
    have z4 : g4.Z = Z2 := z4
    have k4 : g4.κ = g.κ := k4
    rw [List.drop_eq_getElem_cons hlt] at hr2
    unfold loopC at hr2
    obtain ⟨ρ2, c5, e10, hr3⟩ := bnd_inv hr2
    clear hr2
    obtain ⟨e1, hc5⟩ := lft_inv e10
    rw [hc5] at hr3
    obtain ⟨b, c7, e20, hr4⟩ := bnd_inv hr3
    have e2 := ne_ok e20
    refine ⟨g4, wipeE ρ vs1, c2, ds1[j], ρ2, s4, by rw [z4]; exact rp, e1, fun σ2 g5 s5' z5 b5 k5 o5 l5 a5 => ⟨wipe_again l5 a5 hi, ?_⟩⟩
    have z5 : g5.Z = Z2 := z5.trans z4
    have k5 : g5.κ = κ := (k5.trans k4).trans ek
    refine ⟨g5, ρ2, c2, s5', ?_⟩
    rw [e2]
    intro H5 Z5 n5
    rw [z5, k5] at n5
    have a5' : AccR K κ Z1 H1 D c7 Z5 H5 ac := a3.next s3 rfl ek hk kt n5
    have s5'' : SR K (g.z Z5) H5 σ ρ c7 := by subst ek; exact s3.next n5
    have y5 : StayG G Z4 Z5 H4 H5 := y3'.next (fun a ga => (hG a ga).1) s3 rfl ek n5
    cases b with
    | false =>
      rw [if_neg (by simp)] at hr4 ⊢
      exact ⟨Z5, c7, ac, rest, a5', s5'', y5, hr4, hv⟩
    | true =>
      rw [if_pos rfl] at hr4 ⊢
      obtain ⟨v, c8, e30, hr5⟩ := bnd_inv hr4
      have e3 := ne_ok e30
      obtain ⟨rest', c9, e4, hr6⟩ := bnd_inv hr5
      obtain ⟨hrest, hc9⟩ := ret_inv hr6
      rw [hrest] at hv
      rw [← hc9] at e4
      have s6 : SR K (g5.z Z5) H5 σ2 ρ2 c7 := s5'.next (by rw [z5, k5]; exact n5)
      refine ⟨g5.z Z5, ρ2, c7, s6, ?_⟩
      rw [e3]
      intro y H6 Z6 n6 ry
      have n6 : Nxt κ Z5 H5 c8 Z6 H6 := by
        have q : Nxt g5.κ Z5 H5 c8 Z6 H6 := n6
        rw [k5] at q; exact q
      have ry : Rp K H6 Z6 y v := ry
      have a6 : AccR K κ Z1 H1 D c8 Z6 H6 ac := a5'.next s5'' rfl ek hk kt n6
      have s7 : SR K (g.z Z6) H6 σ ρ c8 := by subst ek; exact s5''.next n6
      have y6 : StayG G Z4 Z6 H4 H6 := y5.next (fun a ga => (hG a ga).1) s5'' rfl ek n6
      obtain ⟨xs, ex, rx⟩ := a6.ex
      refine ⟨xs, ex, ?_, Z6, c8, ac ++ [v], rest', a6.push hD hk ex ry, s7.other ex a6.z hB (by show g.κ ≠ _; rw [ek]; exact hk) ho, y6.upd (fun a ga => (hG a ga).2) ex a6.z, e4, by rw [hv]; simp⟩
      have e5 := congrArg List.length hv
      simp only [List.length_append, List.length_cons] at e5
      rw [rx.length]
      show ac.length < 16777216
      have : LIM = 16777216 := rfl
      omega
  · have e : j = ds1.length := by omega
    subst e
    rw [List.drop_length] at hr2
    obtain ⟨rfl, rfl⟩ := ret_inv hr2
    rw [List.append_nil] at hv
    exact .inl ⟨it.stop Z2 H2 y2 _ (Nat.le_refl _), fin Z2 H2 (by rw [hv]; exact a2)⟩
end
def loopC2 (vs1 : List Nat) (t : Tg) (tc : E → M Bool) (mi1 : MI) (t1 : Tg) (tc1 : E → M Bool) (te : ME) (ρ : E) : List D → M (List D)
  | [] => ret []
  | d :: r => bnd (lft (t.put d ρ)) fun ρ2 => bnd (ne (tc ρ2)) fun b =>
    if b = true then bnd (ne (mi1 ρ2)) fun ds1 => bnd (loopC t1 tc1 te (wipeE ρ2 vs1) ds1) fun vs => bnd (loopC2 vs1 t tc mi1 t1 tc1 te ρ r) fun ws => ret (vs ++ ws) else loopC2 vs1 t tc mi1 t1 tc1 te ρ r
def eComp2 (own vs1 : List Nat) (mi : MI) (t : Tg) (tc : E → M Bool) (mi1 : MI) (t1 : Tg) (tc1 : E → M Bool) (te : ME) : ME := fun ρ => bnd (mi ρ) fun ds => bnd (loopC2 vs1 t tc mi1 t1 tc1 te (wipeE ρ own) ds) fun vs => bnd (lft (okLen vs)) fun vs => ret (.list vs)
theorem loopC2_err {vs1 : List Nat} {t : Tg} {tc : E → M Bool} {mi1 : MI} {t1 : Tg} {tc1 : E → M Bool} {te : ME} {ρ : E} : ∀ {ds : List D} {c c' : Cup} {e : Nat}, loopC2 vs1 t tc mi1 t1 tc1 te ρ ds c = .err e c' → False
  | [], _, _, _, h => by cases h
  | d :: r, c, c', e, h => by
    unfold loopC2 at h
    rcases bnd_err h with h | ⟨ρ2, c1, _, h⟩
    · exact lft_err h
    · rcases bnd_err h with h | ⟨b, c2, _, h⟩
      · exact ne_err h
      · cases b with
        | true =>
          rcases bnd_err h with h | ⟨ds1, c3, _, h⟩
          · exact ne_err h
          · rcases bnd_err h with h | ⟨vs, c4, _, h⟩
            · exact loopC_err h
            · rcases bnd_err h with h | ⟨ws, c5, _, h⟩
              · exact loopC2_err h
              · cases h
        | false => exact loopC2_err h
theorem lc2_read {K : PySem.W.Frag} {W : Nat → Hp → Prop} {kf : Fv} {vs vs1 : List Nat} {mi mi1 : MI} {t t1 : Tg} {tc tc1 : E → M Bool} {te : ME} {σ : L2.St} {H : Hp} {Q : VK} (hk : kf = .val ∨ kf = .bor) (hi : ∀ j ∈ t.ix, j ∈ vs) (hi1 : ∀ j ∈ t1.ix, j ∈ vs1)
    (h : tM K .frs W (eComp2 vs vs1 mi t tc mi1 t1 tc1 te) σ H Q) : tLc2 (tI K kf W mi) (tG K t) (tTs K W0 tc) (tI K .val W0 mi1) (tG K t1) (tTs K W0 tc1) (tM K .val W0 te) vs vs1 σ H Q := by
  obtain ⟨g, ρ, c, s, o⟩ := h
  refine ⟨g, ρ, c, s, ?_⟩
  unfold eComp2 at o
  rw [bnd_app] at o
  cases em : mi ρ c with
  | no => rw [em] at o; exact o.elim
  | err e c1 => rw [em] at o; exact o
  | ok ds c1 =>
    rw [em] at o
    intro H1 Z1 n1 J G hG it D hD
    have s1 := s.next n1
    have o1 := Out.at s n1 o
    obtain ⟨vs', c', hl, hz, fin⟩ : ∃ vs' c', loopC2 vs1 t tc mi1 t1 tc1 te (wipeE ρ vs) ds c1 = .ok vs' c' ∧ vs'.length ≤ LIM ∧ ∀ x H' Z', Nxt g.κ Z1 H1 c' Z' H' → Res K .frs g.κ H1 Z' H' x (.list vs') → Q x H' := by
      change Out K .frs W (g.z Z1) H1 (bnd (loopC2 vs1 t tc mi1 t1 tc1 te (wipeE ρ vs) ds) (fun vs => bnd (lft (okLen vs)) fun vs => ret (.list vs)) c1) Q at o1
      rw [bnd_app] at o1
      cases el : loopC2 vs1 t tc mi1 t1 tc1 te (wipeE ρ vs) ds c1 with
      | no => rw [el] at o1; exact o1.elim
      | err e c2 => exact (loopC2_err el).elim
      | ok vs' c2 =>
        rw [el] at o1
        have o2 : Out K .frs W (g.z Z1) H1 (bnd (lft (okLen vs')) (fun vs => ret (.list vs)) c2) Q := o1
        unfold okLen at o2
        by_cases hz : vs'.length ≤ LIM
        · rw [if_pos hz] at o2
          exact ⟨vs', c2, rfl, hz, o2⟩
        · rw [if_neg hz] at o2; exact o2.elim
    have hDk : g.κ ≠ some D := fun k => s1.kt D k hD
    have hDo := s1.zb hD
    refine ⟨fun i m H2 => m = ds.length - i ∧ i ≤ ds.length ∧ ∃ Z2 c2 acc rest, AccR K g.κ Z1 H1 D c2 Z2 H2 acc ∧ loopC2 vs1 t tc mi1 t1 tc1 te (wipeE ρ vs) (ds.drop i) c2 = .ok rest c' ∧ vs' = acc ++ rest,
      ⟨ds.length, by simp, Nat.zero_le _, Z1, c1, [], vs', ⟨s1.lay hD, s1.zno hD, [], upd_same, .nil⟩, by simpa using hl, rfl⟩, ?_⟩
    rintro i m H2 ⟨rfl, hi', Z2, c2, acc, rest, a2, hr, hv⟩
    have s2 : SR K ((g.z Z1).z Z2) H2 σ ρ c2 := s1.next a2.n
    have sg : StayG G Z1 Z2 H1 H2 := ⟨s1.stay a2.n, fun a u e ga => a2.n.keep a u e (hG a ga).1⟩
    by_cases hlt : i < ds.length
    · have hd : ds[i]? = some ds[i] := List.getElem?_eq_getElem hlt
      obtain ⟨hgo, hy⟩ := it.go Z2 H2 sg i _ hd
      refine .inr ⟨hgo, fun H' => ∃ Z2 c2 acc rest, AccR K g.κ Z1 H1 D c2 Z2 H' acc ∧ loopC2 vs1 t tc mi1 t1 tc1 te (wipeE ρ vs) (ds.drop (i + 1)) c2 = .ok rest c' ∧ vs' = acc ++ rest,
        fun H' q => ⟨ds.length - (i + 1), by omega, rfl, hlt, q⟩, fun x H3 y3 => ?_⟩
      obtain ⟨h3, rp⟩ := hy x H3 y3
      have n3 : Nxt g.κ Z2 H2 c2 Z2 H3 := by
        rcases h3 with h3 | ⟨p, ys, hp, h3⟩
        · subst h3; exact s2.rf
        · subst h3; exact s2.lay hp
      have s3 : SR K (((g.z Z1).z Z2).z Z2) H3 σ ρ c2 := s2.next n3
      have a3 : AccR K g.κ Z1 H1 D c2 Z2 H3 acc := a2.next s2 rfl rfl hDk s1.kt n3
      obtain ⟨g4, s4, z4, b4, k4, o4⟩ := s3.wipe vs
      have z4 : g4.Z = Z2 := z4
      have k4 : g4.κ = g.κ := k4
      have b4 : g4.B = g.B := b4
      rw [List.drop_eq_getElem_cons hlt] at hr
      unfold loopC2 at hr
      obtain ⟨ρ2, c4, e10, hr1⟩ := bnd_inv hr
      clear hr
      obtain ⟨e1, hc4⟩ := lft_inv e10
      rw [hc4] at hr1
      obtain ⟨b, c5, e20, hr2⟩ := bnd_inv hr1
      have e2 := ne_ok e20
      refine ⟨g4, wipeE ρ vs, c2, ds[i], ρ2, s4, by rw [z4]; exact rp, e1, fun σ2 g5 s5 z5 b5 k5 o5 l5 a5 => ⟨wipe_again l5 a5 hi, ?_⟩⟩
      have z5 : g5.Z = Z2 := z5.trans z4
      have k5 : g5.κ = g.κ := k5.trans k4
      have b5 : g5.B = g.B := b5.trans b4
      have o5 : ∀ i a, a ∈ g5.o i → a ∈ g.o i := fun i a h => o4 i a (o5 i a h)
      refine ⟨g5, ρ2, c2, s5, ?_⟩
      rw [e2]
      intro H4 Z4 n4
      rw [z5, k5] at n4
      have a4 : AccR K g.κ Z1 H1 D c5 Z4 H4 acc := a3.next s3 rfl rfl hDk s1.kt n4
      cases b with
      | false =>
        rw [if_neg (by simp)] at hr2 ⊢
        exact ⟨Z4, c5, acc, rest, a4, hr2, hv⟩
      | true =>
        rw [if_pos rfl] at hr2 ⊢
        obtain ⟨ds1, c6, e30, hr3⟩ := bnd_inv hr2
        have e3 := ne_ok e30
        obtain ⟨vr, c7, e4, hr4⟩ := bnd_inv hr3
        obtain ⟨ws, c8, e5, hr5⟩ := bnd_inv hr4
        obtain ⟨hrest, hc8⟩ := ret_inv hr5
        rw [hrest] at hv
        rw [← hc8] at e5
        have s6 : SR K (g5.z Z4) H4 σ2 ρ2 c5 := s5.next (by rw [z5, k5]; exact n4)
        refine ⟨g5.z Z4, ρ2, c5, s6, ?_⟩
        rw [e3]
        intro H5 Z5 n5 J1 G1 hG1 it1
        have n5 : Nxt g.κ Z4 H4 c6 Z5 H5 := by
          have q : Nxt g5.κ Z4 H4 c6 Z5 H5 := n5
          rw [k5] at q; exact q
        have a5 : AccR K g.κ Z1 H1 D c6 Z5 H5 acc := a4.next s6 rfl k5 hDk s1.kt n5
        have s7 : SR K ((g5.z Z4).z Z5) H5 σ2 ρ2 c6 := s6.next (by show Nxt g5.κ _ _ _ _ _; rw [k5]; exact n5)
        have hl2 := congrArg List.length hv
        rw [List.length_append, List.length_append] at hl2
        exact inner_turns hD hDk s1.kt s7 rfl k5 (by show ¬ g5.B D; rw [b5]; exact hDo.1) (fun i h => hDo.2.2 i (o5 i D h)) a5 (fun a ga => ⟨by have := (hG1 a ga).1; exact fun z => this (by show g5.κ = _; rw [k5]; exact z), (hG1 a ga).2⟩) it1 hi1 e4 (by omega) fun Z H' a => ⟨Z, c7, acc ++ vr, ws, a, e5, by rw [hv]; simp⟩
    · have e : i = ds.length := by omega
      subst e
      rw [List.drop_length] at hr
      obtain ⟨rfl, rfl⟩ := ret_inv hr
      rw [List.append_nil] at hv
      subst hv
      obtain ⟨xs, ex, rx⟩ := a2.ex
      exact .inl ⟨it.stop Z2 H2 sg _ (Nat.le_refl _), fin _ H2 Z2 a2.n ⟨D, xs, _, rfl, rfl, hD, a2.z, ex, rx⟩⟩
section
variable {X : Cx} {W : Nat → Hp → Prop} {pos : Pos} {elt tg iter tg1 iter1 : Expr} {ifs ifs1 : List Expr} {scope : Scope} {own : List (Str × Nat)} {vs1 : List Nat} {kf : Fv} {mi mi1 : MI} {t t1 : Tg} {tc tc1 : E → M Bool} {te : ME}
theorem pm_lc2 (vs1 : List Nat) (hc : X.calm = true) (hN : X.N.Nodup) (hk : kf = .val ∨ kf = .bor) (hi : PIm X W kf tg iter mi) (ok : BlkOk X.N X.env.scope scope own) (hix : ∀ j ∈ t.ix, j ∈ own.map (·.2)) (hv : ∀ i ∈ vs1, i ∈ own.map (·.2)) (hix1 : ∀ j ∈ t1.ix, j ∈ vs1)
    (hg : ∀ (s : Shared) (H : Hp) (C : Addr) (cl : List (Str × Addr)) (fp : List Addr), PGm (X.blk s H scope (compEnvC scope cl C X.env) fp) tg t)
    (ht : ∀ (s : Shared) (H : Hp) (C : Addr) (cl : List (Str × Addr)) (fp : List Addr), PTsm (X.blk s H scope (compEnvC scope cl C X.env) fp) W0 ifs tc)
    (hi1 : ∀ (s : Shared) (H : Hp) (C : Addr) (cl : List (Str × Addr)) (fp : List Addr), PIm (X.blk s H scope (compEnvC scope cl C X.env) fp) W0 .val tg1 iter1 mi1)
    (hg1 : ∀ (s : Shared) (H : Hp) (C : Addr) (cl : List (Str × Addr)) (fp : List Addr), PGm (X.blk s H scope (compEnvC scope cl C X.env) fp) tg1 t1)
    (ht1 : ∀ (s : Shared) (H : Hp) (C : Addr) (cl : List (Str × Addr)) (fp : List Addr), PTsm (X.blk s H scope (compEnvC scope cl C X.env) fp) W0 ifs1 tc1)
    (he : ∀ (s : Shared) (H : Hp) (C : Addr) (cl : List (Str × Addr)) (fp : List Addr), PM (X.blk s H scope (compEnvC scope cl C X.env) fp) W0 .val elt te) (hs : ∀ x, foldedSetIterable iter X.env x = pure x := by intro _; rfl) (hs1 : ∀ env x, foldedSetIterable iter1 env x = pure x := by intro _ _; rfl) :
    PM X W .frs (.ListComp elt [⟨tg, iter, ifs, 0⟩, ⟨tg1, iter1, ifs1, 0⟩] scope pos) (eComp2 (own.map (·.2)) vs1 mi t tc mi1 t1 tc1 te) :=
  PE.imp (pe_lc2 hc hN hi ok hv hg ht hi1 hg1 ht1 he hs hs1) fun _ _ _ h => lc2_read hk hix hix1 h
end
end PV

namespace PV
open PySem PySem.Spec PyProof.Rows L2
theorem boot_len : bootBuiltins "len" = some (.builtin "len") := by decide +kernel
theorem boot_int : bootBuiltins "int" = some (.type "int") := by decide +kernel
theorem boot_abs : bootBuiltins "abs" = some (.builtin "abs") := by decide +kernel
theorem boot_list : bootBuiltins "list" = some (.type "list") := by decide +kernel
theorem boot_tuple : bootBuiltins "tuple" = some (.type "tuple") := by decide +kernel
theorem boot_sum : bootBuiltins "sum" = some (.builtin "sum") := by decide +kernel
theorem boot_all : bootBuiltins "all" = some (.builtin "all") := by decide +kernel
theorem boot_any : bootBuiltins "any" = some (.builtin "any") := by decide +kernel
theorem boot_max : bootBuiltins "max" = some (.builtin "max") := by decide +kernel
theorem boot_min : bootBuiltins "min" = some (.builtin "min") := by decide +kernel
theorem boot_bool : bootBuiltins "bool" = some (.type "bool") := by decide +kernel
theorem boot_str : bootBuiltins "str" = some (.type "str") := by decide +kernel
theorem boot_dict : bootBuiltins "dict" = some (.type "dict") := by decide +kernel
theorem u65 {k : Nat} {A : Around} (hr : Room k A) : A.units + 65 < cLine := by
  have := hr.un
  omega
theorem _root_.L2.Room.u65 {k : Nat} {A : Around} (hr : Room k A) : A.units + 65 < cLine := PV.u65 hr
structure Df (K : PySem.W.Frag) (mg : Str → Option Value) (x : Str) (st : Stmt) (ps : List Str) : Prop where
  ex : ∃ (a : Addr) (fd : FuncData), L2.Fun K x x st a fd ∧ mg x = some (.ref a) ∧ Binds K fd ps []
section
variable {P : Program} {w : World} {K : PySem.W.Frag} {mg : Str → Option Value} {base : Heap} {x : Str} {st : Stmt} {N ps : List Str} {k n j : Nat} {mb : MS}
theorem mkV (d : Df K mg x st ps) (S : FnScope N ps (L2.defScope st)) (hn : ps.length = n) (hj : N.length - n = j)
    (hb : ∀ (f : Addr) (cdv : Value) (A : Around) (outer : List Env) (s : Shared) (H : Hp) (E : XK), Room k (A.deeper (envOfC x (L2.defScope st) s.heap.objs.size f cdv)) → PSsm (cxOf L2.CX0 P w K mg base N x (L2.defScope st) f cdv A outer s H E).nox .val W0 (L2.defBody st) mb) :
    Cl P w K mg base (k + 1) x .val n (fnV n j mb) := by
  obtain ⟨a, fd, F, hm, b⟩ := d.ex
  exact ⟨a, fd, ps, ok_fnV F S hn hj (hb a), hm, F.kp, b⟩
theorem mkF (d : Df K mg x st ps) (S : FnScope N ps (L2.defScope st)) (hn : ps.length = n) (hj : N.length - n = j)
    (hb : ∀ (f : Addr) (cdv : Value) (A : Around) (outer : List Env) (s : Shared) (H : Hp) (E : XK), Room k (A.deeper (envOfC x (L2.defScope st) s.heap.objs.size f cdv)) → PSsm (cxOf L2.CX0 P w K mg base N x (L2.defScope st) f cdv A outer s H E).nox .frs W0 (L2.defBody st) mb) :
    Cl P w K mg base (k + 1) x .frs n (fnF n j mb) := by
  obtain ⟨a, fd, F, hm, b⟩ := d.ex
  exact ⟨a, fd, ps, ok_fnF F S hn hj (hb a), hm, F.kp, b⟩
theorem mk0 {kr : Kn} (d : Df K mg x st ps) (hn : ps.length = n) : Cl P w K mg base k x kr n (fun _ => stuck) := by
  obtain ⟨a, fd, F, hm, b⟩ := d.ex
  exact ⟨a, fd, ps, ⟨fun vs H Q E h => h.1.trans hn.symm, fun A outer s H args us vs Q E hr he hb hv h => by
    obtain ⟨_, _, _, _, _, _, _, _, o⟩ := h
    exact o.elim⟩, hm, F.kp, b⟩
end
/-- .. by way of a tuple -/
theorem par_readT {K : PySem.W.Frag} {kr : Kn} {W : Nat → Hp → Prop} {mk : MK} {D : Ends} {is : List Nat} {σ : L2.St} {H : Hp} (h : tS K kr W (sPar is mk) D σ H) :
    tK K bOwn W mk σ H fun vs H1 => vs.length = is.length ∧ ∀ p, H1 p = none → D.nx ((is.zip vs).foldl (fun s p => s.set p.1 (some p.2)) σ) (upd H1 p (.tup vs)) := by
  obtain ⟨g, ρ, c, s, o⟩ := h
  change OutS K kr W g H (bnd (mk ρ) (fun ss => bnd (lft (setAll is ss ρ)) fun ρ' => ret (.nx ρ')) c) D at o
  refine ⟨g, ρ, c, s, ?_⟩
  rw [bnd_app] at o
  cases q : mk ρ c with
  | no => rw [q] at o; exact o
  | err e c1 => rw [q] at o; exact fun H1 Z1 n => o H1 Z1 (s.nxR n)
  | ok ss c1 =>
    rw [q] at o
    intro xs H1 Z1 O n r
    obtain ⟨ρ2, e, o1⟩ := OutS.lft o
    have hl : ∀ (is : List Nat) (ss : List Slot) (ρ ρ2 : E), setAll is ss ρ = some ρ2 → ss.length = is.length := by
      intro is
      induction is with
      | nil => intro ss ρ ρ2 h; cases ss with | nil => rfl | cons _ _ => simp [setAll] at h
      | cons i is ih => intro ss ρ ρ2 h; cases ss with | nil => simp [setAll] at h | cons _ _ => simp only [setAll] at h; rw [List.length_cons, List.length_cons, ih _ _ _ h]
    obtain ⟨g2, s2, z2, b2, k2, f2⟩ := setAll_ok n (fun a h => s.zb h) r e (s.next n) rfl rfl rfl fun i a h => ⟨fun q => (s.zb (r.fresh a q).1).2.2 i h, .inr ⟨i, h⟩⟩
    have nn : NxS g H g2 H1 := ⟨fun a u e k _ => n.keep a u e k, k2, b2, fun a z => by rw [z2]; exact n.z a z, fun a z => by rw [z2] at z; exact (n.zn a z).elim .inl fun q => .inr (.inl q), f2⟩
    refine ⟨by rw [r.length, hl _ _ _ _ e], fun p hp => ?_⟩
    have n2 : Nxt g2.κ g2.Z H1 c1 g2.Z (upd H1 p (.tup xs)) := s2.lay hp
    exact o1 _ _ (g2.z g2.Z) (nn.trans (s2.nxS n2) s2.kt) (s2.next n2)
section
variable {X : Cx} {kr : Kn} {W : Nat → Hp → Prop} {a b d : Expr} {mk : MK} {pos : Pos}
theorem psm_parT2 (i j : Nat) {x y : Str} {px py pt : Pos} {kt k2 pt2} (hc : X.calm = true) (hN : X.N.Nodup) (ha : PKm X bOwn W [a, b] mk) (hi : X.N[i]? = some x := by rfl) (hj : X.N[j]? = some y := by rfl)
    (hx : Loc X.env.scope x := by first | exact Or.inl rfl | exact Or.inr rfl) (hf : X.fn x = true ∨ X.env.scope.names.lookup x = some .local := by first | exact .inl rfl | exact .inr rfl) (hy : Loc X.env.scope y := by first | exact Or.inl rfl | exact Or.inr rfl) (hf2 : X.fn y = true ∨ X.env.scope.names.lookup y = some .local := by first | exact .inl rfl | exact .inr rfl)
    (hs : swapsWithSole [.Tuple [.Name x px, .Name y py] kt pt] (.Tuple [a, b] k2 pt2) pos.line X.env = pure false := by rfl) (hw : swappedStores [.Tuple [.Name x px, .Name y py] kt pt] (.Tuple [a, b] k2 pt2) X.env = pure none := by rfl)
    (h1 : (assignEach [.Tuple [.Name x px, .Name y py] kt pt] X.env).map (·.2) = [assign (.Tuple [.Name x px, .Name y py] kt pt) X.env] := by rfl)
    (s1 : (assignEach [.Name x px, .Name y py] X.env).map (·.2) = assign (.Name x px) X.env :: (assignEach [.Name y py] X.env).map (·.2) := by rfl) (s2 : (assignEach [.Name y py] X.env).map (·.2) = assign (.Name y py) X.env :: (assignEach [] X.env).map (·.2) := by rfl)
    (hn : (assignEach [.Name x px, .Name y py] X.env).length = 2 := by rfl) (hst : (assignEach [.Name x px, .Name y py] X.env).findIdx? (·.1) = none := by rfl) :
    PSm X kr W (.Assign [.Tuple [.Name x px, .Name y py] kt pt] (.Tuple [a, b] k2 pt2) pos) (sPar [i, j] mk) :=
  PS.imp (ps_asg (pe_tup ha) (pg_tup hc (pgs_cons (pg_name hN hi hx hf) (pgs_cons (pg_name hN hj hy hf2) pgs_nil s2) s1) hn hst) hs hw h1) fun D σ H h => by
  obtain ⟨g, ρ, c, s, o⟩ := par_readT h
  refine ⟨g, ρ, c, s, ?_⟩
  generalize mk ρ c = r at o
  cases r with
  | ok ss c' =>
    intro xs H' Z' O n p
    obtain ⟨hl, q⟩ := o xs H' Z' O n p
    match xs, hl with
    | [v, w], _ => exact ⟨by show 2 ≤ sizeLine; decide, fun p hp => ⟨p, [v, w], rfl, .inl (.inl upd_same), rfl, v, [w], rfl, w, [], rfl, rfl, q p hp⟩⟩
  | err e c' => exact o
  | no => exact o
end
section
variable {X : Cx} {W : Nat → Hp → Prop} {a : Expr} {es : List Expr} {ma : ME} {mk : MK}
theorem kA (ha : PM X W0 .val a ma) (hr : PKm X bAll W0 es mk) (hs : starEach (a :: es) X.env = (false, eval a X.env) :: starEach es X.env := by rfl) : PKm X bAll W0 (a :: es) (kCons .val ma mk) := pkm_cons (k := .val) (hB := by intros; rfl) ha hr hs
theorem kC (i : Nat) {z : Str} {p : Pos} (hr : PKm X bAll W0 es mk) (hN : X.N[i]? = some z := by rfl) (hv : Vis X.env.scope z := by first | exact Or.inl rfl | exact Or.inr (Or.inl rfl) | exact Or.inr (Or.inr rfl)) (hd : (z == ("__debug__" : Str)) = false := by decide)
    (hcd : (z == ("__classdict__" : Str)) = false := by decide) (hs : starEach (.Name z p :: es) X.env = (false, eval (.Name z p) X.env) :: starEach es X.env := by rfl) : PKm X bAll W0 (.Name z p :: es) (kCup i mk) := pkm_cup i (hB := by intros; rfl) hr hN hv hd hcd hs
theorem kV (ha : PM X W .val a ma) (hr : PKm X bOwn W es mk) (hs : starEach (a :: es) X.env = (false, eval a X.env) :: starEach es X.env := by rfl) : PKm X bOwn W (a :: es) (kCons .val ma mk) := pkm_cons (k := .val) (hB := by intros; rfl) ha hr hs
theorem kF (ha : PM X W .frs a ma) (hr : PKm X bOwn W es mk) (hs : starEach (a :: es) X.env = (false, eval a X.env) :: starEach es X.env := by rfl) : PKm X bOwn W (a :: es) (kCons .frs ma mk) := pkm_cons (k := .frs) (hB := by intros; rfl) ha hr hs
theorem pm_callV {k j n : Nat} {x : Str} {f : List Slot → M D} {p pos : Pos} (F : Cl X.prog X.w X.K X.mg X.base k x .val n f) (af : ArgF n f) (hr : Room j X.A) (hk : k ≤ j) (hg : Gl X x) (ha : PKm X bAll W0 (a :: es) mk)
    (hdb : (x == ("__debug__" : Str)) = false := by decide) (he : starEach (a :: es) X.env = (false, eval a X.env) :: starEach es X.env := by rfl) (hpl : (backTo pos (starEach es X.env)).any (·.1) = false := by rfl) :
    PM X W0 .val (.Call (.Name x p) (a :: es) [] pos) (eCall f mk) := pm_call F af hr hk hg ha hdb he hpl
theorem pm_callV0 {k j n : Nat} {x : Str} {f : List Slot → M D} {p pos : Pos} (F : Cl X.prog X.w X.K X.mg X.base k x .val n f) (af : ArgF n f) (hr : Room j X.A) (hk : k ≤ j) (hg : Gl X x)
    (hdb : (x == ("__debug__" : Str)) = false := by decide) : PM X W0 .val (.Call (.Name x p) [] [] pos) (eCall f kNil) := pm_call0 F af hr hk hg hdb
theorem pm_callF {k j n : Nat} {x : Str} {f : List Slot → M D} {p pos : Pos} (F : Cl X.prog X.w X.K X.mg X.base k x .frs n f) (af : ArgF n f) (hr : Room j X.A) (hk : k ≤ j) (hg : Gl X x) (ha : PKm X bAll W0 (a :: es) mk)
    (hdb : (x == ("__debug__" : Str)) = false := by decide) (he : starEach (a :: es) X.env = (false, eval a X.env) :: starEach es X.env := by rfl) (hpl : (backTo pos (starEach es X.env)).any (·.1) = false := by rfl) :
    PM X W0 .frs (.Call (.Name x p) (a :: es) [] pos) (eCall f mk) := pm_call F af hr hk hg ha hdb he hpl
theorem pm_callF0 {k j n : Nat} {x : Str} {f : List Slot → M D} {p pos : Pos} (F : Cl X.prog X.w X.K X.mg X.base k x .frs n f) (af : ArgF n f) (hr : Room j X.A) (hk : k ≤ j) (hg : Gl X x)
    (hdb : (x == ("__debug__" : Str)) = false := by decide) : PM X W0 .frs (.Call (.Name x p) [] [] pos) (eCall f kNil) := pm_call0 F af hr hk hg hdb
end
theorem argF_0 {n : Nat} : ArgF n (fun _ => stuck) := ⟨fun _ _ => rfl, fun _ _ => rfl⟩
end PV

namespace PV
open PySem PySem.Spec PyProof.Rows L2
/-- list(script) -/
def eScr (i : Nat) : ME := fun ρ => match Slot.at ρ i with
  | .scr ns => ret (.list (ns.map PyData.int))
  | _ => stuck
def kScr (i : Nat) (r : MK) : MK := fun ρ => match Slot.at ρ i with
  | .scr ns => bnd (r ρ) fun ss => ret (.scr ns :: ss)
  | _ => stuck
section
variable {X : Cx} {W : Nat → Hp → Prop} {pos p p2 : Pos} {es : List Expr} {mk : MK} {z : Str}
theorem pm_scr (i : Nat) (hg : Gl X "list") (hm : X.mg "list" = none) (hN : X.N[i]? = some z := by rfl) (hv : Vis X.env.scope z := by first | exact Or.inl rfl | exact Or.inr (Or.inl rfl) | exact Or.inr (Or.inr rfl)) (hd : (z == ("__debug__" : Str)) = false := by decide)
    (hcd : (z == ("__classdict__" : Str)) = false := by decide) (he : starEach [.Name z p2] X.env = (false, eval (.Name z p2) X.env) :: starEach [] X.env := by rfl) :
    PM X W .frs (.Call (.Name "list" p) [.Name z p2] [] pos) (eScr i) := PE.imp (pe_callTy call_list_of hg hm boot_list (pa_cons (pe_var hN hv hd hcd) pa_nil he) (by decide) (by decide) he) fun σ H Q ⟨g, ρ, c, s, o⟩ => by
  have q := s.sl i
  unfold eScr at o
  generalize hx : σ.getD i none = vv at q
  generalize hO : g.o i = oo at q
  generalize hsl : Slot.at ρ i = sl at q o
  cases q with
  | scr hs => exact ⟨_, getD_some hx, _, _, rfl, .inl hs.sq, fin_frs s (RpA.ints _) o⟩
  | no => exact o.elim
  | sh r => exact o.elim
  | cup _ => exact o.elim
  | bl hb e r => exact o.elim
  | bd hb e q r => exact o.elim
  | oll _ _ => exact o.elim
  | od e q r => exact o.elim
  | ol _ _ => exact o.elim
theorem kS (i : Nat) (hr : PKm X bAll W0 es mk) (hN : X.N[i]? = some z := by rfl) (hv : Vis X.env.scope z := by first | exact Or.inl rfl | exact Or.inr (Or.inl rfl) | exact Or.inr (Or.inr rfl)) (hd : (z == ("__debug__" : Str)) = false := by decide)
    (hcd : (z == ("__classdict__" : Str)) = false := by decide) (hs : starEach (.Name z p :: es) X.env = (false, eval (.Name z p) X.env) :: starEach es X.env := by rfl) : PKm X bAll W0 (.Name z p :: es) (kScr i mk) :=
  PA.imp (pa_cons (pe_var hN hv hd hcd) hr hs) fun σ H Q ⟨g, ρ, c, s, o⟩ => by
  have q := s.sl i
  unfold kScr at o
  generalize hx : σ.getD i none = vv at q
  generalize hO : g.o i = oo at q
  generalize hsl : Slot.at ρ i = sl at q o
  cases q with
  | @scr a ns hs =>
    refine ⟨_, getD_some hx, g, ρ, c, s, ?_⟩
    have o : OutK X.K (bAll g) W0 g H (bnd (mk ρ) (fun ss => ret (.scr ns :: ss)) c) Q := o
    rw [bnd_app] at o
    cases q2 : mk ρ c with
    | no => rw [q2] at o; exact o
    | err e c2 => rw [q2] at o; exact o
    | ok ss c2 =>
      rw [q2] at o
      intro xs H2 Z2 O n2 r2
      refine o (_ :: xs) H2 Z2 ([] ++ O) n2 (.cons (.scr ?_) List.nodup_nil (fun _ h => nomatch h) (fun _ h => nomatch h) r2)
      rcases hs with ⟨hb, q | ⟨u, q⟩⟩ | q
      · have k : g.κ ≠ some a := fun k => (s.kz _ k).2 hb
        have e2 := n2.keep _ _ q k
        exact .inl ⟨⟨by rw [e2]; simp, k⟩, .inl e2⟩
      · have k : g.κ ≠ some a := fun k => (s.kz _ k).2 hb
        have e2 := n2.keep _ _ q k
        exact .inl ⟨⟨by rw [e2]; simp, k⟩, .inr ⟨u, e2⟩⟩
      · exact .inr q
  | no => exact o.elim
  | sh r => exact o.elim
  | cup _ => exact o.elim
  | bl hb e r => exact o.elim
  | bd hb e q r => exact o.elim
  | oll _ _ => exact o.elim
  | od e q r => exact o.elim
  | ol _ _ => exact o.elim
end
/-- a list of two whole numbers becomes the cup -/
def two? : D → Option (Int × Int)
  | .list [.int x, .int y] => some (x, y)
  | _ => none
theorem two_inv {d : D} {p : Int × Int} (h : two? d = some p) : d = .list [.int p.1, .int p.2] := by
  unfold two? at h
  split at h
  · cases h; rfl
  · cases h
def fill (i : Nat) (ρ : E) (d : D) : M Fl := fun c => match two? d, c with
  | some p, none => .ok (.nx (ρ.set i .cup)) (some p)
  | _, _ => .no
def sNew (i : Nat) (e : ME) : MS := fun ρ => bnd (e ρ) (fill i ρ)
theorem fill_inv {i : Nat} {ρ : E} {d : D} {k : Fl → M Fl} {c c' : Cup} {r : Fl} (h : bnd (fill i ρ d) k c = .ok r c') : ∃ x y, d = .list [.int x, .int y] ∧ c = none ∧ k (.nx (ρ.set i .cup)) (some (x, y)) = .ok r c' := by
  obtain ⟨a, c1, e1, e2⟩ := bnd_inv h
  unfold fill at e1
  cases q : two? d with
  | none => rw [q] at e1; cases e1
  | some p =>
    rw [q] at e1
    cases c with
    | some _ => cases e1
    | none =>
      cases e1
      exact ⟨p.1, p.2, two_inv q, rfl, e2⟩
def tL (K : PySem.W.Frag) (m : MS) : TS := fun D σ H => ∃ g ρ c c', SR K g H σ ρ c ∧ m ρ c = .ok (.rt (.bool true)) c' ∧ ∀ H', D.rt (.bl true) H'
section
variable {X : Cx} {st : Stmt} {rest : List Stmt} {ms mr : MS}
theorem law_end (h : PSsm X .val W0 rest mr) : PSs X rest (tL X.K mr) := PSs.imp h fun D σ H ⟨g, ρ, c, c', s, e, d⟩ => ⟨g, ρ, c, s, by
  rw [e]
  intro x H' Z' n r
  cases r
  exact d H'⟩
theorem law_step (h : PSm X .val W0 st ms) (hr : PSs X rest (tL X.K mr)) : PSs X (st :: rest) (tL X.K (sSeq ms mr)) := PSs.imp (pss_cons h hr) fun D σ H ⟨g, ρ, c, c', s, e, d⟩ => by
  refine ⟨g, ρ, c, s, ?_⟩
  change bnd (ms ρ) (andThen mr) c = _ at e
  rw [bnd_app] at e
  cases q : ms ρ c with
  | no => rw [q] at e; cases e
  | err _ _ => rw [q] at e; cases e
  | ok f c1 =>
    rw [q] at e
    cases f with
    | nx ρ' => exact fun σ' H' g' n s' => ⟨g', ρ', c1, c', s', e, d⟩
    | rt v =>
      have e : R.ok (Fl.rt v) c1 = .ok (.rt (.bool true)) c' := e
      cases e
      intro x H' Z' n r
      cases r
      exact d H'
theorem law_cup (i : Nat) {z : Str} {pz pos : Pos} {e : Expr} {me : ME} (hN : X.N.Nodup) (he : PM X W0 .frs e me) (hr : PSs X rest (tL X.K mr)) (hi : X.N[i]? = some z := by rfl) (hx : Loc X.env.scope z := by first | exact Or.inl rfl | exact Or.inr rfl) (hs : swapsWith e (some (.Name z pz)) pos.line X.env = pure false := by rfl)
    (hf : X.fn z = true ∨ X.env.scope.names.lookup z = some .local := by first | exact .inl rfl | exact .inr rfl) : PSs X (.Assign [.Name z pz] e pos :: rest) (tL X.K (sSeq (sNew i me) mr)) :=
  PSs.imp (pss_cons (ps_set hN hi hx he hs hf) hr) fun D σ H ⟨g, ρ, c, c', s, e, d⟩ => by
  refine ⟨g, ρ, c, s, ?_⟩
  change bnd (bnd (me ρ) (fill i ρ)) (andThen mr) c = _ at e
  rw [bnd_assoc, bnd_app] at e
  cases q : me ρ c with
  | no => rw [q] at e; cases e
  | err _ _ => rw [q] at e; cases e
  | ok v c1 =>
    rw [q] at e
    intro x H1 Z1 n1 r1
    obtain ⟨p, xs, ds, rfl, rfl, h0, nz, hp, ra⟩ := r1
    have s1 := s.next n1
    obtain ⟨x, y, heq, rfl, e⟩ := fill_inv e
    cases heq
    have cu := s1.cup
    have k0 : g.κ = none := by
      cases k : g.κ with
      | none => rfl
      | some a =>
        have cu : CupR g.κ H1 none := cu
        rw [k] at cu
        obtain ⟨_, _, e, _⟩ := cu
        cases e
    cases ra with
    | cons r1 ra =>
      cases ra with
      | cons r2 ra =>
        cases ra
        cases r1
        cases r2
        have hB : ¬ g.B p := (s.zb h0).1
        have ho : ∀ j, p ∉ g.o j := (s.zb h0).2.2
        -- the same names with the new cup beside
        have s2 : SR X.K { g.z Z1 with κ := some p } H1 σ ρ (some (x, y)) := {
          len := s1.len
          sl := fun j => by
            have q := s1.sl j
            rw [show (g.z Z1).κ = none from k0] at q
            show SlR X.K H1 Z1 g.B (some p) _ _ _
            revert q
            show SlR X.K H1 Z1 g.B none _ _ (g.o j) → SlR X.K H1 Z1 g.B (some p) _ _ (g.o j)
            generalize Slot.at ρ j = sl
            generalize σ.getD j none = vv
            generalize g.o j = oo
            intro q
            cases q with
            | no => exact .no
            | sh r => exact .sh r
            | cup k => cases k
            | bl hb e r => exact .bl hb e r
            | scr h => exact .scr h
            | bd hb e q r => exact .bd hb e q r
            | ol e r => exact .ol e r
            | oll e r => exact .oll e r
            | od e q r => exact .od e q r
          nd := s1.nd
          dj := s1.dj
          fr := fun j a h => ⟨(s1.fr j a h).1, (s1.fr j a h).2.1, fun k => ho j (by cases k; exact h)⟩
          cup := ⟨x, y, rfl, hp⟩
          kz := fun a k => by cases k; exact ⟨nz, hB⟩
          zh := s1.zh }
        obtain ⟨g3, s3, _⟩ := s2.put0 (i := i) (v := some (.ref p)) (sl := .cup) (.cup rfl)
        exact ⟨g3, _, _, c', s3, e, d⟩
end
def spLawS (K : PySem.W.Frag) : Sp := fun vs H Q _ => ∃ (a : Addr) (ns : List Int), vs = [.ref a] ∧ SqL K H a (ns.map V.int) ∧ ns.length ≤ 63 ∧ ∀ H', Q (.bl true) H'
section
variable {P : Program} {w : World} {K : PySem.W.Frag} {mg : Str → Option Value} {base : Heap}
theorem ok_law {x : Str} {st : Stmt} {f : Addr} {fd : FuncData} {N ps : List Str} {k j : Nat} {mb : MS} (F : L2.Fun K x x st f fd) (S : FnScope N ps (L2.defScope st)) (hn : ps.length = 1) (hj : N.length - 1 = j)
    (hb : ∀ (cdv : Value) (A : Around) (outer : List Env) (s : Shared) (H : Hp) (E : XK), Room k (A.deeper (envOfC x (L2.defScope st) s.heap.objs.size f cdv)) → PSs (cxOf L2.CX0 P w K mg base N x (L2.defScope st) f cdv A outer s H E).nox (L2.defBody st) (tL K mb))
    (hm : ∀ ns : List Int, ns.length ≤ 63 → ∃ c', mb (.scr ns :: List.replicate j Slot.no) none = .ok (.rt (.bool true)) c') :
    FnOk P w K mg base L2.CX0 (k + 1) f fd ps (spLawS K) := by
  refine F.ok S (fun vs H Q E h => by obtain ⟨_, _, rfl, _⟩ := h; exact hn.symm) fun cdv A outer s H vs Q E hr h => ?_
  obtain ⟨a, ns, rfl, hq, hl, d⟩ := h
  obtain ⟨c', e⟩ := hm ns hl
  refine ⟨_, hb cdv A outer s H E hr, ?_⟩
  refine ⟨⟨fun _ => False, fun b => b = a ∧ H b ≠ none, none, fun _ => []⟩, _, none, c', ?_, e, d⟩
  have ha : ArgR K H (fun _ => False) (fun b => b = a ∧ H b ≠ none) none [.ref a] [.scr ns] := .cons (.scr (by
    rcases hq with q | q
    · refine .inl ⟨⟨rfl, ?_⟩, q⟩
      rcases q with q | ⟨u, q⟩ <;> (rw [q]; simp)
    · exact .inr q)) .nil
  exact SR.start (g := ⟨fun _ => False, fun b => b = a ∧ H b ≠ none, none, fun _ => []⟩) ha hj rfl (fun _ k => nomatch k) fun a z => z.elim (fun z => z.elim) fun z => z.2
end
theorem df_mk {K : PySem.W.Frag} {h : Heap} {mg : Str → Option Value} {x : Str} {st : Stmt} {ps : List Str} {a : Addr} {od an : Option Addr} {sl : Array (Option Value)} {oc kV dc pm cd ct : Value} (X : K.In h) (G : h.Ns mainGlobals mg) (e : PySem.W.nsIn K mainGlobals x = some (some (.ref a)))
    (l : K.lookup a = some ⟨oc, od, .func (PySem.W.fnOf x x (L2.defArgs st) (L2.defBody st) (L2.defScope st) .none kV dc pm an cd ct), sl⟩) (c : PySem.W.codeIn K cd x = true) (k : PySem.W.keepIn K (.ref a) = true)
    (hb : ∀ (kV doc pm : Value) (an : Option Addr) (cdv ct : Value) (us : List Value), us.length = ps.length → bindArgs (PySem.W.fnOf x x (L2.defArgs st) (L2.defBody st) (L2.defScope st) .none kV doc pm an cdv ct) ⟨us, []⟩ = pure (ps.zip us)) : Df K mg x st ps :=
  ⟨a, _, L2.fun_mk l c k, PySem.W.mg_of X G e, (L2.fun_mk l c k).binds hb⟩
end PV

namespace PV
open PySem L2
@[simp] theorem isi_int_none  : fIsi "int" (.none : D) = some (.bool false) := by
  show (kitB "NoneType" "int").map PyData.bool = _
  rw [show kitB "NoneType" "int" = some false by decide +kernel]; rfl
@[simp] theorem isi_int_bool (b : Bool) : fIsi "int" (.bool b) = some (.bool true) := by
  show (kitB "bool" "int").map PyData.bool = _
  rw [show kitB "bool" "int" = some true by decide +kernel]; rfl
@[simp] theorem isi_int_int (b : Int) : fIsi "int" (.int b) = some (.bool true) := by
  show (kitB "int" "int").map PyData.bool = _
  rw [show kitB "int" "int" = some true by decide +kernel]; rfl
@[simp] theorem isi_int_str (b : Str) : fIsi "int" (.str b) = some (.bool false) := by
  show (kitB "str" "int").map PyData.bool = _
  rw [show kitB "str" "int" = some false by decide +kernel]; rfl
@[simp] theorem isi_int_list (b : List D) : fIsi "int" (.list b) = some (.bool false) := by
  show (kitB "list" "int").map PyData.bool = _
  rw [show kitB "list" "int" = some false by decide +kernel]; rfl
@[simp] theorem isi_int_tuple (b : List D) : fIsi "int" (.tuple b) = some (.bool false) := by
  show (kitB "tuple" "int").map PyData.bool = _
  rw [show kitB "tuple" "int" = some false by decide +kernel]; rfl
@[simp] theorem isi_int_dict (b : List (D × D)) : fIsi "int" (.dict b) = some (.bool false) := by
  show (kitB "dict" "int").map PyData.bool = _
  rw [show kitB "dict" "int" = some false by decide +kernel]; rfl
@[simp] theorem isi_bool_none  : fIsi "bool" (.none : D) = some (.bool false) := by
  show (kitB "NoneType" "bool").map PyData.bool = _
  rw [show kitB "NoneType" "bool" = some false by decide +kernel]; rfl
@[simp] theorem isi_bool_bool (b : Bool) : fIsi "bool" (.bool b) = some (.bool true) := by
  show (kitB "bool" "bool").map PyData.bool = _
  rw [show kitB "bool" "bool" = some true by decide +kernel]; rfl
@[simp] theorem isi_bool_int (b : Int) : fIsi "bool" (.int b) = some (.bool false) := by
  show (kitB "int" "bool").map PyData.bool = _
  rw [show kitB "int" "bool" = some false by decide +kernel]; rfl
@[simp] theorem isi_bool_str (b : Str) : fIsi "bool" (.str b) = some (.bool false) := by
  show (kitB "str" "bool").map PyData.bool = _
  rw [show kitB "str" "bool" = some false by decide +kernel]; rfl
@[simp] theorem isi_bool_list (b : List D) : fIsi "bool" (.list b) = some (.bool false) := by
  show (kitB "list" "bool").map PyData.bool = _
  rw [show kitB "list" "bool" = some false by decide +kernel]; rfl
@[simp] theorem isi_bool_tuple (b : List D) : fIsi "bool" (.tuple b) = some (.bool false) := by
  show (kitB "tuple" "bool").map PyData.bool = _
  rw [show kitB "tuple" "bool" = some false by decide +kernel]; rfl
@[simp] theorem isi_bool_dict (b : List (D × D)) : fIsi "bool" (.dict b) = some (.bool false) := by
  show (kitB "dict" "bool").map PyData.bool = _
  rw [show kitB "dict" "bool" = some false by decide +kernel]; rfl
@[simp] theorem isi_str_none  : fIsi "str" (.none : D) = some (.bool false) := by
  show (kitB "NoneType" "str").map PyData.bool = _
  rw [show kitB "NoneType" "str" = some false by decide +kernel]; rfl
@[simp] theorem isi_str_bool (b : Bool) : fIsi "str" (.bool b) = some (.bool false) := by
  show (kitB "bool" "str").map PyData.bool = _
  rw [show kitB "bool" "str" = some false by decide +kernel]; rfl
@[simp] theorem isi_str_int (b : Int) : fIsi "str" (.int b) = some (.bool false) := by
  show (kitB "int" "str").map PyData.bool = _
  rw [show kitB "int" "str" = some false by decide +kernel]; rfl
@[simp] theorem isi_str_str (b : Str) : fIsi "str" (.str b) = some (.bool true) := by
  show (kitB "str" "str").map PyData.bool = _
  rw [show kitB "str" "str" = some true by decide +kernel]; rfl
@[simp] theorem isi_str_list (b : List D) : fIsi "str" (.list b) = some (.bool false) := by
  show (kitB "list" "str").map PyData.bool = _
  rw [show kitB "list" "str" = some false by decide +kernel]; rfl
@[simp] theorem isi_str_tuple (b : List D) : fIsi "str" (.tuple b) = some (.bool false) := by
  show (kitB "tuple" "str").map PyData.bool = _
  rw [show kitB "tuple" "str" = some false by decide +kernel]; rfl
@[simp] theorem isi_str_dict (b : List (D × D)) : fIsi "str" (.dict b) = some (.bool false) := by
  show (kitB "dict" "str").map PyData.bool = _
  rw [show kitB "dict" "str" = some false by decide +kernel]; rfl
@[simp] theorem isi_tuple_none  : fIsi "tuple" (.none : D) = some (.bool false) := by
  show (kitB "NoneType" "tuple").map PyData.bool = _
  rw [show kitB "NoneType" "tuple" = some false by decide +kernel]; rfl
@[simp] theorem isi_tuple_bool (b : Bool) : fIsi "tuple" (.bool b) = some (.bool false) := by
  show (kitB "bool" "tuple").map PyData.bool = _
  rw [show kitB "bool" "tuple" = some false by decide +kernel]; rfl
@[simp] theorem isi_tuple_int (b : Int) : fIsi "tuple" (.int b) = some (.bool false) := by
  show (kitB "int" "tuple").map PyData.bool = _
  rw [show kitB "int" "tuple" = some false by decide +kernel]; rfl
@[simp] theorem isi_tuple_str (b : Str) : fIsi "tuple" (.str b) = some (.bool false) := by
  show (kitB "str" "tuple").map PyData.bool = _
  rw [show kitB "str" "tuple" = some false by decide +kernel]; rfl
@[simp] theorem isi_tuple_list (b : List D) : fIsi "tuple" (.list b) = some (.bool false) := by
  show (kitB "list" "tuple").map PyData.bool = _
  rw [show kitB "list" "tuple" = some false by decide +kernel]; rfl
@[simp] theorem isi_tuple_tuple (b : List D) : fIsi "tuple" (.tuple b) = some (.bool true) := by
  show (kitB "tuple" "tuple").map PyData.bool = _
  rw [show kitB "tuple" "tuple" = some true by decide +kernel]; rfl
@[simp] theorem isi_tuple_dict (b : List (D × D)) : fIsi "tuple" (.dict b) = some (.bool false) := by
  show (kitB "dict" "tuple").map PyData.bool = _
  rw [show kitB "dict" "tuple" = some false by decide +kernel]; rfl
@[simp] theorem isi_list_none  : fIsi "list" (.none : D) = some (.bool false) := by
  show (kitB "NoneType" "list").map PyData.bool = _
  rw [show kitB "NoneType" "list" = some false by decide +kernel]; rfl
@[simp] theorem isi_list_bool (b : Bool) : fIsi "list" (.bool b) = some (.bool false) := by
  show (kitB "bool" "list").map PyData.bool = _
  rw [show kitB "bool" "list" = some false by decide +kernel]; rfl
@[simp] theorem isi_list_int (b : Int) : fIsi "list" (.int b) = some (.bool false) := by
  show (kitB "int" "list").map PyData.bool = _
  rw [show kitB "int" "list" = some false by decide +kernel]; rfl
@[simp] theorem isi_list_str (b : Str) : fIsi "list" (.str b) = some (.bool false) := by
  show (kitB "str" "list").map PyData.bool = _
  rw [show kitB "str" "list" = some false by decide +kernel]; rfl
@[simp] theorem isi_list_list (b : List D) : fIsi "list" (.list b) = some (.bool true) := by
  show (kitB "list" "list").map PyData.bool = _
  rw [show kitB "list" "list" = some true by decide +kernel]; rfl
@[simp] theorem isi_list_tuple (b : List D) : fIsi "list" (.tuple b) = some (.bool false) := by
  show (kitB "tuple" "list").map PyData.bool = _
  rw [show kitB "tuple" "list" = some false by decide +kernel]; rfl
@[simp] theorem isi_list_dict (b : List (D × D)) : fIsi "list" (.dict b) = some (.bool false) := by
  show (kitB "dict" "list").map PyData.bool = _
  rw [show kitB "dict" "list" = some false by decide +kernel]; rfl
section
variable {α : Type}
@[simp] theorem bret {α β : Type} (a : α) (k : α → M β) : bnd (ret a) k = k a := rfl
@[simp] theorem bstuck {α β : Type} (k : α → M β) : bnd stuck k = stuck := rfl
@[simp] theorem lsome {α : Type} (a : α) : lft (some a) = ret a := rfl
@[simp] theorem bassoc {α β γ : Type} (m : M α) (k : α → M β) (l : β → M γ) : bnd (bnd m k) l = bnd m fun a => bnd (k a) l := bnd_assoc m k l
@[simp] theorem at0 (s : Slot) (r : E) : Slot.at (s :: r) 0 = s := rfl
@[simp] theorem atS (s : Slot) (r : E) (i : Nat) : Slot.at (s :: r) (i + 1) = Slot.at r i := rfl
@[simp] theorem r_sSeq (a b : MS) (ρ : E) : sSeq a b ρ = bnd (a ρ) (andThen b) := rfl
@[simp] theorem r_nx (b : MS) (ρ : E) : andThen b (.nx ρ) = b ρ := rfl
@[simp] theorem r_rt (b : MS) (d : D) : andThen b (.rt d) = ret (.rt d) := rfl
@[simp] theorem r_sIf (c : E → M Bool) (a b : MS) (ρ : E) : sIf c a b ρ = bnd (c ρ) fun k => if k = true then a ρ else b ρ := rfl
@[simp] theorem r_tst (m : ME) (ρ : E) : tst m ρ = bnd (m ρ) toB := rfl
@[simp] theorem r_toB (b : Bool) : toB (.bool b) = ret b := rfl
@[simp] theorem r_sRet (e : ME) (ρ : E) : sRet e ρ = bnd (e ρ) fun d => ret (.rt d) := rfl
@[simp] theorem r_sRetN (ρ : E) : sRetN ρ = ret (.rt .none) := rfl
@[simp] theorem r_sNil (ρ : E) : sNil ρ = ret (.nx ρ) := rfl
@[simp] theorem r_sExpr (e : ME) (ρ : E) : sExpr e ρ = bnd (e ρ) fun _ => ret (.nx ρ) := rfl
@[simp] theorem r_sAsg (t : Tg) (e : ME) (ρ : E) : sAsg t e ρ = bnd (e ρ) fun d => bnd (lft (t.put d ρ)) fun ρ' => ret (.nx ρ') := rfl
@[simp] theorem r_sSet (k : Kn) (i : Nat) (e : ME) (ρ : E) : sSet k i e ρ = bnd (e ρ) fun d => bnd (lft (slotOf k d)) fun s => ret (.nx (ρ.set i s)) := rfl
@[simp] theorem r_sPar (is : List Nat) (e : MK) (ρ : E) : sPar is e ρ = bnd (e ρ) fun ss => bnd (lft (setAll is ss ρ)) fun ρ' => ret (.nx ρ') := rfl
@[simp] theorem r_sFor (mi : MI) (t : Tg) (b : MS) (ρ : E) : sFor mi t b ρ = bnd (mi ρ) fun ds => loopS t b ds ρ := rfl
@[simp] theorem r_sFrz (i : Nat) (b : MS) (ρ : E) : sFrz i b ρ = b (frz i ρ) := rfl
@[simp] theorem r_eCon (d : D) (ρ : E) : eCon d ρ = ret d := rfl
@[simp] theorem r_e1 (f : D → Option D) (a : ME) (ρ : E) : e1 f a ρ = bnd (a ρ) fun x => lft (f x) := rfl
@[simp] theorem r_e2 (f : D → D → Option D) (a b : ME) (ρ : E) : e2 f a b ρ = bnd (a ρ) fun x => bnd (b ρ) fun y => lft (f x y) := rfl
@[simp] theorem r_eIf (c a b : ME) (ρ : E) : eIf c a b ρ = bnd (c ρ) fun t => bnd (toB t) fun k => if k = true then a ρ else b ρ := rfl
@[simp] theorem r_eAnd (a b : ME) (ρ : E) : eAnd a b ρ = bnd (a ρ) fun t => bnd (toB t) fun k => if k = true then b ρ else ret (.bool false) := rfl
@[simp] theorem r_eOr (a b : ME) (ρ : E) : eOr a b ρ = bnd (a ρ) fun t => bnd (toB t) fun k => if k = true then ret (.bool true) else b ρ := rfl
@[simp] theorem r_eNot (a : ME) (ρ : E) : eNot a ρ = bnd (a ρ) fun t => bnd (toB t) fun k => ret (.bool (!k)) := rfl
@[simp] theorem r_esNil (ρ : E) : esNil ρ = ret [] := rfl
@[simp] theorem r_esCons (a : ME) (r : MEs) (ρ : E) : esCons a r ρ = bnd (a ρ) fun x => bnd (r ρ) fun xs => ret (x :: xs) := rfl
@[simp] theorem r_eTup (es : MEs) (ρ : E) : eTup es ρ = bnd (es ρ) fun ds => lft (mkT ds) := rfl
@[simp] theorem r_eLst (es : MEs) (ρ : E) : eLst es ρ = bnd (es ρ) fun ds => lft (mkL ds) := rfl
@[simp] theorem r_eChain (f g : D → D → Option D) (a b c : ME) (ρ : E) : eChain f g a b c ρ = bnd (a ρ) fun x => bnd (b ρ) fun y => bnd (lft (f x y)) fun t => bnd (toB t) fun k => if k = true then bnd (c ρ) fun z => lft (g y z) else ret (.bool false) := rfl
@[simp] theorem r_kNil (ρ : E) : kNil ρ = ret [] := rfl
@[simp] theorem r_kCons (k : Kn) (e : ME) (r : MK) (ρ : E) : kCons k e r ρ = bnd (e ρ) fun d => bnd (lft (slotOf k d)) fun s => bnd (r ρ) fun ss => ret (s :: ss) := rfl
@[simp] theorem r_eCall (f : List Slot → M D) (es : MK) (ρ : E) : eCall f es ρ = bnd (es ρ) f := rfl
@[simp] theorem r_val (d : D) : slotOf .val d = some (.sh d) := rfl
@[simp] theorem r_frs (ds : List D) : slotOf .frs (.list ds) = some (.ol ds) := rfl
theorem r_eVar (i : Nat) (ρ : E) : eVar i ρ = match Slot.at ρ i with
  | .sh d => ret d
  | _ => stuck := rfl
theorem var_sh {i : Nat} {ρ : E} {d : D} (h : Slot.at ρ i = .sh d) : eVar i ρ = ret d := by rw [r_eVar, h]
theorem bor_sh {i : Nat} {ρ : E} {d : D} (h : Slot.at ρ i = .sh d) : eBor i ρ = ret d := by unfold eBor; rw [h]
theorem bor_ol {i : Nat} {ρ : E} {ds : List D} (h : Slot.at ρ i = .ol ds) : eBor i ρ = ret (.list ds) := by unfold eBor; rw [h]
@[simp] theorem var0 (d : D) (ρ : E) : eVar 0 (.sh d :: ρ) = ret d := rfl
@[simp] theorem varS (s : Slot) (ρ : E) (i : Nat) : eVar (i + 1) (s :: ρ) = eVar i ρ := rfl
@[simp] theorem bor0 (d : D) (ρ : E) : eBor 0 (.sh d :: ρ) = ret d := rfl
@[simp] theorem bor0o (ds : List D) (ρ : E) : eBor 0 (.ol ds :: ρ) = ret (.list ds) := rfl
@[simp] theorem borS (s : Slot) (ρ : E) (i : Nat) : eBor (i + 1) (s :: ρ) = eBor i ρ := rfl
theorem fnV_run {n k : Nat} {b : MS} {ss : List Slot} (h1 : ss.length = n) (h2 : ss.all Slot.arg = true) : fnV n k b ss = body b (ss ++ List.replicate k .no) := by unfold fnV; rw [if_pos ⟨h1, h2⟩]
theorem fnF_run {n k : Nat} {b : MS} {ss : List Slot} (h1 : ss.length = n) (h2 : ss.all Slot.arg = true) : fnF n k b ss = bodyF b (ss ++ List.replicate k .no) := by unfold fnF; rw [if_pos ⟨h1, h2⟩]
theorem body_rt {b : MS} {ρ : E} {d : D} (h : b ρ = ret (.rt d)) : body b ρ = ret d := by unfold body; rw [h]; rfl
theorem body_nx {b : MS} {ρ ρ' : E} (h : b ρ = ret (.nx ρ')) : body b ρ = ret .none := by unfold body; rw [h]; rfl
theorem bodyF_rt {b : MS} {ρ : E} {d : D} (h : b ρ = ret (.rt d)) : bodyF b ρ = ret d := by unfold bodyF; rw [h]; rfl
theorem ne_ret' {α : Type} (a : α) : ne (ret a) = ret a := rfl
theorem loopC_ret {t : Tg} {tc : E → M Bool} {te : ME} {ρ : E} (ρ' : D → E) (p : D → Bool) (g : D → D) : ∀ (ds : List D), (∀ d ∈ ds, t.put d ρ = some (ρ' d)) → (∀ d ∈ ds, tc (ρ' d) = ret (p d)) → (∀ d ∈ ds, p d = true → te (ρ' d) = ret (g d)) →
    loopC t tc te ρ ds = ret ((ds.filter p).map g)
  | [], _, _, _ => rfl
  | d :: r, h1, h2, h3 => by
    have ih := loopC_ret (te := te) (t := t) (tc := tc) ρ' p g r (fun d h => h1 d (List.mem_cons_of_mem _ h)) (fun d h => h2 d (List.mem_cons_of_mem _ h)) (fun d h => h3 d (List.mem_cons_of_mem _ h))
    unfold loopC
    rw [h1 d List.mem_cons_self, lsome, bret, h2 d List.mem_cons_self, ne_ret', bret]
    by_cases q : p d = true
    · rw [if_pos q, h3 d List.mem_cons_self q, ne_ret', bret, ih, bret, List.filter_cons_of_pos q]; rfl
    · rw [if_neg q, ih, List.filter_cons_of_neg (by simpa using q)]
theorem loopC_all {t : Tg} {te : ME} {ρ : E} (ρ' : D → E) (g : D → D) (ds : List D) (h1 : ∀ d ∈ ds, t.put d ρ = some (ρ' d)) (h3 : ∀ d ∈ ds, te (ρ' d) = ret (g d)) : loopC t cYes te ρ ds = ret (ds.map g) := by
  have h := loopC_ret (t := t) (tc := cYes) (te := te) (ρ := ρ) ρ' (fun _ => true) g ds h1 (fun _ _ => rfl) fun d h _ => h3 d h
  rw [h, List.filter_eq_self.mpr fun _ _ => rfl]
theorem comp_ret {own : List Nat} {mi : MI} {t : Tg} {tc : E → M Bool} {te : ME} {ρ : E} {ds vs : List D} (h1 : mi ρ = ret ds) (h2 : loopC t tc te (wipeE ρ own) ds = ret vs) (h3 : vs.length ≤ LIM) : eComp own mi t tc te ρ = ret (.list vs) := by
  unfold eComp
  rw [h1, bret, h2, bret]
  unfold okLen
  rw [if_pos h3]; rfl
theorem loopS_fold {α : Type} {t : Tg} {b : MS} (st : α → E) (f : α → D → α) : ∀ (ds : List D) (a : α), (∀ a, ∀ d ∈ ds, ∃ ρ1, t.put d (st a) = some ρ1 ∧ b ρ1 = ret (.nx (st (f a d)))) → loopS t b ds (st a) = ret (.nx (st (ds.foldl f a)))
  | [], a, _ => rfl
  | d :: r, a, h => by
    obtain ⟨ρ1, h1, h2⟩ := h a d List.mem_cons_self
    unfold loopS
    rw [h1, lsome, bret, h2, bret, r_nx, loopS_fold st f r _ fun a d h' => h a d (List.mem_cons_of_mem _ h')]; rfl
end
end PV

namespace PV
open PySem L2
theorem seq_nx {a b : MS} {ρ ρ1 : E} {c c1 : Cup} (h : a ρ c = .ok (.nx ρ1) c1) : sSeq a b ρ c = b ρ1 c1 := by
  show bnd (a ρ) (andThen b) c = _
  rw [bnd_app, h]; rfl
theorem seq_rt {a b : MS} {ρ : E} {d : D} {c c1 : Cup} (h : a ρ c = .ok (.rt d) c1) : sSeq a b ρ c = .ok (.rt d) c1 := by
  show bnd (a ρ) (andThen b) c = _
  rw [bnd_app, h]; rfl
theorem fnV_ok {n k : Nat} {b : MS} {ss : List Slot} {c c1 : Cup} {d : D} (h1 : ss.length = n) (h2 : ss.all Slot.arg = true) (h : b (ss ++ List.replicate k .no) c = .ok (.rt d) c1) : fnV n k b ss c = .ok d c1 := by
  rw [fnV_run h1 h2]
  show bnd _ _ c = _
  rw [bnd_app, h]; rfl
theorem fnF_ok {n k : Nat} {b : MS} {ss : List Slot} {c c1 : Cup} {d : D} (h1 : ss.length = n) (h2 : ss.all Slot.arg = true) (h : b (ss ++ List.replicate k .no) c = .ok (.rt d) c1) : fnF n k b ss c = .ok d c1 := by
  rw [fnF_run h1 h2]
  show bnd _ _ c = _
  rw [bnd_app, h]; rfl
theorem okv {m : M D} {c c1 : Cup} {d : D} {k : D → M Fl} (h : m c = .ok d c1) : bnd m k c = k d c1 := bnd_ok h
/-- from a Bool, by the kernel -/
def isT (r : R D) : Bool := match r with
  | .ok (.bool true) none => true
  | _ => false
theorem isT_eq {r : R D} (h : isT r = true) : r = .ok (.bool true) none := by
  unfold isT at h
  split at h
  · rfl
  · cases h
/-- a turn of a loop, the cup let be what it is -/
theorem loop_inv {t : Tg} {b : MS} (P : E → Prop) : ∀ (ds : List D) (ρ : E) (x y : Int), P ρ → (∀ ρ x y, P ρ → ∀ d ∈ ds, ∃ ρ1 ρ2 x2 y2, t.put d ρ = some ρ1 ∧ b ρ1 (some (x, y)) = .ok (.nx ρ2) (some (x2, y2)) ∧ P ρ2) → ∃ ρ2 x2 y2, loopS t b ds ρ (some (x, y)) = .ok (.nx ρ2) (some (x2, y2)) ∧ P ρ2
  | [], ρ, x, y, p, _ => ⟨ρ, x, y, rfl, p⟩
  | d :: r, ρ, x, y, p, h => by
    obtain ⟨ρ1, ρ2, x2, y2, e1, e2, p2⟩ := h ρ x y p d List.mem_cons_self
    obtain ⟨ρ3, x3, y3, e3, p3⟩ := loop_inv P r ρ2 x2 y2 p2 fun ρ x y p d hd => h ρ x y p d (List.mem_cons_of_mem _ hd)
    refine ⟨ρ3, x3, y3, ?_, p3⟩
    unfold loopS
    rw [e1, lsome, bret, bnd_app, e2]
    exact e3
theorem e1_ok {f : D → Option D} {a : ME} {ρ : E} {c c1 : Cup} {x v : D} (ha : a ρ c = .ok x c1) (hf : f x = some v) : e1 f a ρ c = .ok v c1 := by
  show bnd (a ρ) (fun x => lft (f x)) c = _
  rw [bnd_app, ha]; show lft (f x) c1 = _; rw [hf]; rfl
theorem e2_ok {f : D → D → Option D} {a b : ME} {ρ : E} {c c1 c2 : Cup} {x y v : D} (ha : a ρ c = .ok x c1) (hb : b ρ c1 = .ok y c2) (hf : f x y = some v) : e2 f a b ρ c = .ok v c2 := by
  show bnd (a ρ) (fun x => bnd (b ρ) fun y => lft (f x y)) c = _
  rw [bnd_app, ha]; show bnd (b ρ) _ c1 = _; rw [bnd_app, hb]; show lft (f x y) c2 = _; rw [hf]; rfl
theorem if_t {t : E → M Bool} {a b : MS} {ρ : E} {c c1 : Cup} (h : t ρ c = .ok true c1) : sIf t a b ρ c = a ρ c1 := by
  show bnd (t ρ) _ c = _
  rw [bnd_app, h]; rfl
theorem if_f {t : E → M Bool} {a b : MS} {ρ : E} {c c1 : Cup} (h : t ρ c = .ok false c1) : sIf t a b ρ c = b ρ c1 := by
  show bnd (t ρ) _ c = _
  rw [bnd_app, h]; rfl
theorem tst_ok {m : ME} {ρ : E} {c c1 : Cup} {k : Bool} (h : m ρ c = .ok (.bool k) c1) : tst m ρ c = .ok k c1 := by
  show bnd (m ρ) toB c = _
  rw [bnd_app, h]; rfl
theorem set_ok {k : Kn} {i : Nat} {m : ME} {ρ : E} {c c1 : Cup} {d : D} {sl : Slot} (h : m ρ c = .ok d c1) (hs : slotOf k d = some sl) : sSet k i m ρ c = .ok (.nx (ρ.set i sl)) c1 := by
  show bnd (m ρ) _ c = _
  rw [bnd_app, h]; show bnd (lft (slotOf k d)) _ c1 = _; rw [hs]; rfl
theorem ret_ok {m : ME} {ρ : E} {c c1 : Cup} {d : D} (h : m ρ c = .ok d c1) : sRet m ρ c = .ok (.rt d) c1 := by
  show bnd (m ρ) _ c = _
  rw [bnd_app, h]; rfl
theorem call_ok {f : List Slot → M D} {k : MK} {ρ : E} {c c1 c2 : Cup} {ss : List Slot} {d : D} (h : k ρ c = .ok ss c1) (hf : f ss c1 = .ok d c2) : eCall f k ρ c = .ok d c2 := by
  show bnd (k ρ) f c = _
  rw [bnd_app, h]; exact hf
theorem kc_ok {k : Kn} {m : ME} {r : MK} {ρ : E} {c c1 c2 : Cup} {d : D} {sl : Slot} {ss : List Slot} (h : m ρ c = .ok d c1) (hs : slotOf k d = some sl) (hr : r ρ c1 = .ok ss c2) : kCons k m r ρ c = .ok (sl :: ss) c2 := by
  show bnd (m ρ) _ c = _
  rw [bnd_app, h]; show bnd (lft (slotOf k d)) _ c1 = _; rw [hs]; show bnd (r ρ) _ c1 = _; rw [bnd_app, hr]; rfl
theorem kcup_ok {i : Nat} {r : MK} {ρ : E} {c c1 : Cup} {ss : List Slot} (h : Slot.at ρ i = .cup) (hr : r ρ c = .ok ss c1) : kCup i r ρ c = .ok (.cup :: ss) c1 := by
  unfold kCup
  rw [h]; show bnd (r ρ) _ c = _; rw [bnd_app, hr]; rfl
theorem par_ok {is : List Nat} {k : MK} {ρ ρ2 : E} {c c1 : Cup} {ss : List Slot} (h : k ρ c = .ok ss c1) (hs : setAll is ss ρ = some ρ2) : sPar is k ρ c = .ok (.nx ρ2) c1 := by
  show bnd (k ρ) _ c = _
  rw [bnd_app, h]; show bnd (lft (setAll is ss ρ)) _ c1 = _; rw [hs]; rfl
theorem scup_ok {i k : Nat} {m : ME} {ρ : E} {c : Cup} {x y v : Int} (h : m ρ c = .ok (.int v) (some (x, y))) (hs : Slot.at ρ i = .cup) : sCup i k m ρ c = .ok (.nx ρ) (some (if k = 0 then (v, y) else (x, v))) := by
  unfold sCup
  rw [hs]
  show bnd (m ρ) (pour k ρ) c = _
  rw [bnd_app, h]; rfl
theorem mod_ii (i j : Int) (h : 0 < j) : opMod (.int i) (.int j) = some (.int (i % j)) := by show (if _ then _ else _) = _; rw [if_pos h]
theorem fdiv_ii (i j : Int) (h : 0 < j) (hl : j.natAbs.log2 < 8000) : opFdiv (.int i) (.int j) = some (.int (i / j)) := by show (if _ then _ else _) = _; rw [if_pos ⟨h, hl⟩]
theorem mul_ii (i j : Int) (h : i.natAbs < 18446744073709551616 ∨ j.natAbs < 18446744073709551616) : opMul (.int i) (.int j) = some (.int (i * j)) := by show (if _ then _ else _) = _; rw [if_pos h]
theorem fInt_i (i : Int) : fInt (.int i) = some (.int i) := rfl
theorem add_ii (i j : Int) : opAdd (.int i) (.int j) = some (.int (i + j)) := rfl
theorem sub_ii (i j : Int) : opSub (.int i) (.int j) = some (.int (i - j)) := rfl
theorem fnV_ret {n k : Nat} {b : MS} {ss : List Slot} {d : D} (h1 : ss.length = n) (h2 : ss.all Slot.arg = true) (h : b (ss ++ List.replicate k .no) = ret (.rt d)) : fnV n k b ss = ret d := by
  rw [fnV_run h1 h2]; exact body_rt h
theorem fnV_retN {n k : Nat} {b : MS} {ss : List Slot} {ρ : E} (h1 : ss.length = n) (h2 : ss.all Slot.arg = true) (h : b (ss ++ List.replicate k .no) = ret (.nx ρ)) : fnV n k b ss = ret .none := by
  rw [fnV_run h1 h2]; exact body_nx h
end PV

namespace PV.L67
open PySem PySem.Spec PyProof.Rows L2 PV
def top (i : Nat) : Stmt := PySem.Challenge.pw_magictables_k67_whole_tables_magic_both.main.body.getD i (.Pass ⟨0, 0, 0, 0⟩)
structure Tx (K : PySem.W.Frag) (mg : Str → Option Value) : Prop where
  n_abs : mg "abs" = none
  n_all : mg "all" = none
  n_any : mg "any" = none
  n_bool : mg "bool" = none
  n_enumerate : mg "enumerate" = none
  n_int : mg "int" = none
  n_isinstance : mg "isinstance" = none
  n_len : mg "len" = none
  n_list : mg "list" = none
  n_max : mg "max" = none
  n_min : mg "min" = none
  n_range : mg "range" = none
  n_set : mg "set" = none
  n_str : mg "str" = none
  n_sum : mg "sum" = none
  n_tuple : mg "tuple" = none
  n_zip : mg "zip" = none
  h_COLUMN : ∃ u, mg "COLUMN" = some u ∧ RelV (.str "column") u
  h_FAR : ∃ u, mg "FAR" = some u ∧ RelV (.int 1000000000) u
  h_MOST : ∃ u, mg "MOST" = some u ∧ RelV (.int 12) u
  h_ROW : ∃ u, mg "ROW" = some u ∧ RelV (.str "row") u
  h_SLANT : ∃ u, mg "SLANT" = some u ∧ RelV (.str "slant") u
  d_is_integer : Df K mg "is_integer" (top 10) ["value"]
  d_is_whole : Df K mg "is_whole" (top 11) ["value", "low", "high"]
  d_need_whole : Df K mg "need_whole" (top 12) ["value", "low", "high"]
  d_is_tuple_of : Df K mg "is_tuple_of" (top 13) ["value", "low", "high"]
  d_is_line_of : Df K mg "is_line_of" (top 14) ["value", "size"]
  d_fits_table : Df K mg "fits_table" (top 15) ["value"]
  d_need_table : Df K mg "need_table" (top 16) ["value"]
  d_columns_in : Df K mg "columns_in" (top 17) ["table"]
  d_slants_in : Df K mg "slants_in" (top 18) ["table"]
  d_sums_in : Df K mg "sums_in" (top 19) ["table"]
  d_is_even_in : Df K mg "is_even_in" (top 20) ["table"]
  d_is_magic_in : Df K mg "is_magic_in" (top 21) ["table"]
  d_let_table : Df K mg "let_table" (top 22) ["table"]
  d_is_magic : Df K mg "is_magic" (top 23) ["table"]
  d_magic_sum : Df K mg "magic_sum" (top 24) ["table"]
  d_times_table : Df K mg "times_table" (top 25) ["table", "number"]
  d_need_times : Df K mg "need_times" (top 27) ["value"]
  d_multiplied : Df K mg "multiplied" (top 28) ["numbers"]
  d_products_in : Df K mg "products_in" (top 29) ["table"]
  d_is_even_times : Df K mg "is_even_times" (top 30) ["table"]
  d_is_times_in : Df K mg "is_times_in" (top 31) ["table"]
  d_named_products : Df K mg "named_products" (top 32) ["table"]
  d_break_by_products : Df K mg "break_by_products" (top 33) ["table"]
  d_is_times_magic : Df K mg "is_times_magic" (top 34) ["table"]
  d_is_both_ways : Df K mg "is_both_ways" (top 35) ["table"]
  d_times_product : Df K mg "times_product" (top 36) ["table"]
  d_times_break : Df K mg "times_break" (top 37) ["table"]
  d_place_by_place : Df K mg "place_by_place" (top 39) ["table", "other"]
  d_multiplied_tables : Df K mg "multiplied_tables" (top 40) ["table", "other"]
  d__law_cup : Df K mg "_law_cup" (top 42) ["script"]
  d__law_roll : Df K mg "_law_roll" (top 43) ["cup", "many"]
  d__law_sort : Df K mg "_law_sort" (top 44) ["value"]
  d__law_like : Df K mg "_law_like" (top 45) ["one", "other"]
  d__law_three : Df K mg "_law_three" (top 46) ["middle", "one", "other"]
  d__law_sums : Df K mg "_law_sums" (top 47) ["table"]
  d__law_is_magic : Df K mg "_law_is_magic" (top 48) ["table"]
  d__law_products : Df K mg "_law_products" (top 49) ["table"]
  d__law_alike : Df K mg "_law_alike" (top 50) ["table"]
  d__law_three_right : Df K mg "_law_three_right" (top 51) ["cup"]
  d__law_powers_right : Df K mg "_law_powers_right" (top 52) ["cup"]
  d__law_times_right : Df K mg "_law_times_right" (top 53) ["cup"]
  d__law_eight : Df K mg "_law_eight" (top 54) []
  d__law_written_right : Df K mg "_law_written_right" (top 55) []
  d_law : Df K mg "law" (top 56) ["script"]
theorem Tx.g_COLUMN {X : Cx} {W : Nat → Hp → Prop} {pos : Pos} (T : Tx X.K X.mg) (hg : Gl X "COLUMN") : PM X W .val (.Name "COLUMN" pos) (eCon (.str "column")) := by
  obtain ⟨u, h, r⟩ := T.h_COLUMN
  exact pm_glob hg h r fun _ _ => .str _
theorem Tx.g_FAR {X : Cx} {W : Nat → Hp → Prop} {pos : Pos} (T : Tx X.K X.mg) (hg : Gl X "FAR") : PM X W .val (.Name "FAR" pos) (eCon (.int 1000000000)) := by
  obtain ⟨u, h, r⟩ := T.h_FAR
  exact pm_glob hg h r fun _ _ => .int _
theorem Tx.g_MOST {X : Cx} {W : Nat → Hp → Prop} {pos : Pos} (T : Tx X.K X.mg) (hg : Gl X "MOST") : PM X W .val (.Name "MOST" pos) (eCon (.int 12)) := by
  obtain ⟨u, h, r⟩ := T.h_MOST
  exact pm_glob hg h r fun _ _ => .int _
theorem Tx.g_ROW {X : Cx} {W : Nat → Hp → Prop} {pos : Pos} (T : Tx X.K X.mg) (hg : Gl X "ROW") : PM X W .val (.Name "ROW" pos) (eCon (.str "row")) := by
  obtain ⟨u, h, r⟩ := T.h_ROW
  exact pm_glob hg h r fun _ _ => .str _
theorem Tx.g_SLANT {X : Cx} {W : Nat → Hp → Prop} {pos : Pos} (T : Tx X.K X.mg) (hg : Gl X "SLANT") : PM X W .val (.Name "SLANT" pos) (eCon (.str "slant")) := by
  obtain ⟨u, h, r⟩ := T.h_SLANT
  exact pm_glob hg h r fun _ _ => .str _
section
variable {P : Program} {w : World} {K : PySem.W.Frag} {mg : Str → Option Value} {base : Heap}
def b_is_integer : MS := (sRet (eAnd (e1 (fIsi "int") (eVar 0)) (eNot (e1 (fIsi "bool") (eVar 0)))))
def m_is_integer : List Slot → M D := fnV 1 0 b_is_integer
theorem ok_is_integer (T : Tx K mg) : Cl P w K mg base 1 "is_integer" .val 1 m_is_integer := mkV (N := ["value"]) T.d_is_integer ⟨rfl, rfl, rfl, by decide +kernel, rfl, by decide +kernel, by decide +kernel⟩ rfl rfl fun f cdv A outer s H E hr => by
  have hN : (["value"] : List Str).Nodup := by decide +kernel
  unfold b_is_integer
  exact (pssm_one (psm_ret (pm_and (PM.b (pm_isi rfl T.n_isinstance rfl T.n_int boot_int (PM.b (pm_var 0)))) (pm_one (pm_not (PM.b (pm_isi rfl T.n_isinstance rfl T.n_bool boot_bool (PM.b (pm_var 0)))))))))
def b_is_whole : MS := (sRet (eAnd (eCall m_is_integer (kCons .val (eVar 0) kNil)) (eChain opLe opLe (eVar 1) (eVar 0) (eVar 2))))
def m_is_whole : List Slot → M D := fnV 3 0 b_is_whole
theorem ok_is_whole (T : Tx K mg) : Cl P w K mg base 2 "is_whole" .val 3 m_is_whole := mkV (N := ["value", "low", "high"]) T.d_is_whole ⟨rfl, rfl, rfl, by decide +kernel, rfl, by decide +kernel, by decide +kernel⟩ rfl rfl fun f cdv A outer s H E hr => by
  have hN : (["value", "low", "high"] : List Str).Nodup := by decide +kernel
  unfold b_is_whole
  exact (pssm_one (psm_ret (pm_and (PM.b (pm_callV (ok_is_integer T) argF_V hr (by decide) rfl (kA (pm_var 0) pkm_nil))) (pm_one (pm_chain o_le o_le (PM.b (pm_var 1)) (PM.b (pm_var 0)) (PM.b (pm_var 2)))))))
def b_need_whole : MS := (sIf (tst (eNot (eCall m_is_whole (kCons .val (eVar 0) (kCons .val (eVar 1) (kCons .val (eVar 2) kNil)))))) (fun _ => stuck) sNil)
def m_need_whole : List Slot → M D := fnV 3 0 b_need_whole
theorem ok_need_whole (T : Tx K mg) : Cl P w K mg base 3 "need_whole" .val 3 m_need_whole := mkV (N := ["value", "low", "high"]) T.d_need_whole ⟨rfl, rfl, rfl, by decide +kernel, rfl, by decide +kernel, by decide +kernel⟩ rfl rfl fun f cdv A outer s H E hr => by
  have hN : (["value", "low", "high"] : List Str).Nodup := by decide +kernel
  unfold b_need_whole
  exact (pssm_one (psm_if (ptm_not (ptm_val (PM.b (pm_callV (ok_is_whole T) argF_V hr (by decide) rfl (kA (pm_var 0) (kA (pm_var 1) (kA (pm_var 2) pkm_nil))))))) (pssm_one psm_never) pssm_nil))
def b_is_tuple_of : MS := (sRet (eAnd (e1 (fIsi "tuple") (eVar 0)) (eChain opLe opLe (eVar 1) (e1 fLen (eVar 0)) (eVar 2))))
def m_is_tuple_of : List Slot → M D := fnV 3 0 b_is_tuple_of
theorem ok_is_tuple_of (T : Tx K mg) : Cl P w K mg base 1 "is_tuple_of" .val 3 m_is_tuple_of := mkV (N := ["value", "low", "high"]) T.d_is_tuple_of ⟨rfl, rfl, rfl, by decide +kernel, rfl, by decide +kernel, by decide +kernel⟩ rfl rfl fun f cdv A outer s H E hr => by
  have hN : (["value", "low", "high"] : List Str).Nodup := by decide +kernel
  unfold b_is_tuple_of
  exact (pssm_one (psm_ret (pm_and (PM.b (pm_isi rfl T.n_isinstance rfl T.n_tuple boot_tuple (PM.b (pm_var 0)))) (pm_one (pm_chain o_le o_le (PM.b (pm_var 1)) (PM.b (pm_callB c_len rfl T.n_len boot_len (PM.b (pm_var 0)))) (PM.b (pm_var 2)))))))
def b_is_line_of : MS := (sRet (eAnd (eCall m_is_tuple_of (kCons .val (eVar 0) (kCons .val (eVar 1) (kCons .val (eVar 1) kNil)))) (e1 fAll (eComp [2] (iSeq (eVar 0)) (.nm 2) cYes (eCall m_is_whole (kCons .val (eVar 2) (kCons .val (e1 opNeg (eCon (.int 1000000000))) (kCons .val (eCon (.int 1000000000)) kNil))))))))
def m_is_line_of : List Slot → M D := fnV 2 1 b_is_line_of
theorem ok_is_line_of (T : Tx K mg) : Cl P w K mg base 3 "is_line_of" .val 2 m_is_line_of := mkV (N := ["value", "size", "number"]) T.d_is_line_of ⟨rfl, rfl, rfl, by decide +kernel, rfl, by decide +kernel, by decide +kernel⟩ rfl rfl fun f cdv A outer s H E hr => by
  have hN : (["value", "size", "number"] : List Str).Nodup := by decide +kernel
  unfold b_is_line_of
  exact (pssm_one (psm_ret (pm_and (PM.b (pm_callV (ok_is_tuple_of T) argF_V hr (by decide) rfl (kA (pm_var 0) (kA (pm_var 1) (kA (pm_var 1) pkm_nil))))) (pm_one (pm_callB (c_all rfl) rfl T.n_all boot_all (PM.b (PM.frs (pm_lc (own := [("number", 2)]) rfl hN (.inl rfl) (pim_seq (.inl rfl) (pm_var 0)) (blkOk_by (by rfl)) (by decide) (fun _ _ _ _ _ => (pgm_nm 2 hN)) (fun _ _ _ _ _ => ptsm_nil) (fun _ _ _ _ _ => (pm_callV (ok_is_whole T) argF_V hr (by decide) rfl (kA (pm_var 2) (kA (pm_un o_neg (PM.b (T.g_FAR rfl))) (kA (T.g_FAR rfl) pkm_nil)))))))))))))
def b_fits_table : MS := (sRet (eAnd (eCall m_is_tuple_of (kCons .val (eVar 0) (kCons .val (eCon (.int 1)) (kCons .val (eCon (.int 12)) kNil)))) (e1 fAll (eComp [1] (iSeq (eVar 0)) (.nm 1) cYes (eCall m_is_line_of (kCons .val (eVar 1) (kCons .val (e1 fLen (eVar 0)) kNil)))))))
def m_fits_table : List Slot → M D := fnV 1 1 b_fits_table
theorem ok_fits_table (T : Tx K mg) : Cl P w K mg base 4 "fits_table" .val 1 m_fits_table := mkV (N := ["value", "row"]) T.d_fits_table ⟨rfl, rfl, rfl, by decide +kernel, rfl, by decide +kernel, by decide +kernel⟩ rfl rfl fun f cdv A outer s H E hr => by
  have hN : (["value", "row"] : List Str).Nodup := by decide +kernel
  unfold b_fits_table
  exact (pssm_one (psm_ret (pm_and (PM.b (pm_callV (ok_is_tuple_of T) argF_V hr (by decide) rfl (kA (pm_var 0) (kA (pm_int) (kA (T.g_MOST rfl) pkm_nil))))) (pm_one (pm_callB (c_all rfl) rfl T.n_all boot_all (PM.b (PM.frs (pm_lc (own := [("row", 1)]) rfl hN (.inl rfl) (pim_seq (.inl rfl) (pm_var 0)) (blkOk_by (by rfl)) (by decide) (fun _ _ _ _ _ => (pgm_nm 1 hN)) (fun _ _ _ _ _ => ptsm_nil) (fun _ _ _ _ _ => (pm_callV (ok_is_line_of T) argF_V hr (by decide) rfl (kA (pm_var 1) (kA (pm_callB c_len rfl T.n_len boot_len (PM.b (pm_var 0))) pkm_nil))))))))))))
def b_need_table : MS := (sIf (tst (eNot (eCall m_fits_table (kCons .val (eVar 0) kNil)))) (fun _ => stuck) sNil)
def m_need_table : List Slot → M D := fnV 1 0 b_need_table
theorem ok_need_table (T : Tx K mg) : Cl P w K mg base 5 "need_table" .val 1 m_need_table := mkV (N := ["value"]) T.d_need_table ⟨rfl, rfl, rfl, by decide +kernel, rfl, by decide +kernel, by decide +kernel⟩ rfl rfl fun f cdv A outer s H E hr => by
  have hN : (["value"] : List Str).Nodup := by decide +kernel
  unfold b_need_table
  exact (pssm_one (psm_if (ptm_not (ptm_val (PM.b (pm_callV (ok_fits_table T) argF_V hr (by decide) rfl (kA (pm_var 0) pkm_nil))))) (pssm_one psm_never) pssm_nil))
def b_columns_in : MS := (sRet (eComp [2] (iRng rng1 (esCons (e1 fLen (eVar 0)) esNil)) (.nm 2) cYes (e1 fTuple (eComp [1] (iSeq (eVar 0)) (.nm 1) cYes (e2 opIdx (eVar 1) (eVar 2))))))
def m_columns_in : List Slot → M D := fnV 1 2 b_columns_in
theorem ok_columns_in (T : Tx K mg) : Cl P w K mg base 1 "columns_in" .val 1 m_columns_in := mkV (N := ["table", "row", "column"]) T.d_columns_in ⟨rfl, rfl, rfl, by decide +kernel, rfl, by decide +kernel, by decide +kernel⟩ rfl rfl fun f cdv A outer s H E hr => by
  have hN : (["table", "row", "column"] : List Str).Nodup := by decide +kernel
  unfold b_columns_in
  exact (pssm_one (psm_ret (PM.frs (pm_lc (own := [("column", 2)]) rfl hN (.inl rfl) (pim_rng1 (kf := .val) rfl T.n_range (pms_cons (pm_callB c_len rfl T.n_len boot_len (PM.b (pm_var 0))) pms_nil)) (blkOk_by (by rfl)) (by decide) (fun _ _ _ _ _ => (pgm_nm 2 hN)) (fun _ _ _ _ _ => ptsm_nil) (fun _ _ _ _ _ => (pm_callTy c_tuple rfl T.n_tuple boot_tuple (PM.b (PM.frs (pm_lc (own := [("row", 1)]) rfl hN (.inl rfl) (pim_seq (.inl rfl) (pm_var 0)) (blkOk_by (by rfl)) (by decide) (fun _ _ _ _ _ => (pgm_nm 1 hN)) (fun _ _ _ _ _ => ptsm_nil) (fun _ _ _ _ _ => (pm_idx (PM.b (pm_var 1)) (PM.b (pm_var 2)))))))))))))
def b_slants_in : MS := (sSeq (sSet .val 1 (e1 fLen (eVar 0)))
  (sRet (eTup (esCons (e1 fTuple (eComp [2] (iRng rng1 (esCons (eVar 1) esNil)) (.nm 2) cYes (e2 opIdx (e2 opIdx (eVar 0) (eVar 2)) (eVar 2)))) (esCons (e1 fTuple (eComp [2] (iRng rng1 (esCons (eVar 1) esNil)) (.nm 2) cYes (e2 opIdx (e2 opIdx (eVar 0) (eVar 2)) (e2 opSub (e2 opSub (eVar 1) (eCon (.int 1))) (eVar 2))))) esNil)))))
def m_slants_in : List Slot → M D := fnV 1 2 b_slants_in
theorem ok_slants_in (T : Tx K mg) : Cl P w K mg base 1 "slants_in" .val 1 m_slants_in := mkV (N := ["table", "size", "at"]) T.d_slants_in ⟨rfl, rfl, rfl, by decide +kernel, rfl, by decide +kernel, by decide +kernel⟩ rfl rfl fun f cdv A outer s H E hr => by
  have hN : (["table", "size", "at"] : List Str).Nodup := by decide +kernel
  unfold b_slants_in
  exact (pssm_cons (psm_set (k := .val) 1 hN (pm_callB c_len rfl T.n_len boot_len (PM.b (pm_var 0))))
    (pssm_one (psm_ret (pm_tup (pms_cons (pm_callTy c_tuple rfl T.n_tuple boot_tuple (PM.b (PM.frs (pm_lc (own := [("at", 2)]) rfl hN (.inl rfl) (pim_rng1 (kf := .val) rfl T.n_range (pms_cons (pm_var 1) pms_nil)) (blkOk_by (by rfl)) (by decide) (fun _ _ _ _ _ => (pgm_nm 2 hN)) (fun _ _ _ _ _ => ptsm_nil) (fun _ _ _ _ _ => (pm_idx (PM.b (pm_idx (PM.b (pm_var 0)) (PM.b (pm_var 2)))) (PM.b (pm_var 2)))))))) (pms_cons (pm_callTy c_tuple rfl T.n_tuple boot_tuple (PM.b (PM.frs (pm_lc (own := [("at", 2)]) rfl hN (.inl rfl) (pim_rng1 (kf := .val) rfl T.n_range (pms_cons (pm_var 1) pms_nil)) (blkOk_by (by rfl)) (by decide) (fun _ _ _ _ _ => (pgm_nm 2 hN)) (fun _ _ _ _ _ => ptsm_nil) (fun _ _ _ _ _ => (pm_idx (PM.b (pm_idx (PM.b (pm_var 0)) (PM.b (pm_var 2)))) (PM.b (pm_bin o_sub (PM.b (pm_bin o_sub (PM.b (pm_var 1)) (PM.b (pm_int)))) (PM.b (pm_var 2)))))))))) pms_nil))))))
def b_sums_in : MS := (sSeq (sPar [1, 2] (kCons .val (e1 fTuple (eComp [3] (iSeq (eVar 0)) (.nm 3) cYes (e1 fSum (eVar 3)))) (kCons .val (e1 fTuple (eComp [4] (iSeq (eCall m_columns_in (kCons .val (eVar 0) kNil))) (.nm 4) cYes (e1 fSum (eVar 4)))) kNil)))
  (sSeq (sAsg (.tp [(.nm 5), (.nm 6)]) (eCall m_slants_in (kCons .val (eVar 0) kNil)))
  (sRet (eTup (esCons (eVar 1) (esCons (eVar 2) (esCons (eTup (esCons (e1 fSum (eVar 5)) (esCons (e1 fSum (eVar 6)) esNil))) esNil)))))))
def m_sums_in : List Slot → M D := fnV 1 6 b_sums_in
theorem ok_sums_in (T : Tx K mg) : Cl P w K mg base 2 "sums_in" .val 1 m_sums_in := mkV (N := ["table", "rows", "columns", "row", "column", "first", "second"]) T.d_sums_in ⟨rfl, rfl, rfl, by decide +kernel, rfl, by decide +kernel, by decide +kernel⟩ rfl rfl fun f cdv A outer s H E hr => by
  have hN : (["table", "rows", "columns", "row", "column", "first", "second"] : List Str).Nodup := by decide +kernel
  unfold b_sums_in
  exact (pssm_cons (psm_par2 1 2 rfl hN (kV (pm_callTy c_tuple rfl T.n_tuple boot_tuple (PM.b (PM.frs (pm_lc (own := [("row", 3)]) rfl hN (.inl rfl) (pim_seq (.inl rfl) (pm_var 0)) (blkOk_by (by rfl)) (by decide) (fun _ _ _ _ _ => (pgm_nm 3 hN)) (fun _ _ _ _ _ => ptsm_nil) (fun _ _ _ _ _ => (pm_callB (c_sum rfl) rfl T.n_sum boot_sum (PM.b (pm_var 3)))))))) (kV (pm_callTy c_tuple rfl T.n_tuple boot_tuple (PM.b (PM.frs (pm_lc (own := [("column", 4)]) rfl hN (.inl rfl) (pim_seq (.inl rfl) (pm_callV (ok_columns_in T) argF_V hr (by decide) rfl (kA (pm_var 0) pkm_nil))) (blkOk_by (by rfl)) (by decide) (fun _ _ _ _ _ => (pgm_nm 4 hN)) (fun _ _ _ _ _ => ptsm_nil) (fun _ _ _ _ _ => (pm_callB (c_sum rfl) rfl T.n_sum boot_sum (PM.b (pm_var 4)))))))) pkm_nil)))
    (pssm_cons (psm_asg (pm_callV (ok_slants_in T) argF_V hr (by decide) rfl (kA (pm_var 0) pkm_nil)) (pgm_tp rfl (pgms_cons (pgm_nm 5 hN) (pgms_cons (pgm_nm 6 hN) pgms_nil))))
    (pssm_one (psm_ret (pm_tup (pms_cons (pm_var 1) (pms_cons (pm_var 2) (pms_cons (pm_tup (pms_cons (pm_callB (c_sum rfl) rfl T.n_sum boot_sum (PM.b (pm_var 5))) (pms_cons (pm_callB (c_sum rfl) rfl T.n_sum boot_sum (PM.b (pm_var 6))) pms_nil))) pms_nil))))))))
def b_is_even_in : MS := (sSeq (sAsg (.tp [(.nm 1), (.nm 2), (.nm 3)]) (eCall m_sums_in (kCons .val (eVar 0) kNil)))
  (sRet (e2 opEq (e1 fLenSet (e2 opAdd (eVar 1) (eVar 2))) (eCon (.int 1)))))
def m_is_even_in : List Slot → M D := fnV 1 3 b_is_even_in
theorem ok_is_even_in (T : Tx K mg) : Cl P w K mg base 3 "is_even_in" .val 1 m_is_even_in := mkV (N := ["table", "rows", "columns", "slants"]) T.d_is_even_in ⟨rfl, rfl, rfl, by decide +kernel, rfl, by decide +kernel, by decide +kernel⟩ rfl rfl fun f cdv A outer s H E hr => by
  have hN : (["table", "rows", "columns", "slants"] : List Str).Nodup := by decide +kernel
  unfold b_is_even_in
  exact (pssm_cons (psm_asg (pm_callV (ok_sums_in T) argF_V hr (by decide) rfl (kA (pm_var 0) pkm_nil)) (pgm_tp rfl (pgms_cons (pgm_nm 1 hN) (pgms_cons (pgm_nm 2 hN) (pgms_cons (pgm_nm 3 hN) pgms_nil)))))
    (pssm_one (psm_ret (pm_cmp (o_eq hr.u65) (PM.b (pm_lenSet rfl T.n_len rfl T.n_set (PM.b (pm_bin o_add (PM.b (pm_var 1)) (PM.b (pm_var 2)))) rfl)) (PM.b (pm_int))))))
def b_is_magic_in : MS := (sSeq (sAsg (.tp [(.nm 1), (.nm 2), (.nm 3)]) (eCall m_sums_in (kCons .val (eVar 0) kNil)))
  (sRet (e2 opEq (e1 fLenSet (e2 opAdd (e2 opAdd (eVar 1) (eVar 2)) (eVar 3))) (eCon (.int 1)))))
def m_is_magic_in : List Slot → M D := fnV 1 3 b_is_magic_in
theorem ok_is_magic_in (T : Tx K mg) : Cl P w K mg base 3 "is_magic_in" .val 1 m_is_magic_in := mkV (N := ["table", "rows", "columns", "slants"]) T.d_is_magic_in ⟨rfl, rfl, rfl, by decide +kernel, rfl, by decide +kernel, by decide +kernel⟩ rfl rfl fun f cdv A outer s H E hr => by
  have hN : (["table", "rows", "columns", "slants"] : List Str).Nodup := by decide +kernel
  unfold b_is_magic_in
  exact (pssm_cons (psm_asg (pm_callV (ok_sums_in T) argF_V hr (by decide) rfl (kA (pm_var 0) pkm_nil)) (pgm_tp rfl (pgms_cons (pgm_nm 1 hN) (pgms_cons (pgm_nm 2 hN) (pgms_cons (pgm_nm 3 hN) pgms_nil)))))
    (pssm_one (psm_ret (pm_cmp (o_eq hr.u65) (PM.b (pm_lenSet rfl T.n_len rfl T.n_set (PM.b (pm_bin o_add (PM.b (pm_bin o_add (PM.b (pm_var 1)) (PM.b (pm_var 2)))) (PM.b (pm_var 3)))) rfl)) (PM.b (pm_int))))))
def b_let_table : MS := (sSeq (sIf (tst (eNot (eCall m_fits_table (kCons .val (eVar 0) kNil)))) (fun _ => stuck) sNil)
  (sRet (eVar 0)))
def m_let_table : List Slot → M D := fnV 1 0 b_let_table
theorem ok_let_table (T : Tx K mg) : Cl P w K mg base 5 "let_table" .val 1 m_let_table := mkV (N := ["table"]) T.d_let_table ⟨rfl, rfl, rfl, by decide +kernel, rfl, by decide +kernel, by decide +kernel⟩ rfl rfl fun f cdv A outer s H E hr => by
  have hN : (["table"] : List Str).Nodup := by decide +kernel
  unfold b_let_table
  exact (pssm_cons (psm_if (ptm_not (ptm_val (PM.b (pm_callV (ok_fits_table T) argF_V hr (by decide) rfl (kA (pm_var 0) pkm_nil))))) (pssm_one psm_never) pssm_nil)
    (pssm_one (psm_ret (pm_var 0))))
def b_is_magic : MS := (sSeq (sExpr (eCall m_need_table (kCons .val (eVar 0) kNil)))
  (sRet (eCall m_is_magic_in (kCons .val (eVar 0) kNil))))
def m_is_magic : List Slot → M D := fnV 1 0 b_is_magic
theorem ok_is_magic (T : Tx K mg) : Cl P w K mg base 6 "is_magic" .val 1 m_is_magic := mkV (N := ["table"]) T.d_is_magic ⟨rfl, rfl, rfl, by decide +kernel, rfl, by decide +kernel, by decide +kernel⟩ rfl rfl fun f cdv A outer s H E hr => by
  have hN : (["table"] : List Str).Nodup := by decide +kernel
  unfold b_is_magic
  exact (pssm_cons (psm_expr (k := .val) (pm_callV (ok_need_table T) argF_V hr (by decide) rfl (kA (pm_var 0) pkm_nil)))
    (pssm_one (psm_ret (pm_callV (ok_is_magic_in T) argF_V hr (by decide) rfl (kA (pm_var 0) pkm_nil)))))
def b_magic_sum : MS := (sSeq (sExpr (eCall m_need_table (kCons .val (eVar 0) kNil)))
  (sSeq (sIf (tst (eNot (eCall m_is_even_in (kCons .val (eVar 0) kNil)))) (fun _ => stuck) sNil)
  (sRet (e1 fSum (e2 opIdx (eVar 0) (eCon (.int 0)))))))
def m_magic_sum : List Slot → M D := fnV 1 0 b_magic_sum
theorem ok_magic_sum (T : Tx K mg) : Cl P w K mg base 6 "magic_sum" .val 1 m_magic_sum := mkV (N := ["table"]) T.d_magic_sum ⟨rfl, rfl, rfl, by decide +kernel, rfl, by decide +kernel, by decide +kernel⟩ rfl rfl fun f cdv A outer s H E hr => by
  have hN : (["table"] : List Str).Nodup := by decide +kernel
  unfold b_magic_sum
  exact (pssm_cons (psm_expr (k := .val) (pm_callV (ok_need_table T) argF_V hr (by decide) rfl (kA (pm_var 0) pkm_nil)))
    (pssm_cons (psm_if (ptm_not (ptm_val (PM.b (pm_callV (ok_is_even_in T) argF_V hr (by decide) rfl (kA (pm_var 0) pkm_nil))))) (pssm_one psm_never) pssm_nil)
    (pssm_one (psm_ret (pm_callB (c_sum rfl) rfl T.n_sum boot_sum (PM.b (pm_idx (PM.b (pm_var 0)) (PM.b (pm_int)))))))))
def b_times_table : MS := (sSeq (sExpr (eCall m_need_table (kCons .val (eVar 0) kNil)))
  (sSeq (sExpr (eCall m_need_whole (kCons .val (eVar 1) (kCons .val (e1 opNeg (eCon (.int 1000000000))) (kCons .val (eCon (.int 1000000000)) kNil)))))
  (sRet (eCall m_let_table (kCons .val (e1 fTuple (eComp [3] (iSeq (eVar 0)) (.nm 3) cYes (e1 fTuple (eComp [2] (iSeq (eVar 3)) (.nm 2) cYes (e2 opMul (eVar 1) (eVar 2)))))) kNil)))))
def m_times_table : List Slot → M D := fnV 2 2 b_times_table
theorem ok_times_table (T : Tx K mg) : Cl P w K mg base 6 "times_table" .val 2 m_times_table := mkV (N := ["table", "number", "one", "row"]) T.d_times_table ⟨rfl, rfl, rfl, by decide +kernel, rfl, by decide +kernel, by decide +kernel⟩ rfl rfl fun f cdv A outer s H E hr => by
  have hN : (["table", "number", "one", "row"] : List Str).Nodup := by decide +kernel
  unfold b_times_table
  exact (pssm_cons (psm_expr (k := .val) (pm_callV (ok_need_table T) argF_V hr (by decide) rfl (kA (pm_var 0) pkm_nil)))
    (pssm_cons (psm_expr (k := .val) (pm_callV (ok_need_whole T) argF_V hr (by decide) rfl (kA (pm_var 1) (kA (pm_un o_neg (PM.b (T.g_FAR rfl))) (kA (T.g_FAR rfl) pkm_nil)))))
    (pssm_one (psm_ret (pm_callV (ok_let_table T) argF_V hr (by decide) rfl (kA (pm_callTy c_tuple rfl T.n_tuple boot_tuple (PM.b (PM.frs (pm_lc (own := [("row", 3)]) rfl hN (.inl rfl) (pim_seq (.inl rfl) (pm_var 0)) (blkOk_by (by rfl)) (by decide) (fun _ _ _ _ _ => (pgm_nm 3 hN)) (fun _ _ _ _ _ => ptsm_nil) (fun _ _ _ _ _ => (pm_callTy c_tuple rfl T.n_tuple boot_tuple (PM.b (PM.frs (pm_lc (own := [("one", 2)]) rfl hN (.inl rfl) (pim_seq (.inl rfl) (pm_var 3)) (blkOk_by (by rfl)) (by decide) (fun _ _ _ _ _ => (pgm_nm 2 hN)) (fun _ _ _ _ _ => ptsm_nil) (fun _ _ _ _ _ => (pm_bin o_mul (PM.b (pm_var 1)) (PM.b (pm_var 2))))))))))))) pkm_nil))))))
def b_need_times : MS := (sIf (tst (eOr (eNot (eCall m_fits_table (kCons .val (eVar 0) kNil))) (e1 fAny (eComp2 [1, 2] [2] (iSeq (eVar 0)) (.nm 1) cYes (iSeq (eVar 1)) (.nm 2) cYes (e2 opLt (eVar 2) (eCon (.int 1))))))) (fun _ => stuck) sNil)
def m_need_times : List Slot → M D := fnV 1 2 b_need_times
theorem ok_need_times (T : Tx K mg) : Cl P w K mg base 5 "need_times" .val 1 m_need_times := mkV (N := ["value", "row", "number"]) T.d_need_times ⟨rfl, rfl, rfl, by decide +kernel, rfl, by decide +kernel, by decide +kernel⟩ rfl rfl fun f cdv A outer s H E hr => by
  have hN : (["value", "row", "number"] : List Str).Nodup := by decide +kernel
  unfold b_need_times
  exact (pssm_one (psm_if (ptm_w (pwm_or (ptm_not (ptm_val (PM.b (pm_callV (ok_fits_table T) argF_V hr (by decide) rfl (kA (pm_var 0) pkm_nil))))) (pwm_or1 (ptm_val (PM.b (pm_callB (c_any rfl) rfl T.n_any boot_any (PM.b (PM.frs (pm_lc2 (own := [("row", 1), ("number", 2)]) [2] rfl hN (.inl rfl) (pim_seq (.inl rfl) (pm_var 0)) (blkOk_by (by rfl)) (by decide) (by decide) (by decide) (fun _ _ _ _ _ => (pgm_nm 1 hN)) (fun _ _ _ _ _ => ptsm_nil) (fun _ _ _ _ _ => (pim_seq (.inl rfl) (pm_var 1))) (fun _ _ _ _ _ => (pgm_nm 2 hN)) (fun _ _ _ _ _ => ptsm_nil) (fun _ _ _ _ _ => (pm_cmp (o_lt hr.u65) (PM.b (pm_var 2)) (PM.b (pm_int))))))))))))) (pssm_one psm_never) pssm_nil))
def b_multiplied : MS := (sSeq (sSet .val 1 (eCon (.int 1)))
  (sSeq (sFor (iSeq (eVar 0)) (.nm 2) (sSet .val 1 (e2 opMul (eVar 1) (eVar 2))))
  (sRet (eVar 1))))
def m_multiplied : List Slot → M D := fnV 1 2 b_multiplied
theorem ok_multiplied (T : Tx K mg) : Cl P w K mg base 1 "multiplied" .val 1 m_multiplied := mkV (N := ["numbers", "found", "number"]) T.d_multiplied ⟨rfl, rfl, rfl, by decide +kernel, rfl, by decide +kernel, by decide +kernel⟩ rfl rfl fun f cdv A outer s H E hr => by
  have hN : (["numbers", "found", "number"] : List Str).Nodup := by decide +kernel
  unfold b_multiplied
  exact (pssm_cons (psm_set (k := .val) 1 hN (pm_int))
    (pssm_cons (psm_for PassesOwn.never rfl (pim_seq (.inl rfl) (pm_var 0)) (pgm_nm 2 hN) (pssm_one (psm_set (k := .val) 1 hN (pm_bin o_mul (PM.b (pm_var 1)) (PM.b (pm_var 2))))))
    (pssm_one (psm_ret (pm_var 1)))))
def b_products_in : MS := (sSeq (sPar [1, 2] (kCons .val (e1 fTuple (eComp [3] (iSeq (eVar 0)) (.nm 3) cYes (eCall m_multiplied (kCons .val (eVar 3) kNil)))) (kCons .val (e1 fTuple (eComp [4] (iSeq (eCall m_columns_in (kCons .val (eVar 0) kNil))) (.nm 4) cYes (eCall m_multiplied (kCons .val (eVar 4) kNil)))) kNil)))
  (sSeq (sAsg (.tp [(.nm 5), (.nm 6)]) (eCall m_slants_in (kCons .val (eVar 0) kNil)))
  (sRet (eTup (esCons (eVar 1) (esCons (eVar 2) (esCons (eTup (esCons (eCall m_multiplied (kCons .val (eVar 5) kNil)) (esCons (eCall m_multiplied (kCons .val (eVar 6) kNil)) esNil))) esNil)))))))
def m_products_in : List Slot → M D := fnV 1 6 b_products_in
theorem ok_products_in (T : Tx K mg) : Cl P w K mg base 2 "products_in" .val 1 m_products_in := mkV (N := ["table", "rows", "columns", "row", "line", "first", "second"]) T.d_products_in ⟨rfl, rfl, rfl, by decide +kernel, rfl, by decide +kernel, by decide +kernel⟩ rfl rfl fun f cdv A outer s H E hr => by
  have hN : (["table", "rows", "columns", "row", "line", "first", "second"] : List Str).Nodup := by decide +kernel
  unfold b_products_in
  exact (pssm_cons (psm_par2 1 2 rfl hN (kV (pm_callTy c_tuple rfl T.n_tuple boot_tuple (PM.b (PM.frs (pm_lc (own := [("row", 3)]) rfl hN (.inl rfl) (pim_seq (.inl rfl) (pm_var 0)) (blkOk_by (by rfl)) (by decide) (fun _ _ _ _ _ => (pgm_nm 3 hN)) (fun _ _ _ _ _ => ptsm_nil) (fun _ _ _ _ _ => (pm_callV (ok_multiplied T) argF_V hr (by decide) rfl (kA (pm_var 3) pkm_nil))))))) (kV (pm_callTy c_tuple rfl T.n_tuple boot_tuple (PM.b (PM.frs (pm_lc (own := [("line", 4)]) rfl hN (.inl rfl) (pim_seq (.inl rfl) (pm_callV (ok_columns_in T) argF_V hr (by decide) rfl (kA (pm_var 0) pkm_nil))) (blkOk_by (by rfl)) (by decide) (fun _ _ _ _ _ => (pgm_nm 4 hN)) (fun _ _ _ _ _ => ptsm_nil) (fun _ _ _ _ _ => (pm_callV (ok_multiplied T) argF_V hr (by decide) rfl (kA (pm_var 4) pkm_nil))))))) pkm_nil)))
    (pssm_cons (psm_asg (pm_callV (ok_slants_in T) argF_V hr (by decide) rfl (kA (pm_var 0) pkm_nil)) (pgm_tp rfl (pgms_cons (pgm_nm 5 hN) (pgms_cons (pgm_nm 6 hN) pgms_nil))))
    (pssm_one (psm_ret (pm_tup (pms_cons (pm_var 1) (pms_cons (pm_var 2) (pms_cons (pm_tup (pms_cons (pm_callV (ok_multiplied T) argF_V hr (by decide) rfl (kA (pm_var 5) pkm_nil)) (pms_cons (pm_callV (ok_multiplied T) argF_V hr (by decide) rfl (kA (pm_var 6) pkm_nil)) pms_nil))) pms_nil))))))))
def b_is_even_times : MS := (sSeq (sAsg (.tp [(.nm 1), (.nm 2), (.nm 3)]) (eCall m_products_in (kCons .val (eVar 0) kNil)))
  (sRet (e2 opEq (e1 fLenSet (e2 opAdd (eVar 1) (eVar 2))) (eCon (.int 1)))))
def m_is_even_times : List Slot → M D := fnV 1 3 b_is_even_times
theorem ok_is_even_times (T : Tx K mg) : Cl P w K mg base 3 "is_even_times" .val 1 m_is_even_times := mkV (N := ["table", "rows", "columns", "slants"]) T.d_is_even_times ⟨rfl, rfl, rfl, by decide +kernel, rfl, by decide +kernel, by decide +kernel⟩ rfl rfl fun f cdv A outer s H E hr => by
  have hN : (["table", "rows", "columns", "slants"] : List Str).Nodup := by decide +kernel
  unfold b_is_even_times
  exact (pssm_cons (psm_asg (pm_callV (ok_products_in T) argF_V hr (by decide) rfl (kA (pm_var 0) pkm_nil)) (pgm_tp rfl (pgms_cons (pgm_nm 1 hN) (pgms_cons (pgm_nm 2 hN) (pgms_cons (pgm_nm 3 hN) pgms_nil)))))
    (pssm_one (psm_ret (pm_cmp (o_eq hr.u65) (PM.b (pm_lenSet rfl T.n_len rfl T.n_set (PM.b (pm_bin o_add (PM.b (pm_var 1)) (PM.b (pm_var 2)))) rfl)) (PM.b (pm_int))))))
def b_is_times_in : MS := (sSeq (sAsg (.tp [(.nm 1), (.nm 2), (.nm 3)]) (eCall m_products_in (kCons .val (eVar 0) kNil)))
  (sRet (e2 opEq (e1 fLenSet (e2 opAdd (e2 opAdd (eVar 1) (eVar 2)) (eVar 3))) (eCon (.int 1)))))
def m_is_times_in : List Slot → M D := fnV 1 3 b_is_times_in
theorem ok_is_times_in (T : Tx K mg) : Cl P w K mg base 3 "is_times_in" .val 1 m_is_times_in := mkV (N := ["table", "rows", "columns", "slants"]) T.d_is_times_in ⟨rfl, rfl, rfl, by decide +kernel, rfl, by decide +kernel, by decide +kernel⟩ rfl rfl fun f cdv A outer s H E hr => by
  have hN : (["table", "rows", "columns", "slants"] : List Str).Nodup := by decide +kernel
  unfold b_is_times_in
  exact (pssm_cons (psm_asg (pm_callV (ok_products_in T) argF_V hr (by decide) rfl (kA (pm_var 0) pkm_nil)) (pgm_tp rfl (pgms_cons (pgm_nm 1 hN) (pgms_cons (pgm_nm 2 hN) (pgms_cons (pgm_nm 3 hN) pgms_nil)))))
    (pssm_one (psm_ret (pm_cmp (o_eq hr.u65) (PM.b (pm_lenSet rfl T.n_len rfl T.n_set (PM.b (pm_bin o_add (PM.b (pm_bin o_add (PM.b (pm_var 1)) (PM.b (pm_var 2)))) (PM.b (pm_var 3)))) rfl)) (PM.b (pm_int))))))
def b_named_products : MS := (sSeq (sAsg (.tp [(.nm 1), (.nm 2), (.nm 3)]) (eCall m_products_in (kCons .val (eVar 0) kNil)))
  (sSeq (sSet .val 4 (eComp [5, 6] (iRng enum1 (esCons (eVar 1) esNil)) (.tp [(.nm 5), (.nm 6)]) cYes (eTup (esCons (eTup (esCons (eCon (.str "row")) (esCons (eVar 5) esNil))) (esCons (eVar 6) esNil)))))
  (sSeq (sSet .val 4 (e2 opAdd (eVar 4) (eComp [5, 6] (iRng enum1 (esCons (eVar 2) esNil)) (.tp [(.nm 5), (.nm 6)]) cYes (eTup (esCons (eTup (esCons (eCon (.str "column")) (esCons (eVar 5) esNil))) (esCons (eVar 6) esNil))))))
  (sRet (e2 opAdd (eVar 4) (eComp [5, 6] (iRng enum1 (esCons (eVar 3) esNil)) (.tp [(.nm 5), (.nm 6)]) cYes (eTup (esCons (eTup (esCons (eCon (.str "slant")) (esCons (eVar 5) esNil))) (esCons (eVar 6) esNil)))))))))
def m_named_products : List Slot → M D := fnV 1 6 b_named_products
theorem ok_named_products (T : Tx K mg) : Cl P w K mg base 3 "named_products" .val 1 m_named_products := mkV (N := ["table", "rows", "columns", "slants", "found", "at", "product"]) T.d_named_products ⟨rfl, rfl, rfl, by decide +kernel, rfl, by decide +kernel, by decide +kernel⟩ rfl rfl fun f cdv A outer s H E hr => by
  have hN : (["table", "rows", "columns", "slants", "found", "at", "product"] : List Str).Nodup := by decide +kernel
  unfold b_named_products
  exact (pssm_cons (psm_asg (pm_callV (ok_products_in T) argF_V hr (by decide) rfl (kA (pm_var 0) pkm_nil)) (pgm_tp rfl (pgms_cons (pgm_nm 1 hN) (pgms_cons (pgm_nm 2 hN) (pgms_cons (pgm_nm 3 hN) pgms_nil)))))
    (pssm_cons (psm_setLcV 4 (own := [("at", 5), ("product", 6)]) rfl hN (.inl rfl) (pim_enum (kf := .val) rfl T.n_enumerate (pms_cons (pm_var 1) pms_nil)) (blkOk_by (by rfl)) (by decide) (fun _ _ _ _ _ => (pgm_tp rfl (pgms_cons (pgm_nm 5 hN) (pgms_cons (pgm_nm 6 hN) pgms_nil)))) (fun _ _ _ _ _ => ptsm_nil) (fun _ _ _ _ _ => (pm_tup (pms_cons (pm_tup (pms_cons (T.g_ROW rfl) (pms_cons (pm_var 5) pms_nil))) (pms_cons (pm_var 6) pms_nil)))))
    (pssm_cons (psm_set (k := .val) 4 hN (pm_bin o_add (PM.b (pm_var 4)) (PM.b (PM.frs (pm_lc (own := [("at", 5), ("product", 6)]) rfl hN (.inl rfl) (pim_enum (kf := .val) rfl T.n_enumerate (pms_cons (pm_var 2) pms_nil)) (blkOk_by (by rfl)) (by decide) (fun _ _ _ _ _ => (pgm_tp rfl (pgms_cons (pgm_nm 5 hN) (pgms_cons (pgm_nm 6 hN) pgms_nil)))) (fun _ _ _ _ _ => ptsm_nil) (fun _ _ _ _ _ => (pm_tup (pms_cons (pm_tup (pms_cons (T.g_COLUMN rfl) (pms_cons (pm_var 5) pms_nil))) (pms_cons (pm_var 6) pms_nil)))))))))
    (pssm_one (psm_ret (pm_bin o_add (PM.b (pm_var 4)) (PM.b (PM.frs (pm_lc (own := [("at", 5), ("product", 6)]) rfl hN (.inl rfl) (pim_enum (kf := .val) rfl T.n_enumerate (pms_cons (pm_var 3) pms_nil)) (blkOk_by (by rfl)) (by decide) (fun _ _ _ _ _ => (pgm_tp rfl (pgms_cons (pgm_nm 5 hN) (pgms_cons (pgm_nm 6 hN) pgms_nil)))) (fun _ _ _ _ _ => ptsm_nil) (fun _ _ _ _ _ => (pm_tup (pms_cons (pm_tup (pms_cons (T.g_SLANT rfl) (pms_cons (pm_var 5) pms_nil))) (pms_cons (pm_var 6) pms_nil)))))))))))))
def b_break_by_products : MS := (sSeq (sSet .val 1 (eCall m_named_products (kCons .val (eVar 0) kNil)))
  (sSeq (sSet .val 2 (eComp [3, 4] (iSeq (eVar 1)) (.tp [(.nm 3), (.nm 4)]) (tst (e2 opNe (eVar 4) (e2 opIdx (e2 opIdx (eVar 1) (eCon (.int 0))) (eCon (.int 1))))) (eVar 3)))
  (sRet (eIf (e2 opNe (eVar 2) (eLst esNil)) (eTup (esCons (e2 opIdx (e2 opIdx (eVar 1) (eCon (.int 0))) (eCon (.int 0))) (esCons (e2 opIdx (eVar 2) (eCon (.int 0))) esNil))) (eCon .none)))))
def m_break_by_products : List Slot → M D := fnV 1 4 b_break_by_products
theorem ok_break_by_products (T : Tx K mg) : Cl P w K mg base 4 "break_by_products" .val 1 m_break_by_products := mkV (N := ["table", "named", "unlike", "line", "product"]) T.d_break_by_products ⟨rfl, rfl, rfl, by decide +kernel, rfl, by decide +kernel, by decide +kernel⟩ rfl rfl fun f cdv A outer s H E hr => by
  have hN : (["table", "named", "unlike", "line", "product"] : List Str).Nodup := by decide +kernel
  unfold b_break_by_products
  exact (pssm_cons (psm_set (k := .val) 1 hN (pm_callV (ok_named_products T) argF_V hr (by decide) rfl (kA (pm_var 0) pkm_nil)))
    (pssm_cons (psm_setLcV 2 (own := [("line", 3), ("product", 4)]) rfl hN (.inl rfl) (pim_seq (.inl rfl) (pm_var 1)) (blkOk_by (by rfl)) (by decide) (fun _ _ _ _ _ => (pgm_tp rfl (pgms_cons (pgm_nm 3 hN) (pgms_cons (pgm_nm 4 hN) pgms_nil)))) (fun _ _ _ _ _ => (ptsm_one (ptm_cmp (o_ne hr.u65) (PM.b (pm_var 4)) (PM.b (pm_idx (PM.b (pm_idx (PM.b (pm_var 1)) (PM.b (pm_int)))) (PM.b (pm_int))))))) (fun _ _ _ _ _ => (pm_var 3)))
    (pssm_one (psm_ret (pm_ife (ptm_cmp (o_ne hr.u65) (PM.b (pm_var 2)) (PM.b (PM.frs (pm_lst pms_nil)))) (pm_tup (pms_cons (pm_idx (PM.b (pm_idx (PM.b (pm_var 1)) (PM.b (pm_int)))) (PM.b (pm_int))) (pms_cons (pm_idx (PM.b (pm_var 2)) (PM.b (pm_int))) pms_nil))) (pm_none))))))
def b_is_times_magic : MS := (sSeq (sExpr (eCall m_need_times (kCons .val (eVar 0) kNil)))
  (sRet (eCall m_is_times_in (kCons .val (eVar 0) kNil))))
def m_is_times_magic : List Slot → M D := fnV 1 0 b_is_times_magic
theorem ok_is_times_magic (T : Tx K mg) : Cl P w K mg base 6 "is_times_magic" .val 1 m_is_times_magic := mkV (N := ["table"]) T.d_is_times_magic ⟨rfl, rfl, rfl, by decide +kernel, rfl, by decide +kernel, by decide +kernel⟩ rfl rfl fun f cdv A outer s H E hr => by
  have hN : (["table"] : List Str).Nodup := by decide +kernel
  unfold b_is_times_magic
  exact (pssm_cons (psm_expr (k := .val) (pm_callV (ok_need_times T) argF_V hr (by decide) rfl (kA (pm_var 0) pkm_nil)))
    (pssm_one (psm_ret (pm_callV (ok_is_times_in T) argF_V hr (by decide) rfl (kA (pm_var 0) pkm_nil)))))
def b_is_both_ways : MS := (sSeq (sExpr (eCall m_need_times (kCons .val (eVar 0) kNil)))
  (sRet (eAnd (eCall m_is_times_in (kCons .val (eVar 0) kNil)) (eCall m_is_magic_in (kCons .val (eVar 0) kNil)))))
def m_is_both_ways : List Slot → M D := fnV 1 0 b_is_both_ways
theorem ok_is_both_ways (T : Tx K mg) : Cl P w K mg base 6 "is_both_ways" .val 1 m_is_both_ways := mkV (N := ["table"]) T.d_is_both_ways ⟨rfl, rfl, rfl, by decide +kernel, rfl, by decide +kernel, by decide +kernel⟩ rfl rfl fun f cdv A outer s H E hr => by
  have hN : (["table"] : List Str).Nodup := by decide +kernel
  unfold b_is_both_ways
  exact (pssm_cons (psm_expr (k := .val) (pm_callV (ok_need_times T) argF_V hr (by decide) rfl (kA (pm_var 0) pkm_nil)))
    (pssm_one (psm_ret (pm_and (PM.b (pm_callV (ok_is_times_in T) argF_V hr (by decide) rfl (kA (pm_var 0) pkm_nil))) (pm_one (pm_callV (ok_is_magic_in T) argF_V hr (by decide) rfl (kA (pm_var 0) pkm_nil)))))))
def b_times_product : MS := (sSeq (sExpr (eCall m_need_times (kCons .val (eVar 0) kNil)))
  (sSeq (sIf (tst (eNot (eCall m_is_even_times (kCons .val (eVar 0) kNil)))) (fun _ => stuck) sNil)
  (sRet (eCall m_multiplied (kCons .val (e2 opIdx (eVar 0) (eCon (.int 0))) kNil)))))
def m_times_product : List Slot → M D := fnV 1 0 b_times_product
theorem ok_times_product (T : Tx K mg) : Cl P w K mg base 6 "times_product" .val 1 m_times_product := mkV (N := ["table"]) T.d_times_product ⟨rfl, rfl, rfl, by decide +kernel, rfl, by decide +kernel, by decide +kernel⟩ rfl rfl fun f cdv A outer s H E hr => by
  have hN : (["table"] : List Str).Nodup := by decide +kernel
  unfold b_times_product
  exact (pssm_cons (psm_expr (k := .val) (pm_callV (ok_need_times T) argF_V hr (by decide) rfl (kA (pm_var 0) pkm_nil)))
    (pssm_cons (psm_if (ptm_not (ptm_val (PM.b (pm_callV (ok_is_even_times T) argF_V hr (by decide) rfl (kA (pm_var 0) pkm_nil))))) (pssm_one psm_never) pssm_nil)
    (pssm_one (psm_ret (pm_callV (ok_multiplied T) argF_V hr (by decide) rfl (kA (pm_idx (PM.b (pm_var 0)) (PM.b (pm_int))) pkm_nil))))))
def b_times_break : MS := (sSeq (sExpr (eCall m_need_times (kCons .val (eVar 0) kNil)))
  (sRet (eCall m_break_by_products (kCons .val (eVar 0) kNil))))
def m_times_break : List Slot → M D := fnV 1 0 b_times_break
theorem ok_times_break (T : Tx K mg) : Cl P w K mg base 6 "times_break" .val 1 m_times_break := mkV (N := ["table"]) T.d_times_break ⟨rfl, rfl, rfl, by decide +kernel, rfl, by decide +kernel, by decide +kernel⟩ rfl rfl fun f cdv A outer s H E hr => by
  have hN : (["table"] : List Str).Nodup := by decide +kernel
  unfold b_times_break
  exact (pssm_cons (psm_expr (k := .val) (pm_callV (ok_need_times T) argF_V hr (by decide) rfl (kA (pm_var 0) pkm_nil)))
    (pssm_one (psm_ret (pm_callV (ok_break_by_products T) argF_V hr (by decide) rfl (kA (pm_var 0) pkm_nil)))))
def b_place_by_place : MS := (sSeq (sSet .frs 2 (eLst esNil))
  (sSeq (sFor (iRng zip2 (esCons (eVar 0) (esCons (eVar 1) esNil))) (.tp [(.nm 3), (.nm 4)]) (sApp 2 (e1 fTuple (eComp [5, 6] (iRng zip2 (esCons (eVar 3) (esCons (eVar 4) esNil))) (.tp [(.nm 5), (.nm 6)]) cYes (e2 opMul (eVar 5) (eVar 6))))))
  (sRet (e1 fTuple (eBor 2)))))
def m_place_by_place : List Slot → M D := fnV 2 5 b_place_by_place
theorem ok_place_by_place (T : Tx K mg) : Cl P w K mg base 1 "place_by_place" .val 2 m_place_by_place := mkV (N := ["table", "other", "rows", "line", "second", "one", "two"]) T.d_place_by_place ⟨rfl, rfl, rfl, by decide +kernel, rfl, by decide +kernel, by decide +kernel⟩ rfl rfl fun f cdv A outer s H E hr => by
  have hN : (["table", "other", "rows", "line", "second", "one", "two"] : List Str).Nodup := by decide +kernel
  unfold b_place_by_place
  exact (pssm_cons (psm_set (k := .frs) 2 hN (pm_lst pms_nil))
    (pssm_cons (psm_for PassesOwn.never rfl (pim_zip (kf := .val) rfl T.n_zip (pms_cons (pm_var 0) (pms_cons (pm_var 1) pms_nil))) (pgm_tp rfl (pgms_cons (pgm_nm 3 hN) (pgms_cons (pgm_nm 4 hN) pgms_nil))) (pssm_one (psm_app 2 (pm_callTy c_tuple rfl T.n_tuple boot_tuple (PM.b (PM.frs (pm_lc (own := [("one", 5), ("two", 6)]) rfl hN (.inl rfl) (pim_zip (kf := .val) rfl T.n_zip (pms_cons (pm_var 3) (pms_cons (pm_var 4) pms_nil))) (blkOk_by (by rfl)) (by decide) (fun _ _ _ _ _ => (pgm_tp rfl (pgms_cons (pgm_nm 5 hN) (pgms_cons (pgm_nm 6 hN) pgms_nil)))) (fun _ _ _ _ _ => ptsm_nil) (fun _ _ _ _ _ => (pm_bin o_mul (PM.b (pm_var 5)) (PM.b (pm_var 6)))))))))))
    (pssm_one (psm_ret (pm_callTy c_tuple rfl T.n_tuple boot_tuple (pm_bor 2))))))
def b_multiplied_tables : MS := (sSeq (sExpr (eCall m_need_table (kCons .val (eVar 0) kNil)))
  (sSeq (sExpr (eCall m_need_table (kCons .val (eVar 1) kNil)))
  (sSeq (sIf (tst (e2 opNe (e1 fLen (eVar 0)) (e1 fLen (eVar 1)))) (fun _ => stuck) sNil)
  (sRet (eCall m_let_table (kCons .val (eCall m_place_by_place (kCons .val (eVar 0) (kCons .val (eVar 1) kNil))) kNil))))))
def m_multiplied_tables : List Slot → M D := fnV 2 0 b_multiplied_tables
theorem ok_multiplied_tables (T : Tx K mg) : Cl P w K mg base 6 "multiplied_tables" .val 2 m_multiplied_tables := mkV (N := ["table", "other"]) T.d_multiplied_tables ⟨rfl, rfl, rfl, by decide +kernel, rfl, by decide +kernel, by decide +kernel⟩ rfl rfl fun f cdv A outer s H E hr => by
  have hN : (["table", "other"] : List Str).Nodup := by decide +kernel
  unfold b_multiplied_tables
  exact (pssm_cons (psm_expr (k := .val) (pm_callV (ok_need_table T) argF_V hr (by decide) rfl (kA (pm_var 0) pkm_nil)))
    (pssm_cons (psm_expr (k := .val) (pm_callV (ok_need_table T) argF_V hr (by decide) rfl (kA (pm_var 1) pkm_nil)))
    (pssm_cons (psm_if (ptm_cmp (o_ne hr.u65) (PM.b (pm_callB c_len rfl T.n_len boot_len (PM.b (pm_var 0)))) (PM.b (pm_callB c_len rfl T.n_len boot_len (PM.b (pm_var 1))))) (pssm_one psm_never) pssm_nil)
    (pssm_one (psm_ret (pm_callV (ok_let_table T) argF_V hr (by decide) rfl (kA (pm_callV (ok_place_by_place T) argF_V hr (by decide) rfl (kA (pm_var 0) (kA (pm_var 1) pkm_nil))) pkm_nil)))))))
def b__law_cup : MS := (sSeq (sSet .val 1 (e1 fAbs (e2 opIdx (e2 opAdd (eScr 0) (eLst (esCons (eCon (.int 0)) esNil))) (eCon (.int 0)))))
  (sRet (eLst (esCons (eIf (e2 opGe (eVar 1) (e2 opPow (eCon (.int 10)) (eCon (.int 18)))) (e2 opFdiv (eVar 1) (eCon (.int 73))) (eCon (.int 0))) (esCons (e2 opAdd (e2 opMod (e1 fInt (e2 opAdd (e2 opMul (eVar 1) (eCon (.int 283))) (eCon (.int 3907)))) (eCon (.int 2077503167))) (eCon (.int 167))) esNil)))))
def m__law_cup : List Slot → M D := fnF 1 1 b__law_cup
theorem ok__law_cup (T : Tx K mg) : Cl P w K mg base 1 "_law_cup" .frs 1 m__law_cup := mkF (N := ["script", "cell"]) T.d__law_cup ⟨rfl, rfl, rfl, by decide +kernel, rfl, by decide +kernel, by decide +kernel⟩ rfl rfl fun f cdv A outer s H E hr => by
  have hN : (["script", "cell"] : List Str).Nodup := by decide +kernel
  unfold b__law_cup
  exact (pssm_cons (psm_set (k := .val) 1 hN (pm_callB c_abs rfl T.n_abs boot_abs (PM.b (pm_idx (PM.b (pm_bin o_add (PM.b (PM.frs (pm_scr 0 rfl T.n_list))) (PM.b (PM.frs (pm_lst (pms_cons (pm_int) pms_nil)))))) (PM.b (pm_int))))))
    (pssm_one (psm_retF (pm_lst (pms_cons (pm_ife (ptm_cmp o_ge (PM.b (pm_var 1)) (PM.b (pm_bin o_pow (PM.b (pm_int)) (PM.b (pm_int))))) (pm_bin o_fdiv (PM.b (pm_var 1)) (PM.b (pm_int))) (pm_int)) (pms_cons (pm_bin o_add (PM.b (pm_bin o_mod (PM.b (pm_callTy c_int rfl T.n_int boot_int (PM.b (pm_bin o_add (PM.b (pm_bin o_mul (PM.b (pm_var 1)) (PM.b (pm_int)))) (PM.b (pm_int)))))) (PM.b (pm_int)))) (PM.b (pm_int))) pms_nil))))))
def b__law_roll : MS := (sSeq (sIf (tst (e2 opGt (eCup 0 0) (eCon (.int 0)))) (sSeq (sSet .val 2 (e2 opMod (e1 fInt (eCup 0 0)) (eVar 1)))
  (sSeq (sCup 0 0 (e2 opFdiv (eCup 0 0) (eVar 1)))
  (sRet (eVar 2)))) sNil)
  (sSeq (sCup 0 1 (e2 opMod (e1 fInt (e2 opAdd (e2 opMul (eCup 0 1) (eCon (.int 31051))) (eCon (.int 7993)))) (eCon (.int 2147483543))))
  (sSeq (sSet .val 3 (e2 opMod (e1 fInt (e2 opMul (eCup 0 1) (e2 opAdd (eCup 0 1) (eCon (.int 229))))) (eCon (.int 2147483587))))
  (sRet (e2 opMod (e1 fInt (e2 opFdiv (eVar 3) (eCon (.int 821)))) (eVar 1))))))
def m__law_roll : List Slot → M D := fnV 2 2 b__law_roll
theorem ok__law_roll (T : Tx K mg) : Cl P w K mg base 1 "_law_roll" .val 2 m__law_roll := mkV (N := ["cup", "many", "found", "deep"]) T.d__law_roll ⟨rfl, rfl, rfl, by decide +kernel, rfl, by decide +kernel, by decide +kernel⟩ rfl rfl fun f cdv A outer s H E hr => by
  have hN : (["cup", "many", "found", "deep"] : List Str).Nodup := by decide +kernel
  unfold b__law_roll
  exact (pssm_cons (psm_if (ptm_cmp o_gt (PM.b (pm_cup 0 0)) (PM.b (pm_int))) (pssm_cons (psm_set (k := .val) 2 hN (pm_bin o_mod (PM.b (pm_callTy c_int rfl T.n_int boot_int (PM.b (pm_cup 0 0)))) (PM.b (pm_var 1))))
    (pssm_cons (psm_cup 0 0 (pm_bin o_fdiv (PM.b (pm_cup 0 0)) (PM.b (pm_var 1))))
    (pssm_one (psm_ret (pm_var 2))))) pssm_nil)
    (pssm_cons (psm_cup 0 1 (pm_bin o_mod (PM.b (pm_callTy c_int rfl T.n_int boot_int (PM.b (pm_bin o_add (PM.b (pm_bin o_mul (PM.b (pm_cup 0 1)) (PM.b (pm_int)))) (PM.b (pm_int)))))) (PM.b (pm_int))))
    (pssm_cons (psm_set (k := .val) 3 hN (pm_bin o_mod (PM.b (pm_callTy c_int rfl T.n_int boot_int (PM.b (pm_bin o_mul (PM.b (pm_cup 0 1)) (PM.b (pm_bin o_add (PM.b (pm_cup 0 1)) (PM.b (pm_int)))))))) (PM.b (pm_int))))
    (pssm_one (psm_ret (pm_bin o_mod (PM.b (pm_callTy c_int rfl T.n_int boot_int (PM.b (pm_bin o_fdiv (PM.b (pm_var 3)) (PM.b (pm_int)))))) (PM.b (pm_var 1))))))))
def b__law_sort : MS := (sSeq (sIf (tst (eOr (e1 (opIs none) (eVar 0)) (e1 (fIsi "bool") (eVar 0)))) (sRet (eIf (e1 (opIs none) (eVar 0)) (eCon (.int 0)) (eCon (.int 1)))) sNil)
  (sSeq (sIf (tst (eOr (e1 (fIsi "int") (eVar 0)) (e1 (fIsi "str") (eVar 0)))) (sRet (eIf (e1 (fIsi "int") (eVar 0)) (eCon (.int 2)) (eCon (.int 3)))) sNil)
  (sRet (eIf (e1 (fIsi "tuple") (eVar 0)) (eCon (.int 4)) (eIf (e1 (fIsi "list") (eVar 0)) (eCon (.int 5)) (eCon (.int 6)))))))
def m__law_sort : List Slot → M D := fnV 1 0 b__law_sort
theorem ok__law_sort (T : Tx K mg) : Cl P w K mg base 1 "_law_sort" .val 1 m__law_sort := mkV (N := ["value"]) T.d__law_sort ⟨rfl, rfl, rfl, by decide +kernel, rfl, by decide +kernel, by decide +kernel⟩ rfl rfl fun f cdv A outer s H E hr => by
  have hN : (["value"] : List Str).Nodup := by decide +kernel
  unfold b__law_sort
  exact (pssm_cons (psm_if (ptm_w (pwm_or (ptm_is none (PM.b (pm_var 0))) (pwm_or1 (ptm_val (PM.b (pm_isi rfl T.n_isinstance rfl T.n_bool boot_bool (PM.b (pm_var 0)))))))) (pssm_one (psm_ret (pm_ife (ptm_is none (PM.b (pm_var 0))) (pm_int) (pm_int)))) pssm_nil)
    (pssm_cons (psm_if (ptm_w (pwm_or (ptm_val (PM.b (pm_isi rfl T.n_isinstance rfl T.n_int boot_int (PM.b (pm_var 0))))) (pwm_or1 (ptm_val (PM.b (pm_isi rfl T.n_isinstance rfl T.n_str boot_str (PM.b (pm_var 0)))))))) (pssm_one (psm_ret (pm_ife (ptm_val (PM.b (pm_isi rfl T.n_isinstance rfl T.n_int boot_int (PM.b (pm_var 0))))) (pm_int) (pm_int)))) pssm_nil)
    (pssm_one (psm_ret (pm_ife (ptm_val (PM.b (pm_isi rfl T.n_isinstance rfl T.n_tuple boot_tuple (PM.b (pm_var 0))))) (pm_int) (pm_ife (ptm_val (PM.b (pm_isi rfl T.n_isinstance rfl T.n_list boot_list (PM.b (pm_var 0))))) (pm_int) (pm_int)))))))
def b__law_like (n : Nat) (m__law_like : Nat → List Slot → M D) : MS := (sSeq (sSet .val 2 (eCall m__law_sort (kCons .val (eVar 1) kNil)))
  (sSeq (sIf (tst (eOr (e2 opNe (eCall m__law_sort (kCons .val (eVar 0) kNil)) (eVar 2)) (e2 opEq (eVar 2) (eCon (.int 6))))) (sRet (eCon (.bool false))) sNil)
  (sSeq (sIf (tst (e2 opIn (eVar 2) (eTup (esCons (eCon (.int 4)) (esCons (eCon (.int 5)) esNil))))) (sRet (eAnd (e2 opEq (e1 fLen (eVar 0)) (e1 fLen (eVar 1))) (e2 opEq (eComp [3, 4] (iRng zip2 (esCons (eVar 0) (esCons (eVar 1) esNil))) (.tp [(.nm 3), (.nm 4)]) (tst (eNot (eCall (m__law_like n) (kCons .val (eVar 3) (kCons .val (eVar 4) kNil))))) (eCon (.int 1))) (eLst esNil)))) sNil)
  (sRet (e2 opEq (eVar 0) (eVar 1))))))
def m__law_like : Nat → List Slot → M D
  | 0 => fun _ => stuck
  | n + 1 => fnV 2 3 (b__law_like n (fun _ => m__law_like n))
theorem af__law_like : ∀ n, ArgF 2 (m__law_like n)
  | 0 => argF_0
  | n + 1 => argF_V
theorem ok__law_like (T : Tx K mg) : ∀ n, Cl P w K mg base (2 + n) "_law_like" .val 2 (m__law_like n)
  | 0 => mk0 T.d__law_like rfl
  | n + 1 => mkV (N := ["one", "other", "sort", "first", "second"]) T.d__law_like ⟨rfl, rfl, rfl, by decide +kernel, rfl, by decide +kernel, by decide +kernel⟩ rfl rfl fun f cdv A outer s H E hr => by
    have hN : (["one", "other", "sort", "first", "second"] : List Str).Nodup := by decide +kernel
    have hr : Room (2 + n) _ := hr
    have ih := ok__law_like T n
    have af := af__law_like n
    unfold b__law_like
    exact (pssm_cons (psm_set (k := .val) 2 hN (pm_callV (ok__law_sort T) argF_V hr (by omega) rfl (kA (pm_var 1) pkm_nil)))
    (pssm_cons (psm_if (ptm_w (pwm_or (ptm_cmp (o_ne hr.u65) (PM.b (pm_callV (ok__law_sort T) argF_V hr (by omega) rfl (kA (pm_var 0) pkm_nil))) (PM.b (pm_var 2))) (pwm_or1 (ptm_cmp (o_eq hr.u65) (PM.b (pm_var 2)) (PM.b (pm_int)))))) (pssm_one (psm_ret (pm_bool))) pssm_nil)
    (pssm_cons (psm_if (ptm_cmp (o_in hr.u65) (PM.b (pm_var 2)) (PM.b (pm_tup (pms_cons (pm_int) (pms_cons (pm_int) pms_nil))))) (pssm_one (psm_ret (pm_and (PM.b (pm_cmp (o_eq hr.u65) (PM.b (pm_callB c_len rfl T.n_len boot_len (PM.b (pm_var 0)))) (PM.b (pm_callB c_len rfl T.n_len boot_len (PM.b (pm_var 1)))))) (pm_one (pm_cmp (o_eq hr.u65) (PM.b (PM.frs (pm_lc (own := [("first", 3), ("second", 4)]) rfl hN (.inl rfl) (pim_zip (kf := .val) rfl T.n_zip (pms_cons (pm_var 0) (pms_cons (pm_var 1) pms_nil))) (blkOk_by (by rfl)) (by decide) (fun _ _ _ _ _ => (pgm_tp rfl (pgms_cons (pgm_nm 3 hN) (pgms_cons (pgm_nm 4 hN) pgms_nil)))) (fun _ _ _ _ _ => (ptsm_one (ptm_not (ptm_val (PM.b (pm_callV ih af hr (by omega) rfl (kA (pm_var 3) (kA (pm_var 4) pkm_nil)))))))) (fun _ _ _ _ _ => (pm_int))))) (PM.b (PM.frs (pm_lst pms_nil)))))))) pssm_nil)
    (pssm_one (psm_ret (pm_cmp (o_eq hr.u65) (PM.b (pm_var 0)) (PM.b (pm_var 1))))))))
def b__law_three : MS := (sRet (eTup (esCons (eTup (esCons (e2 opSub (eVar 0) (eVar 1)) (esCons (e2 opAdd (e2 opAdd (eVar 0) (eVar 1)) (eVar 2)) (esCons (e2 opSub (eVar 0) (eVar 2)) esNil)))) (esCons (eTup (esCons (e2 opSub (e2 opAdd (eVar 0) (eVar 1)) (eVar 2)) (esCons (eVar 0) (esCons (e2 opAdd (e2 opSub (eVar 0) (eVar 1)) (eVar 2)) esNil)))) (esCons (eTup (esCons (e2 opAdd (eVar 0) (eVar 2)) (esCons (e2 opSub (e2 opSub (eVar 0) (eVar 1)) (eVar 2)) (esCons (e2 opAdd (eVar 0) (eVar 1)) esNil)))) esNil)))))
def m__law_three : List Slot → M D := fnV 3 0 b__law_three
theorem ok__law_three (T : Tx K mg) : Cl P w K mg base 1 "_law_three" .val 3 m__law_three := mkV (N := ["middle", "one", "other"]) T.d__law_three ⟨rfl, rfl, rfl, by decide +kernel, rfl, by decide +kernel, by decide +kernel⟩ rfl rfl fun f cdv A outer s H E hr => by
  have hN : (["middle", "one", "other"] : List Str).Nodup := by decide +kernel
  unfold b__law_three
  exact (pssm_one (psm_ret (pm_tup (pms_cons (pm_tup (pms_cons (pm_bin o_sub (PM.b (pm_var 0)) (PM.b (pm_var 1))) (pms_cons (pm_bin o_add (PM.b (pm_bin o_add (PM.b (pm_var 0)) (PM.b (pm_var 1)))) (PM.b (pm_var 2))) (pms_cons (pm_bin o_sub (PM.b (pm_var 0)) (PM.b (pm_var 2))) pms_nil)))) (pms_cons (pm_tup (pms_cons (pm_bin o_sub (PM.b (pm_bin o_add (PM.b (pm_var 0)) (PM.b (pm_var 1)))) (PM.b (pm_var 2))) (pms_cons (pm_var 0) (pms_cons (pm_bin o_add (PM.b (pm_bin o_sub (PM.b (pm_var 0)) (PM.b (pm_var 1)))) (PM.b (pm_var 2))) pms_nil)))) (pms_cons (pm_tup (pms_cons (pm_bin o_add (PM.b (pm_var 0)) (PM.b (pm_var 2))) (pms_cons (pm_bin o_sub (PM.b (pm_bin o_sub (PM.b (pm_var 0)) (PM.b (pm_var 1)))) (PM.b (pm_var 2))) (pms_cons (pm_bin o_add (PM.b (pm_var 0)) (PM.b (pm_var 1))) pms_nil)))) pms_nil))))))
def b__law_sums : MS := (sSeq (sSet .val 1 (e1 fLen (eVar 0)))
  (sSeq (sPar [2, 3] (kCons .val (e1 fTuple (eComp [4] (iSeq (eVar 0)) (.nm 4) cYes (e1 fSum (eVar 4)))) (kCons .val (e1 fTuple (eComp [5] (iRng rng1 (esCons (eVar 1) esNil)) (.nm 5) cYes (e1 fSum (eComp [4] (iSeq (eVar 0)) (.nm 4) cYes (e2 opIdx (eVar 4) (eVar 5)))))) kNil)))
  (sRet (eTup (esCons (eVar 2) (esCons (eVar 3) (esCons (eTup (esCons (e1 fSum (eComp [6] (iRng rng1 (esCons (eVar 1) esNil)) (.nm 6) cYes (e2 opIdx (e2 opIdx (eVar 0) (eVar 6)) (eVar 6)))) (esCons (e1 fSum (eComp [6] (iRng rng1 (esCons (eVar 1) esNil)) (.nm 6) cYes (e2 opIdx (e2 opIdx (eVar 0) (eVar 6)) (e2 opSub (e2 opSub (eVar 1) (eCon (.int 1))) (eVar 6))))) esNil))) esNil)))))))
def m__law_sums : List Slot → M D := fnV 1 6 b__law_sums
theorem ok__law_sums (T : Tx K mg) : Cl P w K mg base 1 "_law_sums" .val 1 m__law_sums := mkV (N := ["table", "size", "rows", "columns", "row", "column", "at"]) T.d__law_sums ⟨rfl, rfl, rfl, by decide +kernel, rfl, by decide +kernel, by decide +kernel⟩ rfl rfl fun f cdv A outer s H E hr => by
  have hN : (["table", "size", "rows", "columns", "row", "column", "at"] : List Str).Nodup := by decide +kernel
  unfold b__law_sums
  exact (pssm_cons (psm_set (k := .val) 1 hN (pm_callB c_len rfl T.n_len boot_len (PM.b (pm_var 0))))
    (pssm_cons (psm_par2 2 3 rfl hN (kV (pm_callTy c_tuple rfl T.n_tuple boot_tuple (PM.b (PM.frs (pm_lc (own := [("row", 4)]) rfl hN (.inl rfl) (pim_seq (.inl rfl) (pm_var 0)) (blkOk_by (by rfl)) (by decide) (fun _ _ _ _ _ => (pgm_nm 4 hN)) (fun _ _ _ _ _ => ptsm_nil) (fun _ _ _ _ _ => (pm_callB (c_sum rfl) rfl T.n_sum boot_sum (PM.b (pm_var 4)))))))) (kV (pm_callTy c_tuple rfl T.n_tuple boot_tuple (PM.b (PM.frs (pm_lc (own := [("column", 5)]) rfl hN (.inl rfl) (pim_rng1 (kf := .val) rfl T.n_range (pms_cons (pm_var 1) pms_nil)) (blkOk_by (by rfl)) (by decide) (fun _ _ _ _ _ => (pgm_nm 5 hN)) (fun _ _ _ _ _ => ptsm_nil) (fun _ _ _ _ _ => (pm_callB (c_sum rfl) rfl T.n_sum boot_sum (PM.b (PM.frs (pm_lc (own := [("row", 4)]) rfl hN (.inl rfl) (pim_seq (.inl rfl) (pm_var 0)) (blkOk_by (by rfl)) (by decide) (fun _ _ _ _ _ => (pgm_nm 4 hN)) (fun _ _ _ _ _ => ptsm_nil) (fun _ _ _ _ _ => (pm_idx (PM.b (pm_var 4)) (PM.b (pm_var 5))))))))))))) pkm_nil)))
    (pssm_one (psm_ret (pm_tup (pms_cons (pm_var 2) (pms_cons (pm_var 3) (pms_cons (pm_tup (pms_cons (pm_callB (c_sum rfl) rfl T.n_sum boot_sum (PM.b (PM.frs (pm_lc (own := [("at", 6)]) rfl hN (.inl rfl) (pim_rng1 (kf := .val) rfl T.n_range (pms_cons (pm_var 1) pms_nil)) (blkOk_by (by rfl)) (by decide) (fun _ _ _ _ _ => (pgm_nm 6 hN)) (fun _ _ _ _ _ => ptsm_nil) (fun _ _ _ _ _ => (pm_idx (PM.b (pm_idx (PM.b (pm_var 0)) (PM.b (pm_var 6)))) (PM.b (pm_var 6)))))))) (pms_cons (pm_callB (c_sum rfl) rfl T.n_sum boot_sum (PM.b (PM.frs (pm_lc (own := [("at", 6)]) rfl hN (.inl rfl) (pim_rng1 (kf := .val) rfl T.n_range (pms_cons (pm_var 1) pms_nil)) (blkOk_by (by rfl)) (by decide) (fun _ _ _ _ _ => (pgm_nm 6 hN)) (fun _ _ _ _ _ => ptsm_nil) (fun _ _ _ _ _ => (pm_idx (PM.b (pm_idx (PM.b (pm_var 0)) (PM.b (pm_var 6)))) (PM.b (pm_bin o_sub (PM.b (pm_bin o_sub (PM.b (pm_var 1)) (PM.b (pm_int)))) (PM.b (pm_var 6)))))))))) pms_nil))) pms_nil))))))))
def b__law_is_magic : MS := (sSeq (sAsg (.tp [(.nm 1), (.nm 2), (.nm 3)]) (eCall m__law_sums (kCons .val (eVar 0) kNil)))
  (sRet (e2 opEq (eComp [4] (iSeq (e2 opAdd (e2 opAdd (eVar 1) (eVar 2)) (eVar 3))) (.nm 4) (tst (e2 opNe (eVar 4) (e2 opIdx (eVar 1) (eCon (.int 0))))) (eVar 4)) (eLst esNil))))
def m__law_is_magic : List Slot → M D := fnV 1 4 b__law_is_magic
theorem ok__law_is_magic (T : Tx K mg) : Cl P w K mg base 2 "_law_is_magic" .val 1 m__law_is_magic := mkV (N := ["table", "rows", "columns", "slants", "one"]) T.d__law_is_magic ⟨rfl, rfl, rfl, by decide +kernel, rfl, by decide +kernel, by decide +kernel⟩ rfl rfl fun f cdv A outer s H E hr => by
  have hN : (["table", "rows", "columns", "slants", "one"] : List Str).Nodup := by decide +kernel
  unfold b__law_is_magic
  exact (pssm_cons (psm_asg (pm_callV (ok__law_sums T) argF_V hr (by decide) rfl (kA (pm_var 0) pkm_nil)) (pgm_tp rfl (pgms_cons (pgm_nm 1 hN) (pgms_cons (pgm_nm 2 hN) (pgms_cons (pgm_nm 3 hN) pgms_nil)))))
    (pssm_one (psm_ret (pm_cmp (o_eq hr.u65) (PM.b (PM.frs (pm_lc (own := [("one", 4)]) rfl hN (.inl rfl) (pim_seq (.inl rfl) (pm_bin o_add (PM.b (pm_bin o_add (PM.b (pm_var 1)) (PM.b (pm_var 2)))) (PM.b (pm_var 3)))) (blkOk_by (by rfl)) (by decide) (fun _ _ _ _ _ => (pgm_nm 4 hN)) (fun _ _ _ _ _ => (ptsm_one (ptm_cmp (o_ne hr.u65) (PM.b (pm_var 4)) (PM.b (pm_idx (PM.b (pm_var 1)) (PM.b (pm_int))))))) (fun _ _ _ _ _ => (pm_var 4))))) (PM.b (PM.frs (pm_lst pms_nil)))))))
def b__law_products : MS := (sSeq (sPar [1, 2] (kCons .val (e1 fLen (eVar 0)) (kCons .frs (eLst esNil) kNil)))
  (sSeq (sSet .val 3 (e2 opAdd (e1 fList (eVar 0)) (eComp [5] (iRng rng1 (esCons (eVar 1) esNil)) (.nm 5) cYes (e1 fTuple (eComp [4] (iSeq (eVar 0)) (.nm 4) cYes (e2 opIdx (eVar 4) (eVar 5)))))))
  (sSeq (sSet .val 3 (e2 opAdd (eVar 3) (eLst (esCons (e1 fTuple (eComp [6] (iRng rng1 (esCons (eVar 1) esNil)) (.nm 6) cYes (e2 opIdx (e2 opIdx (eVar 0) (eVar 6)) (eVar 6)))) (esCons (e1 fTuple (eComp [6] (iRng rng1 (esCons (eVar 1) esNil)) (.nm 6) cYes (e2 opIdx (e2 opIdx (eVar 0) (eVar 6)) (e2 opSub (e2 opSub (eVar 1) (eCon (.int 1))) (eVar 6))))) esNil)))))
  (sSeq (sFor (iSeq (eVar 3)) (.nm 7) (sSeq (sSet .val 8 (eCon (.int 1)))
  (sSeq (sFor (iSeq (eVar 7)) (.nm 9) (sSet .val 8 (e2 opMul (eVar 8) (eVar 9))))
  (sApp 2 (eVar 8)))))
  (sRet (eTup (esCons (e1 fTuple (eSl opCut (eBor 2) pNo (pSo (eVar 1)))) (esCons (e1 fTuple (eSl opCut (eBor 2) (pSo (eVar 1)) (pSo (e2 opMul (eCon (.int 2)) (eVar 1))))) (esCons (eTup (esCons (e2 opIdx (eBor 2) (e2 opMul (eCon (.int 2)) (eVar 1))) (esCons (e2 opIdx (eBor 2) (e2 opAdd (e2 opMul (eCon (.int 2)) (eVar 1)) (eCon (.int 1)))) esNil))) esNil)))))))))
def m__law_products : List Slot → M D := fnV 1 9 b__law_products
theorem ok__law_products (T : Tx K mg) : Cl P w K mg base 1 "_law_products" .val 1 m__law_products := mkV (N := ["table", "size", "found", "lines", "row", "column", "at", "line", "product", "number"]) T.d__law_products ⟨rfl, rfl, rfl, by decide +kernel, rfl, by decide +kernel, by decide +kernel⟩ rfl rfl fun f cdv A outer s H E hr => by
  have hN : (["table", "size", "found", "lines", "row", "column", "at", "line", "product", "number"] : List Str).Nodup := by decide +kernel
  unfold b__law_products
  exact (pssm_cons (psm_parT2 1 2 rfl hN (kV (pm_callB c_len rfl T.n_len boot_len (PM.b (pm_var 0))) (kF (pm_lst pms_nil) pkm_nil)))
    (pssm_cons (psm_set (k := .val) 3 hN (pm_bin o_add (PM.b (PM.frs (pm_callTy c_list rfl T.n_list boot_list (PM.b (pm_var 0))))) (PM.b (PM.frs (pm_lc (own := [("column", 5)]) rfl hN (.inl rfl) (pim_rng1 (kf := .val) rfl T.n_range (pms_cons (pm_var 1) pms_nil)) (blkOk_by (by rfl)) (by decide) (fun _ _ _ _ _ => (pgm_nm 5 hN)) (fun _ _ _ _ _ => ptsm_nil) (fun _ _ _ _ _ => (pm_callTy c_tuple rfl T.n_tuple boot_tuple (PM.b (PM.frs (pm_lc (own := [("row", 4)]) rfl hN (.inl rfl) (pim_seq (.inl rfl) (pm_var 0)) (blkOk_by (by rfl)) (by decide) (fun _ _ _ _ _ => (pgm_nm 4 hN)) (fun _ _ _ _ _ => ptsm_nil) (fun _ _ _ _ _ => (pm_idx (PM.b (pm_var 4)) (PM.b (pm_var 5))))))))))))))
    (pssm_cons (psm_set (k := .val) 3 hN (pm_bin o_add (PM.b (pm_var 3)) (PM.b (PM.frs (pm_lst (pms_cons (pm_callTy c_tuple rfl T.n_tuple boot_tuple (PM.b (PM.frs (pm_lc (own := [("at", 6)]) rfl hN (.inl rfl) (pim_rng1 (kf := .val) rfl T.n_range (pms_cons (pm_var 1) pms_nil)) (blkOk_by (by rfl)) (by decide) (fun _ _ _ _ _ => (pgm_nm 6 hN)) (fun _ _ _ _ _ => ptsm_nil) (fun _ _ _ _ _ => (pm_idx (PM.b (pm_idx (PM.b (pm_var 0)) (PM.b (pm_var 6)))) (PM.b (pm_var 6)))))))) (pms_cons (pm_callTy c_tuple rfl T.n_tuple boot_tuple (PM.b (PM.frs (pm_lc (own := [("at", 6)]) rfl hN (.inl rfl) (pim_rng1 (kf := .val) rfl T.n_range (pms_cons (pm_var 1) pms_nil)) (blkOk_by (by rfl)) (by decide) (fun _ _ _ _ _ => (pgm_nm 6 hN)) (fun _ _ _ _ _ => ptsm_nil) (fun _ _ _ _ _ => (pm_idx (PM.b (pm_idx (PM.b (pm_var 0)) (PM.b (pm_var 6)))) (PM.b (pm_bin o_sub (PM.b (pm_bin o_sub (PM.b (pm_var 1)) (PM.b (pm_int)))) (PM.b (pm_var 6)))))))))) pms_nil)))))))
    (pssm_cons (psm_for PassesOwn.never rfl (pim_seq (.inl rfl) (pm_var 3)) (pgm_nm 7 hN) (pssm_cons (psm_set (k := .val) 8 hN (pm_int))
    (pssm_cons (psm_for PassesOwn.never rfl (pim_seq (.inl rfl) (pm_var 7)) (pgm_nm 9 hN) (pssm_one (psm_set (k := .val) 8 hN (pm_bin o_mul (PM.b (pm_var 8)) (PM.b (pm_var 9))))))
    (pssm_one (psm_app 2 (pm_var 8))))))
    (pssm_one (psm_ret (pm_tup (pms_cons (pm_callTy c_tuple rfl T.n_tuple boot_tuple (PM.b (pm_slice sl_any (pm_bor 2) pom_no (pom_so (PM.b (pm_var 1)))))) (pms_cons (pm_callTy c_tuple rfl T.n_tuple boot_tuple (PM.b (pm_slice sl_any (pm_bor 2) (pom_so (PM.b (pm_var 1))) (pom_so (PM.b (pm_bin o_mul (PM.b (pm_int)) (PM.b (pm_var 1)))))))) (pms_cons (pm_tup (pms_cons (pm_idx (pm_bor 2) (PM.b (pm_bin o_mul (PM.b (pm_int)) (PM.b (pm_var 1))))) (pms_cons (pm_idx (pm_bor 2) (PM.b (pm_bin o_add (PM.b (pm_bin o_mul (PM.b (pm_int)) (PM.b (pm_var 1)))) (PM.b (pm_int))))) pms_nil))) pms_nil))))))))))
def b__law_alike : MS := (sSeq (sAsg (.tp [(.nm 1), (.nm 2), (.nm 3)]) (eCall m__law_products (kCons .val (eVar 0) kNil)))
  (sRet (e2 opEq (eComp [4] (iSeq (e2 opAdd (e2 opAdd (eVar 1) (eVar 2)) (eVar 3))) (.nm 4) (tst (e2 opNe (eVar 4) (e2 opIdx (eVar 1) (eCon (.int 0))))) (eVar 4)) (eLst esNil))))
def m__law_alike : List Slot → M D := fnV 1 4 b__law_alike
theorem ok__law_alike (T : Tx K mg) : Cl P w K mg base 2 "_law_alike" .val 1 m__law_alike := mkV (N := ["table", "rows", "columns", "slants", "one"]) T.d__law_alike ⟨rfl, rfl, rfl, by decide +kernel, rfl, by decide +kernel, by decide +kernel⟩ rfl rfl fun f cdv A outer s H E hr => by
  have hN : (["table", "rows", "columns", "slants", "one"] : List Str).Nodup := by decide +kernel
  unfold b__law_alike
  exact (pssm_cons (psm_asg (pm_callV (ok__law_products T) argF_V hr (by decide) rfl (kA (pm_var 0) pkm_nil)) (pgm_tp rfl (pgms_cons (pgm_nm 1 hN) (pgms_cons (pgm_nm 2 hN) (pgms_cons (pgm_nm 3 hN) pgms_nil)))))
    (pssm_one (psm_ret (pm_cmp (o_eq hr.u65) (PM.b (PM.frs (pm_lc (own := [("one", 4)]) rfl hN (.inl rfl) (pim_seq (.inl rfl) (pm_bin o_add (PM.b (pm_bin o_add (PM.b (pm_var 1)) (PM.b (pm_var 2)))) (PM.b (pm_var 3)))) (blkOk_by (by rfl)) (by decide) (fun _ _ _ _ _ => (pgm_nm 4 hN)) (fun _ _ _ _ _ => (ptsm_one (ptm_cmp (o_ne hr.u65) (PM.b (pm_var 4)) (PM.b (pm_idx (PM.b (pm_var 1)) (PM.b (pm_int))))))) (fun _ _ _ _ _ => (pm_var 4))))) (PM.b (PM.frs (pm_lst pms_nil)))))))
def b__law_three_right : MS := (sSeq (sSet .val 1 (e2 opAdd (eCon (.int 1)) (eCall m__law_roll (kCup 0 (kCons .val (eCon (.int 60)) kNil)))))
  (sSeq (sPar [2, 3] (kCons .val (eCall m__law_roll (kCup 0 (kCons .val (eVar 1) kNil))) (kCons .val (eCon (.int 0)) kNil)))
  (sSeq (sSet .val 3 (eCall m__law_roll (kCup 0 (kCons .val (e2 fMax2 (eCon (.int 1)) (e2 opSub (eVar 1) (eVar 2))) kNil))))
  (sSeq (sSet .val 4 (eCall m__law_three (kCons .val (eVar 1) (kCons .val (eVar 2) (kCons .val (eVar 3) kNil)))))
  (sSeq (sIf (tst (e2 opLt (e1 fMinA (eComp [5] (iSeq (eVar 4)) (.nm 5) cYes (e1 fMinA (eVar 5)))) (eCon (.int 1)))) (sRet (eCon (.bool true))) sNil)
  (sSeq (sSet .val 6 (eAnd (e2 opEq (eVar 2) (eCon (.int 0))) (e2 opEq (eVar 3) (eCon (.int 0)))))
  (sSeq (sIf (tst (eNot (eCall (m__law_like 9) (kCons .val (eLst (esCons (eCall m_is_both_ways (kCons .val (eVar 4) kNil)) (esCons (eCall m_is_times_magic (kCons .val (eVar 4) kNil)) (esCons (eCall m__law_alike (kCons .val (eVar 4) kNil)) (esCons (e1 (opIs none) (eCall m_times_break (kCons .val (eVar 4) kNil))) (esCons (eCall m_is_magic (kCons .val (eVar 4) kNil)) esNil)))))) (kCons .val (eLst (esCons (eVar 6) (esCons (eVar 6) (esCons (eVar 6) (esCons (eVar 6) (esCons (eCon (.bool true)) esNil)))))) kNil))))) (sRet (eCon (.bool false))) sNil)
  (sRet (eOr (eNot (eVar 6)) (eCall (m__law_like 9) (kCons .val (eLst (esCons (eCall m_times_product (kCons .val (eVar 4) kNil)) (esCons (eCall m_magic_sum (kCons .val (eVar 4) kNil)) esNil))) (kCons .val (eLst (esCons (e2 opMul (e2 opMul (eVar 1) (eVar 1)) (eVar 1)) (esCons (e2 opMul (eCon (.int 3)) (eVar 1)) esNil))) kNil))))))))))))
def m__law_three_right : List Slot → M D := fnV 1 6 b__law_three_right
theorem ok__law_three_right (T : Tx K mg) : Cl P w K mg base 12 "_law_three_right" .val 1 m__law_three_right := mkV (N := ["cup", "middle", "one", "other", "table", "line", "due"]) T.d__law_three_right ⟨rfl, rfl, rfl, by decide +kernel, rfl, by decide +kernel, by decide +kernel⟩ rfl rfl fun f cdv A outer s H E hr => by
  have hN : (["cup", "middle", "one", "other", "table", "line", "due"] : List Str).Nodup := by decide +kernel
  unfold b__law_three_right
  exact (pssm_cons (psm_set (k := .val) 1 hN (pm_bin o_add (PM.b (pm_int)) (PM.b (pm_callV (ok__law_roll T) argF_V hr (by decide) rfl (kC 0 (kA (pm_int) pkm_nil))))))
    (pssm_cons (psm_par2 2 3 rfl hN (kV (pm_callV (ok__law_roll T) argF_V hr (by decide) rfl (kC 0 (kA (pm_var 1) pkm_nil))) (kV (pm_int) pkm_nil)))
    (pssm_cons (psm_set (k := .val) 3 hN (pm_callV (ok__law_roll T) argF_V hr (by decide) rfl (kC 0 (kA (pm_callB2 (c_max2 rfl) rfl T.n_max boot_max (PM.b (pm_int)) (PM.b (pm_bin o_sub (PM.b (pm_var 1)) (PM.b (pm_var 2))))) pkm_nil))))
    (pssm_cons (psm_set (k := .val) 4 hN (pm_callV (ok__law_three T) argF_V hr (by decide) rfl (kA (pm_var 1) (kA (pm_var 2) (kA (pm_var 3) pkm_nil)))))
    (pssm_cons (psm_if (ptm_cmp (o_lt hr.u65) (PM.b (pm_callB (c_minA rfl hr.u65) rfl T.n_min boot_min (PM.b (PM.frs (pm_lc (own := [("line", 5)]) rfl hN (.inl rfl) (pim_seq (.inl rfl) (pm_var 4)) (blkOk_by (by rfl)) (by decide) (fun _ _ _ _ _ => (pgm_nm 5 hN)) (fun _ _ _ _ _ => ptsm_nil) (fun _ _ _ _ _ => (pm_callB (c_minA rfl hr.u65) rfl T.n_min boot_min (PM.b (pm_var 5))))))))) (PM.b (pm_int))) (pssm_one (psm_ret (pm_bool))) pssm_nil)
    (pssm_cons (psm_set (k := .val) 6 hN (pm_and (PM.b (pm_cmp (o_eq hr.u65) (PM.b (pm_var 2)) (PM.b (pm_int)))) (pm_one (pm_cmp (o_eq hr.u65) (PM.b (pm_var 3)) (PM.b (pm_int))))))
    (pssm_cons (psm_if (ptm_not (ptm_val (PM.b (pm_callV (ok__law_like T _) (af__law_like _) hr (by decide) rfl (kA (PM.frs (pm_lst (pms_cons (pm_callV (ok_is_both_ways T) argF_V hr (by decide) rfl (kA (pm_var 4) pkm_nil)) (pms_cons (pm_callV (ok_is_times_magic T) argF_V hr (by decide) rfl (kA (pm_var 4) pkm_nil)) (pms_cons (pm_callV (ok__law_alike T) argF_V hr (by decide) rfl (kA (pm_var 4) pkm_nil)) (pms_cons (pm_is none (PM.b (pm_callV (ok_times_break T) argF_V hr (by decide) rfl (kA (pm_var 4) pkm_nil)))) (pms_cons (pm_callV (ok_is_magic T) argF_V hr (by decide) rfl (kA (pm_var 4) pkm_nil)) pms_nil))))))) (kA (PM.frs (pm_lst (pms_cons (pm_var 6) (pms_cons (pm_var 6) (pms_cons (pm_var 6) (pms_cons (pm_var 6) (pms_cons (pm_bool) pms_nil))))))) pkm_nil)))))) (pssm_one (psm_ret (pm_bool))) pssm_nil)
    (pssm_one (psm_ret (pm_or (PM.b (pm_not (PM.b (pm_var 6)))) (pm_one (pm_callV (ok__law_like T _) (af__law_like _) hr (by decide) rfl (kA (PM.frs (pm_lst (pms_cons (pm_callV (ok_times_product T) argF_V hr (by decide) rfl (kA (pm_var 4) pkm_nil)) (pms_cons (pm_callV (ok_magic_sum T) argF_V hr (by decide) rfl (kA (pm_var 4) pkm_nil)) pms_nil)))) (kA (PM.frs (pm_lst (pms_cons (pm_bin o_mul (PM.b (pm_bin o_mul (PM.b (pm_var 1)) (PM.b (pm_var 1)))) (PM.b (pm_var 1))) (pms_cons (pm_bin o_mul (PM.b (pm_int)) (PM.b (pm_var 1))) pms_nil)))) pkm_nil))))))))))))))
def b__law_powers_right : MS := (sSeq (sPar [1, 2, 3] (kCons .val (e2 opAdd (eCon (.int 2)) (eCall m__law_roll (kCup 0 (kCons .val (eCon (.int 3)) kNil)))) (kCons .val (eCall m__law_roll (kCup 0 (kCons .val (eCon (.int 4)) kNil))) (kCons .val (eCall m__law_roll (kCup 0 (kCons .val (eCon (.int 3)) kNil))) kNil))))
  (sSeq (sSet .val 4 (eCall m__law_three (kCons .val (e2 opAdd (eVar 2) (eVar 3)) (kCons .val (eVar 2) (kCons .val (eVar 3) kNil)))))
  (sSeq (sSet .frs 5 (eLst esNil))
  (sSeq (sFor (iSeq (eVar 4)) (.nm 6) (sSeq (sSet .frs 7 (eLst esNil))
  (sSeq (sFor (iSeq (eVar 6)) (.nm 8) (sSeq (sSet .val 9 (eCon (.int 1)))
  (sSeq (sFor (iRng rng1 (esCons (eVar 8) esNil)) (.nm 10) (sSet .val 9 (e2 opMul (eVar 9) (eVar 1))))
  (sApp 7 (eVar 9)))))
  (sApp 5 (e1 fTuple (eBor 7))))))
  (sSeq (sSet .val 11 (e1 fTuple (eBor 5)))
  (sSeq (sSet .val 12 (eAnd (e2 opEq (eVar 2) (eCon (.int 0))) (e2 opEq (eVar 3) (eCon (.int 0)))))
  (sRet (eCall (m__law_like 9) (kCons .val (eLst (esCons (eCall m_is_times_magic (kCons .val (eVar 11) kNil)) (esCons (eCall m_is_magic (kCons .val (eVar 11) kNil)) (esCons (eCall m_is_both_ways (kCons .val (eVar 11) kNil)) (esCons (eCall m__law_is_magic (kCons .val (eVar 11) kNil)) esNil))))) (kCons .val (eLst (esCons (eCon (.bool true)) (esCons (eVar 12) (esCons (eVar 12) (esCons (eVar 12) esNil))))) kNil))))))))))
def m__law_powers_right : List Slot → M D := fnV 1 12 b__law_powers_right
theorem ok__law_powers_right (T : Tx K mg) : Cl P w K mg base 12 "_law_powers_right" .val 1 m__law_powers_right := mkV (N := ["cup", "base", "one", "other", "exponents", "rows", "line", "here", "number", "power", "turn", "table", "due"]) T.d__law_powers_right ⟨rfl, rfl, rfl, by decide +kernel, rfl, by decide +kernel, by decide +kernel⟩ rfl rfl fun f cdv A outer s H E hr => by
  have hN : (["cup", "base", "one", "other", "exponents", "rows", "line", "here", "number", "power", "turn", "table", "due"] : List Str).Nodup := by decide +kernel
  unfold b__law_powers_right
  exact (pssm_cons (psm_par3 1 2 3 rfl hN (kV (pm_bin o_add (PM.b (pm_int)) (PM.b (pm_callV (ok__law_roll T) argF_V hr (by decide) rfl (kC 0 (kA (pm_int) pkm_nil))))) (kV (pm_callV (ok__law_roll T) argF_V hr (by decide) rfl (kC 0 (kA (pm_int) pkm_nil))) (kV (pm_callV (ok__law_roll T) argF_V hr (by decide) rfl (kC 0 (kA (pm_int) pkm_nil))) pkm_nil))))
    (pssm_cons (psm_set (k := .val) 4 hN (pm_callV (ok__law_three T) argF_V hr (by decide) rfl (kA (pm_bin o_add (PM.b (pm_var 2)) (PM.b (pm_var 3))) (kA (pm_var 2) (kA (pm_var 3) pkm_nil)))))
    (pssm_cons (psm_set (k := .frs) 5 hN (pm_lst pms_nil))
    (pssm_cons (psm_for PassesOwn.never rfl (pim_seq (.inl rfl) (pm_var 4)) (pgm_nm 6 hN) (pssm_cons (psm_set (k := .frs) 7 hN (pm_lst pms_nil))
    (pssm_cons (psm_for PassesOwn.never rfl (pim_seq (.inl rfl) (pm_var 6)) (pgm_nm 8 hN) (pssm_cons (psm_set (k := .val) 9 hN (pm_int))
    (pssm_cons (psm_for PassesOwn.never rfl (pim_rng1 (kf := .val) rfl T.n_range (pms_cons (pm_var 8) pms_nil)) (pgm_nm 10 hN) (pssm_one (psm_set (k := .val) 9 hN (pm_bin o_mul (PM.b (pm_var 9)) (PM.b (pm_var 1))))))
    (pssm_one (psm_app 7 (pm_var 9))))))
    (pssm_one (psm_app 5 (pm_callTy c_tuple rfl T.n_tuple boot_tuple (pm_bor 7)))))))
    (pssm_cons (psm_set (k := .val) 11 hN (pm_callTy c_tuple rfl T.n_tuple boot_tuple (pm_bor 5)))
    (pssm_cons (psm_set (k := .val) 12 hN (pm_and (PM.b (pm_cmp (o_eq hr.u65) (PM.b (pm_var 2)) (PM.b (pm_int)))) (pm_one (pm_cmp (o_eq hr.u65) (PM.b (pm_var 3)) (PM.b (pm_int))))))
    (pssm_one (psm_ret (pm_callV (ok__law_like T _) (af__law_like _) hr (by decide) rfl (kA (PM.frs (pm_lst (pms_cons (pm_callV (ok_is_times_magic T) argF_V hr (by decide) rfl (kA (pm_var 11) pkm_nil)) (pms_cons (pm_callV (ok_is_magic T) argF_V hr (by decide) rfl (kA (pm_var 11) pkm_nil)) (pms_cons (pm_callV (ok_is_both_ways T) argF_V hr (by decide) rfl (kA (pm_var 11) pkm_nil)) (pms_cons (pm_callV (ok__law_is_magic T) argF_V hr (by decide) rfl (kA (pm_var 11) pkm_nil)) pms_nil)))))) (kA (PM.frs (pm_lst (pms_cons (pm_bool) (pms_cons (pm_var 12) (pms_cons (pm_var 12) (pms_cons (pm_var 12) pms_nil)))))) pkm_nil)))))))))))
def b__law_times_right : MS := (sSeq (sSet .val 1 (eCall m__law_three (kCons .val (eCon (.int 7)) (kCons .val (e2 opAdd (eCon (.int 1)) (eCall m__law_roll (kCup 0 (kCons .val (eCon (.int 2)) kNil)))) (kCons .val (eCon (.int 3)) kNil)))))
  (sSeq (sPar [2, 3] (kCons .val (e2 opAdd (eCon (.int 1)) (eCall m__law_roll (kCup 0 (kCons .val (eCon (.int 50)) kNil)))) (kCons .frs (eLst esNil) kNil)))
  (sSeq (sFor (iSeq (eVar 1)) (.nm 4) (sApp 3 (e2 opMul (eTup (esCons (eVar 2) esNil)) (eCon (.int 3)))))
  (sSeq (sSet .val 5 (eCall m_times_table (kCons .val (eVar 1) (kCons .val (eVar 2) kNil))))
  (sSeq (sIf (tst (eNot (eCall (m__law_like 9) (kCons .val (eLst (esCons (eCall m_multiplied_tables (kCons .val (eVar 1) (kCons .val (e1 fTuple (eBor 3)) kNil))) (esCons (eCall m_is_magic (kCons .val (eVar 5) kNil)) (esCons (eCall m_is_both_ways (kCons .val (eVar 5) kNil)) esNil)))) (kCons .val (eLst (esCons (eVar 5) (esCons (eCon (.bool true)) (esCons (eCon (.bool false)) esNil)))) kNil))))) (sRet (eCon (.bool false))) sNil)
  (sSeq (sSet .val 6 (e2 opMul (eTup (esCons (e2 opMul (eTup (esCons (eVar 2) esNil)) (eCon (.int 3))) esNil)) (eCon (.int 3))))
  (sRet (eAnd (e1 (opIs (some true)) (eCall m_is_both_ways (kCons .val (eVar 6) kNil))) (e1 (opIs (some true)) (eCall m_is_both_ways (kCons .val (eTup (esCons (eTup (esCons (eVar 2) (esCons (eVar 2) esNil))) (esCons (eTup (esCons (eVar 2) (esCons (eVar 2) esNil))) esNil))) kNil)))))))))))
def m__law_times_right : List Slot → M D := fnV 1 6 b__law_times_right
theorem ok__law_times_right (T : Tx K mg) : Cl P w K mg base 12 "_law_times_right" .val 1 m__law_times_right := mkV (N := ["cup", "table", "number", "rows", "line", "told", "same"]) T.d__law_times_right ⟨rfl, rfl, rfl, by decide +kernel, rfl, by decide +kernel, by decide +kernel⟩ rfl rfl fun f cdv A outer s H E hr => by
  have hN : (["cup", "table", "number", "rows", "line", "told", "same"] : List Str).Nodup := by decide +kernel
  unfold b__law_times_right
  exact (pssm_cons (psm_set (k := .val) 1 hN (pm_callV (ok__law_three T) argF_V hr (by decide) rfl (kA (pm_int) (kA (pm_bin o_add (PM.b (pm_int)) (PM.b (pm_callV (ok__law_roll T) argF_V hr (by decide) rfl (kC 0 (kA (pm_int) pkm_nil))))) (kA (pm_int) pkm_nil)))))
    (pssm_cons (psm_par2 2 3 rfl hN (kV (pm_bin o_add (PM.b (pm_int)) (PM.b (pm_callV (ok__law_roll T) argF_V hr (by decide) rfl (kC 0 (kA (pm_int) pkm_nil))))) (kF (pm_lst pms_nil) pkm_nil)))
    (pssm_cons (psm_for PassesOwn.never rfl (pim_seq (.inl rfl) (pm_var 1)) (pgm_nm 4 hN) (pssm_one (psm_app 3 (pm_bin o_mul (PM.b (pm_tup (pms_cons (pm_var 2) pms_nil))) (PM.b (pm_int))))))
    (pssm_cons (psm_set (k := .val) 5 hN (pm_callV (ok_times_table T) argF_V hr (by decide) rfl (kA (pm_var 1) (kA (pm_var 2) pkm_nil))))
    (pssm_cons (psm_if (ptm_not (ptm_val (PM.b (pm_callV (ok__law_like T _) (af__law_like _) hr (by decide) rfl (kA (PM.frs (pm_lst (pms_cons (pm_callV (ok_multiplied_tables T) argF_V hr (by decide) rfl (kA (pm_var 1) (kA (pm_callTy c_tuple rfl T.n_tuple boot_tuple (pm_bor 3)) pkm_nil))) (pms_cons (pm_callV (ok_is_magic T) argF_V hr (by decide) rfl (kA (pm_var 5) pkm_nil)) (pms_cons (pm_callV (ok_is_both_ways T) argF_V hr (by decide) rfl (kA (pm_var 5) pkm_nil)) pms_nil))))) (kA (PM.frs (pm_lst (pms_cons (pm_var 5) (pms_cons (pm_bool) (pms_cons (pm_bool) pms_nil))))) pkm_nil)))))) (pssm_one (psm_ret (pm_bool))) pssm_nil)
    (pssm_cons (psm_set (k := .val) 6 hN (pm_bin o_mul (PM.b (pm_tup (pms_cons (pm_bin o_mul (PM.b (pm_tup (pms_cons (pm_var 2) pms_nil))) (PM.b (pm_int))) pms_nil))) (PM.b (pm_int))))
    (pssm_one (psm_ret (pm_and (PM.b (pm_is (some true) (PM.b (pm_callV (ok_is_both_ways T) argF_V hr (by decide) rfl (kA (pm_var 6) pkm_nil))))) (pm_one (pm_is (some true) (PM.b (pm_callV (ok_is_both_ways T) argF_V hr (by decide) rfl (kA (pm_tup (pms_cons (pm_tup (pms_cons (pm_var 2) (pms_cons (pm_var 2) pms_nil))) (pms_cons (pm_tup (pms_cons (pm_var 2) (pms_cons (pm_var 2) pms_nil))) pms_nil))) pkm_nil))))))))))))))
def b__law_eight : MS := (sSeq (sSet .val 0 (eLst (esCons (eTup (esCons (eCon (.int 162)) (esCons (eCon (.int 207)) (esCons (eCon (.int 51)) (esCons (eCon (.int 26)) (esCons (eCon (.int 133)) (esCons (eCon (.int 120)) (esCons (eCon (.int 116)) (esCons (eCon (.int 25)) esNil))))))))) (esCons (eTup (esCons (eCon (.int 105)) (esCons (eCon (.int 152)) (esCons (eCon (.int 100)) (esCons (eCon (.int 29)) (esCons (eCon (.int 138)) (esCons (eCon (.int 243)) (esCons (eCon (.int 39)) (esCons (eCon (.int 34)) esNil))))))))) (esCons (eTup (esCons (eCon (.int 92)) (esCons (eCon (.int 27)) (esCons (eCon (.int 91)) (esCons (eCon (.int 136)) (esCons (eCon (.int 45)) (esCons (eCon (.int 38)) (esCons (eCon (.int 150)) (esCons (eCon (.int 261)) esNil))))))))) esNil)))))
  (sSeq (sSet .val 0 (e2 opAdd (eVar 0) (eLst (esCons (eTup (esCons (eCon (.int 57)) (esCons (eCon (.int 30)) (esCons (eCon (.int 174)) (esCons (eCon (.int 225)) (esCons (eCon (.int 108)) (esCons (eCon (.int 23)) (esCons (eCon (.int 119)) (esCons (eCon (.int 104)) esNil))))))))) (esCons (eTup (esCons (eCon (.int 58)) (esCons (eCon (.int 75)) (esCons (eCon (.int 171)) (esCons (eCon (.int 90)) (esCons (eCon (.int 17)) (esCons (eCon (.int 52)) (esCons (eCon (.int 216)) (esCons (eCon (.int 161)) esNil))))))))) (esCons (eTup (esCons (eCon (.int 13)) (esCons (eCon (.int 68)) (esCons (eCon (.int 184)) (esCons (eCon (.int 189)) (esCons (eCon (.int 50)) (esCons (eCon (.int 87)) (esCons (eCon (.int 135)) (esCons (eCon (.int 114)) esNil))))))))) esNil))))))
  (sRet (e1 fTuple (e2 opAdd (eVar 0) (eLst (esCons (eTup (esCons (eCon (.int 200)) (esCons (eCon (.int 203)) (esCons (eCon (.int 15)) (esCons (eCon (.int 76)) (esCons (eCon (.int 117)) (esCons (eCon (.int 102)) (esCons (eCon (.int 46)) (esCons (eCon (.int 81)) esNil))))))))) (esCons (eTup (esCons (eCon (.int 153)) (esCons (eCon (.int 78)) (esCons (eCon (.int 54)) (esCons (eCon (.int 69)) (esCons (eCon (.int 232)) (esCons (eCon (.int 175)) (esCons (eCon (.int 19)) (esCons (eCon (.int 60)) esNil))))))))) esNil))))))))
def m__law_eight : List Slot → M D := fnV 0 1 b__law_eight
theorem ok__law_eight (T : Tx K mg) : Cl P w K mg base 1 "_law_eight" .val 0 m__law_eight := mkV (N := ["rows"]) T.d__law_eight ⟨rfl, rfl, rfl, by decide +kernel, rfl, by decide +kernel, by decide +kernel⟩ rfl rfl fun f cdv A outer s H E hr => by
  have hN : (["rows"] : List Str).Nodup := by decide +kernel
  unfold b__law_eight
  exact (pssm_cons (psm_set (k := .val) 0 hN (PM.frs (pm_lst (pms_cons (pm_tup (pms_cons (pm_int) (pms_cons (pm_int) (pms_cons (pm_int) (pms_cons (pm_int) (pms_cons (pm_int) (pms_cons (pm_int) (pms_cons (pm_int) (pms_cons (pm_int) pms_nil))))))))) (pms_cons (pm_tup (pms_cons (pm_int) (pms_cons (pm_int) (pms_cons (pm_int) (pms_cons (pm_int) (pms_cons (pm_int) (pms_cons (pm_int) (pms_cons (pm_int) (pms_cons (pm_int) pms_nil))))))))) (pms_cons (pm_tup (pms_cons (pm_int) (pms_cons (pm_int) (pms_cons (pm_int) (pms_cons (pm_int) (pms_cons (pm_int) (pms_cons (pm_int) (pms_cons (pm_int) (pms_cons (pm_int) pms_nil))))))))) pms_nil))))))
    (pssm_cons (psm_set (k := .val) 0 hN (pm_bin o_add (PM.b (pm_var 0)) (PM.b (PM.frs (pm_lst (pms_cons (pm_tup (pms_cons (pm_int) (pms_cons (pm_int) (pms_cons (pm_int) (pms_cons (pm_int) (pms_cons (pm_int) (pms_cons (pm_int) (pms_cons (pm_int) (pms_cons (pm_int) pms_nil))))))))) (pms_cons (pm_tup (pms_cons (pm_int) (pms_cons (pm_int) (pms_cons (pm_int) (pms_cons (pm_int) (pms_cons (pm_int) (pms_cons (pm_int) (pms_cons (pm_int) (pms_cons (pm_int) pms_nil))))))))) (pms_cons (pm_tup (pms_cons (pm_int) (pms_cons (pm_int) (pms_cons (pm_int) (pms_cons (pm_int) (pms_cons (pm_int) (pms_cons (pm_int) (pms_cons (pm_int) (pms_cons (pm_int) pms_nil))))))))) pms_nil))))))))
    (pssm_one (psm_ret (pm_callTy c_tuple rfl T.n_tuple boot_tuple (PM.b (pm_bin o_add (PM.b (pm_var 0)) (PM.b (PM.frs (pm_lst (pms_cons (pm_tup (pms_cons (pm_int) (pms_cons (pm_int) (pms_cons (pm_int) (pms_cons (pm_int) (pms_cons (pm_int) (pms_cons (pm_int) (pms_cons (pm_int) (pms_cons (pm_int) pms_nil))))))))) (pms_cons (pm_tup (pms_cons (pm_int) (pms_cons (pm_int) (pms_cons (pm_int) (pms_cons (pm_int) (pms_cons (pm_int) (pms_cons (pm_int) (pms_cons (pm_int) (pms_cons (pm_int) pms_nil))))))))) pms_nil))))))))))))
def b__law_written_right : MS := (sSeq (sSet .val 0 (eCall m__law_eight kNil))
  (sSeq (sSet .val 1 (eLst (esCons (eCall m_is_both_ways (kCons .val (eTup (esCons (eTup (esCons (eCon (.int 5)) esNil)) esNil)) kNil)) (esCons (eCall m_is_both_ways (kCons .val (eTup (esCons (eTup (esCons (eCon (.int 2)) (esCons (eCon (.int 9)) (esCons (eCon (.int 12)) esNil)))) (esCons (eTup (esCons (eCon (.int 36)) (esCons (eCon (.int 6)) (esCons (eCon (.int 1)) esNil)))) (esCons (eTup (esCons (eCon (.int 3)) (esCons (eCon (.int 4)) (esCons (eCon (.int 18)) esNil)))) esNil)))) kNil)) (esCons (eCall m_is_both_ways (kCons .val (eTup (esCons (eTup (esCons (eCon (.int 1)) (esCons (eCon (.int 2)) esNil))) (esCons (eTup (esCons (eCon (.int 2)) (esCons (eCon (.int 1)) esNil))) esNil))) kNil)) (esCons (eCall m_times_product (kCons .val (eTup (esCons (eTup (esCons (eCon (.int 7)) (esCons (eCon (.int 7)) esNil))) (esCons (eTup (esCons (eCon (.int 7)) (esCons (eCon (.int 7)) esNil))) esNil))) kNil)) esNil))))))
  (sSeq (sIf (tst (eNot (eCall (m__law_like 9) (kCons .val (eVar 1) (kCons .val (eLst (esCons (eCon (.bool true)) (esCons (eCon (.bool false)) (esCons (eCon (.bool false)) (esCons (eCon (.int 49)) esNil))))) kNil))))) (sRet (eCon (.bool false))) sNil)
  (sRet (eCall (m__law_like 9) (kCons .val (eCall m_is_both_ways (kCons .val (eVar 0) kNil)) (kCons .val (eAnd (eCall m__law_alike (kCons .val (eVar 0) kNil)) (eCall m__law_is_magic (kCons .val (eVar 0) kNil))) kNil)))))))
def m__law_written_right : List Slot → M D := fnV 0 2 b__law_written_right
theorem ok__law_written_right (T : Tx K mg) : Cl P w K mg base 12 "_law_written_right" .val 0 m__law_written_right := mkV (N := ["eight", "told"]) T.d__law_written_right ⟨rfl, rfl, rfl, by decide +kernel, rfl, by decide +kernel, by decide +kernel⟩ rfl rfl fun f cdv A outer s H E hr => by
  have hN : (["eight", "told"] : List Str).Nodup := by decide +kernel
  unfold b__law_written_right
  exact (pssm_cons (psm_set (k := .val) 0 hN (pm_callV0 (ok__law_eight T) argF_V hr (by decide) rfl))
    (pssm_cons (psm_set (k := .val) 1 hN (PM.frs (pm_lst (pms_cons (pm_callV (ok_is_both_ways T) argF_V hr (by decide) rfl (kA (pm_tup (pms_cons (pm_tup (pms_cons (pm_int) pms_nil)) pms_nil)) pkm_nil)) (pms_cons (pm_callV (ok_is_both_ways T) argF_V hr (by decide) rfl (kA (pm_tup (pms_cons (pm_tup (pms_cons (pm_int) (pms_cons (pm_int) (pms_cons (pm_int) pms_nil)))) (pms_cons (pm_tup (pms_cons (pm_int) (pms_cons (pm_int) (pms_cons (pm_int) pms_nil)))) (pms_cons (pm_tup (pms_cons (pm_int) (pms_cons (pm_int) (pms_cons (pm_int) pms_nil)))) pms_nil)))) pkm_nil)) (pms_cons (pm_callV (ok_is_both_ways T) argF_V hr (by decide) rfl (kA (pm_tup (pms_cons (pm_tup (pms_cons (pm_int) (pms_cons (pm_int) pms_nil))) (pms_cons (pm_tup (pms_cons (pm_int) (pms_cons (pm_int) pms_nil))) pms_nil))) pkm_nil)) (pms_cons (pm_callV (ok_times_product T) argF_V hr (by decide) rfl (kA (pm_tup (pms_cons (pm_tup (pms_cons (pm_int) (pms_cons (pm_int) pms_nil))) (pms_cons (pm_tup (pms_cons (pm_int) (pms_cons (pm_int) pms_nil))) pms_nil))) pkm_nil)) pms_nil)))))))
    (pssm_cons (psm_if (ptm_not (ptm_val (PM.b (pm_callV (ok__law_like T _) (af__law_like _) hr (by decide) rfl (kA (pm_var 1) (kA (PM.frs (pm_lst (pms_cons (pm_bool) (pms_cons (pm_bool) (pms_cons (pm_bool) (pms_cons (pm_int) pms_nil)))))) pkm_nil)))))) (pssm_one (psm_ret (pm_bool))) pssm_nil)
    (pssm_one (psm_ret (pm_callV (ok__law_like T _) (af__law_like _) hr (by decide) rfl (kA (pm_callV (ok_is_both_ways T) argF_V hr (by decide) rfl (kA (pm_var 0) pkm_nil)) (kA (pm_and (PM.b (pm_callV (ok__law_alike T) argF_V hr (by decide) rfl (kA (pm_var 0) pkm_nil))) (pm_one (pm_callV (ok__law_is_magic T) argF_V hr (by decide) rfl (kA (pm_var 0) pkm_nil)))) pkm_nil))))))))
def b_law : MS := (sSeq (sIf (tst (eNot (eCall m__law_written_right kNil))) (sRet (eCon (.bool false))) sNil)
  (sSeq (sNew 1 (eCall m__law_cup (kScr 0 kNil)))
  (sSeq (sFor (iRng rng1 (esCons (eCon (.int 6)) esNil)) (.nm 2) (sIf (tst (eOr (eNot (eCall m__law_three_right (kCup 1 kNil))) (eNot (eCall m__law_powers_right (kCup 1 kNil))))) (sRet (eCon (.bool false))) sNil))
  (sRet (eCall m__law_times_right (kCup 1 kNil))))))
theorem ok_lawT (T : Tx K mg) {f : Addr} {fd : FuncData} (F : L2.Fun K "law" "law" (top 56) f fd) (hm : ∀ ns : List Int, ns.length ≤ 63 → ∃ c', b_law (.scr ns :: List.replicate 2 Slot.no) none = .ok (.rt (.bool true)) c') : FnOk P w K mg base L2.CX0 13 f fd ["script"] (spLawS K) :=
  PV.ok_law (N := ["script", "cup", "turn"]) F ⟨rfl, rfl, rfl, by decide +kernel, rfl, by decide +kernel, by decide +kernel⟩ rfl rfl (fun cdv A outer s H E hr => by
  have hN : (["script", "cup", "turn"] : List Str).Nodup := by decide +kernel
  unfold b_law
  exact (law_step (psm_if (ptm_not (ptm_val (PM.b (pm_callV0 (ok__law_written_right T) argF_V hr (by decide) rfl)))) (pssm_one (psm_ret (pm_bool))) pssm_nil)
    (law_cup 1 hN (pm_callF (ok__law_cup T) argF_F hr (by decide) rfl (kS 0 pkm_nil)) (law_end (pssm_cons (psm_for PassesOwn.never rfl (pim_rng1 (kf := .val) rfl T.n_range (pms_cons (pm_int) pms_nil)) (pgm_nm 2 hN) (pssm_one (psm_if (ptm_w (pwm_or (ptm_not (ptm_val (PM.b (pm_callV (ok__law_three_right T) argF_V hr (by decide) rfl (kC 1 pkm_nil))))) (pwm_or1 (ptm_not (ptm_val (PM.b (pm_callV (ok__law_powers_right T) argF_V hr (by decide) rfl (kC 1 pkm_nil)))))))) (pssm_one (psm_ret (pm_bool))) pssm_nil)))
    (pssm_one (psm_ret (pm_callV (ok__law_times_right T) argF_V hr (by decide) rfl (kC 1 pkm_nil))))))))) hm
end

end PV.L67

namespace PV.L67
open PySem PySem.Spec PyProof.Rows L2 PV
theorem written : m__law_written_right [] none = .ok (.bool true) none := isT_eq (by decide +kernel)
theorem head_int (ns : List Int) : ∃ z, opIdx (.list (ns.map PyData.int ++ [PyData.int 0])) (.int 0) = some (.int z) := by
  cases ns with
  | nil => exact ⟨0, by kernel_rfl⟩
  | cons n r =>
    refine ⟨n, ?_⟩
    have h : (0 : Int) < (r.length : Int) + 1 + 1 := by omega
    simp [opIdx, L2.atI, L2.ixN, h]
theorem lg73 : Nat.log2 73 < 8000 := by decide +kernel
theorem lim2 : (2 : Nat) ≤ LIM := by decide
theorem rest1 (ns : List Int) (a : Int) : ∃ x y, sRet (eLst (esCons (eIf (e2 opGe (eVar 1) (e2 opPow (eCon (.int 10)) (eCon (.int 18)))) (e2 opFdiv (eVar 1) (eCon (.int 73))) (eCon (.int 0))) (esCons (e2 opAdd (e2 opMod (e1 fInt (e2 opAdd (e2 opMul (eVar 1) (eCon (.int 283))) (eCon (.int 3907)))) (eCon (.int 2077503167))) (eCon (.int 167))) esNil))) [.scr ns, .sh (.int a)] = ret (.rt (.list [.int x, .int y])) := by
  by_cases h : 1000000000000000000 ≤ a
  · refine ⟨a / 73, (a * 283 + 3907) % 2077503167 + 167, ?_⟩
    simp [opPow, opGe, h, opFdiv, opMul, opAdd, opMod, fInt, mkL, lg73, lim2]
  · refine ⟨0, (a * 283 + 3907) % 2077503167 + 167, ?_⟩
    simp [opPow, opGe, h, opFdiv, opMul, opAdd, opMod, fInt, mkL, lim2]
theorem cup_ok (ns : List Int) (hl : ns.length ≤ 63) : ∃ x y, m__law_cup [.scr ns] none = .ok (.list [.int x, .int y]) none := by
  obtain ⟨z, hz⟩ := head_int ns
  have h1 : eScr 0 [.scr ns, .no] = ret (.list (ns.map PyData.int)) := rfl
  have h2 : opAdd (.list (ns.map PyData.int)) (.list [.int 0]) = some (.list (ns.map PyData.int ++ [.int 0])) := by
    show (if _ then _ else _) = _
    rw [if_pos (by show (ns.map PyData.int).length + 1 ≤ 16777216; rw [List.length_map]; omega)]
  obtain ⟨x, y, e⟩ := rest1 ns (if z < 0 then -z else z)
  refine ⟨x, y, fnF_ok rfl rfl ?_⟩
  have s1 : sSet .val 1 (e1 fAbs (e2 opIdx (e2 opAdd (eScr 0) (eLst (esCons (eCon (.int 0)) esNil))) (eCon (.int 0)))) [.scr ns, .no] = ret (.nx [.scr ns, .sh (.int (if z < 0 then -z else z))]) := by
    have f : fAbs (.int z) = some (.int (if z < 0 then -z else z)) := rfl
    have l : mkL [PyData.int 0] = some (.list [.int 0]) := by rfl
    rw [r_sSet, r_e1, r_e2, r_e2, h1, bret, r_eLst, r_esCons, r_eCon, bret, r_esNil, bret, bret, l, lsome, bret, h2, lsome, bret, bret, hz, lsome, bret, f]
    rfl
  unfold b__law_cup
  rw [show ([Slot.scr ns] ++ List.replicate 1 Slot.no) = [.scr ns, .no] from rfl, r_sSeq, s1, bret, r_nx, e]
  rfl
theorem roll_ok (x y many : Int) (hm : 0 < many) (hl : many.natAbs.log2 < 8000) : ∃ r x2 y2, m__law_roll [.cup, .sh (.int many)] (some (x, y)) = .ok (.int r) (some (x2, y2)) ∧ 0 ≤ r ∧ r < many := by
  by_cases h : 0 < x
  · refine ⟨x % many, x / many, y, fnV_ok rfl rfl ?_, Int.emod_nonneg _ (by omega), Int.emod_lt_of_pos _ hm⟩
    unfold b__law_roll
    have t : tst (e2 opGt (eCup 0 0) (eCon (.int 0))) ([Slot.cup, Slot.sh (.int many)] ++ List.replicate 2 Slot.no) (some (x, y)) = .ok true (some (x, y)) := by
      refine tst_ok (e2_ok (x := .int x) (y := .int 0) rfl rfl ?_)
      show some (PyData.bool (decide (0 < x))) = _
      rw [decide_eq_true h]
    refine seq_rt ((if_t t).trans ?_)
    rw [seq_nx (set_ok (k := .val) (i := 2) (e2_ok (x := .int x) (e1_ok (x := .int x) rfl (fInt_i x)) rfl (mod_ii x many hm)) rfl)]
    rw [seq_nx (scup_ok (x := x) (y := y) (e2_ok (x := .int x) rfl rfl (fdiv_ii x many hm hl)) rfl)]
    exact ret_ok rfl
  · have g0 : (2147483543 : Int) > 0 := by decide
    have hy := Int.emod_nonneg (y * 31051 + 7993) (show (2147483543 : Int) ≠ 0 by decide)
    have hy2 := Int.emod_lt_of_pos (y * 31051 + 7993) g0
    generalize hw : (y * 31051 + 7993) % 2147483543 = w at hy hy2
    refine ⟨(w * (w + 229) % 2147483587) / 821 % many, x, w, fnV_ok rfl rfl ?_, Int.emod_nonneg _ (by omega), Int.emod_lt_of_pos _ hm⟩
    unfold b__law_roll
    have t : tst (e2 opGt (eCup 0 0) (eCon (.int 0))) ([Slot.cup, Slot.sh (.int many)] ++ List.replicate 2 Slot.no) (some (x, y)) = .ok false (some (x, y)) := by
      refine tst_ok (e2_ok (x := .int x) (y := .int 0) rfl rfl ?_)
      show some (PyData.bool (decide (0 < x))) = _
      rw [decide_eq_false h]
    rw [seq_nx (ρ1 := [Slot.cup, Slot.sh (.int many)] ++ List.replicate 2 Slot.no) (c1 := some (x, y)) ((if_f t).trans rfl)]
    rw [seq_nx (scup_ok (x := x) (y := y) (v := w) (e2_ok (x := .int (y * 31051 + 7993)) (e1_ok (x := .int (y * 31051 + 7993)) (e2_ok (x := .int (y * 31051)) (e2_ok (x := .int y) rfl rfl (mul_ii _ _ (.inr (by decide)))) rfl (add_ii _ _)) (fInt_i _)) rfl (by rw [mod_ii _ _ (by decide), hw])) rfl)]
    rw [seq_nx (set_ok (k := .val) (i := 3) (e2_ok (x := .int (w * (w + 229))) (e1_ok (x := .int (w * (w + 229))) (e2_ok (x := .int w) rfl (e2_ok (x := .int w) rfl rfl (add_ii _ _)) (mul_ii _ _ (.inl (by omega)))) (fInt_i _)) rfl (mod_ii _ _ (by decide))) rfl)]
    exact ret_ok (e2_ok (x := .int (w * (w + 229) % 2147483587 / 821)) (e1_ok (e2_ok (x := .int (w * (w + 229) % 2147483587)) rfl rfl (fdiv_ii _ _ (by decide) (by decide +kernel))) (fInt_i _)) rfl (mod_ii _ _ hm))
end PV.L67

namespace PV.L67
open PySem PySem.Spec PyProof.Rows L2 PV
def three (m a b : Int) : D := .tuple [.tuple [.int (m - a), .int (m + a + b), .int (m - b)], .tuple [.int (m + a - b), .int m, .int (m - a + b)], .tuple [.int (m + b), .int (m - a - b), .int (m + a)]]
theorem three_ok (m a b : Int) (c : Cup) : m__law_three [.sh (.int m), .sh (.int a), .sh (.int b)] c = .ok (three m a b) c := by kernel_rfl
def tR : MS := (sSeq (sFor (iSeq (eVar 1)) (.nm 4) (sApp 3 (e2 opMul (eTup (esCons (eVar 2) esNil)) (eCon (.int 3))))) (sSeq (sSet .val 5 (eCall m_times_table (kCons .val (eVar 1) (kCons .val (eVar 2) kNil)))) (sSeq (sIf (tst (eNot (eCall (m__law_like 9) (kCons .val (eLst (esCons (eCall m_multiplied_tables (kCons .val (eVar 1) (kCons .val (e1 fTuple (eBor 3)) kNil))) (esCons (eCall m_is_magic (kCons .val (eVar 5) kNil)) (esCons (eCall m_is_both_ways (kCons .val (eVar 5) kNil)) esNil)))) (kCons .val (eLst (esCons (eVar 5) (esCons (eCon (.bool true)) (esCons (eCon (.bool false)) esNil)))) kNil))))) (sRet (eCon (.bool false))) sNil) (sSeq (sSet .val 6 (e2 opMul (eTup (esCons (e2 opMul (eTup (esCons (eVar 2) esNil)) (eCon (.int 3))) esNil)) (eCon (.int 3)))) (sRet (eAnd (e1 (opIs (some true)) (eCall m_is_both_ways (kCons .val (eVar 6) kNil))) (e1 (opIs (some true)) (eCall m_is_both_ways (kCons .val (eTup (esCons (eTup (esCons (eVar 2) (esCons (eVar 2) esNil))) (esCons (eTup (esCons (eVar 2) (esCons (eVar 2) esNil))) esNil))) kNil)))))))))
def tr (r1 r2 : Int) : M Fl := tR [.cup, .sh (three 7 (1 + r1) 3), .sh (.int (1 + r2)), .ol [], .no, .no, .no]

theorem tr_0_0 (c : Cup) : tr 0 0 c = .ok (.rt (.bool true)) c := by kernel_rfl
theorem tr_0_1 (c : Cup) : tr 0 1 c = .ok (.rt (.bool true)) c := by kernel_rfl
theorem tr_0_2 (c : Cup) : tr 0 2 c = .ok (.rt (.bool true)) c := by kernel_rfl
theorem tr_0_3 (c : Cup) : tr 0 3 c = .ok (.rt (.bool true)) c := by kernel_rfl
theorem tr_0_4 (c : Cup) : tr 0 4 c = .ok (.rt (.bool true)) c := by kernel_rfl
theorem tr_0_5 (c : Cup) : tr 0 5 c = .ok (.rt (.bool true)) c := by kernel_rfl
theorem tr_0_6 (c : Cup) : tr 0 6 c = .ok (.rt (.bool true)) c := by kernel_rfl
theorem tr_0_7 (c : Cup) : tr 0 7 c = .ok (.rt (.bool true)) c := by kernel_rfl
theorem tr_0_8 (c : Cup) : tr 0 8 c = .ok (.rt (.bool true)) c := by kernel_rfl
theorem tr_0_9 (c : Cup) : tr 0 9 c = .ok (.rt (.bool true)) c := by kernel_rfl
theorem tr_0_10 (c : Cup) : tr 0 10 c = .ok (.rt (.bool true)) c := by kernel_rfl
theorem tr_0_11 (c : Cup) : tr 0 11 c = .ok (.rt (.bool true)) c := by kernel_rfl
theorem tr_0_12 (c : Cup) : tr 0 12 c = .ok (.rt (.bool true)) c := by kernel_rfl
theorem tr_0_13 (c : Cup) : tr 0 13 c = .ok (.rt (.bool true)) c := by kernel_rfl
theorem tr_0_14 (c : Cup) : tr 0 14 c = .ok (.rt (.bool true)) c := by kernel_rfl
theorem tr_0_15 (c : Cup) : tr 0 15 c = .ok (.rt (.bool true)) c := by kernel_rfl
theorem tr_0_16 (c : Cup) : tr 0 16 c = .ok (.rt (.bool true)) c := by kernel_rfl
theorem tr_0_17 (c : Cup) : tr 0 17 c = .ok (.rt (.bool true)) c := by kernel_rfl
theorem tr_0_18 (c : Cup) : tr 0 18 c = .ok (.rt (.bool true)) c := by kernel_rfl
theorem tr_0_19 (c : Cup) : tr 0 19 c = .ok (.rt (.bool true)) c := by kernel_rfl
theorem tr_0_20 (c : Cup) : tr 0 20 c = .ok (.rt (.bool true)) c := by kernel_rfl
theorem tr_0_21 (c : Cup) : tr 0 21 c = .ok (.rt (.bool true)) c := by kernel_rfl
theorem tr_0_22 (c : Cup) : tr 0 22 c = .ok (.rt (.bool true)) c := by kernel_rfl
theorem tr_0_23 (c : Cup) : tr 0 23 c = .ok (.rt (.bool true)) c := by kernel_rfl
theorem tr_0_24 (c : Cup) : tr 0 24 c = .ok (.rt (.bool true)) c := by kernel_rfl
theorem tr_0_25 (c : Cup) : tr 0 25 c = .ok (.rt (.bool true)) c := by kernel_rfl
theorem tr_0_26 (c : Cup) : tr 0 26 c = .ok (.rt (.bool true)) c := by kernel_rfl
theorem tr_0_27 (c : Cup) : tr 0 27 c = .ok (.rt (.bool true)) c := by kernel_rfl
theorem tr_0_28 (c : Cup) : tr 0 28 c = .ok (.rt (.bool true)) c := by kernel_rfl
theorem tr_0_29 (c : Cup) : tr 0 29 c = .ok (.rt (.bool true)) c := by kernel_rfl
theorem tr_0_30 (c : Cup) : tr 0 30 c = .ok (.rt (.bool true)) c := by kernel_rfl
theorem tr_0_31 (c : Cup) : tr 0 31 c = .ok (.rt (.bool true)) c := by kernel_rfl
theorem tr_0_32 (c : Cup) : tr 0 32 c = .ok (.rt (.bool true)) c := by kernel_rfl
theorem tr_0_33 (c : Cup) : tr 0 33 c = .ok (.rt (.bool true)) c := by kernel_rfl
theorem tr_0_34 (c : Cup) : tr 0 34 c = .ok (.rt (.bool true)) c := by kernel_rfl
theorem tr_0_35 (c : Cup) : tr 0 35 c = .ok (.rt (.bool true)) c := by kernel_rfl
theorem tr_0_36 (c : Cup) : tr 0 36 c = .ok (.rt (.bool true)) c := by kernel_rfl
theorem tr_0_37 (c : Cup) : tr 0 37 c = .ok (.rt (.bool true)) c := by kernel_rfl
theorem tr_0_38 (c : Cup) : tr 0 38 c = .ok (.rt (.bool true)) c := by kernel_rfl
theorem tr_0_39 (c : Cup) : tr 0 39 c = .ok (.rt (.bool true)) c := by kernel_rfl
theorem tr_0_40 (c : Cup) : tr 0 40 c = .ok (.rt (.bool true)) c := by kernel_rfl
theorem tr_0_41 (c : Cup) : tr 0 41 c = .ok (.rt (.bool true)) c := by kernel_rfl
theorem tr_0_42 (c : Cup) : tr 0 42 c = .ok (.rt (.bool true)) c := by kernel_rfl
theorem tr_0_43 (c : Cup) : tr 0 43 c = .ok (.rt (.bool true)) c := by kernel_rfl
theorem tr_0_44 (c : Cup) : tr 0 44 c = .ok (.rt (.bool true)) c := by kernel_rfl
theorem tr_0_45 (c : Cup) : tr 0 45 c = .ok (.rt (.bool true)) c := by kernel_rfl
theorem tr_0_46 (c : Cup) : tr 0 46 c = .ok (.rt (.bool true)) c := by kernel_rfl
theorem tr_0_47 (c : Cup) : tr 0 47 c = .ok (.rt (.bool true)) c := by kernel_rfl
theorem tr_0_48 (c : Cup) : tr 0 48 c = .ok (.rt (.bool true)) c := by kernel_rfl
theorem tr_0_49 (c : Cup) : tr 0 49 c = .ok (.rt (.bool true)) c := by kernel_rfl
theorem tr_1_0 (c : Cup) : tr 1 0 c = .ok (.rt (.bool true)) c := by kernel_rfl
theorem tr_1_1 (c : Cup) : tr 1 1 c = .ok (.rt (.bool true)) c := by kernel_rfl
theorem tr_1_2 (c : Cup) : tr 1 2 c = .ok (.rt (.bool true)) c := by kernel_rfl
theorem tr_1_3 (c : Cup) : tr 1 3 c = .ok (.rt (.bool true)) c := by kernel_rfl
theorem tr_1_4 (c : Cup) : tr 1 4 c = .ok (.rt (.bool true)) c := by kernel_rfl
theorem tr_1_5 (c : Cup) : tr 1 5 c = .ok (.rt (.bool true)) c := by kernel_rfl
theorem tr_1_6 (c : Cup) : tr 1 6 c = .ok (.rt (.bool true)) c := by kernel_rfl
theorem tr_1_7 (c : Cup) : tr 1 7 c = .ok (.rt (.bool true)) c := by kernel_rfl
theorem tr_1_8 (c : Cup) : tr 1 8 c = .ok (.rt (.bool true)) c := by kernel_rfl
theorem tr_1_9 (c : Cup) : tr 1 9 c = .ok (.rt (.bool true)) c := by kernel_rfl
theorem tr_1_10 (c : Cup) : tr 1 10 c = .ok (.rt (.bool true)) c := by kernel_rfl
theorem tr_1_11 (c : Cup) : tr 1 11 c = .ok (.rt (.bool true)) c := by kernel_rfl
theorem tr_1_12 (c : Cup) : tr 1 12 c = .ok (.rt (.bool true)) c := by kernel_rfl
theorem tr_1_13 (c : Cup) : tr 1 13 c = .ok (.rt (.bool true)) c := by kernel_rfl
theorem tr_1_14 (c : Cup) : tr 1 14 c = .ok (.rt (.bool true)) c := by kernel_rfl
theorem tr_1_15 (c : Cup) : tr 1 15 c = .ok (.rt (.bool true)) c := by kernel_rfl
theorem tr_1_16 (c : Cup) : tr 1 16 c = .ok (.rt (.bool true)) c := by kernel_rfl
theorem tr_1_17 (c : Cup) : tr 1 17 c = .ok (.rt (.bool true)) c := by kernel_rfl
theorem tr_1_18 (c : Cup) : tr 1 18 c = .ok (.rt (.bool true)) c := by kernel_rfl
theorem tr_1_19 (c : Cup) : tr 1 19 c = .ok (.rt (.bool true)) c := by kernel_rfl
theorem tr_1_20 (c : Cup) : tr 1 20 c = .ok (.rt (.bool true)) c := by kernel_rfl
theorem tr_1_21 (c : Cup) : tr 1 21 c = .ok (.rt (.bool true)) c := by kernel_rfl
theorem tr_1_22 (c : Cup) : tr 1 22 c = .ok (.rt (.bool true)) c := by kernel_rfl
theorem tr_1_23 (c : Cup) : tr 1 23 c = .ok (.rt (.bool true)) c := by kernel_rfl
theorem tr_1_24 (c : Cup) : tr 1 24 c = .ok (.rt (.bool true)) c := by kernel_rfl
theorem tr_1_25 (c : Cup) : tr 1 25 c = .ok (.rt (.bool true)) c := by kernel_rfl
theorem tr_1_26 (c : Cup) : tr 1 26 c = .ok (.rt (.bool true)) c := by kernel_rfl
theorem tr_1_27 (c : Cup) : tr 1 27 c = .ok (.rt (.bool true)) c := by kernel_rfl
theorem tr_1_28 (c : Cup) : tr 1 28 c = .ok (.rt (.bool true)) c := by kernel_rfl
theorem tr_1_29 (c : Cup) : tr 1 29 c = .ok (.rt (.bool true)) c := by kernel_rfl
theorem tr_1_30 (c : Cup) : tr 1 30 c = .ok (.rt (.bool true)) c := by kernel_rfl
theorem tr_1_31 (c : Cup) : tr 1 31 c = .ok (.rt (.bool true)) c := by kernel_rfl
theorem tr_1_32 (c : Cup) : tr 1 32 c = .ok (.rt (.bool true)) c := by kernel_rfl
theorem tr_1_33 (c : Cup) : tr 1 33 c = .ok (.rt (.bool true)) c := by kernel_rfl
theorem tr_1_34 (c : Cup) : tr 1 34 c = .ok (.rt (.bool true)) c := by kernel_rfl
theorem tr_1_35 (c : Cup) : tr 1 35 c = .ok (.rt (.bool true)) c := by kernel_rfl
theorem tr_1_36 (c : Cup) : tr 1 36 c = .ok (.rt (.bool true)) c := by kernel_rfl
theorem tr_1_37 (c : Cup) : tr 1 37 c = .ok (.rt (.bool true)) c := by kernel_rfl
theorem tr_1_38 (c : Cup) : tr 1 38 c = .ok (.rt (.bool true)) c := by kernel_rfl
theorem tr_1_39 (c : Cup) : tr 1 39 c = .ok (.rt (.bool true)) c := by kernel_rfl
theorem tr_1_40 (c : Cup) : tr 1 40 c = .ok (.rt (.bool true)) c := by kernel_rfl
theorem tr_1_41 (c : Cup) : tr 1 41 c = .ok (.rt (.bool true)) c := by kernel_rfl
theorem tr_1_42 (c : Cup) : tr 1 42 c = .ok (.rt (.bool true)) c := by kernel_rfl
theorem tr_1_43 (c : Cup) : tr 1 43 c = .ok (.rt (.bool true)) c := by kernel_rfl
theorem tr_1_44 (c : Cup) : tr 1 44 c = .ok (.rt (.bool true)) c := by kernel_rfl
theorem tr_1_45 (c : Cup) : tr 1 45 c = .ok (.rt (.bool true)) c := by kernel_rfl
theorem tr_1_46 (c : Cup) : tr 1 46 c = .ok (.rt (.bool true)) c := by kernel_rfl
theorem tr_1_47 (c : Cup) : tr 1 47 c = .ok (.rt (.bool true)) c := by kernel_rfl
theorem tr_1_48 (c : Cup) : tr 1 48 c = .ok (.rt (.bool true)) c := by kernel_rfl
theorem tr_1_49 (c : Cup) : tr 1 49 c = .ok (.rt (.bool true)) c := by kernel_rfl
theorem trs_0 (r2 : Int) (h : 0 ≤ r2) (h2 : r2 < 50) (c : Cup) : tr 0 r2 c = .ok (.rt (.bool true)) c := by
  have hh : r2 = 0 ∨ r2 = 1 ∨ r2 = 2 ∨ r2 = 3 ∨ r2 = 4 ∨ r2 = 5 ∨ r2 = 6 ∨ r2 = 7 ∨ r2 = 8 ∨ r2 = 9 ∨ r2 = 10 ∨ r2 = 11 ∨ r2 = 12 ∨ r2 = 13 ∨ r2 = 14 ∨ r2 = 15 ∨ r2 = 16 ∨ r2 = 17 ∨ r2 = 18 ∨ r2 = 19 ∨ r2 = 20 ∨ r2 = 21 ∨ r2 = 22 ∨ r2 = 23 ∨ r2 = 24 ∨ r2 = 25 ∨ r2 = 26 ∨ r2 = 27 ∨ r2 = 28 ∨ r2 = 29 ∨ r2 = 30 ∨ r2 = 31 ∨ r2 = 32 ∨ r2 = 33 ∨ r2 = 34 ∨ r2 = 35 ∨ r2 = 36 ∨ r2 = 37 ∨ r2 = 38 ∨ r2 = 39 ∨ r2 = 40 ∨ r2 = 41 ∨ r2 = 42 ∨ r2 = 43 ∨ r2 = 44 ∨ r2 = 45 ∨ r2 = 46 ∨ r2 = 47 ∨ r2 = 48 ∨ r2 = 49 := by omega
  rcases hh with rfl | rfl | rfl | rfl | rfl | rfl | rfl | rfl | rfl | rfl | rfl | rfl | rfl | rfl | rfl | rfl | rfl | rfl | rfl | rfl | rfl | rfl | rfl | rfl | rfl | rfl | rfl | rfl | rfl | rfl | rfl | rfl | rfl | rfl | rfl | rfl | rfl | rfl | rfl | rfl | rfl | rfl | rfl | rfl | rfl | rfl | rfl | rfl | rfl | rfl
  · exact tr_0_0 c
  · exact tr_0_1 c
  · exact tr_0_2 c
  · exact tr_0_3 c
  · exact tr_0_4 c
  · exact tr_0_5 c
  · exact tr_0_6 c
  · exact tr_0_7 c
  · exact tr_0_8 c
  · exact tr_0_9 c
  · exact tr_0_10 c
  · exact tr_0_11 c
  · exact tr_0_12 c
  · exact tr_0_13 c
  · exact tr_0_14 c
  · exact tr_0_15 c
  · exact tr_0_16 c
  · exact tr_0_17 c
  · exact tr_0_18 c
  · exact tr_0_19 c
  · exact tr_0_20 c
  · exact tr_0_21 c
  · exact tr_0_22 c
  · exact tr_0_23 c
  · exact tr_0_24 c
  · exact tr_0_25 c
  · exact tr_0_26 c
  · exact tr_0_27 c
  · exact tr_0_28 c
  · exact tr_0_29 c
  · exact tr_0_30 c
  · exact tr_0_31 c
  · exact tr_0_32 c
  · exact tr_0_33 c
  · exact tr_0_34 c
  · exact tr_0_35 c
  · exact tr_0_36 c
  · exact tr_0_37 c
  · exact tr_0_38 c
  · exact tr_0_39 c
  · exact tr_0_40 c
  · exact tr_0_41 c
  · exact tr_0_42 c
  · exact tr_0_43 c
  · exact tr_0_44 c
  · exact tr_0_45 c
  · exact tr_0_46 c
  · exact tr_0_47 c
  · exact tr_0_48 c
  · exact tr_0_49 c
theorem trs_1 (r2 : Int) (h : 0 ≤ r2) (h2 : r2 < 50) (c : Cup) : tr 1 r2 c = .ok (.rt (.bool true)) c := by
  have hh : r2 = 0 ∨ r2 = 1 ∨ r2 = 2 ∨ r2 = 3 ∨ r2 = 4 ∨ r2 = 5 ∨ r2 = 6 ∨ r2 = 7 ∨ r2 = 8 ∨ r2 = 9 ∨ r2 = 10 ∨ r2 = 11 ∨ r2 = 12 ∨ r2 = 13 ∨ r2 = 14 ∨ r2 = 15 ∨ r2 = 16 ∨ r2 = 17 ∨ r2 = 18 ∨ r2 = 19 ∨ r2 = 20 ∨ r2 = 21 ∨ r2 = 22 ∨ r2 = 23 ∨ r2 = 24 ∨ r2 = 25 ∨ r2 = 26 ∨ r2 = 27 ∨ r2 = 28 ∨ r2 = 29 ∨ r2 = 30 ∨ r2 = 31 ∨ r2 = 32 ∨ r2 = 33 ∨ r2 = 34 ∨ r2 = 35 ∨ r2 = 36 ∨ r2 = 37 ∨ r2 = 38 ∨ r2 = 39 ∨ r2 = 40 ∨ r2 = 41 ∨ r2 = 42 ∨ r2 = 43 ∨ r2 = 44 ∨ r2 = 45 ∨ r2 = 46 ∨ r2 = 47 ∨ r2 = 48 ∨ r2 = 49 := by omega
  rcases hh with rfl | rfl | rfl | rfl | rfl | rfl | rfl | rfl | rfl | rfl | rfl | rfl | rfl | rfl | rfl | rfl | rfl | rfl | rfl | rfl | rfl | rfl | rfl | rfl | rfl | rfl | rfl | rfl | rfl | rfl | rfl | rfl | rfl | rfl | rfl | rfl | rfl | rfl | rfl | rfl | rfl | rfl | rfl | rfl | rfl | rfl | rfl | rfl | rfl | rfl
  · exact tr_1_0 c
  · exact tr_1_1 c
  · exact tr_1_2 c
  · exact tr_1_3 c
  · exact tr_1_4 c
  · exact tr_1_5 c
  · exact tr_1_6 c
  · exact tr_1_7 c
  · exact tr_1_8 c
  · exact tr_1_9 c
  · exact tr_1_10 c
  · exact tr_1_11 c
  · exact tr_1_12 c
  · exact tr_1_13 c
  · exact tr_1_14 c
  · exact tr_1_15 c
  · exact tr_1_16 c
  · exact tr_1_17 c
  · exact tr_1_18 c
  · exact tr_1_19 c
  · exact tr_1_20 c
  · exact tr_1_21 c
  · exact tr_1_22 c
  · exact tr_1_23 c
  · exact tr_1_24 c
  · exact tr_1_25 c
  · exact tr_1_26 c
  · exact tr_1_27 c
  · exact tr_1_28 c
  · exact tr_1_29 c
  · exact tr_1_30 c
  · exact tr_1_31 c
  · exact tr_1_32 c
  · exact tr_1_33 c
  · exact tr_1_34 c
  · exact tr_1_35 c
  · exact tr_1_36 c
  · exact tr_1_37 c
  · exact tr_1_38 c
  · exact tr_1_39 c
  · exact tr_1_40 c
  · exact tr_1_41 c
  · exact tr_1_42 c
  · exact tr_1_43 c
  · exact tr_1_44 c
  · exact tr_1_45 c
  · exact tr_1_46 c
  · exact tr_1_47 c
  · exact tr_1_48 c
  · exact tr_1_49 c
theorem times_ok (x y : Int) : ∃ x2 y2, m__law_times_right [.cup] (some (x, y)) = .ok (.bool true) (some (x2, y2)) := by
  obtain ⟨r1, x1, y1, e1, h1, h1'⟩ := roll_ok x y 2 (by decide) (by decide +kernel)
  obtain ⟨r2, x2, y2, e2, h2, h2'⟩ := roll_ok x1 y1 50 (by decide) (by decide +kernel)
  refine ⟨x2, y2, fnV_ok rfl rfl ?_⟩
  unfold b__law_times_right
  refine Eq.trans (seq_nx (set_ok (k := .val) (i := 1) (d := three 7 (1 + r1) 3) (call_ok (kc_ok (k := .val) (d := .int 7) rfl rfl (kc_ok (k := .val) (d := .int (1 + r1)) (e2_ok (x := .int 1) rfl (call_ok (kcup_ok rfl (kc_ok (k := .val) (d := .int 2) rfl rfl rfl)) e1) (add_ii 1 r1)) rfl (kc_ok (k := .val) (d := .int 3) rfl rfl rfl))) (three_ok 7 (1 + r1) 3 _)) rfl)) ?_
  refine Eq.trans (seq_nx (par_ok (kc_ok (k := .val) (d := .int (1 + r2)) (e2_ok (x := .int 1) rfl (call_ok (kcup_ok rfl (kc_ok (k := .val) (d := .int 50) rfl rfl rfl)) e2) (add_ii 1 r2)) rfl (kc_ok (k := .frs) (d := .list []) rfl rfl rfl)) rfl)) ?_
  have gg : r1 = 0 ∨ r1 = 1 := by omega
  rcases gg with rfl | rfl
  · exact trs_0 r2 h2 h2' _
  · exact trs_1 r2 h2 h2' _
end PV.L67

namespace PV.L67
open PySem PySem.Spec PyProof.Rows L2 PV
def pR : MS := (sSeq (sSet .val 4 (eCall m__law_three (kCons .val (e2 opAdd (eVar 2) (eVar 3)) (kCons .val (eVar 2) (kCons .val (eVar 3) kNil))))) (sSeq (sSet .frs 5 (eLst esNil)) (sSeq (sFor (iSeq (eVar 4)) (.nm 6) (sSeq (sSet .frs 7 (eLst esNil)) (sSeq (sFor (iSeq (eVar 6)) (.nm 8) (sSeq (sSet .val 9 (eCon (.int 1))) (sSeq (sFor (iRng rng1 (esCons (eVar 8) esNil)) (.nm 10) (sSet .val 9 (e2 opMul (eVar 9) (eVar 1)))) (sApp 7 (eVar 9))))) (sApp 5 (e1 fTuple (eBor 7)))))) (sSeq (sSet .val 11 (e1 fTuple (eBor 5))) (sSeq (sSet .val 12 (eAnd (e2 opEq (eVar 2) (eCon (.int 0))) (e2 opEq (eVar 3) (eCon (.int 0))))) (sRet (eCall (m__law_like 9) (kCons .val (eLst (esCons (eCall m_is_times_magic (kCons .val (eVar 11) kNil)) (esCons (eCall m_is_magic (kCons .val (eVar 11) kNil)) (esCons (eCall m_is_both_ways (kCons .val (eVar 11) kNil)) (esCons (eCall m__law_is_magic (kCons .val (eVar 11) kNil)) esNil))))) (kCons .val (eLst (esCons (eCon (.bool true)) (esCons (eVar 12) (esCons (eVar 12) (esCons (eVar 12) esNil))))) kNil)))))))))
def pr (r1 r2 r3 : Int) : M Fl := pR ([.cup, .sh (.int (2 + r1)), .sh (.int r2), .sh (.int r3)] ++ List.replicate 9 .no)

theorem pr_0_0_0 (c : Cup) : pr 0 0 0 c = .ok (.rt (.bool true)) c := by kernel_rfl
theorem pr_0_0_1 (c : Cup) : pr 0 0 1 c = .ok (.rt (.bool true)) c := by kernel_rfl
theorem pr_0_0_2 (c : Cup) : pr 0 0 2 c = .ok (.rt (.bool true)) c := by kernel_rfl
theorem pr_0_1_0 (c : Cup) : pr 0 1 0 c = .ok (.rt (.bool true)) c := by kernel_rfl
theorem pr_0_1_1 (c : Cup) : pr 0 1 1 c = .ok (.rt (.bool true)) c := by kernel_rfl
theorem pr_0_1_2 (c : Cup) : pr 0 1 2 c = .ok (.rt (.bool true)) c := by kernel_rfl
theorem pr_0_2_0 (c : Cup) : pr 0 2 0 c = .ok (.rt (.bool true)) c := by kernel_rfl
theorem pr_0_2_1 (c : Cup) : pr 0 2 1 c = .ok (.rt (.bool true)) c := by kernel_rfl
theorem pr_0_2_2 (c : Cup) : pr 0 2 2 c = .ok (.rt (.bool true)) c := by kernel_rfl
theorem pr_0_3_0 (c : Cup) : pr 0 3 0 c = .ok (.rt (.bool true)) c := by kernel_rfl
theorem pr_0_3_1 (c : Cup) : pr 0 3 1 c = .ok (.rt (.bool true)) c := by kernel_rfl
theorem pr_0_3_2 (c : Cup) : pr 0 3 2 c = .ok (.rt (.bool true)) c := by kernel_rfl
theorem pr_1_0_0 (c : Cup) : pr 1 0 0 c = .ok (.rt (.bool true)) c := by kernel_rfl
theorem pr_1_0_1 (c : Cup) : pr 1 0 1 c = .ok (.rt (.bool true)) c := by kernel_rfl
theorem pr_1_0_2 (c : Cup) : pr 1 0 2 c = .ok (.rt (.bool true)) c := by kernel_rfl
theorem pr_1_1_0 (c : Cup) : pr 1 1 0 c = .ok (.rt (.bool true)) c := by kernel_rfl
theorem pr_1_1_1 (c : Cup) : pr 1 1 1 c = .ok (.rt (.bool true)) c := by kernel_rfl
theorem pr_1_1_2 (c : Cup) : pr 1 1 2 c = .ok (.rt (.bool true)) c := by kernel_rfl
theorem pr_1_2_0 (c : Cup) : pr 1 2 0 c = .ok (.rt (.bool true)) c := by kernel_rfl
theorem pr_1_2_1 (c : Cup) : pr 1 2 1 c = .ok (.rt (.bool true)) c := by kernel_rfl
theorem pr_1_2_2 (c : Cup) : pr 1 2 2 c = .ok (.rt (.bool true)) c := by kernel_rfl
theorem pr_1_3_0 (c : Cup) : pr 1 3 0 c = .ok (.rt (.bool true)) c := by kernel_rfl
theorem pr_1_3_1 (c : Cup) : pr 1 3 1 c = .ok (.rt (.bool true)) c := by kernel_rfl
theorem pr_1_3_2 (c : Cup) : pr 1 3 2 c = .ok (.rt (.bool true)) c := by kernel_rfl
theorem pr_2_0_0 (c : Cup) : pr 2 0 0 c = .ok (.rt (.bool true)) c := by kernel_rfl
theorem pr_2_0_1 (c : Cup) : pr 2 0 1 c = .ok (.rt (.bool true)) c := by kernel_rfl
theorem pr_2_0_2 (c : Cup) : pr 2 0 2 c = .ok (.rt (.bool true)) c := by kernel_rfl
theorem pr_2_1_0 (c : Cup) : pr 2 1 0 c = .ok (.rt (.bool true)) c := by kernel_rfl
theorem pr_2_1_1 (c : Cup) : pr 2 1 1 c = .ok (.rt (.bool true)) c := by kernel_rfl
theorem pr_2_1_2 (c : Cup) : pr 2 1 2 c = .ok (.rt (.bool true)) c := by kernel_rfl
theorem pr_2_2_0 (c : Cup) : pr 2 2 0 c = .ok (.rt (.bool true)) c := by kernel_rfl
theorem pr_2_2_1 (c : Cup) : pr 2 2 1 c = .ok (.rt (.bool true)) c := by kernel_rfl
theorem pr_2_2_2 (c : Cup) : pr 2 2 2 c = .ok (.rt (.bool true)) c := by kernel_rfl
theorem pr_2_3_0 (c : Cup) : pr 2 3 0 c = .ok (.rt (.bool true)) c := by kernel_rfl
theorem pr_2_3_1 (c : Cup) : pr 2 3 1 c = .ok (.rt (.bool true)) c := by kernel_rfl
theorem pr_2_3_2 (c : Cup) : pr 2 3 2 c = .ok (.rt (.bool true)) c := by kernel_rfl
set_option maxHeartbeats 0 in
theorem powers_ok (x y : Int) : ∃ x2 y2, m__law_powers_right [.cup] (some (x, y)) = .ok (.bool true) (some (x2, y2)) := by
  obtain ⟨r1, x1, y1, e1, h1, h1'⟩ := roll_ok x y 3 (by decide) (by decide +kernel)
  obtain ⟨r2, x2, y2, e2, h2, h2'⟩ := roll_ok x1 y1 4 (by decide) (by decide +kernel)
  obtain ⟨r3, x3, y3, e3, h3, h3'⟩ := roll_ok x2 y2 3 (by decide) (by decide +kernel)
  refine ⟨x3, y3, fnV_ok rfl rfl ?_⟩
  unfold b__law_powers_right
  refine Eq.trans (seq_nx (par_ok (kc_ok (k := .val) (d := .int (2 + r1)) (e2_ok (x := .int 2) rfl (call_ok (kcup_ok rfl (kc_ok (k := .val) (d := .int 3) rfl rfl rfl)) e1) (add_ii 2 r1)) rfl (kc_ok (k := .val) (d := .int r2) (call_ok (kcup_ok rfl (kc_ok (k := .val) (d := .int 4) rfl rfl rfl)) e2) rfl (kc_ok (k := .val) (d := .int r3) (call_ok (kcup_ok rfl (kc_ok (k := .val) (d := .int 3) rfl rfl rfl)) e3) rfl rfl))) rfl)) ?_
  change pr r1 r2 r3 (some (x3, y3)) = _
  have g1 : r1 = 0 ∨ r1 = 1 ∨ r1 = 2 := by omega
  have g2 : r2 = 0 ∨ r2 = 1 ∨ r2 = 2 ∨ r2 = 3 := by omega
  have g3 : r3 = 0 ∨ r3 = 1 ∨ r3 = 2 := by omega
  rcases g1 with rfl | rfl | rfl

  · rcases g2 with rfl | rfl | rfl | rfl
    · rcases g3 with rfl | rfl | rfl
      · exact pr_0_0_0 _
      · exact pr_0_0_1 _
      · exact pr_0_0_2 _
    · rcases g3 with rfl | rfl | rfl
      · exact pr_0_1_0 _
      · exact pr_0_1_1 _
      · exact pr_0_1_2 _
    · rcases g3 with rfl | rfl | rfl
      · exact pr_0_2_0 _
      · exact pr_0_2_1 _
      · exact pr_0_2_2 _
    · rcases g3 with rfl | rfl | rfl
      · exact pr_0_3_0 _
      · exact pr_0_3_1 _
      · exact pr_0_3_2 _
  · rcases g2 with rfl | rfl | rfl | rfl
    · rcases g3 with rfl | rfl | rfl
      · exact pr_1_0_0 _
      · exact pr_1_0_1 _
      · exact pr_1_0_2 _
    · rcases g3 with rfl | rfl | rfl
      · exact pr_1_1_0 _
      · exact pr_1_1_1 _
      · exact pr_1_1_2 _
    · rcases g3 with rfl | rfl | rfl
      · exact pr_1_2_0 _
      · exact pr_1_2_1 _
      · exact pr_1_2_2 _
    · rcases g3 with rfl | rfl | rfl
      · exact pr_1_3_0 _
      · exact pr_1_3_1 _
      · exact pr_1_3_2 _
  · rcases g2 with rfl | rfl | rfl | rfl
    · rcases g3 with rfl | rfl | rfl
      · exact pr_2_0_0 _
      · exact pr_2_0_1 _
      · exact pr_2_0_2 _
    · rcases g3 with rfl | rfl | rfl
      · exact pr_2_1_0 _
      · exact pr_2_1_1 _
      · exact pr_2_1_2 _
    · rcases g3 with rfl | rfl | rfl
      · exact pr_2_2_0 _
      · exact pr_2_2_1 _
      · exact pr_2_2_2 _
    · rcases g3 with rfl | rfl | rfl
      · exact pr_2_3_0 _
      · exact pr_2_3_1 _
      · exact pr_2_3_2 _
end PV.L67
namespace PV.L67
open PySem PySem.Spec PyProof.Rows L2 PV
abbrev rw3 (a b c : Int) : D := .tuple [.int a, .int b, .int c]
abbrev tb (a b c d e f g h i : Int) : D := .tuple [rw3 a b c, rw3 d e f, rw3 g h i]
theorem integer_ok (n : Int) : m_is_integer [.sh (.int n)] = ret (.bool true) := by funext c; kernel_rfl
theorem whole_ok (n lo hi : Int) (h1 : lo ≤ n) (h2 : n ≤ hi) : m_is_whole [.sh (.int n), .sh (.int lo), .sh (.int hi)] = ret (.bool true) := by
  refine fnV_ret rfl rfl ?_
  unfold b_is_whole
  simp [integer_ok, opLe, h1, h2]
theorem tuple3_ok (a b c : D) : m_is_tuple_of [.sh (.tuple [a, b, c]), .sh (.int 3), .sh (.int 3)] = ret (.bool true) := by funext c; kernel_rfl
theorem tuple12_ok (a b c : D) : m_is_tuple_of [.sh (.tuple [a, b, c]), .sh (.int 1), .sh (.int 12)] = ret (.bool true) := by funext c; kernel_rfl
theorem comp3 {own : List Nat} {i : Nat} {mi : MI} {te : ME} {ρ : E} {d1 d2 d3 v1 v2 v3 : D} (h0 : mi ρ = ret [d1, d2, d3]) (h1 : te ((wipeE ρ own).set i (.sh d1)) = ret v1) (h2 : te ((wipeE ρ own).set i (.sh d2)) = ret v2) (h3 : te ((wipeE ρ own).set i (.sh d3)) = ret v3) :
    eComp own mi (.nm i) cYes te ρ = ret (.list [v1, v2, v3]) := by
  have c1 : ∀ ρ, cYes ρ = ret true := fun _ => rfl
  refine comp_ret (vs := [v1, v2, v3]) h0 ?_ (by show 3 ≤ 16777216; decide)
  simp [loopC, Tg.put, c1, ne_ret', h1, h2, h3]
theorem line_ok (a b c : Int) (ha : -1000000000 ≤ a ∧ a ≤ 1000000000) (hb : -1000000000 ≤ b ∧ b ≤ 1000000000) (hc : -1000000000 ≤ c ∧ c ≤ 1000000000) : m_is_line_of [.sh (rw3 a b c), .sh (.int 3)] = ret (.bool true) := by
  refine fnV_ret rfl rfl ?_
  unfold b_is_line_of
  have h := comp3 (own := [2]) (i := 2) (mi := iSeq (eVar 0)) (te := eCall m_is_whole (kCons .val (eVar 2) (kCons .val (e1 opNeg (eCon (.int 1000000000))) (kCons .val (eCon (.int 1000000000)) kNil)))) (ρ := [.sh (rw3 a b c), .sh (.int 3)] ++ List.replicate 1 .no) (d1 := .int a) (d2 := .int b) (d3 := .int c) (v1 := .bool true) (v2 := .bool true) (v3 := .bool true) rfl
    (by simpa [opNeg, wipeE] using whole_ok a _ _ ha.1 ha.2) (by simpa [opNeg, wipeE] using whole_ok b _ _ hb.1 hb.2) (by simpa [opNeg, wipeE] using whole_ok c _ _ hc.1 hc.2)
  simp only [r_sRet, r_eAnd, r_eCall, r_kCons, r_kNil, bret, lsome, r_val, r_e1, h, bassoc]
  simp [tuple3_ok, fAll, boolsOf]
theorem fits_ok (a b c d e f g h i : Int) (H : ∀ z ∈ [a, b, c, d, e, f, g, h, i], -1000000000 ≤ z ∧ z ≤ 1000000000) : m_fits_table [.sh (tb a b c d e f g h i)] = ret (.bool true) := by
  refine fnV_ret rfl rfl ?_
  unfold b_fits_table
  have q := comp3 (own := [1]) (i := 1) (mi := iSeq (eVar 0)) (te := eCall m_is_line_of (kCons .val (eVar 1) (kCons .val (e1 fLen (eVar 0)) kNil))) (ρ := [.sh (tb a b c d e f g h i)] ++ List.replicate 1 .no) (d1 := rw3 a b c) (d2 := rw3 d e f) (d3 := rw3 g h i) (v1 := .bool true) (v2 := .bool true) (v3 := .bool true) rfl
    (by simpa [fLen, wipeE] using line_ok a b c (H a (by simp)) (H b (by simp)) (H c (by simp))) (by simpa [fLen, wipeE] using line_ok d e f (H d (by simp)) (H e (by simp)) (H f (by simp))) (by simpa [fLen, wipeE] using line_ok g h i (H g (by simp)) (H h (by simp)) (H i (by simp)))
  simp only [r_sRet, r_eAnd, r_eCall, r_kCons, r_kNil, bret, lsome, r_val, r_e1, q, bassoc]
  simp [tuple12_ok, fAll, boolsOf]
end PV.L67

set_option maxHeartbeats 1000000
namespace PV.L67
open PySem PySem.Spec PyProof.Rows L2 PV
theorem any_ok (a b c d e f g h i : Int) (H : ∀ z ∈ [a, b, c, d, e, f, g, h, i], 1 ≤ z) : eComp2 [1, 2] [2] (iSeq (eVar 0)) (.nm 1) cYes (iSeq (eVar 1)) (.nm 2) cYes (e2 opLt (eVar 2) (eCon (.int 1))) [.sh (tb a b c d e f g h i), .no, .no] = ret (.list (List.replicate 9 (.bool false))) := by
  have c1 : ∀ ρ, cYes ρ = ret true := fun _ => rfl
  have q : ∀ z ∈ [a, b, c, d, e, f, g, h, i], opLt (.int z) (.int 1) = some (.bool false) := fun z hz => by
    have := H z hz
    show some (PyData.bool (decide (z < 1))) = _
    rw [decide_eq_false (by omega)]
  have s : ∀ x, iSeq (eVar 0) [.sh (tb a b c d e f g h i), .no, x] = ret [rw3 a b c, rw3 d e f, rw3 g h i] := fun _ => rfl
  have s1 : ∀ x y z w v, iSeq (eVar 1) [w, .sh (rw3 x y z), v] = ret [.int x, .int y, .int z] := fun _ _ _ _ _ => rfl
  have l : okLen (List.replicate 9 (PyData.bool false)) = some (List.replicate 9 (.bool false)) := by rfl
  simp only [eComp2, s, bret, wipeE, List.set, loopC2, loopC, Tg.put, lsome, c1, ne_ret', if_pos, s1, r_e2, varS, var0, r_eCon, q a (by simp), q b (by simp), q c (by simp), q d (by simp), q e (by simp), q f (by simp), q g (by simp), q h (by simp), q i (by simp), List.cons_append, List.nil_append]
  exact (by rfl)
theorem need_ok (a b c d e f g h i : Int) (H : ∀ z ∈ [a, b, c, d, e, f, g, h, i], 1 ≤ z ∧ z ≤ 1000000000) : m_need_times [.sh (tb a b c d e f g h i)] = ret .none := by
  refine fnV_retN (ρ := [.sh (tb a b c d e f g h i), .no, .no]) rfl rfl ?_
  unfold b_need_times
  have h1 := fits_ok a b c d e f g h i fun z hz => ⟨by have := (H z hz).1; omega, (H z hz).2⟩
  have h2 := any_ok a b c d e f g h i fun z hz => (H z hz).1
  simp only [List.replicate, List.cons_append, List.nil_append, r_sIf, r_tst, r_eOr, r_eNot, r_eCall, r_kCons, r_kNil, bret, lsome, r_val, var0, h1, r_toB, r_e1, h2, bassoc, Bool.not_true, Bool.false_eq_true, if_false]
  rfl
theorem mult_ok (a b c : Int) (ha : a.natAbs < 18446744073709551616) (hb : b.natAbs < 18446744073709551616) (hc : c.natAbs < 18446744073709551616) : m_multiplied [.sh (rw3 a b c)] = ret (.int (1 * a * b * c)) := by
  refine fnV_ret rfl rfl ?_
  unfold b_multiplied
  have s : ∀ x y, iSeq (eVar 0) [.sh (rw3 a b c), x, y] = ret [.int a, .int b, .int c] := fun _ _ => rfl
  simp only [List.replicate, List.cons_append, List.nil_append, r_sSeq, r_sSet, r_eCon, bret, r_val, lsome, List.set, r_nx, r_sFor, s, loopS, Tg.put, r_e2, varS, var0, mul_ii 1 a (.inr ha), mul_ii (1 * a) b (.inr hb), mul_ii (1 * a * b) c (.inr hc), bassoc, r_sRet]
theorem cols_ok (a b c d e f g h i : Int) : m_columns_in [.sh (tb a b c d e f g h i)] = ret (.list [rw3 a d g, rw3 b e h, rw3 c f i]) := by funext c; kernel_rfl
theorem slants_ok (a b c d e f g h i : Int) : m_slants_in [.sh (tb a b c d e f g h i)] = ret (.tuple [rw3 a e i, rw3 c e g]) := by funext c; kernel_rfl
theorem sums_ok (a b c d e f g h i : Int) : m_sums_in [.sh (tb a b c d e f g h i)] = ret (.tuple [rw3 ([a, b, c].sum) ([d, e, f].sum) ([g, h, i].sum), rw3 ([a, d, g].sum) ([b, e, h].sum) ([c, f, i].sum), .tuple [.int ([a, e, i].sum), .int ([c, e, g].sum)]]) := by funext c; kernel_rfl
end PV.L67

set_option maxHeartbeats 1000000
namespace PV.L67
open PySem PySem.Spec PyProof.Rows L2 PV
abbrev pd (a b c : Int) : Int := 1 * a * b * c
abbrev small (z : Int) : Prop := z.natAbs < 18446744073709551616
theorem products_ok (a b c d e f g h i : Int) (H : ∀ z ∈ [a, b, c, d, e, f, g, h, i], small z) : m_products_in [.sh (tb a b c d e f g h i)] =
    ret (.tuple [rw3 (pd a b c) (pd d e f) (pd g h i), rw3 (pd a d g) (pd b e h) (pd c f i), .tuple [.int (pd a e i), .int (pd c e g)]]) := by
  have Ha := H a (by simp)
  have Hb := H b (by simp)
  have Hc := H c (by simp)
  have Hd := H d (by simp)
  have He := H e (by simp)
  have Hf := H f (by simp)
  have Hg := H g (by simp)
  have Hh := H h (by simp)
  have Hi := H i (by simp)
  refine fnV_ret rfl rfl ?_
  unfold b_products_in
  have q1 := comp3 (own := [3]) (i := 3) (mi := iSeq (eVar 0)) (te := eCall m_multiplied (kCons .val (eVar 3) kNil)) (ρ := [.sh (tb a b c d e f g h i), .no, .no, .no, .no, .no, .no]) (d1 := rw3 a b c) (d2 := rw3 d e f) (d3 := rw3 g h i) rfl (mult_ok a b c Ha Hb Hc) (mult_ok d e f Hd He Hf) (mult_ok g h i Hg Hh Hi)
  have q0 : iSeq (eCall m_columns_in (kCons .val (eVar 0) kNil)) [.sh (tb a b c d e f g h i), .no, .no, .no, .no, .no, .no] = ret [rw3 a d g, rw3 b e h, rw3 c f i] := by
    simp only [iSeq, r_eCall, r_kCons, r_kNil, var0, bret, r_val, lsome, cols_ok, seqOf, bassoc]
  have q2 := comp3 (own := [4]) (i := 4) (te := eCall m_multiplied (kCons .val (eVar 4) kNil)) q0 (mult_ok a d g Ha Hd Hg) (mult_ok b e h Hb He Hh) (mult_ok c f i Hc Hf Hi)
  have f1 : ∀ x y z, fTuple (.list [x, y, z]) = some (.tuple [x, y, z]) := fun _ _ _ => rfl
  have p1 : Tg.put (.tp [(.nm 5), (.nm 6)]) (.tuple [rw3 a e i, rw3 c e g]) [.sh (tb a b c d e f g h i), .sh (rw3 (pd a b c) (pd d e f) (pd g h i)), .sh (rw3 (pd a d g) (pd b e h) (pd c f i)), .no, .no, .no, .no] =
    some [.sh (tb a b c d e f g h i), .sh (rw3 (pd a b c) (pd d e f) (pd g h i)), .sh (rw3 (pd a d g) (pd b e h) (pd c f i)), .no, .no, .sh (rw3 a e i), .sh (rw3 c e g)] := rfl
  have m2 : ∀ x y, mkT [x, y] = some (.tuple [x, y]) := fun _ _ => rfl
  have m3 : ∀ x y z, mkT [x, y, z] = some (.tuple [x, y, z]) := fun _ _ _ => rfl
  simp only [List.replicate, List.cons_append, List.nil_append, r_sSeq, r_sPar, r_kCons, r_e1, q1, q2, bret, r_kNil, r_val, lsome, f1, setAll, List.set, bassoc, r_nx, r_sAsg, r_eCall, var0, slants_ok, p1]
  simp only [r_sRet, r_eTup, r_esCons, r_esNil, varS, var0, bret, r_eCall, r_kCons, r_kNil, r_val, lsome, bassoc, mult_ok a e i Ha He Hi, mult_ok c e g Hc He Hg, m2, m3]
def eight (x1 x2 x3 x4 x5 x6 x7 x8 : Int) : List Int := [x1, x2, x3, x4, x5, x6, x7, x8]
def all1 (l : List Int) : Bool := PyData.eqv (.int ((onceI l).length : Nat)) (.int 1)
theorem times_in_ok (a b c d e f g h i : Int) (H : ∀ z ∈ [a, b, c, d, e, f, g, h, i], small z) : m_is_times_in [.sh (tb a b c d e f g h i)] = ret (.bool (all1 [pd a b c, pd d e f, pd g h i, pd a d g, pd b e h, pd c f i, pd a e i, pd c e g])) := by
  refine fnV_ret rfl rfl ?_
  unfold b_is_times_in
  simp only [List.replicate, List.cons_append, List.nil_append, r_sSeq, r_sAsg, r_eCall, r_kCons, r_kNil, var0, bret, r_val, lsome, products_ok a b c d e f g h i H, bassoc]
  rfl
theorem magic_in_ok (a b c d e f g h i : Int) : m_is_magic_in [.sh (tb a b c d e f g h i)] = ret (.bool (all1 [[a, b, c].sum, [d, e, f].sum, [g, h, i].sum, [a, d, g].sum, [b, e, h].sum, [c, f, i].sum, [a, e, i].sum, [c, e, g].sum])) := by
  refine fnV_ret rfl rfl ?_
  unfold b_is_magic_in
  simp only [List.replicate, List.cons_append, List.nil_append, r_sSeq, r_sAsg, r_eCall, r_kCons, r_kNil, var0, bret, r_val, lsome, sums_ok, bassoc]
  rfl
theorem all1_eq {n : Int} {r : List Int} (h : ∀ k ∈ r, k = n) : all1 (n :: r) = true := by
  have e : onceI (n :: r) = [n] := by
    have nd := once_nodup (n :: r)
    have mm := once_mem (n :: r)
    have hh : ∀ k ∈ onceI (n :: r), k = n := fun k hk => by
      rcases List.mem_cons.mp ((mm k).mp hk) with q | q
      · exact q
      · exact h k q
    have h1 : n ∈ onceI (n :: r) := (mm n).mpr List.mem_cons_self
    match onceI (n :: r), nd, hh, h1 with
    | [], _, _, h1 => cases h1
    | [x], _, hh, _ => rw [hh x List.mem_cons_self]
    | x :: y :: t, nd, hh, _ =>
      have e1 := hh x List.mem_cons_self
      have e2 := hh y (List.mem_cons_of_mem _ List.mem_cons_self)
      rw [e1, e2] at nd
      simp at nd
  unfold all1
  rw [e]
  rfl
theorem all1_ne {n k : Int} {r : List Int} (hk : k ∈ r) (h : k ≠ n) : all1 (n :: r) = false := by
  have mm := once_mem (n :: r)
  have h1 : n ∈ onceI (n :: r) := (mm n).mpr List.mem_cons_self
  have h2 : k ∈ onceI (n :: r) := (mm k).mpr (List.mem_cons_of_mem _ hk)
  have hl : (onceI (n :: r)).length ≠ 1 := fun e => by
    match onceI (n :: r), h1, h2, e with
    | [x], h1, h2, _ =>
      rw [List.mem_singleton] at h1 h2
      exact h (h2.trans h1.symm)
  unfold all1
  show ((((onceI (n :: r)).length : Nat) : Int) == 1) = false
  rw [beq_eq_false_iff_ne]
  omega
theorem both_ok (a b c d e f g h i : Int) (H : ∀ z ∈ [a, b, c, d, e, f, g, h, i], 1 ≤ z ∧ z ≤ 1000000000) : m_is_both_ways [.sh (tb a b c d e f g h i)] = ret (.bool (all1 [pd a b c, pd d e f, pd g h i, pd a d g, pd b e h, pd c f i, pd a e i, pd c e g] && all1 [[a, b, c].sum, [d, e, f].sum, [g, h, i].sum, [a, d, g].sum, [b, e, h].sum, [c, f, i].sum, [a, e, i].sum, [c, e, g].sum])) := by
  refine fnV_ret rfl rfl ?_
  unfold b_is_both_ways
  have hs : ∀ z ∈ [a, b, c, d, e, f, g, h, i], small z := fun z hz => by have := H z hz; show z.natAbs < _; omega
  simp only [List.replicate, List.cons_append, List.nil_append, r_sSeq, r_sExpr, r_eCall, r_kCons, r_kNil, var0, bret, r_val, lsome, need_ok a b c d e f g h i H, bassoc, r_nx, r_sRet, r_eAnd, times_in_ok a b c d e f g h i hs, magic_in_ok, r_toB]
  cases all1 [pd a b c, pd d e f, pd g h i, pd a d g, pd b e h, pd c f i, pd a e i, pd c e g] <;> simp
theorem timesm_ok (a b c d e f g h i : Int) (H : ∀ z ∈ [a, b, c, d, e, f, g, h, i], 1 ≤ z ∧ z ≤ 1000000000) : m_is_times_magic [.sh (tb a b c d e f g h i)] = ret (.bool (all1 [pd a b c, pd d e f, pd g h i, pd a d g, pd b e h, pd c f i, pd a e i, pd c e g])) := by
  refine fnV_ret rfl rfl ?_
  unfold b_is_times_magic
  have hs : ∀ z ∈ [a, b, c, d, e, f, g, h, i], small z := fun z hz => by have := H z hz; show z.natAbs < _; omega
  simp only [List.replicate, List.cons_append, List.nil_append, r_sSeq, r_sExpr, r_eCall, r_kCons, r_kNil, var0, bret, r_val, lsome, need_ok a b c d e f g h i H, bassoc, r_nx, r_sRet, times_in_ok a b c d e f g h i hs]
theorem needt_ok (a b c d e f g h i : Int) (H : ∀ z ∈ [a, b, c, d, e, f, g, h, i], -1000000000 ≤ z ∧ z ≤ 1000000000) : m_need_table [.sh (tb a b c d e f g h i)] = ret .none := by
  refine fnV_retN (ρ := [.sh (tb a b c d e f g h i)]) rfl rfl ?_
  unfold b_need_table
  simp only [List.replicate, List.cons_append, List.nil_append, List.append_nil, r_sIf, r_tst, r_eNot, r_eCall, r_kCons, r_kNil, bret, lsome, r_val, var0, fits_ok a b c d e f g h i H, r_toB, bassoc, Bool.not_true, Bool.false_eq_true, if_false]
  rfl
theorem magic_ok (a b c d e f g h i : Int) (H : ∀ z ∈ [a, b, c, d, e, f, g, h, i], 1 ≤ z ∧ z ≤ 1000000000) : m_is_magic [.sh (tb a b c d e f g h i)] = ret (.bool (all1 [[a, b, c].sum, [d, e, f].sum, [g, h, i].sum, [a, d, g].sum, [b, e, h].sum, [c, f, i].sum, [a, e, i].sum, [c, e, g].sum])) := by
  refine fnV_ret rfl rfl ?_
  unfold b_is_magic
  simp only [List.replicate, List.cons_append, List.nil_append, r_sSeq, r_sExpr, r_eCall, r_kCons, r_kNil, var0, bret, r_val, lsome, needt_ok a b c d e f g h i (fun z hz => ⟨by have := (H z hz).1; omega, (H z hz).2⟩), bassoc, r_nx, r_sRet, magic_in_ok]
end PV.L67

set_option maxHeartbeats 1000000
namespace PV.L67
open PySem PySem.Spec PyProof.Rows L2 PV
abbrev it (s : Str) (j p : Int) : D := .tuple [.tuple [.str s, .int j], .int p]
abbrev nam (p1 p2 p3 p4 p5 p6 p7 p8 : Int) : List D := [it "row" 0 p1, it "row" 1 p2, it "row" 2 p3, it "column" 0 p4, it "column" 1 p5, it "column" 2 p6, it "slant" 0 p7, it "slant" 1 p8]
theorem named_ok (a b c d e f g h i : Int) (H : ∀ z ∈ [a, b, c, d, e, f, g, h, i], small z) : m_named_products [.sh (tb a b c d e f g h i)] = ret (.list (nam (pd a b c) (pd d e f) (pd g h i) (pd a d g) (pd b e h) (pd c f i) (pd a e i) (pd c e g))) := by
  refine fnV_ret rfl rfl ?_
  unfold b_named_products
  have P := products_ok a b c d e f g h i H
  generalize pd a b c = p1 at P ⊢
  generalize pd d e f = p2 at P ⊢
  generalize pd g h i = p3 at P ⊢
  generalize pd a d g = p4 at P ⊢
  generalize pd b e h = p5 at P ⊢
  generalize pd c f i = p6 at P ⊢
  generalize pd a e i = p7 at P ⊢
  generalize pd c e g = p8 at P ⊢
  simp only [List.replicate, List.cons_append, List.nil_append, r_sSeq, r_sAsg, r_eCall, r_kCons, r_kNil, var0, bret, r_val, lsome, P, bassoc]
  rfl
def tp (p0 : Int) : D → Bool := fun d => match d with
  | .tuple [_, .int x] => !(x == p0)
  | _ => false
def tgl : D → D := fun d => match d with
  | .tuple [l, _] => l
  | _ => .none
theorem shaped_lines (us : List D) (h : ∀ u ∈ us, ∃ s j, u = .tuple [.str s, .int j] ∧ PyData.strOk s = true) : SeqAt.shaped (.list us) = true := by
  have c : PyData.canLayAll0 us = true := by
    induction us with
    | nil => rfl
    | cons u r ih =>
      obtain ⟨s, j, rfl, ok⟩ := h u List.mem_cons_self
      rw [PyData.canLayAll0, ih fun u hu => h u (List.mem_cons_of_mem _ hu)]
      simp [PyData.canLay0, PyData.canLayAll0, ok]
  have dd : PyData.depthAll us ≤ 1 := by
    induction us with
    | nil => exact Nat.zero_le _
    | cons u r ih =>
      obtain ⟨s, j, rfl, _⟩ := h u List.mem_cons_self
      have := ih (fun u hu => h u (List.mem_cons_of_mem _ hu)) (by rw [PyData.canLayAll0, Bool.and_eq_true] at c; exact c.2)
      rw [PyData.depthAll]
      exact Nat.max_le.mpr ⟨Nat.le_refl 1, this⟩
  show ((PyData.list us).canLay0 && decide ((PyData.list us).depth ≤ 64)) = true
  rw [Bool.and_eq_true, decide_eq_true_eq]
  refine ⟨by simpa [PyData.canLay0] using c, ?_⟩
  simp only [PyData.depth]
  omega
theorem shaped_ints (us : List D) (h : ∀ u ∈ us, ∃ j, u = .int j) : SeqAt.shaped (.list us) = true := by
  have c : PyData.canLayAll0 us = true := by
    induction us with
    | nil => rfl
    | cons u r ih =>
      obtain ⟨j, rfl⟩ := h u List.mem_cons_self
      rw [PyData.canLayAll0, ih fun u hu => h u (List.mem_cons_of_mem _ hu)]
      simp [PyData.canLay0, PyData.canLayAll0]
  have dd : PyData.depthAll us ≤ 1 := by
    induction us with
    | nil => exact Nat.zero_le _
    | cons u r ih =>
      obtain ⟨j, rfl⟩ := h u List.mem_cons_self
      have := ih (fun u hu => h u (List.mem_cons_of_mem _ hu)) (by rw [PyData.canLayAll0, Bool.and_eq_true] at c; exact c.2)
      rw [PyData.depthAll]
      exact Nat.max_le.mpr ⟨Nat.zero_le 1, this⟩
  show ((PyData.list us).canLay0 && decide ((PyData.list us).depth ≤ 64)) = true
  rw [Bool.and_eq_true, decide_eq_true_eq]
  refine ⟨by simpa [PyData.canLay0] using c, ?_⟩
  simp only [PyData.depth]
  omega
theorem ne_nil (us : List D) (h : SeqAt.shaped (.list us) = true) : opNe (.list us) (.list []) = some (.bool (!us.isEmpty)) := by
  have e : opNe (.list us) (.list []) = some (.bool (!PyData.eqv (.list us) (.list []))) := by
    show (if _ then _ else _) = _
    rw [if_pos ⟨h, rfl⟩]
  rw [e]
  cases us <;> rfl
theorem eq_nil (us : List D) (h : SeqAt.shaped (.list us) = true) : opEq (.list us) (.list []) = some (.bool us.isEmpty) := by
  have e : opEq (.list us) (.list []) = some (.bool (PyData.eqv (.list us) (.list []))) := by
    show (if _ then _ else _) = _
    rw [if_pos ⟨h, rfl⟩]
  rw [e]
  cases us <;> rfl
theorem break_ok (a b c d e f g h i : Int) (H : ∀ z ∈ [a, b, c, d, e, f, g, h, i], small z) : ∃ v, m_break_by_products [.sh (tb a b c d e f g h i)] = ret v ∧
    opIs none v = some (.bool ([pd d e f, pd g h i, pd a d g, pd b e h, pd c f i, pd a e i, pd c e g].all fun x => x == pd a b c)) := by
  have N := named_ok a b c d e f g h i H
  generalize pd a b c = p1 at N ⊢
  generalize pd d e f = p2 at N ⊢
  generalize pd g h i = p3 at N ⊢
  generalize pd a d g = p4 at N ⊢
  generalize pd b e h = p5 at N ⊢
  generalize pd c f i = p6 at N ⊢
  generalize pd a e i = p7 at N ⊢
  generalize pd c e g = p8 at N ⊢
  have L : eComp [3, 4] (iSeq (eVar 1)) (.tp [(.nm 3), (.nm 4)]) (tst (e2 opNe (eVar 4) (e2 opIdx (e2 opIdx (eVar 1) (eCon (.int 0))) (eCon (.int 1))))) (eVar 3) [.sh (tb a b c d e f g h i), .sh (.list (nam p1 p2 p3 p4 p5 p6 p7 p8)), .no, .no, .no] = ret (.list (((nam p1 p2 p3 p4 p5 p6 p7 p8).filter (tp p1)).map tgl)) := by
    refine comp_ret (ds := nam p1 p2 p3 p4 p5 p6 p7 p8) rfl ?_ ?_
    · refine loopC_ret (fun dd => [.sh (tb a b c d e f g h i), .sh (.list (nam p1 p2 p3 p4 p5 p6 p7 p8)), .no, .sh (tgl dd), .sh (match dd with | .tuple [_, x] => x | _ => .none)]) (tp p1) tgl _ ?_ ?_ ?_
      · intro dd hd
        simp only [nam, List.mem_cons, List.not_mem_nil, or_false] at hd
        rcases hd with rfl | rfl | rfl | rfl | rfl | rfl | rfl | rfl <;> rfl
      · intro dd hd
        simp only [nam, List.mem_cons, List.not_mem_nil, or_false] at hd
        rcases hd with rfl | rfl | rfl | rfl | rfl | rfl | rfl | rfl <;> rfl
      · intro dd hd _
        rfl
    · rw [List.length_map]
      exact Nat.le_trans (List.length_filter_le _ _) (by show 8 ≤ 16777216; decide)
  have S : SeqAt.shaped (.list (((nam p1 p2 p3 p4 p5 p6 p7 p8).filter (tp p1)).map tgl)) = true := shaped_lines _ fun u hu => by
    obtain ⟨dd, hd, rfl⟩ := List.mem_map.mp hu
    have hd := (List.mem_filter.mp hd).1
    simp only [nam, List.mem_cons, List.not_mem_nil, or_false] at hd
    rcases hd with rfl | rfl | rfl | rfl | rfl | rfl | rfl | rfl <;> exact ⟨_, _, rfl, by decide +kernel⟩
  have E : (((nam p1 p2 p3 p4 p5 p6 p7 p8).filter (tp p1)).map tgl).isEmpty = ([p2, p3, p4, p5, p6, p7, p8].all fun x => x == p1) := by
    rw [Bool.eq_iff_iff, List.isEmpty_iff, List.map_eq_nil_iff, List.filter_eq_nil_iff]
    simp [nam, tp]
  have hb : ∀ v, (sRet (eIf (e2 opNe (eVar 2) (eLst esNil)) (eTup (esCons (e2 opIdx (e2 opIdx (eVar 1) (eCon (.int 0))) (eCon (.int 0))) (esCons (e2 opIdx (eVar 2) (eCon (.int 0))) esNil))) (eCon .none))) [.sh (tb a b c d e f g h i), .sh (.list (nam p1 p2 p3 p4 p5 p6 p7 p8)), .sh (.list (((nam p1 p2 p3 p4 p5 p6 p7 p8).filter (tp p1)).map tgl)), .no, .no] = ret (.rt v) → m_break_by_products [.sh (tb a b c d e f g h i)] = ret v := fun v hv => by
    refine fnV_ret rfl rfl ?_
    unfold b_break_by_products
    simp only [List.replicate, List.cons_append, List.nil_append, r_sSeq, r_sSet, r_eCall, r_kCons, r_kNil, var0, bret, r_val, lsome, N, bassoc, List.set, r_nx, L]
    exact hv
  have l0 : mkL [] = some (.list []) := rfl
  generalize hu : ((nam p1 p2 p3 p4 p5 p6 p7 p8).filter (tp p1)).map tgl = us at S E hb
  cases us with
  | nil =>
    refine ⟨.none, hb _ ?_, by rw [← E]; rfl⟩
    simp only [r_sRet, r_eIf, r_e2, varS, var0, bret, r_eLst, r_esNil, l0, lsome, ne_nil _ S, bassoc, List.isEmpty_nil, Bool.not_true, r_toB, Bool.false_eq_true, if_false, r_eCon]
  | cons u us =>
    have i1 : opIdx (.list (nam p1 p2 p3 p4 p5 p6 p7 p8)) (.int 0) = some (it "row" 0 p1) := rfl
    have i2 : opIdx (it "row" 0 p1) (.int 0) = some (.tuple [.str "row", .int 0]) := rfl
    have i3 : opIdx (.list (u :: us)) (.int 0) = some u := by
      have h : (0 : Int) < (us.length : Int) + 1 := by omega
      simp [opIdx, L2.atI, L2.ixN, h]
    have m2 : ∀ x y, mkT [x, y] = some (.tuple [x, y]) := fun _ _ => rfl
    refine ⟨.tuple [.tuple [.str "row", .int 0], u], hb _ ?_, by rw [← E]; rfl⟩
    simp only [r_sRet, r_eIf, r_e2, varS, var0, bret, r_eLst, r_esNil, l0, lsome, ne_nil _ S, bassoc, List.isEmpty_cons, Bool.not_false, r_toB, if_true, r_eCon, r_eTup, r_esCons, i1, i2, i3, m2]
end PV.L67

set_option maxHeartbeats 2000000
namespace PV.L67
open PySem PySem.Spec PyProof.Rows L2 PV
theorem inner_ok (a b c : Int) (ha : small a) (hb : small b) (hc : small c) (ρ0 ρ1 ρ3 ρ4 ρ5 ρ6 : Slot) (ds : List D) (hl : ds.length < LIM) (ρ8 ρ9 : Slot) :
    (sSeq (sSet .val 8 (eCon (.int 1))) (sSeq (sFor (iSeq (eVar 7)) (.nm 9) (sSet .val 8 (e2 opMul (eVar 8) (eVar 9)))) (sApp 2 (eVar 8)))) [ρ0, ρ1, .ol ds, ρ3, ρ4, ρ5, ρ6, .sh (rw3 a b c), ρ8, ρ9] =
      ret (.nx [ρ0, ρ1, .ol (ds ++ [.int (pd a b c)]), ρ3, ρ4, ρ5, ρ6, .sh (rw3 a b c), .sh (.int (pd a b c)), .sh (.int c)]) := by
  have s : ∀ x y, iSeq (eVar 7) [ρ0, ρ1, .ol ds, ρ3, ρ4, ρ5, ρ6, .sh (rw3 a b c), x, y] = ret [.int a, .int b, .int c] := fun _ _ => rfl
  have ap : ∀ v x y, sApp 2 (eVar 8) [ρ0, ρ1, .ol ds, ρ3, ρ4, ρ5, ρ6, x, .sh v, y] = ret (.nx [ρ0, ρ1, .ol (ds ++ [v]), ρ3, ρ4, ρ5, ρ6, x, .sh v, y]) := fun v x y => by
    show bnd (ret v) (app1 2 [ρ0, ρ1, .ol ds, ρ3, ρ4, ρ5, ρ6, x, .sh v, y] ds) = _
    rw [bret]
    unfold app1
    rw [if_pos hl]
    rfl
  simp only [r_sSeq, r_sSet, r_eCon, bret, r_val, lsome, List.set, r_nx, r_sFor, s, loopS, Tg.put, r_e2, varS, var0, mul_ii 1 a (.inr ha), mul_ii (1 * a) b (.inr hb), mul_ii (1 * a * b) c (.inr hc), bassoc, ap]
theorem lprod_ok (a b c d e f g h i : Int) (H : ∀ z ∈ [a, b, c, d, e, f, g, h, i], small z) : m__law_products [.sh (tb a b c d e f g h i)] =
    ret (.tuple [rw3 (pd a b c) (pd d e f) (pd g h i), rw3 (pd a d g) (pd b e h) (pd c f i), .tuple [.int (pd a e i), .int (pd c e g)]]) := by
  have Ha := H a (by simp)
  have Hb := H b (by simp)
  have Hc := H c (by simp)
  have Hd := H d (by simp)
  have He := H e (by simp)
  have Hf := H f (by simp)
  have Hg := H g (by simp)
  have Hh := H h (by simp)
  have Hi := H i (by simp)
  refine fnV_ret rfl rfl ?_
  unfold b__law_products
  rw [r_sSeq, show (sPar [1, 2] (kCons .val (e1 fLen (eVar 0)) (kCons .frs (eLst esNil) kNil))) ([.sh (tb a b c d e f g h i)] ++ List.replicate 9 .no) = ret (.nx [.sh (tb a b c d e f g h i), .sh (.int 3), .ol [], .no, .no, .no, .no, .no, .no, .no]) from rfl, bret, r_nx]
  rw [r_sSeq, show (sSet .val 3 (e2 opAdd (e1 fList (eVar 0)) (eComp [5] (iRng rng1 (esCons (eVar 1) esNil)) (.nm 5) cYes (e1 fTuple (eComp [4] (iSeq (eVar 0)) (.nm 4) cYes (e2 opIdx (eVar 4) (eVar 5))))))) [.sh (tb a b c d e f g h i), .sh (.int 3), .ol [], .no, .no, .no, .no, .no, .no, .no] = ret (.nx [.sh (tb a b c d e f g h i), .sh (.int 3), .ol [], .sh (.list [rw3 a b c, rw3 d e f, rw3 g h i, rw3 a d g, rw3 b e h, rw3 c f i]), .no, .no, .no, .no, .no, .no]) from by funext c; kernel_rfl, bret, r_nx]
  rw [r_sSeq, show (sSet .val 3 (e2 opAdd (eVar 3) (eLst (esCons (e1 fTuple (eComp [6] (iRng rng1 (esCons (eVar 1) esNil)) (.nm 6) cYes (e2 opIdx (e2 opIdx (eVar 0) (eVar 6)) (eVar 6)))) (esCons (e1 fTuple (eComp [6] (iRng rng1 (esCons (eVar 1) esNil)) (.nm 6) cYes (e2 opIdx (e2 opIdx (eVar 0) (eVar 6)) (e2 opSub (e2 opSub (eVar 1) (eCon (.int 1))) (eVar 6))))) esNil))))) [.sh (tb a b c d e f g h i), .sh (.int 3), .ol [], .sh (.list [rw3 a b c, rw3 d e f, rw3 g h i, rw3 a d g, rw3 b e h, rw3 c f i]), .no, .no, .no, .no, .no, .no] = ret (.nx [.sh (tb a b c d e f g h i), .sh (.int 3), .ol [], .sh (.list [rw3 a b c, rw3 d e f, rw3 g h i, rw3 a d g, rw3 b e h, rw3 c f i, rw3 a e i, rw3 c e g]), .no, .no, .no, .no, .no, .no]) from by funext c; kernel_rfl, bret, r_nx]
  have s : ∀ x y z w v u t ss, iSeq (eVar 3) [x, y, z, .sh (.list [rw3 a b c, rw3 d e f, rw3 g h i, rw3 a d g, rw3 b e h, rw3 c f i, rw3 a e i, rw3 c e g]), w, v, u, t, ss, .no] = ret [rw3 a b c, rw3 d e f, rw3 g h i, rw3 a d g, rw3 b e h, rw3 c f i, rw3 a e i, rw3 c e g] := fun _ _ _ _ _ _ _ _ => rfl
  rw [r_sSeq, r_sFor, s, bret]
  simp only [loopS, Tg.put, lsome, bret, List.set]
  rw [inner_ok a b c Ha Hb Hc _ _ _ _ _ _ _ (by decide), bret, r_nx]
  simp only [List.set]
  rw [inner_ok d e f Hd He Hf _ _ _ _ _ _ _ (by simp [LIM]), bret, r_nx]
  simp only [List.set]
  rw [inner_ok g h i Hg Hh Hi _ _ _ _ _ _ _ (by simp [LIM]), bret, r_nx]
  simp only [List.set]
  rw [inner_ok a d g Ha Hd Hg _ _ _ _ _ _ _ (by simp [LIM]), bret, r_nx]
  simp only [List.set]
  rw [inner_ok b e h Hb He Hh _ _ _ _ _ _ _ (by simp [LIM]), bret, r_nx]
  simp only [List.set]
  rw [inner_ok c f i Hc Hf Hi _ _ _ _ _ _ _ (by simp [LIM]), bret, r_nx]
  simp only [List.set]
  rw [inner_ok a e i Ha He Hi _ _ _ _ _ _ _ (by simp [LIM]), bret, r_nx]
  simp only [List.set]
  rw [inner_ok c e g Hc He Hg _ _ _ _ _ _ _ (by simp [LIM]), bret, r_nx, bret, r_nx]
  generalize pd a b c = p1
  generalize pd d e f = p2
  generalize pd g h i = p3
  generalize pd a d g = p4
  generalize pd b e h = p5
  generalize pd c f i = p6
  generalize pd a e i = p7
  generalize pd c e g = p8
  funext cc
  kernel_rfl
theorem alike_ok (a b c d e f g h i : Int) (H : ∀ z ∈ [a, b, c, d, e, f, g, h, i], small z) : m__law_alike [.sh (tb a b c d e f g h i)] = ret (.bool ([pd d e f, pd g h i, pd a d g, pd b e h, pd c f i, pd a e i, pd c e g].all fun x => x == pd a b c)) := by
  have N := lprod_ok a b c d e f g h i H
  generalize pd a b c = p1 at N ⊢
  generalize pd d e f = p2 at N ⊢
  generalize pd g h i = p3 at N ⊢
  generalize pd a d g = p4 at N ⊢
  generalize pd b e h = p5 at N ⊢
  generalize pd c f i = p6 at N ⊢
  generalize pd a e i = p7 at N ⊢
  generalize pd c e g = p8 at N ⊢
  let tq : D → Bool := fun x => match x with
    | .int x => !(x == p1)
    | _ => false
  have L : eComp [4] (iSeq (e2 opAdd (e2 opAdd (eVar 1) (eVar 2)) (eVar 3))) (.nm 4) (tst (e2 opNe (eVar 4) (e2 opIdx (eVar 1) (eCon (.int 0))))) (eVar 4) [.sh (tb a b c d e f g h i), .sh (rw3 p1 p2 p3), .sh (rw3 p4 p5 p6), .sh (.tuple [.int p7, .int p8]), .no] = ret (.list (([.int p1, .int p2, .int p3, .int p4, .int p5, .int p6, .int p7, .int p8].filter tq).map id)) := by
    refine comp_ret (ds := [.int p1, .int p2, .int p3, .int p4, .int p5, .int p6, .int p7, .int p8]) rfl ?_ ?_
    · refine loopC_ret (fun dd => [.sh (tb a b c d e f g h i), .sh (rw3 p1 p2 p3), .sh (rw3 p4 p5 p6), .sh (.tuple [.int p7, .int p8]), .sh dd]) tq id _ ?_ ?_ ?_
      · intro dd hd
        rfl
      · intro dd hd
        simp only [List.mem_cons, List.not_mem_nil, or_false] at hd
        rcases hd with rfl | rfl | rfl | rfl | rfl | rfl | rfl | rfl <;> rfl
      · intro dd hd _
        rfl
    · rw [List.length_map]
      exact Nat.le_trans (List.length_filter_le _ _) (by show 8 ≤ 16777216; decide)
  have S : SeqAt.shaped (.list (([.int p1, .int p2, .int p3, .int p4, .int p5, .int p6, .int p7, .int p8].filter tq).map id)) = true := shaped_ints _ fun u hu => by
    obtain ⟨dd, hd, rfl⟩ := List.mem_map.mp hu
    have hd := (List.mem_filter.mp hd).1
    simp only [List.mem_cons, List.not_mem_nil, or_false] at hd
    rcases hd with rfl | rfl | rfl | rfl | rfl | rfl | rfl | rfl <;> exact ⟨_, rfl⟩
  have E : (([PyData.int p1, .int p2, .int p3, .int p4, .int p5, .int p6, .int p7, .int p8].filter tq).map id).isEmpty = ([p2, p3, p4, p5, p6, p7, p8].all fun x => x == p1) := by
    rw [Bool.eq_iff_iff, List.isEmpty_iff, List.map_eq_nil_iff, List.filter_eq_nil_iff]
    simp [tq]
  refine fnV_ret rfl rfl ?_
  unfold b__law_alike
  have l0 : mkL [] = some (.list []) := rfl
  have p1' : Tg.put (.tp [(.nm 1), (.nm 2), (.nm 3)]) (.tuple [rw3 p1 p2 p3, rw3 p4 p5 p6, .tuple [.int p7, .int p8]]) [.sh (tb a b c d e f g h i), .no, .no, .no, .no] = some [.sh (tb a b c d e f g h i), .sh (rw3 p1 p2 p3), .sh (rw3 p4 p5 p6), .sh (.tuple [.int p7, .int p8]), .no] := rfl
  simp only [List.replicate, List.cons_append, List.nil_append, r_sSeq, r_sAsg, r_eCall, r_kCons, r_kNil, var0, bret, r_val, lsome, N, bassoc, p1', r_nx, r_sRet, r_e2, L, r_eLst, r_esNil, l0, eq_nil _ S, E]
end PV.L67

set_option maxHeartbeats 2000000
namespace PV.L67
open PySem PySem.Spec PyProof.Rows L2 PV
theorem zero_of {m a b : Int} (hm : 0 < m) (ha : 0 ≤ a) (hb : 0 ≤ b) (e1 : pd (m + a - b) m (m - a + b) = pd (m - a) m (m + a)) (e2 : pd (m - a) m (m + a) = pd (m - b) m (m + b)) : a = 0 ∧ b = 0 := by
  have h1 : m * ((a - b) * (a - b)) = m * (a * a) := by
    simp only [pd, Int.one_mul, Int.mul_sub, Int.sub_mul, Int.mul_add, Int.add_mul] at e1 ⊢
    simp only [Int.mul_comm, Int.mul_left_comm, Int.mul_assoc] at e1 ⊢
    omega
  have h2 : m * (a * a) = m * (b * b) := by
    simp only [pd, Int.one_mul, Int.mul_sub, Int.sub_mul, Int.mul_add, Int.add_mul] at e2 ⊢
    simp only [Int.mul_comm, Int.mul_left_comm, Int.mul_assoc] at e2 ⊢
    omega
  have q1 : (a - b) * (a - b) = a * a := Int.eq_of_mul_eq_mul_left (by omega) h1
  have q2 : a * a = b * b := Int.eq_of_mul_eq_mul_left (by omega) h2
  have q3 : (a - b) * (a + b) = 0 := by
    simp only [Int.mul_sub, Int.sub_mul, Int.mul_add, Int.add_mul]
    simp only [Int.mul_comm, Int.mul_left_comm, Int.mul_assoc]
    omega
  rcases Int.mul_eq_zero.mp q3 with q | q
  · have e : a = b := by omega
    subst e
    have z : a * a = 0 := by rw [← q1]; simp
    rcases Int.mul_eq_zero.mp z with z | z <;> exact ⟨z, z⟩
  · exact ⟨by omega, by omega⟩
def eS : MS := (sIf (tst (e2 opLt (e1 fMinA (eComp [5] (iSeq (eVar 4)) (.nm 5) cYes (e1 fMinA (eVar 5)))) (eCon (.int 1)))) (sRet (eCon (.bool true))) sNil)
def fS : MS := (sSet .val 6 (eAnd (e2 opEq (eVar 2) (eCon (.int 0))) (e2 opEq (eVar 3) (eCon (.int 0)))))
def gS : MS := (sIf (tst (eNot (eCall (m__law_like 9) (kCons .val (eLst (esCons (eCall m_is_both_ways (kCons .val (eVar 4) kNil)) (esCons (eCall m_is_times_magic (kCons .val (eVar 4) kNil)) (esCons (eCall m__law_alike (kCons .val (eVar 4) kNil)) (esCons (e1 (opIs none) (eCall m_times_break (kCons .val (eVar 4) kNil))) (esCons (eCall m_is_magic (kCons .val (eVar 4) kNil)) esNil)))))) (kCons .val (eLst (esCons (eVar 6) (esCons (eVar 6) (esCons (eVar 6) (esCons (eVar 6) (esCons (eCon (.bool true)) esNil)))))) kNil))))) (sRet (eCon (.bool false))) sNil)
def hS : MS := (sRet (eOr (eNot (eVar 6)) (eCall (m__law_like 9) (kCons .val (eLst (esCons (eCall m_times_product (kCons .val (eVar 4) kNil)) (esCons (eCall m_magic_sum (kCons .val (eVar 4) kNil)) esNil))) (kCons .val (eLst (esCons (e2 opMul (e2 opMul (eVar 1) (eVar 1)) (eVar 1)) (esCons (e2 opMul (eCon (.int 3)) (eVar 1)) esNil))) kNil)))))
def t3 : MS := sSeq eS (sSeq fS (sSeq gS hS))
def mn (x y z : Int) : Int := [y, z].foldl (fun a b => if b < a then b else a) x
def T3 (m a b : Int) : D := tb (m - a) (m + a + b) (m - b) (m + a - b) m (m - a + b) (m + b) (m - a - b) (m + a)
theorem like_ok : ∀ q : Bool, m__law_like 9 [.sh (.list [.bool q, .bool q, .bool q, .bool q, .bool true]), .sh (.list [.bool q, .bool q, .bool q, .bool q, .bool true])] = ret (.bool true)
  | true => by funext c; kernel_rfl
  | false => by funext c; kernel_rfl
theorem eS_ok (m a b : Int) : eS [.cup, .sh (.int m), .sh (.int a), .sh (.int b), .sh (T3 m a b), .no, .no] = ret (.rt (.bool true)) ∨ eS [.cup, .sh (.int m), .sh (.int a), .sh (.int b), .sh (T3 m a b), .no, .no] = ret (.nx [.cup, .sh (.int m), .sh (.int a), .sh (.int b), .sh (T3 m a b), .no, .no]) := by
  unfold eS
  have q := comp3 (own := [5]) (i := 5) (mi := iSeq (eVar 4)) (te := e1 fMinA (eVar 5)) (ρ := [.cup, .sh (.int m), .sh (.int a), .sh (.int b), .sh (T3 m a b), .no, .no]) (d1 := rw3 (m - a) (m + a + b) (m - b)) (d2 := rw3 (m + a - b) m (m - a + b)) (d3 := rw3 (m + b) (m - a - b) (m + a)) (v1 := .int (mn (m - a) (m + a + b) (m - b))) (v2 := .int (mn (m + a - b) m (m - a + b))) (v3 := .int (mn (m + b) (m - a - b) (m + a))) rfl rfl rfl rfl
  generalize mn (m - a) (m + a + b) (m - b) = u at q
  generalize mn (m + a - b) m (m - a + b) = v at q
  generalize mn (m + b) (m - a - b) (m + a) = w at q
  have f : fMinA (.list [.int u, .int v, .int w]) = some (.int (mn u v w)) := rfl
  have l : ∀ z : Int, opLt (.int z) (.int 1) = some (.bool (decide (z < 1))) := fun _ => rfl
  by_cases h : mn u v w < 1
  · left
    simp only [r_sIf, r_tst, r_e2, r_e1, q, bret, f, lsome, r_eCon, l, decide_eq_true h, r_toB, bassoc, if_true, r_sRet]
  · right
    simp only [r_sIf, r_tst, r_e2, r_e1, q, bret, f, lsome, r_eCon, l, decide_eq_false h, r_toB, bassoc, if_false, r_sNil, Bool.false_eq_true]
theorem fS_ok (m a b : Int) (T : D) : fS [.cup, .sh (.int m), .sh (.int a), .sh (.int b), .sh T, .no, .no] = ret (.nx [.cup, .sh (.int m), .sh (.int a), .sh (.int b), .sh T, .no, .sh (.bool (a == 0 && b == 0))]) := by
  unfold fS
  have l : ∀ z : Int, opEq (.int z) (.int 0) = some (.bool (z == 0)) := fun _ => rfl
  simp only [r_sSet, r_eAnd, r_e2, varS, var0, bret, r_eCon, l, lsome, r_toB, bassoc]
  cases (a == 0) with
  | true => simp only [if_true, bret, r_val, lsome, List.set, Bool.true_and]
  | false => simp only [if_false, Bool.false_eq_true, bret, r_val, lsome, List.set, Bool.false_and]
theorem due_eq (m a b : Int) (hm : 0 < m) (ha : 0 ≤ a) (hb : 0 ≤ b) : ([pd (m + a - b) m (m - a + b), pd (m + b) (m - a - b) (m + a), pd (m - a) (m + a - b) (m + b), pd (m + a + b) m (m - a - b), pd (m - b) (m - a + b) (m + a), pd (m - a) m (m + a), pd (m - b) m (m + b)].all fun x => x == pd (m - a) (m + a + b) (m - b)) = (a == 0 && b == 0) := by
  by_cases h : a = 0 ∧ b = 0
  · obtain ⟨rfl, rfl⟩ := h
    simp
  · rw [show (a == 0 && b == 0) = false by
      rw [Bool.eq_false_iff]
      intro q
      rw [Bool.and_eq_true, beq_iff_eq, beq_iff_eq] at q
      exact h q]
    rw [Bool.eq_false_iff]
    intro q
    rw [List.all_eq_true] at q
    have q1 := q (pd (m + a - b) m (m - a + b)) (by simp)
    have q2 := q (pd (m - a) m (m + a)) (by simp)
    have q3 := q (pd (m - b) m (m + b)) (by simp)
    rw [beq_iff_eq] at q1 q2 q3
    exact h (zero_of hm ha hb (q1.trans q2.symm) (q2.trans q3.symm))
theorem all1_all (n : Int) (r : List Int) : all1 (n :: r) = r.all fun x => x == n := by
  cases e : r.all fun x => x == n with
  | true => exact all1_eq fun k hk => by have := (List.all_eq_true.mp e) k hk; rwa [beq_iff_eq] at this
  | false =>
    rw [List.all_eq_false] at e
    obtain ⟨k, hk, hn⟩ := e
    exact all1_ne hk fun q => hn (by rw [beq_iff_eq]; exact q)
theorem gS_ok (m a b : Int) (hm : 0 < m) (ha : 0 ≤ a) (hb : 0 ≤ b) (hl : a + b < m) (hu : m ≤ 1000) : gS [.cup, .sh (.int m), .sh (.int a), .sh (.int b), .sh (T3 m a b), .no, .sh (.bool (a == 0 && b == 0))] = ret (.nx [.cup, .sh (.int m), .sh (.int a), .sh (.int b), .sh (T3 m a b), .no, .sh (.bool (a == 0 && b == 0))]) := by
  have B : ∀ z ∈ [m - a, m + a + b, m - b, m + a - b, m, m - a + b, m + b, m - a - b, m + a], 1 ≤ z ∧ z ≤ 1000000000 := fun z hz => by
    simp only [List.mem_cons, List.not_mem_nil, or_false] at hz
    rcases hz with rfl | rfl | rfl | rfl | rfl | rfl | rfl | rfl | rfl <;> omega
  have S : ∀ z ∈ [m - a, m + a + b, m - b, m + a - b, m, m - a + b, m + b, m - a - b, m + a], small z := fun z hz => by have := B z hz; show z.natAbs < _; omega
  have D := due_eq m a b hm ha hb
  have M : all1 [[m - a, m + a + b, m - b].sum, [m + a - b, m, m - a + b].sum, [m + b, m - a - b, m + a].sum, [m - a, m + a - b, m + b].sum, [m + a + b, m, m - a - b].sum, [m - b, m - a + b, m + a].sum, [m - a, m, m + a].sum, [m - b, m, m + b].sum] = true := all1_eq fun k hk => by
    simp only [List.mem_cons, List.not_mem_nil, or_false] at hk
    rcases hk with rfl | rfl | rfl | rfl | rfl | rfl | rfl <;> (simp only [List.sum_cons, List.sum_nil]; omega)
  have b1 := both_ok _ _ _ _ _ _ _ _ _ B
  have b2 := timesm_ok _ _ _ _ _ _ _ _ _ B
  have b3 := alike_ok _ _ _ _ _ _ _ _ _ S
  have b5 := magic_ok _ _ _ _ _ _ _ _ _ B
  obtain ⟨v, b4, i4⟩ := break_ok _ _ _ _ _ _ _ _ _ S
  have nt := need_ok _ _ _ _ _ _ _ _ _ B
  have b4' : m_times_break [.sh (T3 m a b)] = ret v := by
    refine fnV_ret rfl rfl ?_
    unfold b_times_break
    unfold T3
    simp only [List.replicate, List.cons_append, List.nil_append, List.append_nil, r_sSeq, r_sExpr, r_eCall, r_kCons, r_kNil, var0, bret, r_val, lsome, nt, bassoc, r_nx, r_sRet, b4]
  rw [all1_all] at b1 b2
  rw [D] at b1 b2 b3 i4
  rw [M] at b1 b5
  rw [Bool.and_true] at b1
  have l5 : ∀ x y z u w, mkL [x, y, z, u, w] = some (.list [x, y, z, u, w]) := fun _ _ _ _ _ => rfl
  unfold gS
  generalize (a == 0 && b == 0) = q at b1 b2 b3 i4 ⊢
  unfold T3 at b4' ⊢
  simp only [r_sIf, r_tst, r_eNot, r_eCall, r_kCons, r_kNil, r_eLst, r_esCons, r_esNil, varS, var0, bret, r_val, lsome, b1, b2, b3, b4', b5, r_e1, i4, r_eCon, l5, bassoc, like_ok q, r_toB, Bool.not_true, Bool.false_eq_true, if_false, r_sNil]
end PV.L67

namespace PV.L67
open PySem PySem.Spec PyProof.Rows L2 PV
def hm (m : Int) : M Fl := hS [.cup, .sh (.int m), .sh (.int 0), .sh (.int 0), .sh (T3 m 0 0), .no, .sh (.bool true)]

theorem hm_1 (c : Cup) : hm 1 c = .ok (.rt (.bool true)) c := by kernel_rfl
theorem hm_2 (c : Cup) : hm 2 c = .ok (.rt (.bool true)) c := by kernel_rfl
theorem hm_3 (c : Cup) : hm 3 c = .ok (.rt (.bool true)) c := by kernel_rfl
theorem hm_4 (c : Cup) : hm 4 c = .ok (.rt (.bool true)) c := by kernel_rfl
theorem hm_5 (c : Cup) : hm 5 c = .ok (.rt (.bool true)) c := by kernel_rfl
theorem hm_6 (c : Cup) : hm 6 c = .ok (.rt (.bool true)) c := by kernel_rfl
theorem hm_7 (c : Cup) : hm 7 c = .ok (.rt (.bool true)) c := by kernel_rfl
theorem hm_8 (c : Cup) : hm 8 c = .ok (.rt (.bool true)) c := by kernel_rfl
theorem hm_9 (c : Cup) : hm 9 c = .ok (.rt (.bool true)) c := by kernel_rfl
theorem hm_10 (c : Cup) : hm 10 c = .ok (.rt (.bool true)) c := by kernel_rfl
theorem hm_11 (c : Cup) : hm 11 c = .ok (.rt (.bool true)) c := by kernel_rfl
theorem hm_12 (c : Cup) : hm 12 c = .ok (.rt (.bool true)) c := by kernel_rfl
theorem hm_13 (c : Cup) : hm 13 c = .ok (.rt (.bool true)) c := by kernel_rfl
theorem hm_14 (c : Cup) : hm 14 c = .ok (.rt (.bool true)) c := by kernel_rfl
theorem hm_15 (c : Cup) : hm 15 c = .ok (.rt (.bool true)) c := by kernel_rfl
theorem hm_16 (c : Cup) : hm 16 c = .ok (.rt (.bool true)) c := by kernel_rfl
theorem hm_17 (c : Cup) : hm 17 c = .ok (.rt (.bool true)) c := by kernel_rfl
theorem hm_18 (c : Cup) : hm 18 c = .ok (.rt (.bool true)) c := by kernel_rfl
theorem hm_19 (c : Cup) : hm 19 c = .ok (.rt (.bool true)) c := by kernel_rfl
theorem hm_20 (c : Cup) : hm 20 c = .ok (.rt (.bool true)) c := by kernel_rfl
theorem hm_21 (c : Cup) : hm 21 c = .ok (.rt (.bool true)) c := by kernel_rfl
theorem hm_22 (c : Cup) : hm 22 c = .ok (.rt (.bool true)) c := by kernel_rfl
theorem hm_23 (c : Cup) : hm 23 c = .ok (.rt (.bool true)) c := by kernel_rfl
theorem hm_24 (c : Cup) : hm 24 c = .ok (.rt (.bool true)) c := by kernel_rfl
theorem hm_25 (c : Cup) : hm 25 c = .ok (.rt (.bool true)) c := by kernel_rfl
theorem hm_26 (c : Cup) : hm 26 c = .ok (.rt (.bool true)) c := by kernel_rfl
theorem hm_27 (c : Cup) : hm 27 c = .ok (.rt (.bool true)) c := by kernel_rfl
theorem hm_28 (c : Cup) : hm 28 c = .ok (.rt (.bool true)) c := by kernel_rfl
theorem hm_29 (c : Cup) : hm 29 c = .ok (.rt (.bool true)) c := by kernel_rfl
theorem hm_30 (c : Cup) : hm 30 c = .ok (.rt (.bool true)) c := by kernel_rfl
theorem hm_31 (c : Cup) : hm 31 c = .ok (.rt (.bool true)) c := by kernel_rfl
theorem hm_32 (c : Cup) : hm 32 c = .ok (.rt (.bool true)) c := by kernel_rfl
theorem hm_33 (c : Cup) : hm 33 c = .ok (.rt (.bool true)) c := by kernel_rfl
theorem hm_34 (c : Cup) : hm 34 c = .ok (.rt (.bool true)) c := by kernel_rfl
theorem hm_35 (c : Cup) : hm 35 c = .ok (.rt (.bool true)) c := by kernel_rfl
theorem hm_36 (c : Cup) : hm 36 c = .ok (.rt (.bool true)) c := by kernel_rfl
theorem hm_37 (c : Cup) : hm 37 c = .ok (.rt (.bool true)) c := by kernel_rfl
theorem hm_38 (c : Cup) : hm 38 c = .ok (.rt (.bool true)) c := by kernel_rfl
theorem hm_39 (c : Cup) : hm 39 c = .ok (.rt (.bool true)) c := by kernel_rfl
theorem hm_40 (c : Cup) : hm 40 c = .ok (.rt (.bool true)) c := by kernel_rfl
theorem hm_41 (c : Cup) : hm 41 c = .ok (.rt (.bool true)) c := by kernel_rfl
theorem hm_42 (c : Cup) : hm 42 c = .ok (.rt (.bool true)) c := by kernel_rfl
theorem hm_43 (c : Cup) : hm 43 c = .ok (.rt (.bool true)) c := by kernel_rfl
theorem hm_44 (c : Cup) : hm 44 c = .ok (.rt (.bool true)) c := by kernel_rfl
theorem hm_45 (c : Cup) : hm 45 c = .ok (.rt (.bool true)) c := by kernel_rfl
theorem hm_46 (c : Cup) : hm 46 c = .ok (.rt (.bool true)) c := by kernel_rfl
theorem hm_47 (c : Cup) : hm 47 c = .ok (.rt (.bool true)) c := by kernel_rfl
theorem hm_48 (c : Cup) : hm 48 c = .ok (.rt (.bool true)) c := by kernel_rfl
theorem hm_49 (c : Cup) : hm 49 c = .ok (.rt (.bool true)) c := by kernel_rfl
theorem hm_50 (c : Cup) : hm 50 c = .ok (.rt (.bool true)) c := by kernel_rfl
theorem hm_51 (c : Cup) : hm 51 c = .ok (.rt (.bool true)) c := by kernel_rfl
theorem hm_52 (c : Cup) : hm 52 c = .ok (.rt (.bool true)) c := by kernel_rfl
theorem hm_53 (c : Cup) : hm 53 c = .ok (.rt (.bool true)) c := by kernel_rfl
theorem hm_54 (c : Cup) : hm 54 c = .ok (.rt (.bool true)) c := by kernel_rfl
theorem hm_55 (c : Cup) : hm 55 c = .ok (.rt (.bool true)) c := by kernel_rfl
theorem hm_56 (c : Cup) : hm 56 c = .ok (.rt (.bool true)) c := by kernel_rfl
theorem hm_57 (c : Cup) : hm 57 c = .ok (.rt (.bool true)) c := by kernel_rfl
theorem hm_58 (c : Cup) : hm 58 c = .ok (.rt (.bool true)) c := by kernel_rfl
theorem hm_59 (c : Cup) : hm 59 c = .ok (.rt (.bool true)) c := by kernel_rfl
theorem hm_60 (c : Cup) : hm 60 c = .ok (.rt (.bool true)) c := by kernel_rfl
theorem hms (m : Int) (h : 1 ≤ m) (h2 : m ≤ 60) (c : Cup) : hm m c = .ok (.rt (.bool true)) c := by
  have hh : m = 1 ∨ m = 2 ∨ m = 3 ∨ m = 4 ∨ m = 5 ∨ m = 6 ∨ m = 7 ∨ m = 8 ∨ m = 9 ∨ m = 10 ∨ m = 11 ∨ m = 12 ∨ m = 13 ∨ m = 14 ∨ m = 15 ∨ m = 16 ∨ m = 17 ∨ m = 18 ∨ m = 19 ∨ m = 20 ∨ m = 21 ∨ m = 22 ∨ m = 23 ∨ m = 24 ∨ m = 25 ∨ m = 26 ∨ m = 27 ∨ m = 28 ∨ m = 29 ∨ m = 30 ∨ m = 31 ∨ m = 32 ∨ m = 33 ∨ m = 34 ∨ m = 35 ∨ m = 36 ∨ m = 37 ∨ m = 38 ∨ m = 39 ∨ m = 40 ∨ m = 41 ∨ m = 42 ∨ m = 43 ∨ m = 44 ∨ m = 45 ∨ m = 46 ∨ m = 47 ∨ m = 48 ∨ m = 49 ∨ m = 50 ∨ m = 51 ∨ m = 52 ∨ m = 53 ∨ m = 54 ∨ m = 55 ∨ m = 56 ∨ m = 57 ∨ m = 58 ∨ m = 59 ∨ m = 60 := by omega
  rcases hh with rfl | rfl | rfl | rfl | rfl | rfl | rfl | rfl | rfl | rfl | rfl | rfl | rfl | rfl | rfl | rfl | rfl | rfl | rfl | rfl | rfl | rfl | rfl | rfl | rfl | rfl | rfl | rfl | rfl | rfl | rfl | rfl | rfl | rfl | rfl | rfl | rfl | rfl | rfl | rfl | rfl | rfl | rfl | rfl | rfl | rfl | rfl | rfl | rfl | rfl | rfl | rfl | rfl | rfl | rfl | rfl | rfl | rfl | rfl | rfl
  · exact hm_1 c
  · exact hm_2 c
  · exact hm_3 c
  · exact hm_4 c
  · exact hm_5 c
  · exact hm_6 c
  · exact hm_7 c
  · exact hm_8 c
  · exact hm_9 c
  · exact hm_10 c
  · exact hm_11 c
  · exact hm_12 c
  · exact hm_13 c
  · exact hm_14 c
  · exact hm_15 c
  · exact hm_16 c
  · exact hm_17 c
  · exact hm_18 c
  · exact hm_19 c
  · exact hm_20 c
  · exact hm_21 c
  · exact hm_22 c
  · exact hm_23 c
  · exact hm_24 c
  · exact hm_25 c
  · exact hm_26 c
  · exact hm_27 c
  · exact hm_28 c
  · exact hm_29 c
  · exact hm_30 c
  · exact hm_31 c
  · exact hm_32 c
  · exact hm_33 c
  · exact hm_34 c
  · exact hm_35 c
  · exact hm_36 c
  · exact hm_37 c
  · exact hm_38 c
  · exact hm_39 c
  · exact hm_40 c
  · exact hm_41 c
  · exact hm_42 c
  · exact hm_43 c
  · exact hm_44 c
  · exact hm_45 c
  · exact hm_46 c
  · exact hm_47 c
  · exact hm_48 c
  · exact hm_49 c
  · exact hm_50 c
  · exact hm_51 c
  · exact hm_52 c
  · exact hm_53 c
  · exact hm_54 c
  · exact hm_55 c
  · exact hm_56 c
  · exact hm_57 c
  · exact hm_58 c
  · exact hm_59 c
  · exact hm_60 c
theorem hS_ok (m a b : Int) (h : 1 ≤ m) (h2 : m ≤ 60) : hS [.cup, .sh (.int m), .sh (.int a), .sh (.int b), .sh (T3 m a b), .no, .sh (.bool (a == 0 && b == 0))] = ret (.rt (.bool true)) := by
  cases q : (a == 0 && b == 0) with
  | false =>
    unfold hS
    simp only [r_sRet, r_eOr, r_eNot, varS, var0, bret, r_toB, bassoc, Bool.not_false, if_true]
  | true =>
    rw [Bool.and_eq_true, beq_iff_eq, beq_iff_eq] at q
    obtain ⟨rfl, rfl⟩ := q
    funext c
    exact hms m h h2 c
theorem t3_ok (m a b : Int) (hm : 0 < m) (ha : 0 ≤ a) (hb : 0 ≤ b) (hl : a + b < m) (hu : m ≤ 60) : t3 [.cup, .sh (.int m), .sh (.int a), .sh (.int b), .sh (T3 m a b), .no, .no] = ret (.rt (.bool true)) := by
  unfold t3
  rw [r_sSeq]
  rcases eS_ok m a b with e | e
  · rw [e, bret]; rfl
  · rw [e, bret, r_nx, r_sSeq, fS_ok, bret, r_nx, r_sSeq, gS_ok m a b hm ha hb hl (by omega), bret, r_nx, hS_ok m a b (by omega) hu]
theorem max_ok (j : Int) (h : 1 ≤ j) : fMax2 (.int 1) (.int j) = some (.int j) := by
  show some (PyData.int (if j > 1 then j else 1)) = _
  by_cases q : j > 1
  · rw [if_pos q]
  · rw [if_neg q, show j = 1 by omega]
theorem lg (m : Int) (h : 1 ≤ m) (h2 : m ≤ 60) : m.natAbs.log2 < 8000 := by
  have : m.natAbs.log2 ≤ m.natAbs := Nat.log2_le_self _
  omega
set_option maxHeartbeats 0 in
theorem three_right_ok (x y : Int) : ∃ x2 y2, m__law_three_right [.cup] (some (x, y)) = .ok (.bool true) (some (x2, y2)) := by
  obtain ⟨r1, x1, y1, e1, h1, h1'⟩ := roll_ok x y 60 (by decide) (by decide +kernel)
  obtain ⟨r2, x2, y2, e2, h2, h2'⟩ := roll_ok x1 y1 (1 + r1) (by omega) (lg _ (by omega) (by omega))
  obtain ⟨r3, x3, y3, e3, h3, h3'⟩ := roll_ok x2 y2 (1 + r1 - r2) (by omega) (lg _ (by omega) (by omega))
  refine ⟨x3, y3, fnV_ok rfl rfl ?_⟩
  unfold b__law_three_right
  refine Eq.trans (seq_nx (set_ok (k := .val) (d := .int (1 + r1)) (e2_ok (x := .int 1) rfl (call_ok (kcup_ok rfl (kc_ok (k := .val) (d := .int 60) rfl rfl rfl)) e1) (add_ii 1 r1)) rfl)) ?_
  refine Eq.trans (seq_nx (par_ok (kc_ok (k := .val) (d := .int r2) (call_ok (kcup_ok rfl (kc_ok (k := .val) (d := .int (1 + r1)) rfl rfl rfl)) e2) rfl (kc_ok (k := .val) (d := .int 0) rfl rfl rfl)) rfl)) ?_
  refine Eq.trans (seq_nx (set_ok (k := .val) (d := .int r3) (call_ok (kcup_ok rfl (kc_ok (k := .val) (d := .int (1 + r1 - r2)) (e2_ok (x := .int 1) rfl (e2_ok (x := .int (1 + r1)) rfl rfl (sub_ii (1 + r1) r2)) (max_ok _ (by omega))) rfl rfl)) e3) rfl)) ?_
  refine Eq.trans (seq_nx (set_ok (k := .val) (d := three (1 + r1) r2 r3) (call_ok (kc_ok (k := .val) (d := .int (1 + r1)) rfl rfl (kc_ok (k := .val) (d := .int r2) rfl rfl (kc_ok (k := .val) (d := .int r3) rfl rfl rfl))) (three_ok (1 + r1) r2 r3 _)) rfl)) ?_
  exact congrFun (t3_ok (1 + r1) r2 r3 (by omega) h2 h3 (by omega) (by omega)) _
theorem law_holds : ∀ ns : List Int, ns.length ≤ 63 → ∃ c', b_law (.scr ns :: List.replicate 2 Slot.no) none = .ok (.rt (.bool true)) c' := by
  intro ns hl
  obtain ⟨x, y, e0⟩ := cup_ok ns hl
  have turn : ∀ ρ x y, (∃ s v, ρ = [s, .cup, v]) → ∀ d ∈ upTo 0 6, ∃ ρ1 ρ2 x2 y2, Tg.put (.nm 2) d ρ = some ρ1 ∧ (sIf (tst (eOr (eNot (eCall m__law_three_right (kCup 1 kNil))) (eNot (eCall m__law_powers_right (kCup 1 kNil))))) (sRet (eCon (.bool false))) sNil) ρ1 (some (x, y)) = .ok (.nx ρ2) (some (x2, y2)) ∧ ∃ s v, ρ2 = [s, .cup, v] := by
    rintro ρ x y ⟨s, v, rfl⟩ d _
    obtain ⟨x1, y1, e1⟩ := three_right_ok x y
    obtain ⟨x2, y2, e2⟩ := powers_ok x1 y1
    refine ⟨[s, .cup, .sh d], [s, .cup, .sh d], x2, y2, rfl, ?_, s, .sh d, rfl⟩
    have c1 : eCall m__law_three_right (kCup 1 kNil) [s, .cup, .sh d] (some (x, y)) = .ok (.bool true) (some (x1, y1)) := call_ok (kcup_ok rfl rfl) e1
    have c2 : eCall m__law_powers_right (kCup 1 kNil) [s, .cup, .sh d] (some (x1, y1)) = .ok (.bool true) (some (x2, y2)) := call_ok (kcup_ok rfl rfl) e2
    have t : tst (eOr (eNot (eCall m__law_three_right (kCup 1 kNil))) (eNot (eCall m__law_powers_right (kCup 1 kNil)))) [s, .cup, .sh d] (some (x, y)) = .ok false (some (x2, y2)) := by
      refine tst_ok ?_
      simp only [r_eOr, r_eNot, bassoc]
      rw [bnd_app, c1]
      simp only [r_toB, bret, Bool.not_true, Bool.false_eq_true, if_false]
      rw [bnd_app, c2]
      rfl
    exact (if_f t).trans rfl
  obtain ⟨ρ2, x2, y2, e2, s, v, rfl⟩ := loop_inv (t := .nm 2) (fun ρ => ∃ s v, ρ = [s, .cup, v]) (upTo 0 6) [.scr ns, .cup, .no] x y ⟨_, _, rfl⟩ turn
  obtain ⟨x3, y3, e3⟩ := times_ok x2 y2
  refine ⟨some (x3, y3), ?_⟩
  unfold b_law
  refine Eq.trans (seq_nx (ρ1 := [.scr ns, .no, .no]) (c1 := none) ((if_f (c1 := none) (tst_ok ?_)).trans rfl)) ?_
  · simp only [r_eNot, r_eCall, r_kNil, bret]
    rw [bnd_app, written]
    rfl
  refine Eq.trans (seq_nx (ρ1 := [.scr ns, .cup, .no]) (c1 := some (x, y)) ?_) ?_
  · have cc : eCall m__law_cup (kScr 0 kNil) [.scr ns, .no, .no] none = .ok (.list [.int x, .int y]) none := call_ok (k := kScr 0 kNil) (ss := [.scr ns]) (c1 := none) rfl e0
    exact (bnd_ok cc).trans rfl
  refine Eq.trans (seq_nx (ρ1 := [s, .cup, v]) (c1 := some (x2, y2)) ?_) ?_
  · rw [r_sFor]
    exact e2
  exact ret_ok (call_ok (kcup_ok rfl rfl) e3)
end PV.L67

namespace PV.L67
open PySem PySem.Spec PyProof.Rows L2 PV
set_option maxHeartbeats 0 in
theorem all_mk {l : PySem.W.OpenLaw} {w : World} {K : PySem.W.Frag} {h : Heap} {mg : Str → Option Value} {fa : Addr} (X : K.In h) (G : h.Ns mainGlobals mg) (hfa : mg "law" = some (.ref fa))
  {a0 : Addr} {od0 an0 : Option Addr} {sl0 : Array (Option Value)} {oc0 kV0 dc0 pm0 cd0 ct0 : Value}
  {a1 : Addr} {od1 an1 : Option Addr} {sl1 : Array (Option Value)} {oc1 kV1 dc1 pm1 cd1 ct1 : Value}
  {a2 : Addr} {od2 an2 : Option Addr} {sl2 : Array (Option Value)} {oc2 kV2 dc2 pm2 cd2 ct2 : Value}
  {a3 : Addr} {od3 an3 : Option Addr} {sl3 : Array (Option Value)} {oc3 kV3 dc3 pm3 cd3 ct3 : Value}
  {a4 : Addr} {od4 an4 : Option Addr} {sl4 : Array (Option Value)} {oc4 kV4 dc4 pm4 cd4 ct4 : Value}
  {a5 : Addr} {od5 an5 : Option Addr} {sl5 : Array (Option Value)} {oc5 kV5 dc5 pm5 cd5 ct5 : Value}
  {a6 : Addr} {od6 an6 : Option Addr} {sl6 : Array (Option Value)} {oc6 kV6 dc6 pm6 cd6 ct6 : Value}
  {a7 : Addr} {od7 an7 : Option Addr} {sl7 : Array (Option Value)} {oc7 kV7 dc7 pm7 cd7 ct7 : Value}
  {a8 : Addr} {od8 an8 : Option Addr} {sl8 : Array (Option Value)} {oc8 kV8 dc8 pm8 cd8 ct8 : Value}
  {a9 : Addr} {od9 an9 : Option Addr} {sl9 : Array (Option Value)} {oc9 kV9 dc9 pm9 cd9 ct9 : Value}
  {a10 : Addr} {od10 an10 : Option Addr} {sl10 : Array (Option Value)} {oc10 kV10 dc10 pm10 cd10 ct10 : Value}
  {a11 : Addr} {od11 an11 : Option Addr} {sl11 : Array (Option Value)} {oc11 kV11 dc11 pm11 cd11 ct11 : Value}
  {a12 : Addr} {od12 an12 : Option Addr} {sl12 : Array (Option Value)} {oc12 kV12 dc12 pm12 cd12 ct12 : Value}
  {a13 : Addr} {od13 an13 : Option Addr} {sl13 : Array (Option Value)} {oc13 kV13 dc13 pm13 cd13 ct13 : Value}
  {a14 : Addr} {od14 an14 : Option Addr} {sl14 : Array (Option Value)} {oc14 kV14 dc14 pm14 cd14 ct14 : Value}
  {a15 : Addr} {od15 an15 : Option Addr} {sl15 : Array (Option Value)} {oc15 kV15 dc15 pm15 cd15 ct15 : Value}
  {a16 : Addr} {od16 an16 : Option Addr} {sl16 : Array (Option Value)} {oc16 kV16 dc16 pm16 cd16 ct16 : Value}
  {a17 : Addr} {od17 an17 : Option Addr} {sl17 : Array (Option Value)} {oc17 kV17 dc17 pm17 cd17 ct17 : Value}
  {a18 : Addr} {od18 an18 : Option Addr} {sl18 : Array (Option Value)} {oc18 kV18 dc18 pm18 cd18 ct18 : Value}
  {a19 : Addr} {od19 an19 : Option Addr} {sl19 : Array (Option Value)} {oc19 kV19 dc19 pm19 cd19 ct19 : Value}
  {a20 : Addr} {od20 an20 : Option Addr} {sl20 : Array (Option Value)} {oc20 kV20 dc20 pm20 cd20 ct20 : Value}
  {a21 : Addr} {od21 an21 : Option Addr} {sl21 : Array (Option Value)} {oc21 kV21 dc21 pm21 cd21 ct21 : Value}
  {a22 : Addr} {od22 an22 : Option Addr} {sl22 : Array (Option Value)} {oc22 kV22 dc22 pm22 cd22 ct22 : Value}
  {a23 : Addr} {od23 an23 : Option Addr} {sl23 : Array (Option Value)} {oc23 kV23 dc23 pm23 cd23 ct23 : Value}
  {a24 : Addr} {od24 an24 : Option Addr} {sl24 : Array (Option Value)} {oc24 kV24 dc24 pm24 cd24 ct24 : Value}
  {a25 : Addr} {od25 an25 : Option Addr} {sl25 : Array (Option Value)} {oc25 kV25 dc25 pm25 cd25 ct25 : Value}
  {a26 : Addr} {od26 an26 : Option Addr} {sl26 : Array (Option Value)} {oc26 kV26 dc26 pm26 cd26 ct26 : Value}
  {a27 : Addr} {od27 an27 : Option Addr} {sl27 : Array (Option Value)} {oc27 kV27 dc27 pm27 cd27 ct27 : Value}
  {a28 : Addr} {od28 an28 : Option Addr} {sl28 : Array (Option Value)} {oc28 kV28 dc28 pm28 cd28 ct28 : Value}
  {a29 : Addr} {od29 an29 : Option Addr} {sl29 : Array (Option Value)} {oc29 kV29 dc29 pm29 cd29 ct29 : Value}
  {a30 : Addr} {od30 an30 : Option Addr} {sl30 : Array (Option Value)} {oc30 kV30 dc30 pm30 cd30 ct30 : Value}
  {a31 : Addr} {od31 an31 : Option Addr} {sl31 : Array (Option Value)} {oc31 kV31 dc31 pm31 cd31 ct31 : Value}
  {a32 : Addr} {od32 an32 : Option Addr} {sl32 : Array (Option Value)} {oc32 kV32 dc32 pm32 cd32 ct32 : Value}
  {a33 : Addr} {od33 an33 : Option Addr} {sl33 : Array (Option Value)} {oc33 kV33 dc33 pm33 cd33 ct33 : Value}
  {a34 : Addr} {od34 an34 : Option Addr} {sl34 : Array (Option Value)} {oc34 kV34 dc34 pm34 cd34 ct34 : Value}
  {a35 : Addr} {od35 an35 : Option Addr} {sl35 : Array (Option Value)} {oc35 kV35 dc35 pm35 cd35 ct35 : Value}
  {a36 : Addr} {od36 an36 : Option Addr} {sl36 : Array (Option Value)} {oc36 kV36 dc36 pm36 cd36 ct36 : Value}
  {a37 : Addr} {od37 an37 : Option Addr} {sl37 : Array (Option Value)} {oc37 kV37 dc37 pm37 cd37 ct37 : Value}
  {a38 : Addr} {od38 an38 : Option Addr} {sl38 : Array (Option Value)} {oc38 kV38 dc38 pm38 cd38 ct38 : Value}
  {a39 : Addr} {od39 an39 : Option Addr} {sl39 : Array (Option Value)} {oc39 kV39 dc39 pm39 cd39 ct39 : Value}
  {a40 : Addr} {od40 an40 : Option Addr} {sl40 : Array (Option Value)} {oc40 kV40 dc40 pm40 cd40 ct40 : Value}
  {a41 : Addr} {od41 an41 : Option Addr} {sl41 : Array (Option Value)} {oc41 kV41 dc41 pm41 cd41 ct41 : Value}
  {a42 : Addr} {od42 an42 : Option Addr} {sl42 : Array (Option Value)} {oc42 kV42 dc42 pm42 cd42 ct42 : Value}
  {a43 : Addr} {od43 an43 : Option Addr} {sl43 : Array (Option Value)} {oc43 kV43 dc43 pm43 cd43 ct43 : Value}
  {uu_COLUMN : Nat}
  {uu_FAR : Nat}
  {uu_MOST : Nat}
  {uu_ROW : Nat}
  {uu_SLANT : Nat}
  (e0 : PySem.W.nsIn K mainGlobals "is_integer" = some (some (.ref a0))) (l0 : K.lookup a0 = some ⟨oc0, od0, .func (PySem.W.fnOf "is_integer" "is_integer" (defArgs (top 10)) (defBody (top 10)) (defScope (top 10)) .none kV0 dc0 pm0 an0 cd0 ct0), sl0⟩) (c0 : PySem.W.codeIn K cd0 "is_integer" = true) (k0 : PySem.W.keepIn K (.ref a0) = true)
  (e1 : PySem.W.nsIn K mainGlobals "is_whole" = some (some (.ref a1))) (l1 : K.lookup a1 = some ⟨oc1, od1, .func (PySem.W.fnOf "is_whole" "is_whole" (defArgs (top 11)) (defBody (top 11)) (defScope (top 11)) .none kV1 dc1 pm1 an1 cd1 ct1), sl1⟩) (c1 : PySem.W.codeIn K cd1 "is_whole" = true) (k1 : PySem.W.keepIn K (.ref a1) = true)
  (e2 : PySem.W.nsIn K mainGlobals "need_whole" = some (some (.ref a2))) (l2 : K.lookup a2 = some ⟨oc2, od2, .func (PySem.W.fnOf "need_whole" "need_whole" (defArgs (top 12)) (defBody (top 12)) (defScope (top 12)) .none kV2 dc2 pm2 an2 cd2 ct2), sl2⟩) (c2 : PySem.W.codeIn K cd2 "need_whole" = true) (k2 : PySem.W.keepIn K (.ref a2) = true)
  (e3 : PySem.W.nsIn K mainGlobals "is_tuple_of" = some (some (.ref a3))) (l3 : K.lookup a3 = some ⟨oc3, od3, .func (PySem.W.fnOf "is_tuple_of" "is_tuple_of" (defArgs (top 13)) (defBody (top 13)) (defScope (top 13)) .none kV3 dc3 pm3 an3 cd3 ct3), sl3⟩) (c3 : PySem.W.codeIn K cd3 "is_tuple_of" = true) (k3 : PySem.W.keepIn K (.ref a3) = true)
  (e4 : PySem.W.nsIn K mainGlobals "is_line_of" = some (some (.ref a4))) (l4 : K.lookup a4 = some ⟨oc4, od4, .func (PySem.W.fnOf "is_line_of" "is_line_of" (defArgs (top 14)) (defBody (top 14)) (defScope (top 14)) .none kV4 dc4 pm4 an4 cd4 ct4), sl4⟩) (c4 : PySem.W.codeIn K cd4 "is_line_of" = true) (k4 : PySem.W.keepIn K (.ref a4) = true)
  (e5 : PySem.W.nsIn K mainGlobals "fits_table" = some (some (.ref a5))) (l5 : K.lookup a5 = some ⟨oc5, od5, .func (PySem.W.fnOf "fits_table" "fits_table" (defArgs (top 15)) (defBody (top 15)) (defScope (top 15)) .none kV5 dc5 pm5 an5 cd5 ct5), sl5⟩) (c5 : PySem.W.codeIn K cd5 "fits_table" = true) (k5 : PySem.W.keepIn K (.ref a5) = true)
  (e6 : PySem.W.nsIn K mainGlobals "need_table" = some (some (.ref a6))) (l6 : K.lookup a6 = some ⟨oc6, od6, .func (PySem.W.fnOf "need_table" "need_table" (defArgs (top 16)) (defBody (top 16)) (defScope (top 16)) .none kV6 dc6 pm6 an6 cd6 ct6), sl6⟩) (c6 : PySem.W.codeIn K cd6 "need_table" = true) (k6 : PySem.W.keepIn K (.ref a6) = true)
  (e7 : PySem.W.nsIn K mainGlobals "columns_in" = some (some (.ref a7))) (l7 : K.lookup a7 = some ⟨oc7, od7, .func (PySem.W.fnOf "columns_in" "columns_in" (defArgs (top 17)) (defBody (top 17)) (defScope (top 17)) .none kV7 dc7 pm7 an7 cd7 ct7), sl7⟩) (c7 : PySem.W.codeIn K cd7 "columns_in" = true) (k7 : PySem.W.keepIn K (.ref a7) = true)
  (e8 : PySem.W.nsIn K mainGlobals "slants_in" = some (some (.ref a8))) (l8 : K.lookup a8 = some ⟨oc8, od8, .func (PySem.W.fnOf "slants_in" "slants_in" (defArgs (top 18)) (defBody (top 18)) (defScope (top 18)) .none kV8 dc8 pm8 an8 cd8 ct8), sl8⟩) (c8 : PySem.W.codeIn K cd8 "slants_in" = true) (k8 : PySem.W.keepIn K (.ref a8) = true)
  (e9 : PySem.W.nsIn K mainGlobals "sums_in" = some (some (.ref a9))) (l9 : K.lookup a9 = some ⟨oc9, od9, .func (PySem.W.fnOf "sums_in" "sums_in" (defArgs (top 19)) (defBody (top 19)) (defScope (top 19)) .none kV9 dc9 pm9 an9 cd9 ct9), sl9⟩) (c9 : PySem.W.codeIn K cd9 "sums_in" = true) (k9 : PySem.W.keepIn K (.ref a9) = true)
  (e10 : PySem.W.nsIn K mainGlobals "is_even_in" = some (some (.ref a10))) (l10 : K.lookup a10 = some ⟨oc10, od10, .func (PySem.W.fnOf "is_even_in" "is_even_in" (defArgs (top 20)) (defBody (top 20)) (defScope (top 20)) .none kV10 dc10 pm10 an10 cd10 ct10), sl10⟩) (c10 : PySem.W.codeIn K cd10 "is_even_in" = true) (k10 : PySem.W.keepIn K (.ref a10) = true)
  (e11 : PySem.W.nsIn K mainGlobals "is_magic_in" = some (some (.ref a11))) (l11 : K.lookup a11 = some ⟨oc11, od11, .func (PySem.W.fnOf "is_magic_in" "is_magic_in" (defArgs (top 21)) (defBody (top 21)) (defScope (top 21)) .none kV11 dc11 pm11 an11 cd11 ct11), sl11⟩) (c11 : PySem.W.codeIn K cd11 "is_magic_in" = true) (k11 : PySem.W.keepIn K (.ref a11) = true)
  (e12 : PySem.W.nsIn K mainGlobals "let_table" = some (some (.ref a12))) (l12 : K.lookup a12 = some ⟨oc12, od12, .func (PySem.W.fnOf "let_table" "let_table" (defArgs (top 22)) (defBody (top 22)) (defScope (top 22)) .none kV12 dc12 pm12 an12 cd12 ct12), sl12⟩) (c12 : PySem.W.codeIn K cd12 "let_table" = true) (k12 : PySem.W.keepIn K (.ref a12) = true)
  (e13 : PySem.W.nsIn K mainGlobals "is_magic" = some (some (.ref a13))) (l13 : K.lookup a13 = some ⟨oc13, od13, .func (PySem.W.fnOf "is_magic" "is_magic" (defArgs (top 23)) (defBody (top 23)) (defScope (top 23)) .none kV13 dc13 pm13 an13 cd13 ct13), sl13⟩) (c13 : PySem.W.codeIn K cd13 "is_magic" = true) (k13 : PySem.W.keepIn K (.ref a13) = true)
  (e14 : PySem.W.nsIn K mainGlobals "magic_sum" = some (some (.ref a14))) (l14 : K.lookup a14 = some ⟨oc14, od14, .func (PySem.W.fnOf "magic_sum" "magic_sum" (defArgs (top 24)) (defBody (top 24)) (defScope (top 24)) .none kV14 dc14 pm14 an14 cd14 ct14), sl14⟩) (c14 : PySem.W.codeIn K cd14 "magic_sum" = true) (k14 : PySem.W.keepIn K (.ref a14) = true)
  (e15 : PySem.W.nsIn K mainGlobals "times_table" = some (some (.ref a15))) (l15 : K.lookup a15 = some ⟨oc15, od15, .func (PySem.W.fnOf "times_table" "times_table" (defArgs (top 25)) (defBody (top 25)) (defScope (top 25)) .none kV15 dc15 pm15 an15 cd15 ct15), sl15⟩) (c15 : PySem.W.codeIn K cd15 "times_table" = true) (k15 : PySem.W.keepIn K (.ref a15) = true)
  (e16 : PySem.W.nsIn K mainGlobals "need_times" = some (some (.ref a16))) (l16 : K.lookup a16 = some ⟨oc16, od16, .func (PySem.W.fnOf "need_times" "need_times" (defArgs (top 27)) (defBody (top 27)) (defScope (top 27)) .none kV16 dc16 pm16 an16 cd16 ct16), sl16⟩) (c16 : PySem.W.codeIn K cd16 "need_times" = true) (k16 : PySem.W.keepIn K (.ref a16) = true)
  (e17 : PySem.W.nsIn K mainGlobals "multiplied" = some (some (.ref a17))) (l17 : K.lookup a17 = some ⟨oc17, od17, .func (PySem.W.fnOf "multiplied" "multiplied" (defArgs (top 28)) (defBody (top 28)) (defScope (top 28)) .none kV17 dc17 pm17 an17 cd17 ct17), sl17⟩) (c17 : PySem.W.codeIn K cd17 "multiplied" = true) (k17 : PySem.W.keepIn K (.ref a17) = true)
  (e18 : PySem.W.nsIn K mainGlobals "products_in" = some (some (.ref a18))) (l18 : K.lookup a18 = some ⟨oc18, od18, .func (PySem.W.fnOf "products_in" "products_in" (defArgs (top 29)) (defBody (top 29)) (defScope (top 29)) .none kV18 dc18 pm18 an18 cd18 ct18), sl18⟩) (c18 : PySem.W.codeIn K cd18 "products_in" = true) (k18 : PySem.W.keepIn K (.ref a18) = true)
  (e19 : PySem.W.nsIn K mainGlobals "is_even_times" = some (some (.ref a19))) (l19 : K.lookup a19 = some ⟨oc19, od19, .func (PySem.W.fnOf "is_even_times" "is_even_times" (defArgs (top 30)) (defBody (top 30)) (defScope (top 30)) .none kV19 dc19 pm19 an19 cd19 ct19), sl19⟩) (c19 : PySem.W.codeIn K cd19 "is_even_times" = true) (k19 : PySem.W.keepIn K (.ref a19) = true)
  (e20 : PySem.W.nsIn K mainGlobals "is_times_in" = some (some (.ref a20))) (l20 : K.lookup a20 = some ⟨oc20, od20, .func (PySem.W.fnOf "is_times_in" "is_times_in" (defArgs (top 31)) (defBody (top 31)) (defScope (top 31)) .none kV20 dc20 pm20 an20 cd20 ct20), sl20⟩) (c20 : PySem.W.codeIn K cd20 "is_times_in" = true) (k20 : PySem.W.keepIn K (.ref a20) = true)
  (e21 : PySem.W.nsIn K mainGlobals "named_products" = some (some (.ref a21))) (l21 : K.lookup a21 = some ⟨oc21, od21, .func (PySem.W.fnOf "named_products" "named_products" (defArgs (top 32)) (defBody (top 32)) (defScope (top 32)) .none kV21 dc21 pm21 an21 cd21 ct21), sl21⟩) (c21 : PySem.W.codeIn K cd21 "named_products" = true) (k21 : PySem.W.keepIn K (.ref a21) = true)
  (e22 : PySem.W.nsIn K mainGlobals "break_by_products" = some (some (.ref a22))) (l22 : K.lookup a22 = some ⟨oc22, od22, .func (PySem.W.fnOf "break_by_products" "break_by_products" (defArgs (top 33)) (defBody (top 33)) (defScope (top 33)) .none kV22 dc22 pm22 an22 cd22 ct22), sl22⟩) (c22 : PySem.W.codeIn K cd22 "break_by_products" = true) (k22 : PySem.W.keepIn K (.ref a22) = true)
  (e23 : PySem.W.nsIn K mainGlobals "is_times_magic" = some (some (.ref a23))) (l23 : K.lookup a23 = some ⟨oc23, od23, .func (PySem.W.fnOf "is_times_magic" "is_times_magic" (defArgs (top 34)) (defBody (top 34)) (defScope (top 34)) .none kV23 dc23 pm23 an23 cd23 ct23), sl23⟩) (c23 : PySem.W.codeIn K cd23 "is_times_magic" = true) (k23 : PySem.W.keepIn K (.ref a23) = true)
  (e24 : PySem.W.nsIn K mainGlobals "is_both_ways" = some (some (.ref a24))) (l24 : K.lookup a24 = some ⟨oc24, od24, .func (PySem.W.fnOf "is_both_ways" "is_both_ways" (defArgs (top 35)) (defBody (top 35)) (defScope (top 35)) .none kV24 dc24 pm24 an24 cd24 ct24), sl24⟩) (c24 : PySem.W.codeIn K cd24 "is_both_ways" = true) (k24 : PySem.W.keepIn K (.ref a24) = true)
  (e25 : PySem.W.nsIn K mainGlobals "times_product" = some (some (.ref a25))) (l25 : K.lookup a25 = some ⟨oc25, od25, .func (PySem.W.fnOf "times_product" "times_product" (defArgs (top 36)) (defBody (top 36)) (defScope (top 36)) .none kV25 dc25 pm25 an25 cd25 ct25), sl25⟩) (c25 : PySem.W.codeIn K cd25 "times_product" = true) (k25 : PySem.W.keepIn K (.ref a25) = true)
  (e26 : PySem.W.nsIn K mainGlobals "times_break" = some (some (.ref a26))) (l26 : K.lookup a26 = some ⟨oc26, od26, .func (PySem.W.fnOf "times_break" "times_break" (defArgs (top 37)) (defBody (top 37)) (defScope (top 37)) .none kV26 dc26 pm26 an26 cd26 ct26), sl26⟩) (c26 : PySem.W.codeIn K cd26 "times_break" = true) (k26 : PySem.W.keepIn K (.ref a26) = true)
  (e27 : PySem.W.nsIn K mainGlobals "place_by_place" = some (some (.ref a27))) (l27 : K.lookup a27 = some ⟨oc27, od27, .func (PySem.W.fnOf "place_by_place" "place_by_place" (defArgs (top 39)) (defBody (top 39)) (defScope (top 39)) .none kV27 dc27 pm27 an27 cd27 ct27), sl27⟩) (c27 : PySem.W.codeIn K cd27 "place_by_place" = true) (k27 : PySem.W.keepIn K (.ref a27) = true)
  (e28 : PySem.W.nsIn K mainGlobals "multiplied_tables" = some (some (.ref a28))) (l28 : K.lookup a28 = some ⟨oc28, od28, .func (PySem.W.fnOf "multiplied_tables" "multiplied_tables" (defArgs (top 40)) (defBody (top 40)) (defScope (top 40)) .none kV28 dc28 pm28 an28 cd28 ct28), sl28⟩) (c28 : PySem.W.codeIn K cd28 "multiplied_tables" = true) (k28 : PySem.W.keepIn K (.ref a28) = true)
  (e29 : PySem.W.nsIn K mainGlobals "_law_cup" = some (some (.ref a29))) (l29 : K.lookup a29 = some ⟨oc29, od29, .func (PySem.W.fnOf "_law_cup" "_law_cup" (defArgs (top 42)) (defBody (top 42)) (defScope (top 42)) .none kV29 dc29 pm29 an29 cd29 ct29), sl29⟩) (c29 : PySem.W.codeIn K cd29 "_law_cup" = true) (k29 : PySem.W.keepIn K (.ref a29) = true)
  (e30 : PySem.W.nsIn K mainGlobals "_law_roll" = some (some (.ref a30))) (l30 : K.lookup a30 = some ⟨oc30, od30, .func (PySem.W.fnOf "_law_roll" "_law_roll" (defArgs (top 43)) (defBody (top 43)) (defScope (top 43)) .none kV30 dc30 pm30 an30 cd30 ct30), sl30⟩) (c30 : PySem.W.codeIn K cd30 "_law_roll" = true) (k30 : PySem.W.keepIn K (.ref a30) = true)
  (e31 : PySem.W.nsIn K mainGlobals "_law_sort" = some (some (.ref a31))) (l31 : K.lookup a31 = some ⟨oc31, od31, .func (PySem.W.fnOf "_law_sort" "_law_sort" (defArgs (top 44)) (defBody (top 44)) (defScope (top 44)) .none kV31 dc31 pm31 an31 cd31 ct31), sl31⟩) (c31 : PySem.W.codeIn K cd31 "_law_sort" = true) (k31 : PySem.W.keepIn K (.ref a31) = true)
  (e32 : PySem.W.nsIn K mainGlobals "_law_like" = some (some (.ref a32))) (l32 : K.lookup a32 = some ⟨oc32, od32, .func (PySem.W.fnOf "_law_like" "_law_like" (defArgs (top 45)) (defBody (top 45)) (defScope (top 45)) .none kV32 dc32 pm32 an32 cd32 ct32), sl32⟩) (c32 : PySem.W.codeIn K cd32 "_law_like" = true) (k32 : PySem.W.keepIn K (.ref a32) = true)
  (e33 : PySem.W.nsIn K mainGlobals "_law_three" = some (some (.ref a33))) (l33 : K.lookup a33 = some ⟨oc33, od33, .func (PySem.W.fnOf "_law_three" "_law_three" (defArgs (top 46)) (defBody (top 46)) (defScope (top 46)) .none kV33 dc33 pm33 an33 cd33 ct33), sl33⟩) (c33 : PySem.W.codeIn K cd33 "_law_three" = true) (k33 : PySem.W.keepIn K (.ref a33) = true)
  (e34 : PySem.W.nsIn K mainGlobals "_law_sums" = some (some (.ref a34))) (l34 : K.lookup a34 = some ⟨oc34, od34, .func (PySem.W.fnOf "_law_sums" "_law_sums" (defArgs (top 47)) (defBody (top 47)) (defScope (top 47)) .none kV34 dc34 pm34 an34 cd34 ct34), sl34⟩) (c34 : PySem.W.codeIn K cd34 "_law_sums" = true) (k34 : PySem.W.keepIn K (.ref a34) = true)
  (e35 : PySem.W.nsIn K mainGlobals "_law_is_magic" = some (some (.ref a35))) (l35 : K.lookup a35 = some ⟨oc35, od35, .func (PySem.W.fnOf "_law_is_magic" "_law_is_magic" (defArgs (top 48)) (defBody (top 48)) (defScope (top 48)) .none kV35 dc35 pm35 an35 cd35 ct35), sl35⟩) (c35 : PySem.W.codeIn K cd35 "_law_is_magic" = true) (k35 : PySem.W.keepIn K (.ref a35) = true)
  (e36 : PySem.W.nsIn K mainGlobals "_law_products" = some (some (.ref a36))) (l36 : K.lookup a36 = some ⟨oc36, od36, .func (PySem.W.fnOf "_law_products" "_law_products" (defArgs (top 49)) (defBody (top 49)) (defScope (top 49)) .none kV36 dc36 pm36 an36 cd36 ct36), sl36⟩) (c36 : PySem.W.codeIn K cd36 "_law_products" = true) (k36 : PySem.W.keepIn K (.ref a36) = true)
  (e37 : PySem.W.nsIn K mainGlobals "_law_alike" = some (some (.ref a37))) (l37 : K.lookup a37 = some ⟨oc37, od37, .func (PySem.W.fnOf "_law_alike" "_law_alike" (defArgs (top 50)) (defBody (top 50)) (defScope (top 50)) .none kV37 dc37 pm37 an37 cd37 ct37), sl37⟩) (c37 : PySem.W.codeIn K cd37 "_law_alike" = true) (k37 : PySem.W.keepIn K (.ref a37) = true)
  (e38 : PySem.W.nsIn K mainGlobals "_law_three_right" = some (some (.ref a38))) (l38 : K.lookup a38 = some ⟨oc38, od38, .func (PySem.W.fnOf "_law_three_right" "_law_three_right" (defArgs (top 51)) (defBody (top 51)) (defScope (top 51)) .none kV38 dc38 pm38 an38 cd38 ct38), sl38⟩) (c38 : PySem.W.codeIn K cd38 "_law_three_right" = true) (k38 : PySem.W.keepIn K (.ref a38) = true)
  (e39 : PySem.W.nsIn K mainGlobals "_law_powers_right" = some (some (.ref a39))) (l39 : K.lookup a39 = some ⟨oc39, od39, .func (PySem.W.fnOf "_law_powers_right" "_law_powers_right" (defArgs (top 52)) (defBody (top 52)) (defScope (top 52)) .none kV39 dc39 pm39 an39 cd39 ct39), sl39⟩) (c39 : PySem.W.codeIn K cd39 "_law_powers_right" = true) (k39 : PySem.W.keepIn K (.ref a39) = true)
  (e40 : PySem.W.nsIn K mainGlobals "_law_times_right" = some (some (.ref a40))) (l40 : K.lookup a40 = some ⟨oc40, od40, .func (PySem.W.fnOf "_law_times_right" "_law_times_right" (defArgs (top 53)) (defBody (top 53)) (defScope (top 53)) .none kV40 dc40 pm40 an40 cd40 ct40), sl40⟩) (c40 : PySem.W.codeIn K cd40 "_law_times_right" = true) (k40 : PySem.W.keepIn K (.ref a40) = true)
  (e41 : PySem.W.nsIn K mainGlobals "_law_eight" = some (some (.ref a41))) (l41 : K.lookup a41 = some ⟨oc41, od41, .func (PySem.W.fnOf "_law_eight" "_law_eight" (defArgs (top 54)) (defBody (top 54)) (defScope (top 54)) .none kV41 dc41 pm41 an41 cd41 ct41), sl41⟩) (c41 : PySem.W.codeIn K cd41 "_law_eight" = true) (k41 : PySem.W.keepIn K (.ref a41) = true)
  (e42 : PySem.W.nsIn K mainGlobals "_law_written_right" = some (some (.ref a42))) (l42 : K.lookup a42 = some ⟨oc42, od42, .func (PySem.W.fnOf "_law_written_right" "_law_written_right" (defArgs (top 55)) (defBody (top 55)) (defScope (top 55)) .none kV42 dc42 pm42 an42 cd42 ct42), sl42⟩) (c42 : PySem.W.codeIn K cd42 "_law_written_right" = true) (k42 : PySem.W.keepIn K (.ref a42) = true)
  (e43 : PySem.W.nsIn K mainGlobals "law" = some (some (.ref a43))) (l43 : K.lookup a43 = some ⟨oc43, od43, .func (PySem.W.fnOf "law" "law" (defArgs (top 56)) (defBody (top 56)) (defScope (top 56)) .none kV43 dc43 pm43 an43 cd43 ct43), sl43⟩) (c43 : PySem.W.codeIn K cd43 "law" = true) (k43 : PySem.W.keepIn K (.ref a43) = true)
  (zz_abs : PySem.W.nsIn K mainGlobals "abs" = some none)
  (zz_all : PySem.W.nsIn K mainGlobals "all" = some none)
  (zz_any : PySem.W.nsIn K mainGlobals "any" = some none)
  (zz_bool : PySem.W.nsIn K mainGlobals "bool" = some none)
  (zz_enumerate : PySem.W.nsIn K mainGlobals "enumerate" = some none)
  (zz_int : PySem.W.nsIn K mainGlobals "int" = some none)
  (zz_isinstance : PySem.W.nsIn K mainGlobals "isinstance" = some none)
  (zz_len : PySem.W.nsIn K mainGlobals "len" = some none)
  (zz_list : PySem.W.nsIn K mainGlobals "list" = some none)
  (zz_max : PySem.W.nsIn K mainGlobals "max" = some none)
  (zz_min : PySem.W.nsIn K mainGlobals "min" = some none)
  (zz_range : PySem.W.nsIn K mainGlobals "range" = some none)
  (zz_set : PySem.W.nsIn K mainGlobals "set" = some none)
  (zz_str : PySem.W.nsIn K mainGlobals "str" = some none)
  (zz_sum : PySem.W.nsIn K mainGlobals "sum" = some none)
  (zz_tuple : PySem.W.nsIn K mainGlobals "tuple" = some none)
  (zz_zip : PySem.W.nsIn K mainGlobals "zip" = some none)
  (gg_COLUMN : PySem.W.nsIn K mainGlobals "COLUMN" = some (some (.str "column" uu_COLUMN)))
  (gg_FAR : PySem.W.nsIn K mainGlobals "FAR" = some (some (.int 1000000000 uu_FAR)))
  (gg_MOST : PySem.W.nsIn K mainGlobals "MOST" = some (some (.int 12 uu_MOST)))
  (gg_ROW : PySem.W.nsIn K mainGlobals "ROW" = some (some (.str "row" uu_ROW)))
  (gg_SLANT : PySem.W.nsIn K mainGlobals "SLANT" = some (some (.str "slant" uu_SLANT))) :
  ∃ fd : FuncData, (∀ (s : Shared) (v : Value), BindsTo s fd ⟨[v], []⟩ [("script", v)]) ∧ ∀ base : Heap, K.In base → base.Ns mainGlobals mg → FnOk l.prog w K mg base L2.CX0 13 fa fd ["script"] (spLawS K) := by
  have e := hfa.symm.trans (PySem.W.mg_of X G e43)
  cases e
  have T : Tx K mg := {
    n_abs := PySem.W.mg_none_of X G zz_abs,
    n_all := PySem.W.mg_none_of X G zz_all,
    n_any := PySem.W.mg_none_of X G zz_any,
    n_bool := PySem.W.mg_none_of X G zz_bool,
    n_enumerate := PySem.W.mg_none_of X G zz_enumerate,
    n_int := PySem.W.mg_none_of X G zz_int,
    n_isinstance := PySem.W.mg_none_of X G zz_isinstance,
    n_len := PySem.W.mg_none_of X G zz_len,
    n_list := PySem.W.mg_none_of X G zz_list,
    n_max := PySem.W.mg_none_of X G zz_max,
    n_min := PySem.W.mg_none_of X G zz_min,
    n_range := PySem.W.mg_none_of X G zz_range,
    n_set := PySem.W.mg_none_of X G zz_set,
    n_str := PySem.W.mg_none_of X G zz_str,
    n_sum := PySem.W.mg_none_of X G zz_sum,
    n_tuple := PySem.W.mg_none_of X G zz_tuple,
    n_zip := PySem.W.mg_none_of X G zz_zip,
    h_COLUMN := ⟨_, PySem.W.mg_of X G gg_COLUMN, ⟨_, rfl⟩⟩,
    h_FAR := ⟨_, PySem.W.mg_of X G gg_FAR, ⟨_, rfl⟩⟩,
    h_MOST := ⟨_, PySem.W.mg_of X G gg_MOST, ⟨_, rfl⟩⟩,
    h_ROW := ⟨_, PySem.W.mg_of X G gg_ROW, ⟨_, rfl⟩⟩,
    h_SLANT := ⟨_, PySem.W.mg_of X G gg_SLANT, ⟨_, rfl⟩⟩,
    d_is_integer := df_mk X G e0 l0 c0 k0 fun _ _ _ _ _ _ us hl => match us, hl with | [_], _ => rfl,
    d_is_whole := df_mk X G e1 l1 c1 k1 fun _ _ _ _ _ _ us hl => match us, hl with | [_, _, _], _ => rfl,
    d_need_whole := df_mk X G e2 l2 c2 k2 fun _ _ _ _ _ _ us hl => match us, hl with | [_, _, _], _ => rfl,
    d_is_tuple_of := df_mk X G e3 l3 c3 k3 fun _ _ _ _ _ _ us hl => match us, hl with | [_, _, _], _ => rfl,
    d_is_line_of := df_mk X G e4 l4 c4 k4 fun _ _ _ _ _ _ us hl => match us, hl with | [_, _], _ => rfl,
    d_fits_table := df_mk X G e5 l5 c5 k5 fun _ _ _ _ _ _ us hl => match us, hl with | [_], _ => rfl,
    d_need_table := df_mk X G e6 l6 c6 k6 fun _ _ _ _ _ _ us hl => match us, hl with | [_], _ => rfl,
    d_columns_in := df_mk X G e7 l7 c7 k7 fun _ _ _ _ _ _ us hl => match us, hl with | [_], _ => rfl,
    d_slants_in := df_mk X G e8 l8 c8 k8 fun _ _ _ _ _ _ us hl => match us, hl with | [_], _ => rfl,
    d_sums_in := df_mk X G e9 l9 c9 k9 fun _ _ _ _ _ _ us hl => match us, hl with | [_], _ => rfl,
    d_is_even_in := df_mk X G e10 l10 c10 k10 fun _ _ _ _ _ _ us hl => match us, hl with | [_], _ => rfl,
    d_is_magic_in := df_mk X G e11 l11 c11 k11 fun _ _ _ _ _ _ us hl => match us, hl with | [_], _ => rfl,
    d_let_table := df_mk X G e12 l12 c12 k12 fun _ _ _ _ _ _ us hl => match us, hl with | [_], _ => rfl,
    d_is_magic := df_mk X G e13 l13 c13 k13 fun _ _ _ _ _ _ us hl => match us, hl with | [_], _ => rfl,
    d_magic_sum := df_mk X G e14 l14 c14 k14 fun _ _ _ _ _ _ us hl => match us, hl with | [_], _ => rfl,
    d_times_table := df_mk X G e15 l15 c15 k15 fun _ _ _ _ _ _ us hl => match us, hl with | [_, _], _ => rfl,
    d_need_times := df_mk X G e16 l16 c16 k16 fun _ _ _ _ _ _ us hl => match us, hl with | [_], _ => rfl,
    d_multiplied := df_mk X G e17 l17 c17 k17 fun _ _ _ _ _ _ us hl => match us, hl with | [_], _ => rfl,
    d_products_in := df_mk X G e18 l18 c18 k18 fun _ _ _ _ _ _ us hl => match us, hl with | [_], _ => rfl,
    d_is_even_times := df_mk X G e19 l19 c19 k19 fun _ _ _ _ _ _ us hl => match us, hl with | [_], _ => rfl,
    d_is_times_in := df_mk X G e20 l20 c20 k20 fun _ _ _ _ _ _ us hl => match us, hl with | [_], _ => rfl,
    d_named_products := df_mk X G e21 l21 c21 k21 fun _ _ _ _ _ _ us hl => match us, hl with | [_], _ => rfl,
    d_break_by_products := df_mk X G e22 l22 c22 k22 fun _ _ _ _ _ _ us hl => match us, hl with | [_], _ => rfl,
    d_is_times_magic := df_mk X G e23 l23 c23 k23 fun _ _ _ _ _ _ us hl => match us, hl with | [_], _ => rfl,
    d_is_both_ways := df_mk X G e24 l24 c24 k24 fun _ _ _ _ _ _ us hl => match us, hl with | [_], _ => rfl,
    d_times_product := df_mk X G e25 l25 c25 k25 fun _ _ _ _ _ _ us hl => match us, hl with | [_], _ => rfl,
    d_times_break := df_mk X G e26 l26 c26 k26 fun _ _ _ _ _ _ us hl => match us, hl with | [_], _ => rfl,
    d_place_by_place := df_mk X G e27 l27 c27 k27 fun _ _ _ _ _ _ us hl => match us, hl with | [_, _], _ => rfl,
    d_multiplied_tables := df_mk X G e28 l28 c28 k28 fun _ _ _ _ _ _ us hl => match us, hl with | [_, _], _ => rfl,
    d__law_cup := df_mk X G e29 l29 c29 k29 fun _ _ _ _ _ _ us hl => match us, hl with | [_], _ => rfl,
    d__law_roll := df_mk X G e30 l30 c30 k30 fun _ _ _ _ _ _ us hl => match us, hl with | [_, _], _ => rfl,
    d__law_sort := df_mk X G e31 l31 c31 k31 fun _ _ _ _ _ _ us hl => match us, hl with | [_], _ => rfl,
    d__law_like := df_mk X G e32 l32 c32 k32 fun _ _ _ _ _ _ us hl => match us, hl with | [_, _], _ => rfl,
    d__law_three := df_mk X G e33 l33 c33 k33 fun _ _ _ _ _ _ us hl => match us, hl with | [_, _, _], _ => rfl,
    d__law_sums := df_mk X G e34 l34 c34 k34 fun _ _ _ _ _ _ us hl => match us, hl with | [_], _ => rfl,
    d__law_is_magic := df_mk X G e35 l35 c35 k35 fun _ _ _ _ _ _ us hl => match us, hl with | [_], _ => rfl,
    d__law_products := df_mk X G e36 l36 c36 k36 fun _ _ _ _ _ _ us hl => match us, hl with | [_], _ => rfl,
    d__law_alike := df_mk X G e37 l37 c37 k37 fun _ _ _ _ _ _ us hl => match us, hl with | [_], _ => rfl,
    d__law_three_right := df_mk X G e38 l38 c38 k38 fun _ _ _ _ _ _ us hl => match us, hl with | [_], _ => rfl,
    d__law_powers_right := df_mk X G e39 l39 c39 k39 fun _ _ _ _ _ _ us hl => match us, hl with | [_], _ => rfl,
    d__law_times_right := df_mk X G e40 l40 c40 k40 fun _ _ _ _ _ _ us hl => match us, hl with | [_], _ => rfl,
    d__law_eight := df_mk X G e41 l41 c41 k41 fun _ _ _ _ _ _ us hl => match us, hl with | [], _ => rfl,
    d__law_written_right := df_mk X G e42 l42 c42 k42 fun _ _ _ _ _ _ us hl => match us, hl with | [], _ => rfl,
    d_law := df_mk X G e43 l43 c43 k43 fun _ _ _ _ _ _ us hl => match us, hl with | [_], _ => rfl }
  exact ⟨PySem.W.fnOf "law" "law" (defArgs (top 56)) (defBody (top 56)) (defScope (top 56)) .none kV43 dc43 pm43 an43 cd43 ct43, fun s v => .of_eq rfl, fun base _ _ => ok_lawT T (fun_mk (st := top 56) l43 c43 k43) law_holds⟩
theorem walk {l : PySem.W.OpenLaw} {q : Program} {loose : List Str} {XP : (Str → Option Value) → Heap → Prop} {YP : World → Heap → Prop} {d : DefRec} {K : Params → PySem.W.Frag} (hn : l.most = some 63) (hdf : d.params.defaults = [])
    (hY : ∀ (w : World) (h : Heap), YP w h → (K w.params).In h)
    (F : ∀ (w : World) (mg : Str → Option Value) (fa : Addr) (h : Heap), (K w.params).In h → h.Ns mainGlobals mg → mg d.name = some (.ref fa) →
      ∃ fd : FuncData, (∀ (s : Shared) (u : Value), BindsTo s fd ⟨[u], []⟩ [("script", u)]) ∧ ∀ base : Heap, (K w.params).In base → base.Ns mainGlobals mg → FnOk l.prog w (K w.params) mg base L2.CX0 13 fa fd ["script"] (spLawS (K w.params))) :
    PySem.W.WalkO q loose XP YP l.row.toRowW d [] (fun f vs => PySem.call f vs) :=
  L2.walk_of (n := 63) (k := 13) (x := "script") (CX := fun _ => L2.CX0) (sp := fun w => spLawS (K w.params)) hn (by decide) hdf ⟨rfl, by decide, by decide⟩ hY F (fun _ _ a ns hl _ hS => ⟨a, ns, rfl, hS, hl, fun _ => rfl⟩) fun _ _ _ _ _ z => z

end PV.L67
open PySem PySem.W PyProof.Rows in
set_option maxRecDepth 100000 in
set_option maxHeartbeats 0 in
theorem PySem.Challenge.cw_magictables_k67_whole_tables_magic_both_holds : PySem.Challenge.rw_magictables_k67_whole_tables_magic_both.Holds := by
  w_on; o_law; k_head; (case hw => w_witness2)
  k_fill
  refine PV.L67.walk (l := PySem.Challenge.rw_magictables_k67_whole_tables_magic_both) rfl rfl (fun w h Y => PySem.W.kIn_of Y) ?F
  case F =>
    intro w mg fa h KX G hmg
    refine' PV.L67.all_mk KX G hmg ?e0 ?l0 ?c0 ?k0 ?e1 ?l1 ?c1 ?k1 ?e2 ?l2 ?c2 ?k2 ?e3 ?l3 ?c3 ?k3 ?e4 ?l4 ?c4 ?k4 ?e5 ?l5 ?c5 ?k5 ?e6 ?l6 ?c6 ?k6 ?e7 ?l7 ?c7 ?k7 ?e8 ?l8 ?c8 ?k8 ?e9 ?l9 ?c9 ?k9 ?e10 ?l10 ?c10 ?k10 ?e11 ?l11 ?c11 ?k11 ?e12 ?l12 ?c12 ?k12 ?e13 ?l13 ?c13 ?k13 ?e14 ?l14 ?c14 ?k14 ?e15 ?l15 ?c15 ?k15 ?e16 ?l16 ?c16 ?k16 ?e17 ?l17 ?c17 ?k17 ?e18 ?l18 ?c18 ?k18 ?e19 ?l19 ?c19 ?k19 ?e20 ?l20 ?c20 ?k20 ?e21 ?l21 ?c21 ?k21 ?e22 ?l22 ?c22 ?k22 ?e23 ?l23 ?c23 ?k23 ?e24 ?l24 ?c24 ?k24 ?e25 ?l25 ?c25 ?k25 ?e26 ?l26 ?c26 ?k26 ?e27 ?l27 ?c27 ?k27 ?e28 ?l28 ?c28 ?k28 ?e29 ?l29 ?c29 ?k29 ?e30 ?l30 ?c30 ?k30 ?e31 ?l31 ?c31 ?k31 ?e32 ?l32 ?c32 ?k32 ?e33 ?l33 ?c33 ?k33 ?e34 ?l34 ?c34 ?k34 ?e35 ?l35 ?c35 ?k35 ?e36 ?l36 ?c36 ?k36 ?e37 ?l37 ?c37 ?k37 ?e38 ?l38 ?c38 ?k38 ?e39 ?l39 ?c39 ?k39 ?e40 ?l40 ?c40 ?k40 ?e41 ?l41 ?c41 ?k41 ?e42 ?l42 ?c42 ?k42 ?e43 ?l43 ?c43 ?k43 ?zz_abs ?zz_all ?zz_any ?zz_bool ?zz_enumerate ?zz_int ?zz_isinstance ?zz_len ?zz_list ?zz_max ?zz_min ?zz_range ?zz_set ?zz_str ?zz_sum ?zz_tuple ?zz_zip ?gg_COLUMN ?gg_FAR ?gg_MOST ?gg_ROW ?gg_SLANT
    (case e0 => k_is)
    (case l0 => k_is)
    (case c0 => k_is)
    (case k0 => k_is)
    (case e1 => k_is)
    (case l1 => k_is)
    (case c1 => k_is)
    (case k1 => k_is)
    (case e2 => k_is)
    (case l2 => k_is)
    (case c2 => k_is)
    (case k2 => k_is)
    (case e3 => k_is)
    (case l3 => k_is)
    (case c3 => k_is)
    (case k3 => k_is)
    (case e4 => k_is)
    (case l4 => k_is)
    (case c4 => k_is)
    (case k4 => k_is)
    (case e5 => k_is)
    (case l5 => k_is)
    (case c5 => k_is)
    (case k5 => k_is)
    (case e6 => k_is)
    (case l6 => k_is)
    (case c6 => k_is)
    (case k6 => k_is)
    (case e7 => k_is)
    (case l7 => k_is)
    (case c7 => k_is)
    (case k7 => k_is)
    (case e8 => k_is)
    (case l8 => k_is)
    (case c8 => k_is)
    (case k8 => k_is)
    (case e9 => k_is)
    (case l9 => k_is)
    (case c9 => k_is)
    (case k9 => k_is)
    (case e10 => k_is)
    (case l10 => k_is)
    (case c10 => k_is)
    (case k10 => k_is)
    (case e11 => k_is)
    (case l11 => k_is)
    (case c11 => k_is)
    (case k11 => k_is)
    (case e12 => k_is)
    (case l12 => k_is)
    (case c12 => k_is)
    (case k12 => k_is)
    (case e13 => k_is)
    (case l13 => k_is)
    (case c13 => k_is)
    (case k13 => k_is)
    (case e14 => k_is)
    (case l14 => k_is)
    (case c14 => k_is)
    (case k14 => k_is)
    (case e15 => k_is)
    (case l15 => k_is)
    (case c15 => k_is)
    (case k15 => k_is)
    (case e16 => k_is)
    (case l16 => k_is)
    (case c16 => k_is)
    (case k16 => k_is)
    (case e17 => k_is)
    (case l17 => k_is)
    (case c17 => k_is)
    (case k17 => k_is)
    (case e18 => k_is)
    (case l18 => k_is)
    (case c18 => k_is)
    (case k18 => k_is)
    (case e19 => k_is)
    (case l19 => k_is)
    (case c19 => k_is)
    (case k19 => k_is)
    (case e20 => k_is)
    (case l20 => k_is)
    (case c20 => k_is)
    (case k20 => k_is)
    (case e21 => k_is)
    (case l21 => k_is)
    (case c21 => k_is)
    (case k21 => k_is)
    (case e22 => k_is)
    (case l22 => k_is)
    (case c22 => k_is)
    (case k22 => k_is)
    (case e23 => k_is)
    (case l23 => k_is)
    (case c23 => k_is)
    (case k23 => k_is)
    (case e24 => k_is)
    (case l24 => k_is)
    (case c24 => k_is)
    (case k24 => k_is)
    (case e25 => k_is)
    (case l25 => k_is)
    (case c25 => k_is)
    (case k25 => k_is)
    (case e26 => k_is)
    (case l26 => k_is)
    (case c26 => k_is)
    (case k26 => k_is)
    (case e27 => k_is)
    (case l27 => k_is)
    (case c27 => k_is)
    (case k27 => k_is)
    (case e28 => k_is)
    (case l28 => k_is)
    (case c28 => k_is)
    (case k28 => k_is)
    (case e29 => k_is)
    (case l29 => k_is)
    (case c29 => k_is)
    (case k29 => k_is)
    (case e30 => k_is)
    (case l30 => k_is)
    (case c30 => k_is)
    (case k30 => k_is)
    (case e31 => k_is)
    (case l31 => k_is)
    (case c31 => k_is)
    (case k31 => k_is)
    (case e32 => k_is)
    (case l32 => k_is)
    (case c32 => k_is)
    (case k32 => k_is)
    (case e33 => k_is)
    (case l33 => k_is)
    (case c33 => k_is)
    (case k33 => k_is)
    (case e34 => k_is)
    (case l34 => k_is)
    (case c34 => k_is)
    (case k34 => k_is)
    (case e35 => k_is)
    (case l35 => k_is)
    (case c35 => k_is)
    (case k35 => k_is)
    (case e36 => k_is)
    (case l36 => k_is)
    (case c36 => k_is)
    (case k36 => k_is)
    (case e37 => k_is)
    (case l37 => k_is)
    (case c37 => k_is)
    (case k37 => k_is)
    (case e38 => k_is)
    (case l38 => k_is)
    (case c38 => k_is)
    (case k38 => k_is)
    (case e39 => k_is)
    (case l39 => k_is)
    (case c39 => k_is)
    (case k39 => k_is)
    (case e40 => k_is)
    (case l40 => k_is)
    (case c40 => k_is)
    (case k40 => k_is)
    (case e41 => k_is)
    (case l41 => k_is)
    (case c41 => k_is)
    (case k41 => k_is)
    (case e42 => k_is)
    (case l42 => k_is)
    (case c42 => k_is)
    (case k42 => k_is)
    (case e43 => k_is)
    (case l43 => k_is)
    (case c43 => k_is)
    (case k43 => k_is)
    (case zz_abs => k_is)
    (case zz_all => k_is)
    (case zz_any => k_is)
    (case zz_bool => k_is)
    (case zz_enumerate => k_is)
    (case zz_int => k_is)
    (case zz_isinstance => k_is)
    (case zz_len => k_is)
    (case zz_list => k_is)
    (case zz_max => k_is)
    (case zz_min => k_is)
    (case zz_range => k_is)
    (case zz_set => k_is)
    (case zz_str => k_is)
    (case zz_sum => k_is)
    (case zz_tuple => k_is)
    (case zz_zip => k_is)
    (case gg_COLUMN => k_is)
    (case gg_FAR => k_is)
    (case gg_MOST => k_is)
    (case gg_ROW => k_is)
    (case gg_SLANT => k_is)
